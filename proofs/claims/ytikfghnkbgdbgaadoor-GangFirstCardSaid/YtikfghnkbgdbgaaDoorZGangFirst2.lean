/- A part of the proof of the statement GangFirst: For any book and any number the statement GangFirst holds: a mile can surely be mended by some plan just if it is the most where no other one may be closed, and the first that cannot is told. -/
import Derived.Test.YtikfghnkbgdbgaaDoorZGangFirst1
import Derived.ChangeKeysEq
import Derived.RangeFuncCalls
import Derived.RangeFuncLeaves
import Derived.OwnWalkIn
import Derived.TacticsInMore
import Derived.LoopNIn
import Derived.LoopIn
import Derived.OrdersIn
import Derived.WalkMore
import Derived.Laws.EntriesVeiled
import Derived.Laws.Cover3
set_option linter.unusedSimpArgs false
set_option linter.unusedVariables false
section
namespace Go.Proofs.YtikfghnkbgdbgaaDoor.Q
set_option linter.unusedSimpArgs false
set_option linter.unusedVariables false
open Go.RowKit Go.Proofs.YtikfghnkbgdbgaaDoorW.PrintWords Go.Proofs.YtikfghnkbgdbgaaDoorW.PrintLast Go.Proofs.YtikfghnkbgdbgaaDoorW.PrintMore
theorem DoneIs.grown {w w' : World} {g : Nat} {d0 d1 d2 d3 : Int} (h : DoneIs w g d0 d1 d2 d3) {row : Option Nat} (hg : w.grownBy w' row) (hne : some g ≠ row) : DoneIs w' g d0 d1 d2 d3 := (hg.block _ (Array.getElem?_eq_some_iff.1 h).1 hne).trans h
theorem DoneIs.below {w w' : World} {g : Nat} {d0 d1 d2 d3 : Int} (h : DoneIs w g d0 d1 d2 d3) (hb : Below w.heap.size w w') : DoneIs w' g d0 d1 d2 d3 := (hb.block _ (Array.getElem?_eq_some_iff.1 h).1).trans h
theorem mile_need {ms : List M} {gs : List G} {n : Int} (h : okB ms gs n = true) (i : Int) (h0 : 0 ≤ i) (h1 : i < ms.length) : 1 ≤ (rd_T66 ms i).f0.f1 ∧ (rd_T66 ms i).f0.f1 ≤ 6 := by
  simp only [okB, Bool.and_eq_true] at h
  have hg := h.1.2
  obtain ⟨j, rfl⟩ := Int.eq_ofNat_of_zero_le h0
  have hj : j < ms.length := by omega
  have hx : rd_T66 ms j = ms[j] := by simp [rd_T66, List.getD_eq_getElem?_getD, List.getElem?_eq_getElem hj]
  have := List.all_eq_true.1 hg ms[j] (List.getElem_mem hj)
  rw [hx]
  simp only [spanB, Bool.and_eq_true, decide_eq_true_eq] at this
  omega
theorem mended_none {ms : List M} {gs : List G} {n : Int} {p : List Wk} (h : okB ms gs n = true) (h0 : doneAt gs false 0 p = 0) (h1 : doneAt gs false 1 p = 0) (h2 : doneAt gs false 2 p = 0) (h3 : doneAt gs false 3 p = 0) : mendedL ms gs p = [] := by
  have hm4 := (okB_bounds h).1.2
  unfold mendedL
  rw [List.filter_eq_nil_iff]
  intro i hi
  simp only [upTo, List.mem_map, List.mem_range] at hi
  obtain ⟨j, hj, rfl⟩ := hi
  have hj' : j < ms.length := by simpa using hj
  have := mile_need h (j : Int) (by omega) (by omega)
  obtain rfl | rfl | rfl | rfl : j = 0 ∨ j = 1 ∨ j = 2 ∨ j = 3 := by omega
  all_goals simp at *
  all_goals omega
set_option maxRecDepth 100000 in
theorem equal4_run (x0 x1 x2 x3 y0 y1 y2 y3 : Int) (w : World) :
    (Op.equalIn 10000 97 (.agg #[.int .i64 x0, .int .i64 x1, .int .i64 x2, .int .i64 x3]) (.agg #[.int .i64 y0, .int .i64 y1, .int .i64 y2, .int .i64 y3])).run Tryd.prog w = .ok (x0 == y0 && (x1 == y1 && (x2 == y2 && x3 == y3))) w := by
  have hu : Tryd.prog.underlying 3 = some (.int .i64) := by kernel_rfl
  have hp : Tryd.prog.plainKey 3 = true := by kernel_rfl
  obtain ⟨i, hi⟩ : ∃ i, Tryd.prog.info? 3 = some i := Option.isSome_iff_exists.1 (by kernel_rfl)
  have hc : Tryd.prog.cellsOf 3 = 1 := by kernel_rfl
  have pt : ∀ (xs : Array Value) (off : Nat) (v : Value), xs[off]? = some v → (part 3 xs off).run Tryd.prog w = .ok v w := fun xs off v h => run_part_plain w hp h
  have ei : ∀ x y : Int, (Op.equalIn 9999 3 (.int .i64 x) (.int .i64 y)).run Tryd.prog w = .ok (x == y) w := fun x y => run_equalIn_int w 9998 3 .i64 .i64 x y hu
  rw [run_equalIn_array w 9999 (e := 3) (n := 4) _ _ (by kernel_rfl) hi, hc]
  simp only [show List.range 4 = [0, 1, 2, 3] from rfl, Op.eqItems, Sem.run_bind, Nat.mul_one]
  rw [pt _ 0 (.int .i64 x0) rfl]
  simp only [Result.andThen_ok]
  rw [pt _ 0 (.int .i64 y0) rfl]
  simp only [Result.andThen_ok]
  rw [ei]
  simp only [Result.andThen_ok]
  cases x0 == y0
  · rfl
  · simp only [Bool.not_true, Bool.false_eq_true, if_false, Sem.run_bind, Bool.true_and]
    rw [pt _ 1 (.int .i64 x1) rfl]
    simp only [Result.andThen_ok]
    rw [pt _ 1 (.int .i64 y1) rfl]
    simp only [Result.andThen_ok]
    rw [ei]
    simp only [Result.andThen_ok]
    cases x1 == y1
    · rfl
    · simp only [Bool.not_true, Bool.false_eq_true, if_false, Sem.run_bind, Bool.true_and]
      rw [pt _ 2 (.int .i64 x2) rfl]
      simp only [Result.andThen_ok]
      rw [pt _ 2 (.int .i64 y2) rfl]
      simp only [Result.andThen_ok]
      rw [ei]
      simp only [Result.andThen_ok]
      cases x2 == y2
      · rfl
      · simp only [Bool.not_true, Bool.false_eq_true, if_false, Sem.run_bind, Bool.true_and]
        rw [pt _ 3 (.int .i64 x3) rfl]
        simp only [Result.andThen_ok]
        rw [pt _ 3 (.int .i64 y3) rfl]
        simp only [Result.andThen_ok]
        rw [ei]
        simp only [Result.andThen_ok]
        cases x3 == y3 <;> rfl
def X_mended : Nat := 0
def X_mended.T2 : Bool × List (List Nat × List Nat) := (true, [([], []), ([], []), ([0, 1], [0, 1])])
def X_mended.B2 : List Nat := [0, 0, 3]
theorem X_mended.tab2 : rtab .any (opsOf Tryd.f77 2) = X_mended.T2 := by kernel_rfl
theorem X_mended.bits2 : waitsOk X_mended.T2.2 X_mended.B2 = true := by kernel_rfl
def X_mended.T8 : Bool × List (List Nat × List Nat) := (true, [([], []), ([0], [0]), ([1], [1]), ([], []), ([3], [3]), ([4], [4]), ([2, 5], [2, 5])])
def X_mended.B8 : List Nat := [0, 1, 3, 0, 8, 24, 63]
theorem X_mended.tab8 : rtab .any (opsOf Tryd.f77 8) = X_mended.T8 := by kernel_rfl
theorem X_mended.bits8 : waitsOk X_mended.T8.2 X_mended.B8 = true := by kernel_rfl
set_option maxRecDepth 100000 in
set_option maxHeartbeats 4000000 in
theorem mended_calls (ms : List M) (gs : List G) (A0 : Option Addr) (c0 : Nat) (A1 : Option Addr) (c1 : Nat) (n : Int) (b : Nat) (A2 : Option Addr) (c2 : Nat) (p : List Wk) (w : World) (hr0 : Kd.C k66 w A0 ms.length ms) (hr1 : Kd.C k63 w A1 gs.length gs) (hr2 : Kd.C k59 w A2 p.length p) (hG : GV w) (hok : okB ms gs n = true) (hf : Fair ms gs n p) :
    Calls Tryd.prog 77 #[.agg #[.slice A0 ms.length c0, .slice A1 gs.length c1, .int .i64 n, .map (some b)], .slice A2 p.length c2] w fun e w' =>
      ∃ v, e = .returned v ∧ Kd.R (Kd.int .i64) 3 w' w.heap.size (fun _ => True) v (mendedL ms gs p) ∧ Below w.heap.size w w' := by
  have HR0 := Aside0.mk hr0
  have HR1 := Aside0.mk hr1
  have HR2 := Aside0.mk hr2
  have HG := Aside0.mk hG
  have HO := Aside0.mk hok
  have HF := Aside0.mk hf
  have hbd := okB_bounds hok
  have hm4 := hbd.1.2
  clear hr0 hr1 hr2 hG hok hf hbd
  have HB := Aside0.mk (((Below.refl w.heap.size w).alloc (Nat.le_refl _) (.cells #[.slice A0 ms.length c0, .slice A1 gs.length c1, .int .i64 n, .map (some b)] 86)))
  have HX := Aside0.mk (BoxAt.mk (World.alloc_heap_new w (.cells #[.slice A0 ms.length c0, .slice A1 gs.length c1, .int .i64 n, .map (some b)] 86)) HB.out)
  go_enter Tryd.func77, Tryd.ntmps77
  go_wp2_with (fail)
  refine (works_calls ms gs A0 c0 A1 c1 n b A2 c2 p _ (Kd.C_below HR1.out HB.out) (Kd.C_below HR2.out HB.out) (gv_below HG.out HB.out) HO.out HF.out 0 false rfl).mono ?_
  rintro e w1 ⟨rfl, hb⟩
  have HX1 := Aside0.mk (HX.out.step hb)
  have hsz := hb.size
  rw [World.size_alloc] at hsz
  have hsz' : w.heap.size < w1.heap.size := hsz
  clear hb HX HB hsz
  have HX2 := Aside0.mk (HX1.out.step ((Below.refl _ w1).alloc (Nat.le_refl _) (.cells #[.int .i64 (doneAt gs false 0 p), .int .i64 (doneAt gs false 1 p), .int .i64 (doneAt gs false 2 p), .int .i64 (doneAt gs false 3 p)] 97)))
  have HD2 := Aside0.mk (show DoneIs _ _ _ _ _ _ from World.alloc_heap_new w1 (.cells #[.int .i64 (doneAt gs false 0 p), .int .i64 (doneAt gs false 1 p), .int .i64 (doneAt gs false 2 p), .int .i64 (doneAt gs false 3 p)] 97))
  go_wp2_with (fail)
  replace HX2 := Aside0.mk (HX2.out.step (Below.refl _ _).drew)
  replace HD2 := Aside0.mk (HD2.out.below (Below.refl _ _).drew)
  obtain ⟨r, hr⟩ : ∃ r : Bool, (doneAt gs false 0 p == 0 && (doneAt gs false 1 p == 0 && (doneAt gs false 2 p == 0 && doneAt gs false 3 p == 0))) = r := ⟨_, rfl⟩
  have HE := Aside0.mk hr
  have heq := equal4_run (doneAt gs false 0 p) (doneAt gs false 1 p) (doneAt gs false 2 p) (doneAt gs false 3 p) 0 0 0 0
  rw [hr] at heq
  clear hr
  refine start_ (n := 3) (S := fun w' => w'.cell? ⟨w1.heap.size, 0, none⟩ = some (.int .i64 (doneAt gs false 0 p)) ∧ w'.cell? ⟨w1.heap.size, 1, none⟩ = some (.int .i64 (doneAt gs false 1 p)) ∧ w'.cell? ⟨w1.heap.size, 2, none⟩ = some (.int .i64 (doneAt gs false 2 p)) ∧ w'.cell? ⟨w1.heap.size, 3, none⟩ = some (.int .i64 (doneAt gs false 3 p))) (ds := []) (bs 3 0) (by kernel_rfl) rfl rfl ⟨(blk_cell HD2.out 0).trans rfl, (blk_cell HD2.out 1).trans rfl, (blk_cell HD2.out 2).trans rfl, (blk_cell HD2.out 3).trans rfl⟩ (fun hHeld => ?_)
  refine with_tabW X_mended.tab2 X_mended.bits2 (fun HT_ HW_ => ?_)
  generalize World.drew _ = w3 at HX2 HD2 hHeld ⊢
  refine tk4 HT_ HW_ hHeld 0 (some 12) (bs 3 1) ?_
  refine on HT_ 1 (some 13) (bs 3 3) (fun K hK => ?_)
  refine goes_ Tryd.func94 (by kernel_rfl) rfl #[] (by rfl) rfl rfl (by simp) ?_
  with_reducible refine (undone_calls _).mono ?_
  rintro e w4 ⟨rfl, hb⟩
  refine ⟨_, rfl, ?_⟩
  replace HX2 := Aside0.mk (HX2.out.step hb)
  replace HD2 := Aside0.mk (HD2.out.below hb)
  clear hb
  refine hK.out _ _ ⟨(blk_cell HD2.out 0).trans rfl, (blk_cell HD2.out 1).trans rfl, (blk_cell HD2.out 2).trans rfl, (blk_cell HD2.out 3).trans rfl⟩ (fun hHeld => ?_)
  clear hK K
  refine nm 13 ?_
  refine pu HT_ 2 (some 14) (bs 3 7) ?_
  refine done_ (done_of HT_.out (by kernel_rfl)) ?_
  clear heq hHeld
  cases r with
  | true =>
    have hz := HE.out
    simp only [Bool.and_eq_true, beq_iff_eq] at hz
    have HN := Aside0.mk (mended_none HO.out hz.1 hz.2.1 hz.2.2.1 hz.2.2.2)
    clear hz
    go_wp2
    go_ret
    exact ⟨_, by rfl, by rw [HN.out]; exact Kd.R_nil _ _ _ _ _, HX2.out.bel⟩
  | false =>
    have hx0 := (blk_cell HX2.out.box 0).trans rfl
    go_wp2_with (fail)
    clear hx0
    go_loopw [6, 19] (fun v6 v19 wr => ∃ k : Nat, k ≤ ms.length ∧ v19 = .int .i64 k ∧ Aside0 (Kd.R (Kd.int .i64) 3 wr w.heap.size (fun _ => True) v6 ((upTo k).filter (fun i => decide (doneAt gs false i p ≥ (rd_T66 ms i).f0.f1)))) ∧
      Aside0 (DoneIs wr w1.heap.size (doneAt gs false 0 p) (doneAt gs false 1 p) (doneAt gs false 2 p) (doneAt gs false 3 p)) ∧ Aside0 (BoxAt w wr A0 ms.length c0 A1 gs.length c1 n b w.heap.size)) (fun _ v19 _ => ms.length - (intOf v19).toNat)
    case atStart => exact ⟨0, Nat.zero_le _, rfl, ⟨Kd.R_nil _ _ _ _ _⟩, HD2, HX2⟩
    case round =>
      obtain ⟨k, hk, rfl, HR, HD, HX⟩ := hrel
      by_cases hlt : k < ms.length
      · obtain ⟨am, hA, hx0, hx1, hx2⟩ := at_T66 (Kd.C_below HR0.out HX.out.bel) (k : Int) (by omega) (by omega)
        rw [Int.toNat_natCast] at hx0 hx1 hx2
        subst hA
        go_wp2_with (fail)
        clear hx0 hx1 hx2
        have bl := ((Below.refl wr.heap.size wr).alloc (Nat.le_refl _) (.cells #[.int .i64 (rd_T66 ms k).f0.f0, .int .i64 (rd_T66 ms k).f0.f1, .int .i64 (rd_T66 ms k).f1] 66)).drew
        have HC := Aside0.mk (show (wr.alloc (.cells #[.int .i64 (rd_T66 ms k).f0.f0, .int .i64 (rd_T66 ms k).f0.f1, .int .i64 (rd_T66 ms k).f1] 66)).drew.heap[wr.heap.size]? = _ from World.alloc_heap_new _ _)
        have HXX := Aside0.mk (HX.out.step bl)
        have HDD := Aside0.mk (HD.out.below bl)
        have HRR := Aside0.mk (Kd.R_below HR.out bl)
        have hd := (HDD.out.cell (k : Int) (by omega) (by omega)).1
        rw [pick_done _ _ _ _ (by omega) (by omega), Int.toNat_natCast] at hd
        have HDC := Aside0.mk hd
        clear bl hd
        have hk4 : (k : Int) < 4 := by omega
        refine start_ (n := 7) (S := fun w' => w'.cell? ⟨w1.heap.size, k, none⟩ = some (.int .i64 (doneAt gs false k p)) ∧ w'.cell? ⟨wr.heap.size, 1, none⟩ = some (.int .i64 (rd_T66 ms k).f0.f1)) (ds := []) (bs 7 0) (by kernel_rfl) rfl rfl ⟨HDC.out, (blk_cell HC.out 1).trans rfl⟩ (fun hHeld => ?_)
        refine with_tabW X_mended.tab8 X_mended.bits8 (fun HT_ HW_ => ?_)
        generalize World.drew _ = w5 at HC HXX HDD HRR HDC hHeld ⊢
        refine pu HT_ 0 (some 24) (bs 7 1) ?_
        refine pu HT_ 1 (some 25) (bs 7 3) ?_
        refine pu HT_ 3 (some 27) (bs 7 11) ?_
        refine pu HT_ 4 (some 28) (bs 7 27) ?_
        refine tk2 HT_ HW_ hHeld 2 (some 26) (bs 7 31) ?_
        refine tk2 HT_ HW_ hHeld 5 (some 29) (bs 7 63) ?_
        refine pu HT_ 6 (some 30) (bs 7 127) ?_
        refine done_ (done_of HT_.out (by kernel_rfl)) ?_
        clear hHeld
        have HS := Aside0.mk (filter_snoc (fun i => decide (doneAt gs false i p ≥ (rd_T66 ms i).f0.f1)) k)
        have hlen := filter_len (fun i => decide (doneAt gs false i p ≥ (rd_T66 ms i).f0.f1)) k
        cases hc : decide (doneAt gs false k p ≥ (rd_T66 ms k).f0.f1) with
        | false =>
          have HCC := Aside0.mk hc
          have hc1 : decide ((rd_T66 ms k).f0.f1 ≤ doneAt gs false k p) = false := hc
          clear hc
          go_wp2
          go_roundw
          case rel => exact ⟨k + 1, by omega, by go_num, ⟨by rw [HS.out, if_neg (by rw [HCC.out]; simp), List.append_nil]; exact HRR.out⟩, HDD, HXX⟩
          case measure => simp [intOf]; omega
        | true =>
          have HCC := Aside0.mk hc
          have hc1 : decide ((rd_T66 ms k).f0.f1 ≤ doneAt gs false k p) = true := hc
          clear hc
          go_wp2_with (first | (at_builtin; refine Kd.R_append (Kd.int .i64) (w0 := w) w.heap.size rfl (.tmp 31) (.tmp 33) 28 3 (.int .i64 0) 8 rfl Tryd.underlying28 info3 rfl (by decide) (by omega) u6 ((upTo k).filter (fun i => decide (doneAt gs false i p ≥ (rd_T66 ms i).f0.f1))) (k : Int) [.int .i64 k] (fun _ => True) (fun _ => False) rfl rfl ?aP (fun _ hk => hk.elim) ?aF ?aO ?aB ?aS ?aL ?_))
          case aP => exact rfl
          case aF => exact fun _ _ => trivial
          case aO => exact HRR.out
          case aB => exact HXX.out.bel
          case aS => exact HXX.out.bel.size
          case aL => omega
          intro v1 w6 ho hb hg hat
          have HD6 := Aside0.mk (HDD.out.grown hg (Kd.R_ne HRR.out HDD.out (by decide)))
          have HX6 := Aside0.mk (HXX.out.grown hg (Kd.R_ne HRR.out HXX.out.box (by decide)) hb)
          have HR6 := Aside0.mk ho
          clear hlen hb hg hat ho
          go_wp2
          go_roundw
          case rel => exact ⟨k + 1, by omega, by go_num, ⟨by rw [HS.out, if_pos HCC.out]; exact HR6.out⟩, HD6, HX6⟩
          case measure => simp [intOf]; omega
      · obtain rfl : k = ms.length := by omega
        obtain ⟨A, c, hv⟩ := Kd.R_slice HR.out
        subst hv
        go_wp2
        go_ret
        exact ⟨_, by rfl, HR.out, HX.out.bel⟩
end Go.Proofs.YtikfghnkbgdbgaaDoor.Q
end
section
namespace Go.Proofs.YtikfghnkbgdbgaaDoor.L
open Go.RowKit Go.Proofs.YtikfghnkbgdbgaaDoorW.PrintWords Go.Proofs.YtikfghnkbgdbgaaDoorW.PrintLast Go.Proofs.YtikfghnkbgdbgaaDoorW.PrintMore
attribute [local go_sem] max2_int min2_int max_two min_two max_three min_three max_four min_four   -- for this text's walks alone
set_option linter.unusedVariables false
set_option linter.unusedSimpArgs false
def errW : Option Int → Value
 | none => .nilIface
 | some c => .iface 0 (.int .i64 c)
theorem errW_none : errW none = .nilIface := rfl
theorem errW_some (c : Int) : errW (some c) = .iface 0 (.int .i64 c) := rfl
end Go.Proofs.YtikfghnkbgdbgaaDoor.L
end
section
namespace Go.Proofs.YtikfghnkbgdbgaaDoor.L
open Go.RowKit Go.Proofs.YtikfghnkbgdbgaaDoorW.PrintWords Go.Proofs.YtikfghnkbgdbgaaDoorW.PrintLast Go.Proofs.YtikfghnkbgdbgaaDoorW.PrintMore
attribute [local go_sem] max2_int min2_int max_two min_two max_three min_three max_four min_four   -- for this text's walks alone
set_option linter.unusedVariables false
set_option linter.unusedSimpArgs false
def slices_Index_int_int.l0 : Nat → List Int → Int → Int → Int → Option (Int)
 | 0, _, _, _, _ => none
 | k + 1, x0, x1, x7, x8 => if x8 < x7 then (if 0 ≤ x8 then (if x8 < (x0.length : Int) then (if x1 = (rd x0 x8) then (some x8) else (slices_Index_int_int.l0 k x0 x1 x7 (wrap64 (x8 + 1)))) else (none)) else (none)) else (some (-1))
def slices_Index_int_int.f (k : Nat) (l0 : List Int) (a1 : Int) : Option (Int) := slices_Index_int_int.l0 k l0 a1 (l0.length : Int) 0
set_option maxHeartbeats 8000000 in
set_option maxRecDepth 100000 in
theorem slices_Index_int_int.calls (k : Nat) (A0 : Option Addr) (c0 : Nat) (l0 : List Int) (a1 : Int) (r : Int) (w : World) (hr0 : Kd.C (Kd.int .i64) w A0 l0.length l0) (hc0 : l0.length ≤ c0) (h : slices_Index_int_int.f k l0 a1 = some r) :
  Calls Tryd.prog 96 #[.slice A0 l0.length c0, .int .i64 a1] w fun e w' => e = .returned (.int .i64 r) ∧ Drawn0 w w' := by
 have HR0 := Aside0.mk hr0
 have HC0 := Aside0.mk hc0
 clear hr0 hc0
 have H : (slices_Index_int_int.l0 k l0 a1 (l0.length : Int) 0) = some r := h
 clear h
 have H' := Aside0.mk H
 clear H
 go_enter Tryd.func96, Tryd.ntmps96
 go_wp2
 go_loopg [8] k (fun kq v8 w' => ∃ (x8_1 : Int), v8 = .int .i64 x8_1 ∧ Aside0 (slices_Index_int_int.l0 kq l0 a1 (l0.length : Int) x8_1 = some r) ∧ Aside0 (kq ≤ k) ∧ Drawn0 w w')
 case atStart => exact ⟨(0), (by first | rfl | (simp; done) | (simp [*]; done)), H', ⟨Nat.le_refl _⟩, by repeat (first | exact Drawn0.refl _ | apply Drawn0.step)⟩
 case round =>
  clear H'
  try clear p2
  obtain ⟨x8_1, rfl, HA, HK1, ⟨m1, rfl⟩⟩ := hrel
  cases gk with
  | zero => exact absurd HA.out (by simp [slices_Index_int_int.l0])
  | succ k1 =>
   have H := HA.out
   clear HA
   simp only [slices_Index_int_int.l0] at H
   by_cases c3 : x8_1 < (l0.length : Int)
   ·rw [if_pos c3] at H
    have c3b0 : decide (x8_1 < (l0.length : Int)) = true := decide_eq_true c3
    clear c3
    by_cases c4 : 0 ≤ x8_1
    ·rw [if_pos c4] at H
     have c4b0 : decide (0 ≤ x8_1) = true := decide_eq_true c4
     clear c4
     by_cases c5 : x8_1 < (l0.length : Int)
     ·rw [if_pos c5] at H
      have c5b0 : decide (x8_1 < (l0.length : Int)) = true := decide_eq_true c5
      clear c5
      by_cases c6 : a1 = (rd l0 x8_1)
      ·rw [if_pos c6] at H
       have c6b0 : (a1 == (rd l0 x8_1)) = true := beq_iff_eq.mpr c6
       have c6b1 : (a1 != (rd l0 x8_1)) = false := bne_eq_false_iff_eq.mpr c6
       clear c6
       obtain rfl := Option.some.inj H
       have p101 : 0 ≤ (x8_1 : Int) := of_decide_eq_true (by first | (with_reducible assumption) | assumption)
       have q101 : x8_1 < (l0.length : Int) := of_decide_eq_true (by first | (with_reducible assumption) | assumption)
       obtain ⟨ad101, e101, hx101_0⟩ := Kd.at_int HR0.out x8_1 p101 q101
       cases e101
       replace p101 := eq_true p101
       replace q101 := eq_true q101
       go_wp2
       go_ret
       exact ⟨by first | rfl | (simp; done) | (simp [*]; done), by repeat (first | exact Drawn0.refl _ | apply Drawn0.step)⟩
      ·rw [if_neg c6] at H
       have c6b0 : (a1 == (rd l0 x8_1)) = false := beq_eq_false_iff_ne.mpr c6
       have c6b1 : (a1 != (rd l0 x8_1)) = true := bne_iff_ne.mpr c6
       have H' := Aside0.mk H
       clear H
       have p101 : 0 ≤ (x8_1 : Int) := of_decide_eq_true (by first | (with_reducible assumption) | assumption)
       have q101 : x8_1 < (l0.length : Int) := of_decide_eq_true (by first | (with_reducible assumption) | assumption)
       obtain ⟨ad101, e101, hx101_0⟩ := Kd.at_int HR0.out x8_1 p101 q101
       cases e101
       replace p101 := eq_true p101
       replace q101 := eq_true q101
       go_wp2
       go_roundg k1
       case measure => have := HK1.out; omega
       case rel => exact ⟨(wrap64 (x8_1 + 1)), (by first | rfl | (simp; done) | (simp [*]; done)), H', ⟨by have := HK1.out; omega⟩, by repeat (first | exact Drawn0.refl _ | apply Drawn0.step)⟩
     ·rw [if_neg c5] at H
      exact absurd H (by simp)
    ·rw [if_neg c4] at H
     exact absurd H (by simp)
   ·rw [if_neg c3] at H
    have c3b0 : decide (x8_1 < (l0.length : Int)) = false := decide_eq_false c3
    clear c3
    obtain rfl := Option.some.inj H
    go_wp2
    go_ret
    exact ⟨by first | rfl | (simp; done) | (simp [*]; done), by repeat (first | exact Drawn0.refl _ | apply Drawn0.step)⟩
def slices_Contains_int_int.f (k : Nat) (l0 : List Int) (a1 : Int) : Option (Bool) := (slices_Index_int_int.f k l0 a1).bind fun t102 => (some (decide (t102 ≥ 0)))
set_option maxHeartbeats 8000000 in
set_option maxRecDepth 100000 in
theorem slices_Contains_int_int.calls (k : Nat) (A0 : Option Addr) (c0 : Nat) (l0 : List Int) (a1 : Int) (r : Bool) (w : World) (hr0 : Kd.C (Kd.int .i64) w A0 l0.length l0) (hc0 : l0.length ≤ c0) (h : slices_Contains_int_int.f k l0 a1 = some r) :
  Calls Tryd.prog 79 #[.slice A0 l0.length c0, .int .i64 a1] w fun e w' => e = .returned (.bool r) ∧ Drawn0 w w' := by
 have HR0 := Aside0.mk hr0
 have HC0 := Aside0.mk hc0
 clear hr0 hc0
 have H : ((slices_Index_int_int.f k l0 a1).bind fun t102 => (some (decide (t102 ≥ 0)))) = some r := h
 clear h
 replace H := Option.bind_eq_some_iff.mp H
 obtain ⟨t102, A30, H⟩ := H
 replace H : (some (decide (t102 ≥ 0))) = some r := H
 have A3 := Aside0.mk A30
 clear A30
 obtain rfl := Option.some.inj H
 go_enter Tryd.func79, Tryd.ntmps79
 go_wp2_with (first | ((with_reducible refine gate_callee (f := 96) rfl ?_); refine gL (some 7) Tryd.func96 #[.slice A0 l0.length c0, .int .i64 a1] ?_; (with_reducible refine (slices_Index_int_int.calls k _ _ l0 a1 t102 _ ?side1 ?side2 A3.out).mono ?_); (case side1 => repeat (first | exact HR0.out | (with_reducible refine Kd.C_alloc ?_ _) | (with_reducible refine Kd.C_drewN ?_ _) | (with_reducible refine Kd.C_drew ?_))); (case side2 => exact HC0.out); rintro e w' ⟨rfl, ⟨nd, rfl⟩⟩; refine ⟨_, rfl, ?_⟩))
 go_ret
 exact ⟨by first | rfl | (simp; done) | (simp [*]; done), by repeat (first | exact Drawn0.refl _ | apply Drawn0.step)⟩
def cmp_isNaN_int.f (a0 : Int) : Option (Bool) := some (a0 != a0)
set_option maxHeartbeats 8000000 in
set_option maxRecDepth 100000 in
theorem cmp_isNaN_int.calls (a0 : Int) (r : Bool) (w : World) (h : cmp_isNaN_int.f a0 = some r) :
  Calls Tryd.prog 115 #[.int .i64 a0] w fun e w' => e = .returned (.bool r) ∧ Drawn0 w w' := by
 have H : (some (a0 != a0)) = some r := h
 clear h
 obtain rfl := Option.some.inj H
 go_enter Tryd.func115, Tryd.ntmps115
 go_wp2
 go_ret
 exact ⟨by first | rfl | (simp; done) | (simp [*]; done), by repeat (first | exact Drawn0.refl _ | apply Drawn0.step)⟩
def cmp_Compare_int.f (a0 : Int) (a1 : Int) : Option (Int) := (cmp_isNaN_int.f a0).bind fun t103 => ((cmp_isNaN_int.f a1).bind fun t104 => (if t103 = true then (if t104 = true then (some 0) else (some (-1))) else (if t104 = true then (some 1) else (if a0 < a1 then (some (-1)) else (if a0 > a1 then (some 1) else (some 0))))))
set_option maxHeartbeats 8000000 in
set_option maxRecDepth 100000 in
theorem cmp_Compare_int.calls (a0 : Int) (a1 : Int) (r : Int) (w : World) (h : cmp_Compare_int.f a0 a1 = some r) :
  Calls Tryd.prog 103 #[.int .i64 a0, .int .i64 a1] w fun e w' => e = .returned (.int .i64 r) ∧ Drawn0 w w' := by
 have H : ((cmp_isNaN_int.f a0).bind fun t103 => ((cmp_isNaN_int.f a1).bind fun t104 => (if t103 = true then (if t104 = true then (some 0) else (some (-1))) else (if t104 = true then (some 1) else (if a0 < a1 then (some (-1)) else (if a0 > a1 then (some 1) else (some 0))))))) = some r := h
 clear h
 replace H := Option.bind_eq_some_iff.mp H
 obtain ⟨t103, A30, H⟩ := H
 replace H : ((cmp_isNaN_int.f a1).bind fun t104 => (if t103 = true then (if t104 = true then (some 0) else (some (-1))) else (if t104 = true then (some 1) else (if a0 < a1 then (some (-1)) else (if a0 > a1 then (some 1) else (some 0)))))) = some r := H
 have A3 := Aside0.mk A30
 clear A30
 replace H := Option.bind_eq_some_iff.mp H
 obtain ⟨t104, A40, H⟩ := H
 replace H : (if t103 = true then (if t104 = true then (some 0) else (some (-1))) else (if t104 = true then (some 1) else (if a0 < a1 then (some (-1)) else (if a0 > a1 then (some 1) else (some 0))))) = some r := H
 have A4 := Aside0.mk A40
 clear A40
 by_cases c5 : t103 = true
 ·subst c5
  have H1 : (if t104 = true then (some 0) else (some (-1))) = some r := by rw [if_pos rfl] at H; exact H
  clear H
  have H := H1
  clear H1
  by_cases c6 : t104 = true
  ·subst c6
   have H1 : (some 0) = some r := by rw [if_pos rfl] at H; exact H
   clear H
   have H := H1
   clear H1
   obtain rfl := Option.some.inj H
   go_enter Tryd.func103, Tryd.ntmps103
   go_wp2_with (first | ((with_reducible refine gate_callee (f := 115) rfl ?_); refine gL (some 8) Tryd.func115 #[.int .i64 a0] ?_; (with_reducible refine (cmp_isNaN_int.calls a0 true _ A3.out).mono ?_); rintro e w' ⟨rfl, ⟨nd, rfl⟩⟩; refine ⟨_, rfl, ?_⟩) | ((with_reducible refine gate_callee (f := 115) rfl ?_); refine gL (some 10) Tryd.func115 #[.int .i64 a1] ?_; (with_reducible refine (cmp_isNaN_int.calls a1 true _ A4.out).mono ?_); rintro e w' ⟨rfl, ⟨nd, rfl⟩⟩; refine ⟨_, rfl, ?_⟩))
   go_ret
   exact ⟨by first | rfl | (simp; done) | (simp [*]; done), by repeat (first | exact Drawn0.refl _ | apply Drawn0.step)⟩
  ·replace c6 := Bool.eq_false_iff.mpr c6
   subst c6
   have H1 : (some (-1)) = some r := by rw [if_neg (show ¬ (false = true) by decide)] at H; exact H
   clear H
   have H := H1
   clear H1
   obtain rfl := Option.some.inj H
   go_enter Tryd.func103, Tryd.ntmps103
   go_wp2_with (first | ((with_reducible refine gate_callee (f := 115) rfl ?_); refine gL (some 8) Tryd.func115 #[.int .i64 a0] ?_; (with_reducible refine (cmp_isNaN_int.calls a0 true _ A3.out).mono ?_); rintro e w' ⟨rfl, ⟨nd, rfl⟩⟩; refine ⟨_, rfl, ?_⟩) | ((with_reducible refine gate_callee (f := 115) rfl ?_); refine gL (some 10) Tryd.func115 #[.int .i64 a1] ?_; (with_reducible refine (cmp_isNaN_int.calls a1 false _ A4.out).mono ?_); rintro e w' ⟨rfl, ⟨nd, rfl⟩⟩; refine ⟨_, rfl, ?_⟩))
   go_ret
   exact ⟨by first | rfl | (simp; done) | (simp [*]; done), by repeat (first | exact Drawn0.refl _ | apply Drawn0.step)⟩
 ·replace c5 := Bool.eq_false_iff.mpr c5
  subst c5
  have H1 : (if t104 = true then (some 1) else (if a0 < a1 then (some (-1)) else (if a0 > a1 then (some 1) else (some 0)))) = some r := by rw [if_neg (show ¬ (false = true) by decide)] at H; exact H
  clear H
  have H := H1
  clear H1
  by_cases c7 : t104 = true
  ·subst c7
   have H1 : (some 1) = some r := by rw [if_pos rfl] at H; exact H
   clear H
   have H := H1
   clear H1
   obtain rfl := Option.some.inj H
   go_enter Tryd.func103, Tryd.ntmps103
   go_wp2_with (first | ((with_reducible refine gate_callee (f := 115) rfl ?_); refine gL (some 8) Tryd.func115 #[.int .i64 a0] ?_; (with_reducible refine (cmp_isNaN_int.calls a0 false _ A3.out).mono ?_); rintro e w' ⟨rfl, ⟨nd, rfl⟩⟩; refine ⟨_, rfl, ?_⟩) | ((with_reducible refine gate_callee (f := 115) rfl ?_); refine gL (some 10) Tryd.func115 #[.int .i64 a1] ?_; (with_reducible refine (cmp_isNaN_int.calls a1 true _ A4.out).mono ?_); rintro e w' ⟨rfl, ⟨nd, rfl⟩⟩; refine ⟨_, rfl, ?_⟩))
   go_ret
   exact ⟨by first | rfl | (simp; done) | (simp [*]; done), by repeat (first | exact Drawn0.refl _ | apply Drawn0.step)⟩
  ·replace c7 := Bool.eq_false_iff.mpr c7
   subst c7
   have H1 : (if a0 < a1 then (some (-1)) else (if a0 > a1 then (some 1) else (some 0))) = some r := by rw [if_neg (show ¬ (false = true) by decide)] at H; exact H
   clear H
   have H := H1
   clear H1
   by_cases c8 : a0 < a1
   ·rw [if_pos c8] at H
    have c8b0 : decide (a0 < a1) = true := decide_eq_true c8
    clear c8
    obtain rfl := Option.some.inj H
    go_enter Tryd.func103, Tryd.ntmps103
    go_wp2_with (first | ((with_reducible refine gate_callee (f := 115) rfl ?_); refine gL (some 8) Tryd.func115 #[.int .i64 a0] ?_; (with_reducible refine (cmp_isNaN_int.calls a0 false _ A3.out).mono ?_); rintro e w' ⟨rfl, ⟨nd, rfl⟩⟩; refine ⟨_, rfl, ?_⟩) | ((with_reducible refine gate_callee (f := 115) rfl ?_); refine gL (some 10) Tryd.func115 #[.int .i64 a1] ?_; (with_reducible refine (cmp_isNaN_int.calls a1 false _ A4.out).mono ?_); rintro e w' ⟨rfl, ⟨nd, rfl⟩⟩; refine ⟨_, rfl, ?_⟩))
    go_ret
    exact ⟨by first | rfl | (simp; done) | (simp [*]; done), by repeat (first | exact Drawn0.refl _ | apply Drawn0.step)⟩
   ·rw [if_neg c8] at H
    have c8b0 : decide (a0 < a1) = false := decide_eq_false c8
    clear c8
    by_cases c9 : a0 > a1
    ·rw [if_pos c9] at H
     have c9b0 : decide (a1 < a0) = true := decide_eq_true c9
     clear c9
     obtain rfl := Option.some.inj H
     go_enter Tryd.func103, Tryd.ntmps103
     go_wp2_with (first | ((with_reducible refine gate_callee (f := 115) rfl ?_); refine gL (some 8) Tryd.func115 #[.int .i64 a0] ?_; (with_reducible refine (cmp_isNaN_int.calls a0 false _ A3.out).mono ?_); rintro e w' ⟨rfl, ⟨nd, rfl⟩⟩; refine ⟨_, rfl, ?_⟩) | ((with_reducible refine gate_callee (f := 115) rfl ?_); refine gL (some 10) Tryd.func115 #[.int .i64 a1] ?_; (with_reducible refine (cmp_isNaN_int.calls a1 false _ A4.out).mono ?_); rintro e w' ⟨rfl, ⟨nd, rfl⟩⟩; refine ⟨_, rfl, ?_⟩))
     go_ret
     exact ⟨by first | rfl | (simp; done) | (simp [*]; done), by repeat (first | exact Drawn0.refl _ | apply Drawn0.step)⟩
    ·rw [if_neg c9] at H
     have c9b0 : decide (a1 < a0) = false := decide_eq_false c9
     clear c9
     obtain rfl := Option.some.inj H
     go_enter Tryd.func103, Tryd.ntmps103
     go_wp2_with (first | ((with_reducible refine gate_callee (f := 115) rfl ?_); refine gL (some 8) Tryd.func115 #[.int .i64 a0] ?_; (with_reducible refine (cmp_isNaN_int.calls a0 false _ A3.out).mono ?_); rintro e w' ⟨rfl, ⟨nd, rfl⟩⟩; refine ⟨_, rfl, ?_⟩) | ((with_reducible refine gate_callee (f := 115) rfl ?_); refine gL (some 10) Tryd.func115 #[.int .i64 a1] ?_; (with_reducible refine (cmp_isNaN_int.calls a1 false _ A4.out).mono ?_); rintro e w' ⟨rfl, ⟨nd, rfl⟩⟩; refine ⟨_, rfl, ?_⟩))
     go_ret
     exact ⟨by first | rfl | (simp; done) | (simp [*]; done), by repeat (first | exact Drawn0.refl _ | apply Drawn0.step)⟩
def slices_Compare_int_int.l0 : Nat → List Int → List Int → List Int → Int → Int → Option (Int)
 | 0, _, _, _, _, _ => none
 | k + 1, x0, x1, x9, x10, x11 => if x11 < x10 then (if 0 ≤ x11 then (if x11 < (x9.length : Int) then (if x11 ≥ (x1.length : Int) then (some 1) else (if x11 < (x1.length : Int) then ((cmp_Compare_int.f (rd x9 x11) (rd x1 x11)).bind fun t107 => (if t107 = 0 then (slices_Compare_int_int.l0 k x0 x1 x9 x10 (wrap64 (x11 + 1))) else (some t107))) else (none))) else (none)) else (none)) else (if (x0.length : Int) < (x1.length : Int) then (some (-1)) else (some 0))
def slices_Compare_int_int.f (k : Nat) (l0 : List Int) (l1 : List Int) : Option (Int) := slices_Compare_int_int.l0 k l0 l1 l0 (l0.length : Int) 0
set_option maxHeartbeats 8000000 in
set_option maxRecDepth 100000 in
theorem slices_Compare_int_int.calls (k : Nat) (A0 : Option Addr) (c0 : Nat) (l0 : List Int) (A1 : Option Addr) (c1 : Nat) (l1 : List Int) (r : Int) (w : World) (hr0 : Kd.C (Kd.int .i64) w A0 l0.length l0) (hc0 : l0.length ≤ c0) (hr1 : Kd.C (Kd.int .i64) w A1 l1.length l1) (hc1 : l1.length ≤ c1) (h : slices_Compare_int_int.f k l0 l1 = some r) :
  Calls Tryd.prog 85 #[.slice A0 l0.length c0, .slice A1 l1.length c1] w fun e w' => e = .returned (.int .i64 r) ∧ Drawn0 w w' := by
 have HR0 := Aside0.mk hr0
 have HC0 := Aside0.mk hc0
 clear hr0 hc0
 have HR1 := Aside0.mk hr1
 have HC1 := Aside0.mk hc1
 clear hr1 hc1
 have H : (slices_Compare_int_int.l0 k l0 l1 l0 (l0.length : Int) 0) = some r := h
 clear h
 have H' := Aside0.mk H
 clear H
 go_enter Tryd.func85, Tryd.ntmps85
 go_wp2
 go_loopg [11] k (fun kq v11 w' => ∃ (x11_1 : Int), v11 = .int .i64 x11_1 ∧ Aside0 (slices_Compare_int_int.l0 kq l0 l1 l0 (l0.length : Int) x11_1 = some r) ∧ Aside0 (kq ≤ k) ∧ Drawn0 w w')
 case atStart => exact ⟨(0), (by first | rfl | (simp; done) | (simp [*]; done)), H', ⟨Nat.le_refl _⟩, by repeat (first | exact Drawn0.refl _ | apply Drawn0.step)⟩
 case round =>
  clear H'
  try clear c1
  try clear p2
  obtain ⟨x11_1, rfl, HA, HK1, ⟨m1, rfl⟩⟩ := hrel
  cases gk with
  | zero => exact absurd HA.out (by simp [slices_Compare_int_int.l0])
  | succ k1 =>
   have H := HA.out
   clear HA
   simp only [slices_Compare_int_int.l0] at H
   by_cases c3 : x11_1 < (l0.length : Int)
   ·rw [if_pos c3] at H
    have c3b0 : decide (x11_1 < (l0.length : Int)) = true := decide_eq_true c3
    clear c3
    by_cases c4 : 0 ≤ x11_1
    ·rw [if_pos c4] at H
     have c4b0 : decide (0 ≤ x11_1) = true := decide_eq_true c4
     clear c4
     by_cases c5 : x11_1 < (l0.length : Int)
     ·rw [if_pos c5] at H
      have c5b0 : decide (x11_1 < (l0.length : Int)) = true := decide_eq_true c5
      clear c5
      by_cases c6 : x11_1 ≥ (l1.length : Int)
      ·rw [if_pos c6] at H
       have c6b0 : decide ((l1.length : Int) ≤ x11_1) = true := decide_eq_true c6
       clear c6
       obtain rfl := Option.some.inj H
       have p105 : 0 ≤ (x11_1 : Int) := of_decide_eq_true (by first | (with_reducible assumption) | assumption)
       have q105 : x11_1 < (l0.length : Int) := of_decide_eq_true (by first | (with_reducible assumption) | assumption)
       obtain ⟨ad105, e105, hx105_0⟩ := Kd.at_int HR0.out x11_1 p105 q105
       cases e105
       replace p105 := eq_true p105
       replace q105 := eq_true q105
       go_wp2
       go_ret
       exact ⟨by first | rfl | (simp; done) | (simp [*]; done), by repeat (first | exact Drawn0.refl _ | apply Drawn0.step)⟩
      ·rw [if_neg c6] at H
       have c6b0 : decide ((l1.length : Int) ≤ x11_1) = false := decide_eq_false c6
       clear c6
       by_cases c7 : x11_1 < (l1.length : Int)
       ·rw [if_pos c7] at H
        have c7b0 : decide (x11_1 < (l1.length : Int)) = true := decide_eq_true c7
        clear c7
        replace H := Option.bind_eq_some_iff.mp H
        obtain ⟨t107, A80, H⟩ := H
        replace H : (if t107 = 0 then (slices_Compare_int_int.l0 k1 l0 l1 l0 (l0.length : Int) (wrap64 (x11_1 + 1))) else (some t107)) = some r := H
        have A8 := Aside0.mk A80
        clear A80
        by_cases c9 : t107 = 0
        ·rw [if_pos c9] at H
         have c9b0 : (t107 == 0) = true := beq_iff_eq.mpr c9
         have c9b1 : (t107 != 0) = false := bne_eq_false_iff_eq.mpr c9
         clear c9
         have H' := Aside0.mk H
         clear H
         have p105 : 0 ≤ (x11_1 : Int) := of_decide_eq_true (by first | (with_reducible assumption) | assumption)
         have q105 : x11_1 < (l0.length : Int) := of_decide_eq_true (by first | (with_reducible assumption) | assumption)
         obtain ⟨ad105, e105, hx105_0⟩ := Kd.at_int HR0.out x11_1 p105 q105
         cases e105
         replace p105 := eq_true p105
         replace q105 := eq_true q105
         have p106 : 0 ≤ (x11_1 : Int) := of_decide_eq_true (by first | (with_reducible assumption) | assumption)
         have q106 : x11_1 < (l1.length : Int) := of_decide_eq_true (by first | (with_reducible assumption) | assumption)
         obtain ⟨ad106, e106, hx106_0⟩ := Kd.at_int HR1.out x11_1 p106 q106
         cases e106
         replace p106 := eq_true p106
         replace q106 := eq_true q106
         go_wp2_with (first | ((with_reducible refine gate_callee (f := 103) rfl ?_); refine gL (some 26) Tryd.func103 #[.int .i64 (rd l0 x11_1), .int .i64 (rd l1 x11_1)] ?_; (with_reducible refine (cmp_Compare_int.calls (rd l0 x11_1) (rd l1 x11_1) t107 _ A8.out).mono ?_); rintro e w' ⟨rfl, ⟨nd, rfl⟩⟩; refine ⟨_, rfl, ?_⟩))
         go_roundg k1
         case measure => have := HK1.out; omega
         case rel => exact ⟨(wrap64 (x11_1 + 1)), (by first | rfl | (simp; done) | (simp [*]; done)), H', ⟨by have := HK1.out; omega⟩, by repeat (first | exact Drawn0.refl _ | apply Drawn0.step)⟩
        ·rw [if_neg c9] at H
         have c9b0 : (t107 == 0) = false := beq_eq_false_iff_ne.mpr c9
         have c9b1 : (t107 != 0) = true := bne_iff_ne.mpr c9
         obtain rfl := Option.some.inj H
         have p105 : 0 ≤ (x11_1 : Int) := of_decide_eq_true (by first | (with_reducible assumption) | assumption)
         have q105 : x11_1 < (l0.length : Int) := of_decide_eq_true (by first | (with_reducible assumption) | assumption)
         obtain ⟨ad105, e105, hx105_0⟩ := Kd.at_int HR0.out x11_1 p105 q105
         cases e105
         replace p105 := eq_true p105
         replace q105 := eq_true q105
         have p106 : 0 ≤ (x11_1 : Int) := of_decide_eq_true (by first | (with_reducible assumption) | assumption)
         have q106 : x11_1 < (l1.length : Int) := of_decide_eq_true (by first | (with_reducible assumption) | assumption)
         obtain ⟨ad106, e106, hx106_0⟩ := Kd.at_int HR1.out x11_1 p106 q106
         cases e106
         replace p106 := eq_true p106
         replace q106 := eq_true q106
         go_wp2_with (first | ((with_reducible refine gate_callee (f := 103) rfl ?_); refine gL (some 26) Tryd.func103 #[.int .i64 (rd l0 x11_1), .int .i64 (rd l1 x11_1)] ?_; (with_reducible refine (cmp_Compare_int.calls (rd l0 x11_1) (rd l1 x11_1) t107 _ A8.out).mono ?_); rintro e w' ⟨rfl, ⟨nd, rfl⟩⟩; refine ⟨_, rfl, ?_⟩))
         go_ret
         exact ⟨by first | rfl | (simp; done) | (simp [*]; done), by repeat (first | exact Drawn0.refl _ | apply Drawn0.step)⟩
       ·rw [if_neg c7] at H
        exact absurd H (by simp)
     ·rw [if_neg c5] at H
      exact absurd H (by simp)
    ·rw [if_neg c4] at H
     exact absurd H (by simp)
   ·rw [if_neg c3] at H
    have c3b0 : decide (x11_1 < (l0.length : Int)) = false := decide_eq_false c3
    clear c3
    by_cases c10 : (l0.length : Int) < (l1.length : Int)
    ·rw [if_pos c10] at H
     have c10b0 : decide ((l0.length : Int) < (l1.length : Int)) = true := decide_eq_true c10
     have c10b1 : decide (l0.length < l1.length) = true := decide_eq_true (Int.ofNat_lt.mp c10)
     clear c10
     obtain rfl := Option.some.inj H
     go_wp2
     go_ret
     exact ⟨by first | rfl | (simp; done) | (simp [*]; done), by repeat (first | exact Drawn0.refl _ | apply Drawn0.step)⟩
    ·rw [if_neg c10] at H
     have c10b0 : decide ((l0.length : Int) < (l1.length : Int)) = false := decide_eq_false c10
     have c10b1 : decide (l0.length < l1.length) = false := decide_eq_false (fun h => c10 (Int.ofNat_lt.mpr h))
     clear c10
     obtain rfl := Option.some.inj H
     go_wp2
     go_ret
     exact ⟨by first | rfl | (simp; done) | (simp [*]; done), by repeat (first | exact Drawn0.refl _ | apply Drawn0.step)⟩
def cmp_Less_int.f (a0 : Int) (a1 : Int) : Option (Bool) := (cmp_isNaN_int.f a0).bind fun t108 => (if t108 = true then ((cmp_isNaN_int.f a1).bind fun t109 => (if t109 = true then (some (decide (a0 < a1))) else (some true))) else (some (decide (a0 < a1))))
set_option maxHeartbeats 8000000 in
set_option maxRecDepth 100000 in
theorem cmp_Less_int.calls (a0 : Int) (a1 : Int) (r : Bool) (w : World) (h : cmp_Less_int.f a0 a1 = some r) :
  Calls Tryd.prog 110 #[.int .i64 a0, .int .i64 a1] w fun e w' => e = .returned (.bool r) ∧ Drawn0 w w' := by
 have H : ((cmp_isNaN_int.f a0).bind fun t108 => (if t108 = true then ((cmp_isNaN_int.f a1).bind fun t109 => (if t109 = true then (some (decide (a0 < a1))) else (some true))) else (some (decide (a0 < a1))))) = some r := h
 clear h
 replace H := Option.bind_eq_some_iff.mp H
 obtain ⟨t108, A30, H⟩ := H
 replace H : (if t108 = true then ((cmp_isNaN_int.f a1).bind fun t109 => (if t109 = true then (some (decide (a0 < a1))) else (some true))) else (some (decide (a0 < a1)))) = some r := H
 have A3 := Aside0.mk A30
 clear A30
 by_cases c4 : t108 = true
 ·subst c4
  have H1 : ((cmp_isNaN_int.f a1).bind fun t109 => (if t109 = true then (some (decide (a0 < a1))) else (some true))) = some r := by rw [if_pos rfl] at H; exact H
  clear H
  have H := H1
  clear H1
  replace H := Option.bind_eq_some_iff.mp H
  obtain ⟨t109, A50, H⟩ := H
  replace H : (if t109 = true then (some (decide (a0 < a1))) else (some true)) = some r := H
  have A5 := Aside0.mk A50
  clear A50
  by_cases c6 : t109 = true
  ·subst c6
   have H1 : (some (decide (a0 < a1))) = some r := by rw [if_pos rfl] at H; exact H
   clear H
   have H := H1
   clear H1
   obtain rfl := Option.some.inj H
   go_enter Tryd.func110, Tryd.ntmps110
   go_wp2_with (first | ((with_reducible refine gate_callee (f := 115) rfl ?_); refine gL (some 6) Tryd.func115 #[.int .i64 a0] ?_; (with_reducible refine (cmp_isNaN_int.calls a0 true _ A3.out).mono ?_); rintro e w' ⟨rfl, ⟨nd, rfl⟩⟩; refine ⟨_, rfl, ?_⟩) | (go_at_call 115; (with_reducible refine (cmp_isNaN_int.calls a1 true _ A5.out).mono ?_); rintro e w' ⟨rfl, ⟨nd, rfl⟩⟩))
   go_ret
   exact ⟨by first | rfl | (simp; done) | (simp [*]; done), by repeat (first | exact Drawn0.refl _ | apply Drawn0.step)⟩
  ·replace c6 := Bool.eq_false_iff.mpr c6
   subst c6
   have H1 : (some true) = some r := by rw [if_neg (show ¬ (false = true) by decide)] at H; exact H
   clear H
   have H := H1
   clear H1
   obtain rfl := Option.some.inj H
   go_enter Tryd.func110, Tryd.ntmps110
   go_wp2_with (first | ((with_reducible refine gate_callee (f := 115) rfl ?_); refine gL (some 6) Tryd.func115 #[.int .i64 a0] ?_; (with_reducible refine (cmp_isNaN_int.calls a0 true _ A3.out).mono ?_); rintro e w' ⟨rfl, ⟨nd, rfl⟩⟩; refine ⟨_, rfl, ?_⟩) | (go_at_call 115; (with_reducible refine (cmp_isNaN_int.calls a1 false _ A5.out).mono ?_); rintro e w' ⟨rfl, ⟨nd, rfl⟩⟩))
   go_ret
   exact ⟨by first | rfl | (simp; done) | (simp [*]; done), by repeat (first | exact Drawn0.refl _ | apply Drawn0.step)⟩
 ·replace c4 := Bool.eq_false_iff.mpr c4
  subst c4
  have H1 : (some (decide (a0 < a1))) = some r := by rw [if_neg (show ¬ (false = true) by decide)] at H; exact H
  clear H
  have H := H1
  clear H1
  obtain rfl := Option.some.inj H
  go_enter Tryd.func110, Tryd.ntmps110
  go_wp2_with (first | ((with_reducible refine gate_callee (f := 115) rfl ?_); refine gL (some 6) Tryd.func115 #[.int .i64 a0] ?_; (with_reducible refine (cmp_isNaN_int.calls a0 false _ A3.out).mono ?_); rintro e w' ⟨rfl, ⟨nd, rfl⟩⟩; refine ⟨_, rfl, ?_⟩))
  go_ret
  exact ⟨by first | rfl | (simp; done) | (simp [*]; done), by repeat (first | exact Drawn0.refl _ | apply Drawn0.step)⟩
end Go.Proofs.YtikfghnkbgdbgaaDoor.L
end
section
namespace Go.Proofs.YtikfghnkbgdbgaaDoor.L
open Go.RowKit Go.Proofs.YtikfghnkbgdbgaaDoorW.PrintWords Go.Proofs.YtikfghnkbgdbgaaDoorW.PrintLast Go.Proofs.YtikfghnkbgdbgaaDoorW.PrintMore
attribute [local go_sem] max2_int min2_int max_two min_two max_three min_three max_four min_four   -- for this text's walks alone
set_option linter.unusedVariables false
set_option linter.unusedSimpArgs false
mutual
def slices_insertionSortOrdered_int.l0 : Nat → List Int → Int → Int → Int → Option (List Int)
 | 0, _, _, _, _ => none
 | k + 1, x0, x1, x2, x6 => if x6 < x2 then (slices_insertionSortOrdered_int.l1 k x0 x1 x2 x6 x6) else (some x0)
def slices_insertionSortOrdered_int.l1 : Nat → List Int → Int → Int → Int → Int → Option (List Int)
 | 0, _, _, _, _, _ => none
 | k + 1, x0, x1, x2, x6, x7 => if x7 > x1 then (if 0 ≤ x7 then (if x7 < (x0.length : Int) then (if 0 ≤ (wrap64 (x7 - 1)) then (if (wrap64 (x7 - 1)) < (x0.length : Int) then ((cmp_Less_int.f (rd x0 x7) (rd x0 (wrap64 (x7 - 1)))).bind fun t112 => (if t112 = true then (slices_insertionSortOrdered_int.l1 k ((x0.set (x7 : Int).toNat (rd x0 (wrap64 (x7 - 1)))).set ((wrap64 (x7 - 1)) : Int).toNat (rd x0 x7)) x1 x2 x6 (wrap64 (x7 - 1))) else (slices_insertionSortOrdered_int.l0 k x0 x1 x2 (wrap64 (x6 + 1))))) else (none)) else (none)) else (none)) else (none)) else (slices_insertionSortOrdered_int.l0 k x0 x1 x2 (wrap64 (x6 + 1)))
end
def slices_insertionSortOrdered_int.f (k : Nat) (l0 : List Int) (a1 : Int) (a2 : Int) : Option (List Int) := slices_insertionSortOrdered_int.l0 k l0 a1 a2 (wrap64 (a1 + 1))
def slices_insertionSortOrdered_int.T4 : Bool × List (List Nat × List Nat) := (true, [([], []), ([], []), ([0, 1], [0, 1]), ([2], [2]), ([3], [3]), ([3], [3]), ([4, 5, 3], [3, 4, 5]), ([6, 3], [3, 6]), ([3], [3]), ([3], [3]), ([9, 3], [3, 9]), ([8, 10, 3], [3, 8, 10]), ([11, 3], [3, 11]), ([7, 12, 3, 3], [3, 7, 12]), ([3, 13], [3, 13])])
def slices_insertionSortOrdered_int.B4 : List Nat := [0, 0, 3, 7, 15, 15, 63, 127, 15, 15, 527, 1807, 3855, 8191, 16383]
theorem slices_insertionSortOrdered_int.tab4 : rtab .any (opsOf Tryd.f104 4) = slices_insertionSortOrdered_int.T4 := by kernel_rfl
theorem slices_insertionSortOrdered_int.bits4 : waitsOk slices_insertionSortOrdered_int.T4.2 slices_insertionSortOrdered_int.B4 = true := by kernel_rfl
def slices_insertionSortOrdered_int.T6 : Bool × List (List Nat × List Nat) := (true, [([], []), ([], []), ([], []), ([], []), ([3], [3]), ([], []), ([], []), ([6], [6]), ([5, 7], [5, 7]), ([8], [8]), ([], []), ([], []), ([10, 11], [10, 11]), ([12], [12]), ([0, 1, 0, 1, 5, 6, 7, 8, 9, 13], [0, 1]), ([14, 9, 0, 1, 5, 6, 7, 8, 9, 13], [9, 14]), ([2, 4, 0, 1, 2, 3, 4, 5, 6, 7, 8, 9, 10, 11, 12, 13, 14, 15], [2, 4]), ([16, 13, 15, 0, 1, 2, 3, 4, 5, 6, 7, 8, 9, 10, 11, 12, 13, 14, 15], [13, 16])])
def slices_insertionSortOrdered_int.B6 : List Nat := [0, 0, 0, 0, 8, 0, 0, 64, 224, 480, 0, 0, 3072, 7168, 16355, 32739, 65535, 131071]
theorem slices_insertionSortOrdered_int.tab6 : rtab .any (opsOf Tryd.f104 6) = slices_insertionSortOrdered_int.T6 := by kernel_rfl
theorem slices_insertionSortOrdered_int.bits6 : waitsOk slices_insertionSortOrdered_int.T6.2 slices_insertionSortOrdered_int.B6 = true := by kernel_rfl
set_option maxHeartbeats 8000000 in
set_option maxRecDepth 100000 in
theorem slices_insertionSortOrdered_int.calls (k : Nat) (P0_ : Nat → Prop) (u9000_ : Value) (l0 : List Int) (a1 : Int) (a2 : Int) (r : List Int) (w0 w : World) (hB : Below w0.heap.size w0 w) (ho0 : Kd.R (Kd.int .i64) 3 w w0.heap.size P0_ u9000_ l0) (h : slices_insertionSortOrdered_int.f k l0 a1 a2 = some r) :
  Calls Tryd.prog 104 #[u9000_, .int .i64 a1, .int .i64 a2] w fun e w' => e = .returned (.tuple #[]) ∧ Kd.R (Kd.int .i64) 3 w' w0.heap.size (fun k_ => (P0_ k_ ∨ w.heap.size ≤ k_)) u9000_ r ∧ Below w0.heap.size w0 w' ∧ Kept w w' (fun k_ => P0_ k_) := by
 have HO0 := Aside0.mk (show Kd.R (Kd.int .i64) 3 w w0.heap.size (fun k_ => (P0_ k_ ∨ w.heap.size ≤ k_)) u9000_ l0 from Kd.R_mono ho0 (fun k_ hk => (.inl hk)))
 have HK := Aside0.mk (Kept.refl w (fun k_ => P0_ k_))
 have HW0 := Aside0.mk hB.size
 have HB := Aside0.mk hB
 clear hB
 have H : (slices_insertionSortOrdered_int.l0 k l0 a1 a2 (wrap64 (a1 + 1))) = some r := h
 clear h
 have H' := Aside0.mk H
 clear H
 go_enter Tryd.func104, Tryd.ntmps104
 go_wp2
 go_loopg [6] k (fun kq v6 w' => ∃ (x0_1 : List Int) (x6_1 : Int), v6 = .int .i64 x6_1 ∧ Aside0 (slices_insertionSortOrdered_int.l0 kq x0_1 a1 a2 x6_1 = some r) ∧ Aside0 (kq ≤ k) ∧ Aside0 (Kd.R (Kd.int .i64) 3 w' w0.heap.size (fun k_ => (P0_ k_ ∨ w.heap.size ≤ k_)) u9000_ x0_1) ∧ Aside0 (Kept w w' (fun k_ => P0_ k_)) ∧ Aside0 (Below w0.heap.size w0 w'))
 case atStart => exact ⟨(l0), (wrap64 (a1 + 1)), (by first | rfl | (simp; done) | (simp [*]; done)), H', ⟨Nat.le_refl _⟩, ⟨by (with_reducible repeat (first | apply Kd.R_alloc | apply Kd.R_drewN | apply Kd.R_drew)); exact HO0.out⟩, ⟨by repeat (first | (with_reducible first | exact HK.out | apply Kept.alloc | apply Kept.drewN | apply Kept.drew) | exact HK.out)⟩, ⟨bw HB⟩⟩
 case round =>
  clear H'
  try clear c1
  try clear p2
  obtain ⟨x0_1, x6_1, rfl, HA, HK1, HO_0, HK, HB⟩ := hrel
  cases gk with
  | zero => exact absurd HA.out (by simp [slices_insertionSortOrdered_int.l0])
  | succ k1 =>
   have H := HA.out
   clear HA
   simp only [slices_insertionSortOrdered_int.l0] at H
   by_cases c4 : x6_1 < a2
   ·rw [if_pos c4] at H
    have c4b0 : decide (x6_1 < a2) = true := decide_eq_true c4
    clear c4
    have H' := Aside0.mk H
    clear H
    go_wp2
    go_loopg [7] k1 (fun kq v7 w' => ∃ (x0_2 : List Int) (x7_2 : Int), v7 = .int .i64 x7_2 ∧ Aside0 (slices_insertionSortOrdered_int.l1 kq x0_2 a1 a2 x6_1 x7_2 = some r) ∧ Aside0 (kq ≤ k1) ∧ Aside0 (Kd.R (Kd.int .i64) 3 w' w0.heap.size (fun k_ => (P0_ k_ ∨ w.heap.size ≤ k_)) u9000_ x0_2) ∧ Aside0 (Kept w w' (fun k_ => P0_ k_)) ∧ Aside0 (Below w0.heap.size w0 w'))
    case atStart => exact ⟨(x0_1), (x6_1), (by first | rfl | (simp; done) | (simp [*]; done)), H', ⟨Nat.le_refl _⟩, ⟨by (with_reducible repeat (first | apply Kd.R_alloc | apply Kd.R_drewN | apply Kd.R_drew)); exact HO_0.out⟩, ⟨by repeat (first | (with_reducible first | exact HK.out | apply Kept.alloc | apply Kept.drewN | apply Kept.drew) | exact HK.out)⟩, ⟨bw HB⟩⟩
    case round =>
     clear H'
     try clear c1
     try clear p2
     try clear c4
     try clear c4b0
     try clear p2
     obtain ⟨x0_2, x7_2, rfl, HA, HK2, HO_0, HK, HB⟩ := hrel
     cases gk with
     | zero => exact absurd HA.out (by simp [slices_insertionSortOrdered_int.l1])
     | succ k2 =>
      have H := HA.out
      clear HA
      simp only [slices_insertionSortOrdered_int.l1] at H
      by_cases c5 : x7_2 > a1
      ·rw [if_pos c5] at H
       have c5b0 : decide (a1 < x7_2) = true := decide_eq_true c5
       clear c5
       by_cases c6 : 0 ≤ x7_2
       ·rw [if_pos c6] at H
        have c6b0 : decide (0 ≤ x7_2) = true := decide_eq_true c6
        clear c6
        by_cases c7 : x7_2 < (x0_2.length : Int)
        ·rw [if_pos c7] at H
         have c7b0 : decide (x7_2 < (x0_2.length : Int)) = true := decide_eq_true c7
         clear c7
         obtain ⟨ji8, hji8⟩ : ∃ j_ : Int, (wrap64 (x7_2 - 1)) = j_ := ⟨_, rfl⟩
         replace H : (if 0 ≤ (ji8) then (if (ji8) < (x0_2.length : Int) then ((cmp_Less_int.f (rd x0_2 x7_2) (rd x0_2 (ji8))).bind fun t112 => (if t112 = true then (slices_insertionSortOrdered_int.l1 k2 ((x0_2.set (x7_2 : Int).toNat (rd x0_2 (ji8))).set ((ji8) : Int).toNat (rd x0_2 x7_2)) a1 a2 x6_1 ji8) else (slices_insertionSortOrdered_int.l0 k2 x0_2 a1 a2 (wrap64 (x6_1 + 1))))) else (none)) else (none)) = some r := by first | (rw [hji8] at H; exact H) | (simp only [hji8] at H ⊢; exact H)
         have hji8w : (IntKind.i64.wrap (x7_2 - 1)) = ji8 := (i64_w _).trans hji8
         by_cases c9 : 0 ≤ (ji8)
         ·rw [if_pos c9] at H
          have c9b0 : decide (0 ≤ (ji8)) = true := decide_eq_true c9
          clear c9
          by_cases c10 : (ji8) < (x0_2.length : Int)
          ·rw [if_pos c10] at H
           have c10b0 : decide ((ji8) < (x0_2.length : Int)) = true := decide_eq_true c10
           clear c10
           replace H := Option.bind_eq_some_iff.mp H
           obtain ⟨t112, A110, H⟩ := H
           replace H : (if t112 = true then (slices_insertionSortOrdered_int.l1 k2 ((x0_2.set (x7_2 : Int).toNat (rd x0_2 (ji8))).set ((ji8) : Int).toNat (rd x0_2 x7_2)) a1 a2 x6_1 ji8) else (slices_insertionSortOrdered_int.l0 k2 x0_2 a1 a2 (wrap64 (x6_1 + 1)))) = some r := H
           have A11 := Aside0.mk A110
           clear A110
           by_cases c12 : t112 = true
           ·subst c12
            have H1 : (slices_insertionSortOrdered_int.l1 k2 ((x0_2.set (x7_2 : Int).toNat (rd x0_2 (ji8))).set ((ji8) : Int).toNat (rd x0_2 x7_2)) a1 a2 x6_1 ji8) = some r := by rw [if_pos rfl] at H; exact H
            clear H
            have H := H1
            clear H1
            obtain ⟨y115, hy115⟩ : ∃ y_ : List Int, y_ = (x0_2.set (x7_2 : Int).toNat (rd x0_2 (ji8))) := ⟨_, rfl⟩
            replace H : (slices_insertionSortOrdered_int.l1 k2 (y115.set ((ji8) : Int).toNat (rd x0_2 x7_2)) a1 a2 x6_1 ji8) = some r := by first | (rw [hy115]; with_reducible exact H) | (have H2_ := (Option.bind_some _ _).symm.trans H; rw [hy115]; with_reducible exact H2_) | (have H2_ := (Option.bind_some _ _).symm.trans H; with_reducible exact H2_) | with_reducible exact H | (rw [hy115]; exact H) | exact H
            have Ny115 := Aside0.mk hy115
            clear hy115
            obtain ⟨y116, hy116⟩ : ∃ y_ : List Int, y_ = (y115.set ((ji8) : Int).toNat (rd x0_2 x7_2)) := ⟨_, rfl⟩
            replace H : (slices_insertionSortOrdered_int.l1 k2 y116 a1 a2 x6_1 ji8) = some r := by first | (rw [hy116]; with_reducible exact H) | (have H2_ := (Option.bind_some _ _).symm.trans H; rw [hy116]; with_reducible exact H2_) | (have H2_ := (Option.bind_some _ _).symm.trans H; with_reducible exact H2_) | with_reducible exact H | (rw [hy116]; exact H) | exact H
            have Ny116 := Aside0.mk hy116
            clear hy116
            have H' := Aside0.mk H
            clear H
            try go_wp2
            have n0_ := Aside0.mk (Kd.R_drew HO_0.out)
            have n1_ := Aside0.mk (Kept.drew HK.out)
            have n2_ := Aside0.mk (below_drew1 HB.out)
            clear HO_0
            clear HK
            clear HB
            have HO_0 := n0_
            have HK := n1_
            have HB := n2_
            clear n0_ n1_ n2_
            obtain ⟨Ao16, co16, eo16⟩ := Kd.R_slice HO_0.out
            (first | subst eo16 | (injection eo16 with f1_ f2_ f3_; have f4_ := f1_.symm; have f5_ := f3_.symm; clear f1_ f2_ f3_; subst f4_; subst f5_))
            have p110 : 0 ≤ (x7_2 : Int) := of_decide_eq_true (by first | (with_reducible assumption) | assumption)
            have q110 : x7_2 < (x0_2.length : Int) := of_decide_eq_true (by first | (with_reducible assumption) | assumption)
            obtain ⟨ad110, e110, hx110_0⟩ := Kd.at_int (Kd.R_reads' HO_0.out).2.2 x7_2 p110 q110
            cases e110
            replace p110 := eq_true p110
            replace q110 := eq_true q110
            have p111 : 0 ≤ ((ji8) : Int) := of_decide_eq_true (by first | (with_reducible assumption) | assumption)
            have q111 : (ji8) < (x0_2.length : Int) := of_decide_eq_true (by first | (with_reducible assumption) | assumption)
            obtain ⟨ad111, e111, hx111_0⟩ := Kd.at_int (Kd.R_reads' HO_0.out).2.2 (ji8) p111 q111
            obtain rfl : ad110 = ad111 := (by injection e111)
            replace p111 := eq_true p111
            replace q111 := eq_true q111
            refine start_ (n := 15) (S := fun w' => w'.cell? (ad110.add (x7_2).toNat) = some (.int .i64 (rd x0_2 x7_2)) ∧ w'.cell? (ad110.add ((ji8)).toNat) = some (.int .i64 (rd x0_2 (ji8)))) (ds := []) (bs 15 0) (by kernel_rfl) rfl rfl ⟨hx110_0, hx111_0⟩ (fun hHeld => ?_); refine with_tabW slices_insertionSortOrdered_int.tab4 slices_insertionSortOrdered_int.bits4 (fun HT_ HW_ => ?_)
            generalize wr.drew = w15 at HO_0 HK HB hx110_0 hx111_0 hHeld ⊢
            refine pu HT_ 0 (some 16) (bs 15 1) ?_
            refine pu HT_ 1 (some 17) (bs 15 3) ?_
            refine pu HT_ 2 (some 18) (bs 15 7) ?_
            refine pu HT_ 3 (some 19) (bs 15 15) ?_
            refine pu HT_ 4 (some 20) (bs 15 31) ?_
            refine pu HT_ 5 (some 21) (bs 15 63) ?_
            refine pu HT_ 6 (some 22) (bs 15 127) ?_
            refine pu HT_ 8 (some 24) (bs 15 383) ?_
            refine pu HT_ 9 (some 25) (bs 15 895) ?_
            refine pu HT_ 10 (some 26) (bs 15 1919) ?_
            refine pu HT_ 11 (some 27) (bs 15 3967) ?_
            refine tk2 HT_ HW_ hHeld 7 (some 23) (bs 15 4095) ?_
            refine tk2 HT_ HW_ hHeld 12 (some 28) (bs 15 8191) ?_
            refine on HT_ 13 (some 29) (bs 15 16383) (fun K hK => ?_)
            refine goes_ Tryd.func110 (by kernel_rfl) rfl #[.int .i64 (rd x0_2 x7_2), .int .i64 (rd x0_2 (ji8))] (by rfl) rfl rfl (by (try simp only [List.map_toArray, List.map_cons, List.map_nil]); first | done | (simp only [hji8]; rfl) | rfl | (simp only [List.length_drop, List.length_take]; rfl)) ?_
            with_reducible refine (cmp_Less_int.calls (rd x0_2 x7_2) (rd x0_2 (ji8)) true _ A11.out).mono ?_
            rintro e w' ⟨rfl, ⟨nd, rfl⟩⟩
            refine ⟨_, rfl, ?_⟩
            refine hK.out _ _ ⟨hHeld.1, hHeld.2⟩ (fun hHeld => ?_)
            clear hK K
            refine nm 29 ?_
            refine pu HT_ 14 (some 30) (bs 15 32767) ?_
            refine done_ (done_of HT_.out (by kernel_rfl)) ?_
            try go_wp2
            (try (rw [drewN_self w15]; generalize hq_ : World.drewN w15 _ = w15; have n0_ : Aside0 (Kd.R (Kd.int .i64) 3 w15 w0.heap.size (fun k_ => (P0_ k_ ∨ w.heap.size ≤ k_)) (.slice (some ad110) x0_2.length co16) x0_2) := ⟨by rw [← hq_]; exact (by (with_reducible repeat (first | apply Kd.R_alloc | apply Kd.R_drewN | apply Kd.R_drew)); exact HO_0.out)⟩; have n1_ : Aside0 (Kept w w15 (fun k_ => P0_ k_)) := ⟨by rw [← hq_]; exact (by repeat (first | (with_reducible first | exact HK.out | apply Kept.alloc | apply Kept.drewN | apply Kept.drew) | exact HK.out))⟩; have n2_ : Aside0 (Below w0.heap.size w0 w15) := ⟨by rw [← hq_]; exact (bw HB)⟩; clear HO_0 HK HB hq_; have HO_0 := n0_; have HK := n1_; have HB := n2_; clear n0_ n1_ n2_))
            have n0_ := Aside0.mk (Kd.R_drew HO_0.out)
            have n1_ := Aside0.mk (Kept.drew HK.out)
            have n2_ := Aside0.mk (below_drew1 HB.out)
            clear HO_0
            clear HK
            clear HB
            have HO_0 := n0_
            have HK := n1_
            have HB := n2_
            clear n0_ n1_ n2_
            have p113 : 0 ≤ ((ji8) : Int) := of_decide_eq_true (by first | (with_reducible assumption) | assumption)
            have q113 : (ji8) < (x0_2.length : Int) := of_decide_eq_true (by first | (with_reducible assumption) | assumption)
            obtain ⟨ad113, e113, hx113_0⟩ := Kd.at_int (Kd.R_reads' HO_0.out).2.2 (ji8) p113 q113
            obtain rfl : ad110 = ad113 := (by injection e113)
            replace p113 := eq_true p113
            replace q113 := eq_true q113
            have p114 : 0 ≤ (x7_2 : Int) := of_decide_eq_true (by first | (with_reducible assumption) | assumption)
            have q114 : x7_2 < (x0_2.length : Int) := of_decide_eq_true (by first | (with_reducible assumption) | assumption)
            obtain ⟨ad114, e114, hx114_0⟩ := Kd.at_int (Kd.R_reads' HO_0.out).2.2 x7_2 p114 q114
            obtain rfl : ad110 = ad114 := (by injection e114)
            replace p114 := eq_true p114
            replace q114 := eq_true q114
            have p13 : 0 ≤ (x7_2 : Int) := of_decide_eq_true (by first | (with_reducible assumption) | assumption)
            have q13 : (x7_2 : Int) < ((x0_2.length : Int) : Int) := of_decide_eq_true (by first | (with_reducible assumption) | assumption)
            obtain ⟨go13, co13, eo13, gb13, gl13, cl13, HG13⟩ := Kd.R_form HO_0.out (by omega)
            (first | cases eo13 | (injection eo13 with ea_ en_ ec_; (first | subst ea_ | (injection ea_ with ea_; subst ea_)); subst ec_; clear en_))
            have GB13 := Aside0.mk gb13
            have GG13 := Aside0.mk HG13
            clear gb13 gl13 HG13
            have HMgo13 := Aside0.mk (show (P0_ go13 ∨ w.heap.size ≤ go13) from (HO_0.out.1 _ rfl))
            (first | simp only [add_plain] at hx110_0 | skip)
            (first | simp only [add_plain] at hx111_0 | skip)
            (first | simp only [add_plain] at hx113_0 | skip)
            (first | simp only [add_plain] at hx114_0 | skip)
            obtain ⟨hx13_0, hf13_0⟩ := Kd.R_celln 0 HO_0.out (x7_2 : Int) p13 q13
            replace p13 := eq_true p13
            replace q13 := eq_true q13
            have HP18 := Kd.R_putn HO_0.out (x7_2 : Int) (rd x0_2 (ji8))
            rw [← Ny115.out] at HP18
            have HQ18 := Aside0.mk HP18
            clear HP18
            have p14 : 0 ≤ ((ji8) : Int) := of_decide_eq_true (by first | (with_reducible assumption) | assumption)
            have q14 : ((ji8) : Int) < ((x0_2.length : Int) : Int) := of_decide_eq_true (by first | (with_reducible assumption) | assumption)
            obtain ⟨hx14_0, hf14_0⟩ := Kd.R_celln 0 HQ18.out ((ji8) : Int) p14 q14
            replace p14 := eq_true p14
            replace q14 := eq_true q14
            have HP19 := Kd.R_putn HQ18.out ((ji8) : Int) (rd x0_2 x7_2)
            rw [← Ny116.out] at HP19
            have HQ19 := Aside0.mk HP19
            clear HP19
            refine start_ (n := 18) (S := fun w' => w'.cell? ⟨go13, ((ji8)).toNat, none⟩ = some (.int .i64 (rd x0_2 (ji8))) ∧ w'.cell? ⟨go13, (x7_2).toNat, none⟩ = some (.int .i64 (rd x0_2 x7_2))) (ds := [15, 17]) (bs 18 0) (by kernel_rfl) rfl rfl ⟨hx113_0, hx114_0⟩ (fun hHeld => ?_); refine with_tabW slices_insertionSortOrdered_int.tab6 slices_insertionSortOrdered_int.bits6 (fun HT_ HW_ => ?_)
            generalize w15.drew = w17 at HO_0 HK HB GG13 HQ18 HQ19 hf13_0 hf14_0 hx110_0 hx111_0 hx113_0 hx114_0 hx13_0 hx14_0 hHeld ⊢
            refine pu HT_ 0 (some 33) (bs 18 1) ?_
            refine pu HT_ 1 (some 34) (bs 18 3) ?_
            refine pu HT_ 2 (some 35) (bs 18 7) ?_
            refine pu HT_ 3 (some 36) (bs 18 15) ?_
            refine pu HT_ 4 (some 37) (bs 18 31) ?_
            refine pu HT_ 5 (some 38) (bs 18 63) ?_
            refine pu HT_ 6 (some 39) (bs 18 127) ?_
            refine pu HT_ 7 (some 40) (bs 18 255) ?_
            refine pu HT_ 8 (some 41) (bs 18 511) ?_
            refine pu HT_ 10 (some 43) (bs 18 1535) ?_
            refine pu HT_ 11 (some 44) (bs 18 3583) ?_
            refine pu HT_ 12 (some 45) (bs 18 7679) ?_
            refine tk2 HT_ HW_ hHeld 9 (some 42) (bs 18 8191) ?_
            refine tk2 HT_ HW_ hHeld 13 (some 46) (bs 18 16383) ?_
            refine pu HT_ 14 (some 47) (bs 18 32767) ?_
            refine last_ (i := 15) (N := none) (bs 18 65535) rfl rfl (one_of HT_.out (by kernel_rfl)) (by decide) (fun K hK => ?_)
            refine skip_ (w1 := ?_) (by rfl) rfl ?_ ?_
            rotate_left
            ·go_simp
             rfl
            refine hK.out _ _ ?_
            clear hK K
            refine pu HT_ 16 (some 48) (bs 18 131071) ?_
            refine last_ (i := 17) (N := none) (bs 18 262143) rfl rfl (one_of HT_.out (by kernel_rfl)) (by decide) (fun K hK => ?_)
            refine skip_ (w1 := ?_) (by rfl) rfl ?_ ?_
            rotate_left
            ·go_simp
             rfl
            refine hK.out _ _ ?_
            clear hK K
            refine done_ (done_of HT_.out (by kernel_rfl)) ?_
            try go_wp2
            go_roundg k2
            case measure => have := HK1.out; have := HK2.out; omega
            case rel => exact ⟨(y116), (ji8), (by first | rfl | (simp; done) | (simp only [← hji8] <;> (first | rfl | simp)) | (simp [*]; done)), H', ⟨by have := HK1.out; have := HK2.out; omega⟩, ⟨by (with_reducible repeat (first | apply Kd.R_alloc | apply Kd.R_drewN | apply Kd.R_drew)); exact HQ19.out⟩, ⟨by repeat (first | (with_reducible first | exact HK.out | apply Kept.alloc | apply Kept.drewN | apply Kept.drew | refine Kept.setCell ?_ HMgo13.out _ | refine Kept.setCell ?_ HMgo13.out _) | exact HK.out)⟩, ⟨bw2 HB GB13 GB13⟩⟩
           ·replace c12 := Bool.eq_false_iff.mpr c12
            subst c12
            have H1 : (slices_insertionSortOrdered_int.l0 k2 x0_2 a1 a2 (wrap64 (x6_1 + 1))) = some r := by rw [if_neg (show ¬ (false = true) by decide)] at H; exact H
            clear H
            have H := H1
            clear H1
            have H' := Aside0.mk H
            clear H
            try go_wp2
            have n0_ := Aside0.mk (Kd.R_drew HO_0.out)
            have n1_ := Aside0.mk (Kept.drew HK.out)
            have n2_ := Aside0.mk (below_drew1 HB.out)
            clear HO_0
            clear HK
            clear HB
            have HO_0 := n0_
            have HK := n1_
            have HB := n2_
            clear n0_ n1_ n2_
            obtain ⟨Ao21, co21, eo21⟩ := Kd.R_slice HO_0.out
            (first | subst eo21 | (injection eo21 with f1_ f2_ f3_; have f4_ := f1_.symm; have f5_ := f3_.symm; clear f1_ f2_ f3_; subst f4_; subst f5_))
            have p110 : 0 ≤ (x7_2 : Int) := of_decide_eq_true (by first | (with_reducible assumption) | assumption)
            have q110 : x7_2 < (x0_2.length : Int) := of_decide_eq_true (by first | (with_reducible assumption) | assumption)
            obtain ⟨ad110, e110, hx110_0⟩ := Kd.at_int (Kd.R_reads' HO_0.out).2.2 x7_2 p110 q110
            cases e110
            replace p110 := eq_true p110
            replace q110 := eq_true q110
            have p111 : 0 ≤ ((ji8) : Int) := of_decide_eq_true (by first | (with_reducible assumption) | assumption)
            have q111 : (ji8) < (x0_2.length : Int) := of_decide_eq_true (by first | (with_reducible assumption) | assumption)
            obtain ⟨ad111, e111, hx111_0⟩ := Kd.at_int (Kd.R_reads' HO_0.out).2.2 (ji8) p111 q111
            obtain rfl : ad110 = ad111 := (by injection e111)
            replace p111 := eq_true p111
            replace q111 := eq_true q111
            refine start_ (n := 15) (S := fun w' => w'.cell? (ad110.add (x7_2).toNat) = some (.int .i64 (rd x0_2 x7_2)) ∧ w'.cell? (ad110.add ((ji8)).toNat) = some (.int .i64 (rd x0_2 (ji8)))) (ds := []) (bs 15 0) (by kernel_rfl) rfl rfl ⟨hx110_0, hx111_0⟩ (fun hHeld => ?_); refine with_tabW slices_insertionSortOrdered_int.tab4 slices_insertionSortOrdered_int.bits4 (fun HT_ HW_ => ?_)
            generalize wr.drew = w20 at HO_0 HK HB hx110_0 hx111_0 hHeld ⊢
            refine pu HT_ 0 (some 16) (bs 15 1) ?_
            refine pu HT_ 1 (some 17) (bs 15 3) ?_
            refine pu HT_ 2 (some 18) (bs 15 7) ?_
            refine pu HT_ 3 (some 19) (bs 15 15) ?_
            refine pu HT_ 4 (some 20) (bs 15 31) ?_
            refine pu HT_ 5 (some 21) (bs 15 63) ?_
            refine pu HT_ 6 (some 22) (bs 15 127) ?_
            refine pu HT_ 8 (some 24) (bs 15 383) ?_
            refine pu HT_ 9 (some 25) (bs 15 895) ?_
            refine pu HT_ 10 (some 26) (bs 15 1919) ?_
            refine pu HT_ 11 (some 27) (bs 15 3967) ?_
            refine tk2 HT_ HW_ hHeld 7 (some 23) (bs 15 4095) ?_
            refine tk2 HT_ HW_ hHeld 12 (some 28) (bs 15 8191) ?_
            refine on HT_ 13 (some 29) (bs 15 16383) (fun K hK => ?_)
            refine goes_ Tryd.func110 (by kernel_rfl) rfl #[.int .i64 (rd x0_2 x7_2), .int .i64 (rd x0_2 (ji8))] (by rfl) rfl rfl (by (try simp only [List.map_toArray, List.map_cons, List.map_nil]); first | done | (simp only [hji8]; rfl) | rfl | (simp only [List.length_drop, List.length_take]; rfl)) ?_
            with_reducible refine (cmp_Less_int.calls (rd x0_2 x7_2) (rd x0_2 (ji8)) false _ A11.out).mono ?_
            rintro e w' ⟨rfl, ⟨nd, rfl⟩⟩
            refine ⟨_, rfl, ?_⟩
            refine hK.out _ _ ⟨hHeld.1, hHeld.2⟩ (fun hHeld => ?_)
            clear hK K
            refine nm 29 ?_
            refine pu HT_ 14 (some 30) (bs 15 32767) ?_
            refine done_ (done_of HT_.out (by kernel_rfl)) ?_
            try go_wp2
            go_roundg k2
            case measure => have := HK1.out; have := HK2.out; omega
            case rel => exact ⟨(x0_2), (wrap64 (x6_1 + 1)), (by first | rfl | (simp; done) | (simp [*]; done)), H', ⟨by have := HK1.out; have := HK2.out; omega⟩, ⟨by (with_reducible repeat (first | apply Kd.R_alloc | apply Kd.R_drewN | apply Kd.R_drew)); exact HO_0.out⟩, ⟨by repeat (first | (with_reducible first | exact HK.out | apply Kept.alloc | apply Kept.drewN | apply Kept.drew) | exact HK.out)⟩, ⟨bw HB⟩⟩
          ·rw [if_neg c10] at H
           exact absurd H (by simp)
         ·rw [if_neg c9] at H
          exact absurd H (by simp)
        ·rw [if_neg c7] at H
         exact absurd H (by simp)
       ·rw [if_neg c6] at H
        exact absurd H (by simp)
      ·rw [if_neg c5] at H
       have c5b0 : decide (a1 < x7_2) = false := decide_eq_false c5
       clear c5
       have H' := Aside0.mk H
       clear H
       try go_wp2
       have n0_ := Aside0.mk (Kd.R_drew HO_0.out)
       have n1_ := Aside0.mk (Kept.drew HK.out)
       have n2_ := Aside0.mk (below_drew1 HB.out)
       clear HO_0
       clear HK
       clear HB
       have HO_0 := n0_
       have HK := n1_
       have HB := n2_
       clear n0_ n1_ n2_
       refine start_ (n := 15) (S := fun w' => True) (ds := []) (bs 15 0) (by kernel_rfl) rfl rfl trivial (fun hHeld => ?_); refine with_tabW slices_insertionSortOrdered_int.tab4 slices_insertionSortOrdered_int.bits4 (fun HT_ HW_ => ?_)
       generalize wr.drew = w22 at HO_0 HK HB hHeld ⊢
       refine pu HT_ 0 (some 16) (bs 15 1) ?_
       refine pu HT_ 1 (some 17) (bs 15 3) ?_
       refine pu HT_ 2 (some 18) (bs 15 7) ?_
       refine pu HT_ 3 (some 19) (bs 15 15) ?_
       refine pn HT_ 4 (some 20) (bs 15 31) ?_
       refine pn HT_ 5 (some 21) (bs 15 63) ?_
       refine pn HT_ 6 (some 22) (bs 15 127) ?_
       refine pn HT_ 7 (some 23) (bs 15 255) ?_
       refine pn HT_ 8 (some 24) (bs 15 511) ?_
       refine pn HT_ 9 (some 25) (bs 15 1023) ?_
       refine pn HT_ 10 (some 26) (bs 15 2047) ?_
       refine pn HT_ 11 (some 27) (bs 15 4095) ?_
       refine pn HT_ 12 (some 28) (bs 15 8191) ?_
       refine pn HT_ 13 (some 29) (bs 15 16383) ?_
       refine pu HT_ 14 (some 30) (bs 15 32767) ?_
       refine done_ (done_of HT_.out (by kernel_rfl)) ?_
       try go_wp2
       go_roundg k2
       case measure => have := HK1.out; have := HK2.out; omega
       case rel => exact ⟨(x0_2), (wrap64 (x6_1 + 1)), (by first | rfl | (simp; done) | (simp [*]; done)), H', ⟨by have := HK1.out; have := HK2.out; omega⟩, ⟨by (with_reducible repeat (first | apply Kd.R_alloc | apply Kd.R_drewN | apply Kd.R_drew)); exact HO_0.out⟩, ⟨by repeat (first | (with_reducible first | exact HK.out | apply Kept.alloc | apply Kept.drewN | apply Kept.drew) | exact HK.out)⟩, ⟨bw HB⟩⟩
   ·rw [if_neg c4] at H
    have c4b0 : decide (x6_1 < a2) = false := decide_eq_false c4
    clear c4
    obtain rfl := Option.some.inj H
    go_wp2
    first | go_end0 | ((try simp only [Exit.inBlock, Exit.then]); refine bodyPost_ret (results_none rfl _ _ _) rfl ?_)
    exact ⟨by first | rfl | (simp [errW_none, errW_some] <;> rfl) | (simp [*, errW_none, errW_some] <;> rfl), by (with_reducible repeat (first | apply Kd.R_alloc | apply Kd.R_drewN | apply Kd.R_drew)); exact HO_0.out, by repeat (first | (with_reducible first | exact HB.out | apply below_alloc | apply pw_below_drewN | apply below_drew1) | exact HB.out), by repeat (first | (with_reducible first | exact HK.out | apply Kept.alloc | apply Kept.drewN | apply Kept.drew) | exact HK.out)⟩
def gang_greatest_int.l0 : Nat → Int → List Int → Int → Int → Option (Int)
 | 0, _, _, _, _ => none
 | k + 1, x0, x7, x8, x9 => if x9 < x8 then (if 0 ≤ x9 then (if x9 < (x7.length : Int) then (gang_greatest_int.l0 k (mx x0 (rd x7 x9)) x7 x8 (wrap64 (x9 + 1))) else (none)) else (none)) else (some x0)
def gang_greatest_int.f (k : Nat) (a0 : Int) (l1 : List Int) : Option (Int) := gang_greatest_int.l0 k a0 l1 (l1.length : Int) 0
set_option maxHeartbeats 8000000 in
set_option maxRecDepth 100000 in
theorem gang_greatest_int.calls (k : Nat) (a0 : Int) (A1 : Option Addr) (c1 : Nat) (l1 : List Int) (r : Int) (w : World) (hr1 : Kd.C (Kd.int .i64) w A1 l1.length l1) (hc1 : l1.length ≤ c1) (h : gang_greatest_int.f k a0 l1 = some r) :
  Calls Tryd.prog 84 #[.int .i64 a0, .slice A1 l1.length c1] w fun e w' => e = .returned (.int .i64 r) ∧ Below w.heap.size w w' := by
 have HR1 := Aside0.mk hr1
 have HC1 := Aside0.mk hc1
 clear hr1 hc1
 have HB := Aside0.mk (Below.refl w.heap.size w)
 have H : (gang_greatest_int.l0 k a0 l1 (l1.length : Int) 0) = some r := h
 clear h
 have H' := Aside0.mk H
 clear H
 go_enter Tryd.func84, Tryd.ntmps84
 go_wp2
 go_loopg [0, 9] k (fun kq v0 v9 w' => ∃ (x0_1 : Int) (x9_1 : Int), v0 = .int .i64 x0_1 ∧ v9 = .int .i64 x9_1 ∧ Aside0 (gang_greatest_int.l0 kq x0_1 l1 (l1.length : Int) x9_1 = some r) ∧ Aside0 (kq ≤ k) ∧ Aside0 (Below w.heap.size w w'))
 case atStart => exact ⟨(a0), (0), (by first | rfl | (simp; done) | (simp [*]; done)), (by first | rfl | (simp; done) | (simp [*]; done)), H', ⟨Nat.le_refl _⟩, ⟨bw HB⟩⟩
 case round =>
  clear H'
  try clear c1
  try clear p2
  obtain ⟨x0_1, x9_1, rfl, rfl, HA, HK1, HB⟩ := hrel
  cases gk with
  | zero => exact absurd HA.out (by simp [gang_greatest_int.l0])
  | succ k1 =>
   have H := HA.out
   clear HA
   simp only [gang_greatest_int.l0] at H
   by_cases c3 : x9_1 < (l1.length : Int)
   ·rw [if_pos c3] at H
    have c3b0 : decide (x9_1 < (l1.length : Int)) = true := decide_eq_true c3
    clear c3
    by_cases c4 : 0 ≤ x9_1
    ·rw [if_pos c4] at H
     have c4b0 : decide (0 ≤ x9_1) = true := decide_eq_true c4
     clear c4
     by_cases c5 : x9_1 < (l1.length : Int)
     ·rw [if_pos c5] at H
      have c5b0 : decide (x9_1 < (l1.length : Int)) = true := decide_eq_true c5
      clear c5
      obtain ⟨ji6, hji6⟩ : ∃ j_ : Int, (mx x0_1 (rd l1 x9_1)) = j_ := ⟨_, rfl⟩
      replace H : (gang_greatest_int.l0 k1 ji6 l1 (l1.length : Int) (wrap64 (x9_1 + 1))) = some r := by first | (rw [hji6] at H; exact H) | (simp only [hji6] at H ⊢; exact H)
      have hji6_ : (if x0_1 < (rd l1 x9_1) then (rd l1 x9_1) else x0_1) = ji6 := hji6
      have H' := Aside0.mk H
      clear H
      have p117 : 0 ≤ (x9_1 : Int) := of_decide_eq_true (by first | (with_reducible assumption) | assumption)
      have q117 : x9_1 < (l1.length : Int) := of_decide_eq_true (by first | (with_reducible assumption) | assumption)
      obtain ⟨ad117, e117, hx117_0⟩ := Kd.at_int HR1.out x9_1 p117 q117
      cases e117
      replace hx117_0 := cB HB hx117_0
      replace p117 := eq_true p117
      replace q117 := eq_true q117
      go_wp2
      go_roundg k1
      case measure => have := HK1.out; omega
      case rel => exact ⟨(ji6), (wrap64 (x9_1 + 1)), (by first | rfl | (simp; done) | (simp only [← hji6] <;> (first | rfl | simp)) | (simp [*]; done)), (by first | rfl | (simp; done) | (simp [*]; done)), H', ⟨by have := HK1.out; omega⟩, ⟨bw HB⟩⟩
     ·rw [if_neg c5] at H
      exact absurd H (by simp)
    ·rw [if_neg c4] at H
     exact absurd H (by simp)
   ·rw [if_neg c3] at H
    have c3b0 : decide (x9_1 < (l1.length : Int)) = false := decide_eq_false c3
    clear c3
    obtain rfl := Option.some.inj H
    go_wp2
    go_ret
    exact ⟨by first | rfl | (simp [errW_none, errW_some] <;> rfl) | (simp [*, errW_none, errW_some] <;> rfl), bw HB⟩
end Go.Proofs.YtikfghnkbgdbgaaDoor.L
end
section
namespace Go.Proofs.YtikfghnkbgdbgaaDoor.Q
set_option linter.unusedSimpArgs false
set_option linter.unusedVariables false
open Go.RowKit Go.Proofs.YtikfghnkbgdbgaaDoorW.PrintWords Go.Proofs.YtikfghnkbgdbgaaDoorW.PrintLast Go.Proofs.YtikfghnkbgdbgaaDoorW.PrintMore
theorem isort_law (l : List Int) (hl : l.length ≤ 2) : L.slices_insertionSortOrdered_int.f 4 l 0 (l.length : Int) = some (sortI l) := by
  have e : wrap64 1 = 1 := by unfold wrap64; omega
  have e2 : wrap64 0 = 0 := by unfold wrap64; omega
  have e3 : wrap64 2 = 2 := by unfold wrap64; omega
  match l, hl with
  | [], _ => simp [L.slices_insertionSortOrdered_int.f, L.slices_insertionSortOrdered_int.l0, e, sortI]
  | [a], _ => simp [L.slices_insertionSortOrdered_int.f, L.slices_insertionSortOrdered_int.l0, e, sortI, ins]
  | [a, b], _ =>
    by_cases h : b < a
    · simp [L.slices_insertionSortOrdered_int.f, L.slices_insertionSortOrdered_int.l0, L.slices_insertionSortOrdered_int.l1, L.cmp_Less_int.f, L.cmp_isNaN_int.f, rd, e, e2, e3, sortI, ins, h, Int.not_le.2 h]
    · simp [L.slices_insertionSortOrdered_int.f, L.slices_insertionSortOrdered_int.l0, L.slices_insertionSortOrdered_int.l1, L.cmp_Less_int.f, L.cmp_isNaN_int.f, rd, e, e2, e3, sortI, ins, h, Int.not_lt.1 h]
  | _ :: _ :: _ :: _, h => simp at h
set_option maxRecDepth 100000 in
set_option maxHeartbeats 1000000 in
theorem len64_calls (x : Int) (hx : x = 0 ∨ x = 1 ∨ x = 2) (w : World) : Calls Tryd.prog 114 #[.int .u64 x] w fun e w' => ∃ r, e = .returned (.int .i64 r) ∧ Below w.heap.size w w' := by
  rcases hx with rfl | rfl | rfl
  all_goals
    go_enter Tryd.func114, Tryd.ntmps114
    go_wp2
    go_ret
    exact ⟨_, rfl, Below.refl _ _⟩
set_option maxRecDepth 100000 in
set_option maxHeartbeats 1000000 in
theorem len_calls (x : Int) (hx : x = 0 ∨ x = 1 ∨ x = 2) (w : World) : Calls Tryd.prog 93 #[.int .u64 x] w fun e w' => ∃ r, e = .returned (.int .i64 r) ∧ Below w.heap.size w w' := by
  have HX := Aside0.mk hx
  clear hx
  go_enter Tryd.func93, Tryd.ntmps93
  go_wp2_with (fail)
  refine (len64_calls x HX.out _).mono ?_
  rintro e w1 ⟨r, rfl, hb⟩
  have HB := Aside0.mk hb
  clear hb
  go_wp2
  go_ret
  exact ⟨_, rfl, HB.out⟩
set_option maxRecDepth 100000 in
set_option maxHeartbeats 1000000 in
theorem pdq_calls (l : List Int) (hl : l.length ≤ 2) (u : Value) (lim : Int) (w0 w : World) (hB : Below w0.heap.size w0 w) (ho : Kd.R (Kd.int .i64) 3 w w0.heap.size (fun _ => True) u l) :
    Calls Tryd.prog 92 #[u, .int .i64 0, .int .i64 l.length, .int .i64 lim] w fun e w' => e = .returned (.tuple #[]) ∧ Kd.R (Kd.int .i64) 3 w' w0.heap.size (fun _ => True) u (sortI l) ∧ Below w0.heap.size w0 w' := by
  have HB := Aside0.mk hB
  have HO := Aside0.mk ho
  clear hB ho
  go_enter Tryd.func92, Tryd.ntmps92
  have hl12 : (l.length : Int) ≤ 12 := by omega
  have hw : wrap64 ((l.length : Int) - 0) = l.length := by unfold wrap64; omega
  go_wp2_with (fail)
  go_loopw [1, 2] (fun v1 v2 wr => v1 = .int .i64 0 ∧ v2 = .int .i64 l.length ∧ Aside0 (w = wr)) (fun _ _ _ => 0)
  case atStart => exact ⟨rfl, rfl, ⟨rfl⟩⟩
  case round =>
    obtain ⟨rfl, rfl, ⟨rfl⟩⟩ := hrel
    go_wp2_with (fail)
    refine (L.slices_insertionSortOrdered_int.calls 4 (fun _ => True) u l 0 l.length (sortI l) w0 w HB.out HO.out (isort_law l hl)).mono ?_
    rintro e w1 ⟨rfl, hr, hb, _⟩
    have HR := Aside0.mk (Kd.R_mono (ok' := fun _ => True) hr (fun _ _ => trivial))
    have HB1 := Aside0.mk hb
    clear hr hb
    go_wp2
    exact bodyPost_ret (v := .tuple #[]) (by simp [results, Tryd.results92, go_sem]) rfl ⟨rfl, HR.out, HB1.out⟩
set_option maxRecDepth 100000 in
set_option maxHeartbeats 1000000 in
theorem sort_calls (l : List Int) (hl : l.length ≤ 2) (u : Value) (w0 w : World) (hB : Below w0.heap.size w0 w) (ho : Kd.R (Kd.int .i64) 3 w w0.heap.size (fun _ => True) u l) :
    Calls Tryd.prog 70 #[u] w fun e w' => e = .returned (.tuple #[]) ∧ Kd.R (Kd.int .i64) 3 w' w0.heap.size (fun _ => True) u (sortI l) ∧ Below w0.heap.size w0 w' := by
  obtain ⟨A, c, rfl⟩ := Kd.R_slice ho
  have HB := Aside0.mk hB
  have HO := Aside0.mk ho
  have HL := Aside0.mk hl
  have hx : (l.length : Int) = 0 ∨ (l.length : Int) = 1 ∨ (l.length : Int) = 2 := by omega
  have HX := Aside0.mk hx
  have hx2 : (l.length : Int) ≤ 2 := by omega
  clear hB ho hl hx
  go_enter Tryd.func70, Tryd.ntmps70
  go_wp2_with (fail)
  refine (len_calls l.length HX.out _).mono ?_
  rintro e w1 ⟨r, rfl, hb⟩
  have HB1 := Aside0.mk (below_then HB.out HB.out.size hb)
  have HO1 := Aside0.mk (Kd.R_below HO.out hb)
  clear hb
  go_wp2_with (fail)
  refine (pdq_calls l HL.out _ _ w0 _ HB1.out HO1.out).mono ?_
  rintro e w2 ⟨rfl, hr, hb⟩
  have HR := Aside0.mk hr
  have HB2 := Aside0.mk hb
  clear hr hb
  go_wp2
  exact bodyPost_end (v := .tuple #[]) (by simp [results, Tryd.results70, go_sem]) rfl ⟨rfl, HR.out, HB2.out⟩
end Go.Proofs.YtikfghnkbgdbgaaDoor.Q
end
section
namespace Go.Proofs.YtikfghnkbgdbgaaDoor.Q
set_option linter.unusedSimpArgs false
set_option linter.unusedVariables false
open Go.RowKit Go.Proofs.YtikfghnkbgdbgaaDoorW.PrintWords Go.Proofs.YtikfghnkbgdbgaaDoorW.PrintLast Go.Proofs.YtikfghnkbgdbgaaDoorW.PrintMore
def shutL (t : Int) (p : List Wk) : List Int := (p.filter (fun y => decide (y.f0 = t))).map (·.f2)
theorem shutL_take (t : Int) (p : List Wk) (k : Nat) (hk : k < p.length) : shutL t (p.take (k + 1)) = shutL t (p.take k) ++ (if (rd_T59 p k).f0 = t then [(rd_T59 p k).f2] else []) := by
  show _ = shutL t (p.take k) ++ (if (W3 p k).f0 = t then [(W3 p k).f2] else [])
  rw [take_W3 p k hk, shutL, shutL, List.filter_append, List.map_append]
  congr 1
  by_cases h : (W3 p k).f0 = t <;> simp [h]
theorem short3 {l : List Wk} (h : List.Pairwise (fun y x => y.f1 < x.f1) l) (hb : ∀ y ∈ l, 0 ≤ y.f1 ∧ y.f1 < 2) : l.length ≤ 2 := by
  match l, h, hb with
  | [], _, _ => simp
  | [_], _, _ => simp
  | [_, _], _, _ => simp
  | x :: y :: z :: r, h, hb =>
    have h1 := (List.pairwise_cons.1 h).1 y (by simp)
    have h2 := (List.pairwise_cons.1 (List.pairwise_cons.1 h).2).1 z (by simp)
    have h3 := hb x (by simp)
    have h4 := hb z (by simp)
    omega
theorem shutL_len {ms : List M} {gs : List G} {n : Int} {p : List Wk} (h : planB ms gs n p = true) (hg : gs.length ≤ 2) (t : Int) : (shutL t p).length ≤ 2 := by
  obtain ⟨h1, h2, _⟩ := planFrom_all p [] h
  have can : ∀ y ∈ p, canB ms gs n y = true := by
    intro y hy
    obtain ⟨j, hj, rfl⟩ := List.mem_iff_getElem.1 hy
    have := h1 j hj
    simpa [W3, rd_T59, List.getD_eq_getElem?_getD, List.getElem?_eq_getElem hj] using this
  have pw : List.Pairwise (fun y x => behindB y x = true) p := by
    rw [List.pairwise_iff_getElem]
    intro i j hi hj hij
    have := h2 i j hij hj
    simpa [W3, rd_T59, List.getD_eq_getElem?_getD, List.getElem?_eq_getElem hj, List.getElem?_eq_getElem hi] using this
  have pw2 : List.Pairwise (fun y x => y.f1 < x.f1) (p.filter (fun y => decide (y.f0 = t))) := by
    refine List.Pairwise.imp_of_mem ?_ (pw.filter _)
    intro a b ha hb hab
    have ha1 := List.mem_filter.1 ha
    have hb1 := List.mem_filter.1 hb
    have e1 : a.f0 = t := of_decide_eq_true ha1.2
    have e2 : b.f0 = t := of_decide_eq_true hb1.2
    have := behind_lt (can b hb1.1) (can a ha1.1) hg hab
    omega
  unfold shutL
  rw [List.length_map]
  refine short3 pw2 fun y hy => ?_
  have := canB_bounds (can y (List.mem_filter.1 hy).1)
  omega
theorem shutL_take_len (t : Int) (p : List Wk) (k : Nat) : (shutL t (p.take k)).length ≤ k := by
  unfold shutL
  rw [List.length_map]
  exact Nat.le_trans (List.length_filter_le _ _) (by simp; omega)
set_option maxRecDepth 100000 in
set_option maxHeartbeats 2000000 in
theorem gang_Closed.calls (A0_0 : Option Addr) (c0_0 : Nat) (l0_0 : List (M)) (A0_1 : Option Addr) (c0_1 : Nat) (l0_1 : List (G)) (a0_2 : Int) (A1 : Option Addr) (c1 : Nat) (l1 : List (Wk)) (a2 : Int) (r1 : List Int) (r2 : Int) (w : World) (hr0_0 : Kd.C k66 w A0_0 l0_0.length l0_0) (hc0_0 : l0_0.length ≤ c0_0) (hr0_1 : Kd.C k63 w A0_1 l0_1.length l0_1) (hc0_1 : l0_1.length ≤ c0_1) (hr1 : Kd.C k59 w A1 l1.length l1) (hc1 : l1.length ≤ c1) (hG : GV w) (h : gang_Closed.f l0_0 l0_1 a0_2 l1 a2 = some (r1, r2)) :
    Calls Tryd.prog 22 #[.agg #[.slice A0_0 l0_0.length c0_0, .slice A0_1 l0_1.length c0_1, .int .i64 a0_2], .slice A1 l1.length c1, .int .i64 a2] w fun e w' => ∃ v0_ : Value, e = .returned (.tuple #[v0_, .int .i64 r2]) ∧ Kd.V (Kd.int .i64) 3 w' w.heap.size (fun k_ => (w.heap.size ≤ k_)) v0_ r1 ∧ Below w.heap.size w w' := by
  have HR0 := Aside0.mk hr0_0
  have HR1 := Aside0.mk hr0_1
  have HR2 := Aside0.mk hr1
  have HG0 := Aside0.mk hG
  have H := Aside0.mk h
  have hB := ((Below.refl w.heap.size w).alloc (Nat.le_refl _) (.cells #[.slice A0_0 l0_0.length c0_0, .slice A0_1 l0_1.length c0_1, .int .i64 a0_2] 25))
  have HB := Aside0.mk hB
  have hx := World.alloc_heap_new w (.cells #[.slice A0_0 l0_0.length c0_0, .slice A0_1 l0_1.length c0_1, .int .i64 a0_2] 25)
  have HX := Aside0.mk hx
  clear hr0_0 hr0_1 hr1 hG hB h hx
  go_enter Tryd.func22, Tryd.ntmps22
  go_wp2_with (fail)
  refine (asked_any l0_0 l0_1 A0_0 c0_0 A0_1 c0_1 a0_2 A1 c1 l1 _ (Kd.C_below HR0.out HB.out) hc0_0 (Kd.C_below HR1.out HB.out) hc0_1 (Kd.C_below HR2.out HB.out) hc1 (gv_below HG0.out HB.out)).mono ?_
  rintro e w1 ⟨B0, n0, d0, B1, n1, d1, m, bm, E, rfl, hE, hs, hb⟩
  have HB1 := Aside0.mk (below_then HB.out HB.out.size hb)
  have HX1 := Aside0.mk ((hb.block w.heap.size (by simp)).trans HX.out)
  have hxl := (Array.getElem?_eq_some_iff.1 HX1.out).1
  clear hb
  by_cases hE0 : E = 0
  · obtain ⟨b, ⟨rfl, rfl, rfl⟩, ⟨rfl, rfl, rfl⟩, rfl, rfl, hm, hl⟩ := hs hE0
    subst hE0
    have HE := Aside0.mk hE
    have hbd := okB_bounds (askedE_ok hE.symm).1
    have hg2 := hbd.2.1.2
    have hn4 : a0_2 ≤ 4 := by omega
    have HB2 := Aside0.mk (HB1.out.alloc HB1.out.size (.cells #[.slice A0_0 l0_0.length c0_0, .slice A0_1 l0_1.length c0_1, .int .i64 a0_2, .map (some b)] 86))
    have HH : Aside0 ((if within a2 0 (a0_2 - 1) = true then some (sortI (shutL a2 l1), (0 : Int)) else some ([], 41)) = some (r1, r2)) := ⟨by rw [← H.out]; unfold gang_Closed.f; rw [if_pos hE.symm]; rfl⟩
    have hx2 := (blk_cell HX1.out 2).trans rfl
    have hn1 : 1 ≤ a0_2 := by omega
    have HN := Aside0.mk hn1
    clear hm hl hs hE hbd
    go_wp2_with (fail)
    cases hw : within a2 0 (a0_2 - 1) with
    | false =>
      have HW := Aside0.mk hw
      have h41 : some (([] : List Int), (41 : Int)) = some (r1, r2) := by rw [← HH.out, if_neg (by rw [HW.out]; simp)]
      obtain ⟨rfl, rfl⟩ : [] = r1 ∧ 41 = r2 := by simpa using h41
      refine (within_calls _ _ _ false hw _).mono ?_
      clear hw h41 HH H
      rintro e w2 ⟨rfl, hb⟩
      have HB3 := Aside0.mk (below_then HB2.out HB2.out.size hb)
      clear hb hx2
      go_wp2
      go_ret2
      exact ⟨_, rfl, Kd.V_nil _ _ _ _ _, HB3.out⟩
    | true =>
      have HW := Aside0.mk hw
      have h0 : some (sortI (shutL a2 l1), (0 : Int)) = some (r1, r2) := by rw [← HH.out, if_pos HW.out]
      obtain ⟨rfl, rfl⟩ : sortI (shutL a2 l1) = r1 ∧ 0 = r2 := by simpa using h0
      refine (within_calls _ _ _ true hw _).mono ?_
      clear hw h0 HH H
      rintro e w2 ⟨rfl, hb⟩
      have HB3 := Aside0.mk (below_then HB2.out HB2.out.size hb)
      have hpl := (plan_fair (askedE_ok HE.out.symm).2 hg2 hn4).len
      clear hb hx2
      go_wp2_with (fail)
      go_loopw [10, 30] (fun v10 v30 wr => ∃ k : Nat, k ≤ l1.length ∧ v30 = .int .i64 k ∧ Aside0 (Kd.R (Kd.int .i64) 3 wr w.heap.size (fun _ => True) v10 (shutL a2 (l1.take k))) ∧ Aside0 (Below w.heap.size w wr)) (fun _ v30 _ => l1.length - (intOf v30).toNat)
      case atStart => exact ⟨0, Nat.zero_le _, rfl, ⟨Kd.R_nil _ _ _ _ _⟩, HB3⟩
      case round =>
        obtain ⟨k, hk, rfl, HR, HY⟩ := hrel
        by_cases hlt : k < l1.length
        · obtain ⟨ad, hA2, hx0, hx1, hx2⟩ := at_T59 (Kd.C_below HR2.out HY.out) (k : Int) (by omega) (by omega)
          have HA2 := Aside0.mk hA2
          rw [Int.toNat_natCast] at hx0 hx1 hx2
          subst hA2
          clear HA2
          have HT := Aside0.mk (shutL_take a2 l1 k hlt)
          have hlen := shutL_take_len a2 l1 k
          have HY2 := Aside0.mk (HY.out.alloc HY.out.size (.cells #[.int .i64 (rd_T59 l1 k).f0, .int .i64 (rd_T59 l1 k).f1, .int .i64 (rd_T59 l1 k).f2] 59))
          have HRR := Aside0.mk (Kd.R_below HR.out ((Below.refl wr.heap.size wr).alloc (Nat.le_refl _) (.cells #[.int .i64 (rd_T59 l1 k).f0, .int .i64 (rd_T59 l1 k).f1, .int .i64 (rd_T59 l1 k).f2] 59)))
          by_cases hc : (rd_T59 l1 k).f0 = a2
          · have hc1 : ((rd_T59 l1 k).f0 == a2) = true := beq_iff_eq.2 hc
            have HC := Aside0.mk hc
            clear hc
            go_wp2_with (first | (at_builtin; refine Kd.R_append (Kd.int .i64) (w0 := w) w.heap.size rfl (.tmp 38) (.tmp 41) 28 3 (.int .i64 0) 8 rfl Tryd.underlying28 info3 rfl (by decide) (by omega) _ (shutL a2 (l1.take k)) (rd_T59 l1 k).f2 [.int .i64 (rd_T59 l1 k).f2] (fun _ => True) (fun _ => False) rfl (by rw [World.size_alloc]; rfl) ?aP (fun _ hk => hk.elim) ?aF ?aO ?aB ?aS ?aL ?_))
            case aP => exact rfl
            case aF => exact fun _ _ => trivial
            case aO => exact HRR.out
            case aB => exact HY2.out
            case aS => exact HY2.out.size
            case aL => omega
            intro v1 w6 ho hb hg hat
            have HY6 := Aside0.mk hb
            have HR6 := Aside0.mk ho
            clear hlen hb hg hat ho hx0 hx1 hx2
            go_wp2
            go_roundw
            case rel => exact ⟨k + 1, by omega, by go_num, ⟨by rw [HT.out, if_pos HC.out]; exact HR6.out⟩, HY6⟩
            case measure => simp [intOf]; omega
          · have hc1 : ((rd_T59 l1 k).f0 == a2) = false := beq_eq_false_iff_ne.2 hc
            have HC := Aside0.mk hc
            clear hc hlen
            go_wp2
            go_roundw
            case rel => exact ⟨k + 1, by omega, by go_num, ⟨by rw [HT.out, if_neg HC.out, List.append_nil]; exact HRR.out⟩, HY2⟩
            case measure => simp [intOf]; omega
        · obtain rfl : k = l1.length := by omega
          have hR := HR.out
          rw [List.take_length] at hR
          obtain ⟨A, c, hv⟩ := Kd.R_slice hR
          subst hv
          have HR' := Aside0.mk hR
          clear hR
          go_wp2_with (fail)
          refine (sort_calls (shutL a2 l1) (shutL_len (askedE_ok HE.out.symm).2 hg2 a2) _ w _ HY.out HR'.out).mono ?_
          rintro e w7 ⟨rfl, hr, hb⟩
          have hcl := R_clip hr
          have hll := hcl.1
          have hcl1 := hcl.2.1
          have HCL := Aside0.mk hcl
          have HB7 := Aside0.mk hb
          clear hcl hr hb
          go_wp2
          go_ret2
          exact ⟨_, rfl, by have q := HCL.out.2.2; rw [HCL.out.1] at q; exact q, HB7.out⟩
  · have HE := Aside0.mk hE
    have hE1 : (E == 0) = false := beq_eq_false_iff_ne.2 hE0
    have hE2 : (E != 0) = true := bne_iff_ne.2 hE0
    have h41 : some (([] : List Int), E) = some (r1, r2) := by rw [← H.out]; unfold gang_Closed.f; rw [if_neg (by rw [← hE]; exact hE0), ← hE]
    obtain ⟨rfl, rfl⟩ : [] = r1 ∧ E = r2 := by simpa using h41
    clear hE hs hE0 h41
    go_wp2
    go_ret2
    exact ⟨_, rfl, Kd.V_nil _ _ _ _ _, HB1.out.alloc HB1.out.size _⟩
end Go.Proofs.YtikfghnkbgdbgaaDoor.Q
end
section
namespace Go.Proofs.YtikfghnkbgdbgaaDoor.Q
set_option linter.unusedSimpArgs false
set_option linter.unusedVariables false
open Go.RowKit Go.Proofs.YtikfghnkbgdbgaaDoorW.PrintWords Go.Proofs.YtikfghnkbgdbgaaDoorW.PrintLast Go.Proofs.YtikfghnkbgdbgaaDoorW.PrintMore
set_option maxRecDepth 100000 in
theorem gang_Mended.calls (A0_0 : Option Addr) (c0_0 : Nat) (l0_0 : List (M)) (A0_1 : Option Addr) (c0_1 : Nat) (l0_1 : List (G)) (a0_2 : Int) (A1 : Option Addr) (c1 : Nat) (l1 : List (Wk)) (r1 : List Int) (r2 : Int) (w : World) (hr0_0 : Kd.C k66 w A0_0 l0_0.length l0_0) (hc0_0 : l0_0.length ≤ c0_0) (hr0_1 : Kd.C k63 w A0_1 l0_1.length l0_1) (hc0_1 : l0_1.length ≤ c0_1) (hr1 : Kd.C k59 w A1 l1.length l1) (hc1 : l1.length ≤ c1) (hG : GV w) (h : gang_Mended.f l0_0 l0_1 a0_2 l1 = some (r1, r2)) :
    Calls Tryd.prog 27 #[.agg #[.slice A0_0 l0_0.length c0_0, .slice A0_1 l0_1.length c0_1, .int .i64 a0_2], .slice A1 l1.length c1] w fun e w' => ∃ v0_ : Value, e = .returned (.tuple #[v0_, .int .i64 r2]) ∧ Kd.V (Kd.int .i64) 3 w' w.heap.size (fun k_ => (w.heap.size ≤ k_)) v0_ r1 ∧ Below w.heap.size w w' := by
  have HR0 := Aside0.mk hr0_0
  have HR1 := Aside0.mk hr0_1
  have HR2 := Aside0.mk hr1
  have HG0 := Aside0.mk hG
  have H := Aside0.mk h
  have hB := ((Below.refl w.heap.size w).alloc (Nat.le_refl _) (.cells #[.slice A0_0 l0_0.length c0_0, .slice A0_1 l0_1.length c0_1, .int .i64 a0_2] 25))
  have HB := Aside0.mk hB
  clear hr0_0 hr0_1 hr1 hG hB h
  go_enter Tryd.func27, Tryd.ntmps27
  go_wp2_with (fail)
  refine (asked_any l0_0 l0_1 A0_0 c0_0 A0_1 c0_1 a0_2 A1 c1 l1 _ (Kd.C_below HR0.out HB.out) hc0_0 (Kd.C_below HR1.out HB.out) hc0_1 (Kd.C_below HR2.out HB.out) hc1 (gv_below HG0.out HB.out)).mono ?_
  rintro e w1 ⟨B0, n0, d0, B1, n1, d1, m, bm, E, rfl, hE, hs, hb⟩
  have HB1 := Aside0.mk (below_then HB.out HB.out.size hb)
  clear hb
  by_cases hE0 : E = 0
  · obtain ⟨b, ⟨rfl, rfl, rfl⟩, ⟨rfl, rfl, rfl⟩, rfl, rfl, hm, hl⟩ := hs hE0
    subst hE0
    have HE := Aside0.mk hE
    have hbd := okB_bounds (askedE_ok hE.symm).1
    have hg2 := hbd.2.1.2
    have hn4 : a0_2 ≤ 4 := by omega
    have h0 : some (mendedL l0_0 l0_1 l1, (0 : Int)) = some (r1, r2) := by rw [← H.out]; unfold gang_Mended.f; rw [if_pos hE.symm]
    obtain ⟨rfl, rfl⟩ : mendedL l0_0 l0_1 l1 = r1 ∧ 0 = r2 := by simpa using h0
    have HB2 := Aside0.mk (HB1.out.alloc HB1.out.size (.cells #[.slice A0_0 l0_0.length c0_0, .slice A0_1 l0_1.length c0_1, .int .i64 a0_2, .map (some b)] 86))
    clear hm hl hs hE hbd h0
    go_wp2_with (fail)
    refine (mended_calls l0_0 l0_1 A0_0 c0_0 A0_1 c0_1 a0_2 b A1 c1 l1 _ (Kd.C_below HR0.out HB2.out) (Kd.C_below HR1.out HB2.out) (Kd.C_below HR2.out HB2.out) (gv_below HG0.out HB2.out) (askedE_ok HE.out.symm).1 (plan_fair (askedE_ok HE.out.symm).2 hg2 hn4)).mono ?_
    rintro e w2 ⟨v, rfl, hR, hb⟩
    have HB3 := Aside0.mk (below_then HB2.out HB2.out.size hb)
    obtain ⟨A, c, rfl⟩ := Kd.R_slice hR
    have hcl := R_clip hR
    have hcl1 := hcl.2.1
    have HCL := Aside0.mk hcl
    clear hcl hR hb
    go_wp2
    go_ret2
    exact ⟨_, rfl, Kd.V_mono HCL.out.2.2 (fun k hk => Nat.le_trans HB2.out.size hk), HB3.out⟩
  · have HE := Aside0.mk hE
    have hE1 : (E == 0) = false := beq_eq_false_iff_ne.2 hE0
    have hE2 : (E != 0) = true := bne_iff_ne.2 hE0
    have h41 : some (([] : List Int), E) = some (r1, r2) := by rw [← H.out]; unfold gang_Mended.f; rw [if_neg (by rw [← hE]; exact hE0), ← hE]
    obtain ⟨rfl, rfl⟩ : [] = r1 ∧ E = r2 := by simpa using h41
    clear hE hs hE0 h41
    go_wp2
    go_ret2
    exact ⟨_, rfl, Kd.V_nil _ _ _ _ _, HB1.out.alloc HB1.out.size _⟩
end Go.Proofs.YtikfghnkbgdbgaaDoor.Q
end
section
namespace Go.Proofs.YtikfghnkbgdbgaaDoor.Q
set_option linter.unusedSimpArgs false
set_option linter.unusedVariables false
open Go.RowKit Go.Proofs.YtikfghnkbgdbgaaDoorW.PrintWords Go.Proofs.YtikfghnkbgdbgaaDoorW.PrintLast Go.Proofs.YtikfghnkbgdbgaaDoorW.PrintMore
theorem index_law (l : List Int) (a : Int) (hl : l.length ≤ 64) : ∀ (k j : Nat), l.length - j < k → j ≤ l.length →
    L.slices_Index_int_int.l0 k l a (l.length : Int) (j : Int) = some (match (l.drop j).findIdx? (· == a) with | some i => ((i + j : Nat) : Int) | none => -1)
  | 0, j, h, _ => by omega
  | k + 1, j, h, hj => by
    unfold L.slices_Index_int_int.l0
    by_cases hlt : j < l.length
    · have hrd : rd l (j : Int) = l[j] := by simp [rd, List.getD_eq_getElem?_getD, List.getElem?_eq_getElem hlt]
      rw [if_pos (by omega), if_pos (by omega), if_pos (by omega), hrd, List.drop_eq_getElem_cons hlt, List.findIdx?_cons]
      by_cases he : a = l[j]
      · rw [if_pos he, if_pos (by simp [he])]
        simp
      · rw [if_neg he, if_neg (by simp; exact fun h => he h.symm), show wrap64 ((j : Int) + 1) = ((j + 1 : Nat) : Int) by unfold wrap64; omega, index_law l a hl k (j + 1) (by omega) (by omega)]
        cases (l.drop (j + 1)).findIdx? (· == a) with
        | none => rfl
        | some i => exact congrArg some (show ((i + (j + 1) : Nat) : Int) = ((i + 1 + j : Nat) : Int) by omega)
    · obtain rfl : j = l.length := by omega
      rw [if_neg (by omega)]
      simp
theorem contains_law (l : List Int) (a : Int) (hl : l.length ≤ 64) : L.slices_Contains_int_int.f (l.length + 1) l a = some (l.contains a) := by
  have h := index_law l a hl (l.length + 1) 0 (by omega) (by omega)
  unfold L.slices_Contains_int_int.f L.slices_Index_int_int.f
  rw [show ((0 : Nat) : Int) = 0 from rfl] at h
  rw [h]
  simp only [List.drop_zero, Option.bind_some]
  congr 1
  cases hf : l.findIdx? (· == a) with
  | none =>
    rw [List.findIdx?_eq_none_iff] at hf
    have : ¬ l.contains a = true := by
      simp only [List.contains_iff_mem]
      intro hm
      have := hf a hm
      simp at this
    simpa using this
  | some i =>
    have hi : l.contains a = true := by
      rw [List.findIdx?_eq_some_iff_getElem] at hf
      obtain ⟨h1, h2, _⟩ := hf
      simp only [List.contains_iff_mem]
      have : l[i] = a := by simpa using h2
      rw [← this]; exact List.getElem_mem h1
    rw [hi]
    exact decide_eq_true (show ((i + 0 : Nat) : Int) ≥ 0 by omega)
theorem contains_calls (A : Option Addr) (c : Nat) (l : List Int) (a : Int) (w : World) (hr : Kd.C (Kd.int .i64) w A l.length l) (hc : l.length ≤ c) (hl : l.length ≤ 64) (r : Bool) (hr' : l.contains a = r) :
    Calls Tryd.prog 79 #[.slice A l.length c, .int .i64 a] w fun e w' => e = .returned (.bool r) ∧ Below w.heap.size w w' :=
  (L.slices_Contains_int_int.calls (l.length + 1) A c l a r w hr hc (by rw [contains_law l a hl, hr'])).mono fun e w' ⟨he, hd⟩ => ⟨he, hd.below⟩
theorem find_some (f : Int → Bool) (n k : Nat) (hk : k < n) (ha : ∀ i : Nat, i < k → f i = false) (h : f k = true) : (upTo n).find? f = some (k : Int) := by
  have e : upTo (n : Int) = (List.range k).map Int.ofNat ++ (((k : Nat) : Int) :: (List.range' (k + 1) (n - k - 1)).map Int.ofNat) := by
    have : List.range n = List.range k ++ (k :: List.range' (k + 1) (n - k - 1)) := by
      rw [List.range_eq_range', List.range_eq_range', show n = k + (1 + (n - k - 1)) by omega, ← List.range'_append_1, show k + (1 + (n - k - 1)) - k - 1 = n - k - 1 by omega, Nat.add_comm 1, Nat.zero_add, List.range'_succ]
    simp [upTo, this]
  rw [e, List.find?_append, List.find?_eq_none.2, Option.none_or, List.find?_cons, h]
  intro x hx
  simp only [List.mem_map, List.mem_range] at hx
  obtain ⟨i, hi, rfl⟩ := hx
  have := ha i hi
  simpa using this
theorem find_none (f : Int → Bool) (n : Nat) (ha : ∀ i : Nat, i < n → f i = false) : (upTo n).find? f = none := by
  rw [List.find?_eq_none]
  intro x hx
  simp only [upTo, List.mem_map, List.mem_range] at hx
  obtain ⟨i, hi, rfl⟩ := hx
  have := ha i (by simpa using hi)
  simpa using this
theorem mended_len (ms : List M) (gs : List G) (p : List Wk) : (mendedL ms gs p).length ≤ ms.length := by
  unfold mendedL
  exact filter_len _ ms.length
set_option maxRecDepth 100000 in
set_option maxHeartbeats 1000000 in
theorem gang_Open.calls (A0_0 : Option Addr) (c0_0 : Nat) (l0_0 : List (M)) (A0_1 : Option Addr) (c0_1 : Nat) (l0_1 : List (G)) (a0_2 : Int) (A1 : Option Addr) (c1 : Nat) (l1 : List (Wk)) (r1 : Int) (r2 : Int) (w : World) (hr0_0 : Kd.C k66 w A0_0 l0_0.length l0_0) (hc0_0 : l0_0.length ≤ c0_0) (hr0_1 : Kd.C k63 w A0_1 l0_1.length l0_1) (hc0_1 : l0_1.length ≤ c0_1) (hr1 : Kd.C k59 w A1 l1.length l1) (hc1 : l1.length ≤ c1) (hG : GV w) (h : gang_Open.f l0_0 l0_1 a0_2 l1 = some (r1, r2)) :
    Calls Tryd.prog 29 #[.agg #[.slice A0_0 l0_0.length c0_0, .slice A0_1 l0_1.length c0_1, .int .i64 a0_2], .slice A1 l1.length c1] w fun e w' => e = .returned (.tuple #[.int .i64 r1, .int .i64 r2]) ∧ Below w.heap.size w w' := by
  have HR0 := Aside0.mk hr0_0
  have HR1 := Aside0.mk hr0_1
  have HR2 := Aside0.mk hr1
  have HG0 := Aside0.mk hG
  have H := Aside0.mk h
  have hB := ((Below.refl w.heap.size w).alloc (Nat.le_refl _) (.cells #[.slice A0_0 l0_0.length c0_0, .slice A0_1 l0_1.length c0_1, .int .i64 a0_2] 25))
  have HB := Aside0.mk hB
  have hx := World.alloc_heap_new w (.cells #[.slice A0_0 l0_0.length c0_0, .slice A0_1 l0_1.length c0_1, .int .i64 a0_2] 25)
  have HX := Aside0.mk hx
  clear hr0_0 hr0_1 hr1 hG hB h hx
  go_enter Tryd.func29, Tryd.ntmps29
  go_wp2_with (fail)
  refine (asked_any l0_0 l0_1 A0_0 c0_0 A0_1 c0_1 a0_2 A1 c1 l1 _ (Kd.C_below HR0.out HB.out) hc0_0 (Kd.C_below HR1.out HB.out) hc0_1 (Kd.C_below HR2.out HB.out) hc1 (gv_below HG0.out HB.out)).mono ?_
  rintro e w1 ⟨B0, n0, d0, B1, n1, d1, m, bm, E, rfl, hE, hs, hb⟩
  have HB1 := Aside0.mk (below_then HB.out HB.out.size hb)
  have HX1 := Aside0.mk ((hb.block w.heap.size (by simp)).trans HX.out)
  have hxl := (Array.getElem?_eq_some_iff.1 HX1.out).1
  clear hb
  by_cases hE0 : E = 0
  · obtain ⟨b, ⟨rfl, rfl, rfl⟩, ⟨rfl, rfl, rfl⟩, rfl, rfl, hm, hl⟩ := hs hE0
    subst hE0
    have HE := Aside0.mk hE
    have hbd := okB_bounds (askedE_ok hE.symm).1
    have hg2 := hbd.2.1.2
    have hm4 := hbd.1.2
    have hn4 : a0_2 ≤ 4 := by omega
    have HH : Aside0 ((match (upTo l0_0.length).find? (fun i => !(mendedL l0_0 l0_1 l1).contains i) with | some i => some (i, 0) | none => some (0, 4)) = some (r1, r2)) := ⟨by rw [← H.out]; unfold gang_Open.f; rw [if_pos hE.symm]; rfl⟩
    have HB2 := Aside0.mk (HB1.out.alloc HB1.out.size (.cells #[.slice A0_0 l0_0.length c0_0, .slice A0_1 l0_1.length c0_1, .int .i64 a0_2, .map (some b)] 86))
    have HX2 := Aside0.mk (blk_alloc HX1.out (.cells #[.slice A0_0 l0_0.length c0_0, .slice A0_1 l0_1.length c0_1, .int .i64 a0_2, .map (some b)] 86))
    clear hm hl hs hE hbd H
    go_wp2_with (fail)
    refine (mended_calls l0_0 l0_1 A0_0 c0_0 A0_1 c0_1 a0_2 b A1 c1 l1 _ (Kd.C_below HR0.out HB2.out) (Kd.C_below HR1.out HB2.out) (Kd.C_below HR2.out HB2.out) (gv_below HG0.out HB2.out) (askedE_ok HE.out.symm).1 (plan_fair (askedE_ok HE.out.symm).2 hg2 hn4)).mono ?_
    rintro e w2 ⟨v, rfl, hR, hb⟩
    have HB3 := Aside0.mk (below_then HB2.out HB2.out.size hb)
    have HX3 := Aside0.mk ((hb.block w.heap.size (by simp; omega)).trans HX2.out)
    obtain ⟨A, c, rfl⟩ := Kd.R_slice hR
    have hcl := Kd.R_reads' hR
    have HCL := Aside0.mk hcl.2
    have hx0 := (blk_cell HX3.out 0).trans rfl
    clear hcl hR hb hxl HB2 HX2
    go_wp2_with (fail)
    clear hx0
    have hml := Nat.le_trans (mended_len l0_0 l0_1 l1) hm4
    go_loopw [25] (fun v25 wr => ∃ k : Nat, k ≤ l0_0.length ∧ v25 = .int .i64 k ∧ Aside0 (∀ i : Nat, i < k → (!(mendedL l0_0 l0_1 l1).contains (i : Int)) = false) ∧ Aside0 (Below w2.heap.size w2 wr)) (fun v25 _ => l0_0.length - (intOf v25).toNat)
    case atStart => exact ⟨0, Nat.zero_le _, rfl, ⟨fun i h => absurd h (Nat.not_lt_zero _)⟩, ⟨Below.refl _ _⟩⟩
    case round =>
      obtain ⟨k, hk, rfl, HA, HY⟩ := hrel
      by_cases hlt : k < l0_0.length
      · go_wp2_with (fail)
        refine (contains_calls A c _ (k : Int) _ (Kd.C_below HCL.out.2 HY.out) HCL.out.1 (by omega) _ rfl).mono ?_
        rintro e w3 ⟨rfl, hb⟩
        have HY3 := Aside0.mk (below_then HY.out HY.out.size hb)
        clear hb
        cases hc : (mendedL l0_0 l0_1 l1).contains (k : Int) with
        | false =>
          have HF := Aside0.mk (find_some (fun i => !(mendedL l0_0 l0_1 l1).contains i) l0_0.length k hlt HA.out (by simp only [hc]; rfl))
          have hq : some ((k : Int), (0 : Int)) = some (r1, r2) := by rw [← HH.out, HF.out]
          obtain ⟨rfl, rfl⟩ : (k : Int) = r1 ∧ 0 = r2 := by simpa using hq
          clear hc hq
          go_wp2
          go_ret2
          exact ⟨rfl, below_then HB3.out HB3.out.size HY3.out⟩
        | true =>
          have HC := Aside0.mk hc
          clear hc
          go_wp2
          go_roundw
          case rel => exact ⟨k + 1, by omega, by go_num, ⟨fun i hi => by
            by_cases q : i = k
            · rw [q, HC.out]; rfl
            · exact HA.out i (by omega)⟩, HY3⟩
          case measure => simp [intOf]; omega
      · obtain rfl : k = l0_0.length := by omega
        have HF := Aside0.mk (find_none (fun i => !(mendedL l0_0 l0_1 l1).contains i) l0_0.length HA.out)
        have hq : some ((0 : Int), (4 : Int)) = some (r1, r2) := by rw [← HH.out, HF.out]
        obtain ⟨rfl, rfl⟩ : (0 : Int) = r1 ∧ 4 = r2 := by simpa using hq
        clear hq
        go_wp2
        go_ret2
        exact ⟨rfl, below_then HB3.out HB3.out.size HY.out⟩
  · have HE := Aside0.mk hE
    have hE1 : (E == 0) = false := beq_eq_false_iff_ne.2 hE0
    have hE2 : (E != 0) = true := bne_iff_ne.2 hE0
    have h41 : some ((0 : Int), E) = some (r1, r2) := by rw [← H.out]; unfold gang_Open.f; rw [if_neg (by rw [← hE]; exact hE0), ← hE]
    obtain ⟨rfl, rfl⟩ : 0 = r1 ∧ E = r2 := by simpa using h41
    clear hE hs hE0 h41
    go_wp2
    go_ret2
    exact ⟨rfl, HB1.out.alloc HB1.out.size _⟩
end Go.Proofs.YtikfghnkbgdbgaaDoor.Q
end
section
namespace Go.Proofs.YtikfghnkbgdbgaaDoorW.PrintLast
open Go.RowKit Go.Proofs.YtikfghnkbgdbgaaDoorW.PrintWords Go.Proofs.YtikfghnkbgdbgaaDoorW.PrintMore
section
variable {P : Program} {ops : Array Oper} {Q : Exit → Act → World → Prop} {md : Region.Mode}
def noDefer (ops : Array Oper) : Bool := ops.all fun o => match o.op with | .defer _ => false | _ => true
theorem noDefer_spec (h : noDefer ops = true) {i : Nat} {o : Oper} (ho : ops[i]? = some o) : ∀ c, o.op ≠ .defer c := by
  intro c hc
  have hm : o ∈ ops := Array.mem_of_getElem? ho
  have := Array.all_eq_true_iff_forall_mem.1 h o hm
  rw [hc] at this
  cases this
theorem wpOp_in (r : Option Nat) (n : Nat) {i : Nat} {K : Act → World → Prop} {a : Act} {w : World} (hd : noDefer ops = true) (hno : ¬ LetsOut Q) (h : wpOp P ops Q i K a w) :
    wpOpIn { Fence.wide with round := r } n P ops Q i K a w := by
  unfold wpOp at h
  unfold wpOpIn
  cases ho : ops[i]? with
  | none => rw [ho] at h; exact h
  | some o =>
    rw [ho] at h
    dsimp only at h ⊢
    split
    · rename_i hw
      rw [if_pos hw] at h
      rcases h with h | h
      · refine ⟨fun _ _ => trivial, ?_⟩
        unfold Oper.wp at h
        rw [Oper.semAt_eq _ _ _ (noDefer_spec hd ho)]
        generalize (execOp a.eval o).run P w = x at h ⊢
        cases x with
        | ok x w' =>
          cases x <;> simp only [Oper.upon, Oper.uponIn] at h ⊢ <;>
            first
              | exact h
              | exact h.elim
              | exact ⟨fun hh => (by cases hh), callsIn_wide.2 (Calls.mono h fun e w'' he => by cases e <;> exact he)⟩
              | exact ⟨fun hh => (by cases hh), fun c cs _ => let ⟨v, w'', hr, hs⟩ := h c cs; ⟨v, w'', hr, stepsIn_wide.2 hs⟩⟩
        | halt x w' => cases x <;> simp only [Oper.upon, Oper.uponIn] at h ⊢ <;> exact h
      · exact absurd h.2 hno
    · rename_i hw
      rw [if_neg hw] at h
      exact ⟨fun _ _ => trivial, h⟩
theorem wpAny_in (r : Option Nat) (n : Nat) (hd : noDefer ops = true) (hno : ¬ LetsOut Q) : ∀ (fuel : Nat) (listed : Array Bool) (a : Act) (w : World), wpAny P md ops Q fuel listed a w → wpAnyIn { Fence.wide with round := r } n P md ops Q fuel listed a w
  | 0, _, _, _, h => h
  | fuel + 1, _, _, _, h => ⟨h.1, fun i hi => wpOp_in r n hd hno (wpOp_mono (fun a' w' h' => wpAny_in r n hd hno fuel _ a' w' h') (h.2 i hi))⟩
theorem startIn_ {S : World → Prop} {ds : List Nat} {id n : Nat} {a : Act} {w : World} {l : Nat} {m : Nat} (hd : noDefer ops = true) (hno : ¬ LetsOut Q) (L : Array Bool) (hm : P.follows .mixedOrders = true) (hn : ops.size = n) (hl : Array.replicate n false = L) (hS : S w.drew)
    (h : S w.drew → wpAnyLast P .any ops Q S ds n L a w.drew) : (Code.region id ops true).wpIn (Fence.wide.inRound l) m P Q a w := by
  subst hn
  subst hl
  exact wpIn_region_any hm (wpAny_in (some l) m hd hno _ _ _ _ (wpAny_of_last _ _ _ _ (h hS)))
end
section
variable {P : Program} {ops : Array Oper} {Q : Exit → Act → World → Prop}
theorem goesC_ {oi : Oper} {N : Option Tmp} {a : Act} {w : World} {K : Act → World → Prop} {f : FuncId} {fn : Func} {c : Operand} {ags : Array Operand} {ts : Array TypeId} {lb : Array Value} (hf : P.funcs[f]? = some fn) (hname : (fn.name == "runtime.NumGoroutine") = false) (hb : fn.body.isSome = true) (args : Array Value)
    (hw : Region.wanted oi (yielded ops a.tmps) = true) (hN : oi.dst = N) (hop : oi.op = .call { callee := .value c, args := ags, argTypes := ts }) (hc : a.eval c = .func (.func f) #[] lb) (hargs : ags.map a.eval ++ lb = args)
    (h : Calls P f args w fun e w' => ∃ v, e = .returned v ∧ K (a.put N v) w') : if Region.wanted oi (yielded ops a.tmps) = true then Oper.wp P oi a w K Q else K (a.put N undef) w := by
  refine call_ f args hw hN ?_ h
  have he := enters_ hf hname hb args w
  unfold execOp
  simp [hop, resolve, Deferred.ofValue, invoke, hc, hargs, he]
end
structure Keeps (n0 : Nat) (S : Nat → Prop) (W W' : World) : Prop where
  bel : Below n0 W W'
  kept : Kept W W' S
theorem Keeps.refl (n0 : Nat) (S : Nat → Prop) (W : World) : Keeps n0 S W W := ⟨Below.refl _ _, Kept.refl _ _⟩
theorem Keeps.step {n0 : Nat} {S : Nat → Prop} {A B C : World} (h : Keeps n0 S A B) (hb : Below B.heap.size B C) (hn : n0 ≤ A.heap.size) : Keeps n0 S A C :=
  ⟨h.bel.trans (hb.mono (Nat.le_trans hn h.kept.1)), h.kept.below hb⟩
theorem Keeps.trans {n0 : Nat} {S : Nat → Prop} {A B C : World} (h : Keeps n0 S A B) (k : Keeps n0 S B C) : Keeps n0 S A C := ⟨h.bel.trans k.bel, h.kept.then_ k.kept (fun _ hk => .inl hk)⟩
theorem below_putObj (W : World) (l n0 : Nat) (o : Obj) (h : n0 ≤ l) : Below n0 W (W.putObj l o) := by
  have hg := grownBy_putObj' W l o
  exact ⟨hg.os, hg.tape, hg.output, hg.size, fun k hk => World.putObj_heap_other (by omega)⟩
theorem Keeps.putObj {n0 : Nat} {S : Nat → Prop} {A B : World} (h : Keeps n0 S A B) (l : Nat) (o : Obj) (hl : n0 ≤ l) (hS : S l) : Keeps n0 S A (B.putObj l o) :=
  ⟨h.bel.trans (below_putObj B l n0 o hl), h.kept.then_ (S2 := S) ⟨by simp, fun i hi hn => World.putObj_heap_other (fun e => hn (e ▸ hS))⟩ (fun _ hk => .inl hk)⟩
section
variable {P : Program} {w : World} {n : Nat}
theorem wpIn_range_all {α : Type} {g : Operand} {p : Tmp} {assign body : Code} {Q : Exit → Act → World → Prop} {a : Act}
    {gf : Nat} {lb : Array Value} (hg : a.eval g = .func (.func gf) #[] lb) (eg : ∀ args w, (callFunc gf args).run P w = .ok (.enter gf args) w)
    (n0 : Nat) (hn0 : n0 ≤ w.heap.size) (S : Nat → Prop) (hS0 : ∀ k, S k → n0 ≤ k ∧ k < w.heap.size) (xs : List α) (Pr : α → Value → World → Prop) (w00 : World) (hb00 : Below n0 w00 w)
    (hit : ∀ (l : Nat) (J : List α → World → Prop) (W : World), l = w.heap.size + 1 → W.heap.size = w.heap.size + 2 → Below w.heap.size w W →
      (∀ pre A B, J pre A → Below A.heap.size A B → J pre B) →
      (∀ pre x v W1, J pre W1 → Pr x v W1 → YieldAt Fence.wide n P l #[v] W1 fun e W' => e = .returned (.bool true) ∧ J (pre ++ [x]) W' ∧ Keeps n0 (fun k => S k ∨ k = l) W1 W') →
      J [] W → Calls P gf (#[.func (.yield l) #[] #[]] ++ lb) W fun e W' => (∃ v, e = .returned v) ∧ J xs W' ∧ Keeps n0 (fun k => S k ∨ k = l) W W')
    (hPr : ∀ x v W o, Pr x v W → (∃ r, W.heap[w.heap.size + 1]? = some (.loop r)) → Pr x v (W.putObj (w.heap.size + 1) o))
    (I : List α → World → Prop) (hI1 : ∀ pre A B, I pre A → Below A.heap.size A B → I pre B)
    (hI2 : ∀ pre A o, I pre A → (∃ r, A.heap[w.heap.size + 1]? = some (.loop r)) → I pre (A.putObj (w.heap.size + 1) o)) (h0 : I [] w) (a₁ : α → Value → Act)
    (hassign : ∀ (x : α) (v : Value) (W : World) (K : Act → World → Prop), K (a₁ x v) W →
      assign.wpIn (Fence.wide.inRound (w.heap.size + 1)) n P (Exit.then K (fun _ _ _ => False)) { tmps := (#[p].zip #[v]).foldl (fun t (p, v) => t.setIfInBounds p v) a.tmps, defers := [] } W)
    (hbody : ∀ (pre : List α) (x : α) (v : Value) (W : World), w.heap.size + 2 ≤ W.heap.size → I pre W → Pr x v W →
      body.wpIn (Fence.wide.inRound (w.heap.size + 1)) n P (fun e _ W' => e = .normal ∧ I (pre ++ [x]) W' ∧ Keeps n0 S W W') (a₁ x v) W)
    (hdone : ∀ W, w.heap.size < W.heap.size → I xs W → Keeps n0 (fun k => S k ∨ k = w.heap.size + 1) w W → W.heap[w.heap.size]? = some (.deferred (some [])) → Q .normal { a with defers := { target := .collected w.heap.size, args := #[] } :: a.defers } W) :
    (Code.rangeFunc g #[p] assign body).wp P Q a w := by
  refine (wpIn_wide (n := n + 1)).1 (wpIn_rangeFunc ?_)
  intro fn hfn
  obtain ⟨rec, hrec⟩ : ∃ rec : LoopState → Option Code → Loop, rec = fun st pe => { state := st, pending := pe, fn, tmps := a.tmps, params := #[p], assign, body, defers := w.heap.size } := ⟨_, rfl⟩
  obtain ⟨W1, hW1⟩ : ∃ W1, (w.alloc (.deferred (some []))).alloc (.loop (rec .ready none)) = W1 := ⟨_, rfl⟩
  have hL1 : W1.heap[w.heap.size + 1]? = some (.loop (rec .ready none)) := by
    rw [← hW1]; have := World.alloc_heap_new (w.alloc (.deferred (some []))) (.loop (rec .ready none)); rwa [World.size_alloc] at this
  have hK1 : W1.heap[w.heap.size]? = some (.deferred (some [])) := by
    rw [← hW1]; exact (Below.heap_alloc _ _ _ (by simp)).trans (World.alloc_heap_new w _)
  have hb1 : Below w.heap.size w W1 := by
    rw [← hW1]; exact (((Below.refl _ w).alloc (Nat.le_refl _) _).alloc (by simp) _)
  have hs1 : W1.heap.size = w.heap.size + 2 := by rw [← hW1]; simp
  have hI0 : I [] W1 := hI1 _ _ _ h0 hb1
  refine ⟨w.heap.size + 1, [{ target := .collected w.heap.size, args := #[] }], W1, { target := .fn (.func gf) lb, args := #[.func (.yield (w.heap.size + 1)) #[] #[]] }, W1, gf,
    #[.func (.yield (w.heap.size + 1)) #[] #[]] ++ lb, W1, ?_, ?_, ?_, ?_, fun h => (by cases h), ?_⟩
  · rw [← hW1, hrec]; exact run_enterLoop_outer _ _ _ _ _
  · simp only [resolve, hg]
    simp [go_sem]
  · intro f' hf'; trivial
  · simp [invoke, go_sem, eg]
  · refine callsIn_wide.2 ((hit (w.heap.size + 1)
      (fun pre W => I pre W ∧ W.heap[w.heap.size + 1]? = some (.loop (rec .ready none)) ∧ W.heap[w.heap.size]? = some (.deferred (some [])))
      W1 rfl hs1 hb1
      (fun pre A B hs hb => ⟨hI1 _ _ _ hs.1 hb, (hb.block _ (Array.getElem?_eq_some_iff.1 hs.2.1).1).trans hs.2.1, (hb.block _ (Array.getElem?_eq_some_iff.1 hs.2.2).1).trans hs.2.2⟩)
      ?_ ⟨hI0, hL1, hK1⟩).mono ?_)
    · -- one round
      rintro pre x v W ⟨hi, hl, hk⟩ hpr
      have hlt : w.heap.size + 1 < W.heap.size := (Array.getElem?_eq_some_iff.1 hl).1
      have hy := run_yield (P := P) (args := #[v]) hl (by rw [hrec]; rfl)
      rw [hrec] at hy
      refine ⟨fn, _, assign, body, hy, roundIn_of_wpIn hfn (hassign x v W _ ?_)⟩
      clear hy
      refine ⟨_, run_beginRound hl (by rw [hrec]), ?_⟩
      have hl2 : (W.putObj (w.heap.size + 1) (.loop { rec .ready none with state := .busy })).heap[w.heap.size + 1]? = some (.loop { rec .ready none with state := .busy }) := World.putObj_heap_same hlt
      have hk2 : (W.putObj (w.heap.size + 1) (.loop { rec .ready none with state := .busy })).heap[w.heap.size]? = some (.deferred (some [])) := (World.putObj_heap_other (by omega)).trans hk
      refine wpIn_mono (hbody pre x v _ (by simp; omega) (hI2 _ _ _ hi ⟨_, hl⟩) (hPr _ _ _ _ hpr ⟨_, hl⟩)) ?_
      rintro e a3 W3 ⟨rfl, hi3, hkp⟩
      have hl3 : W3.heap[w.heap.size + 1]? = some (.loop { rec .ready none with state := .busy }) := (hkp.kept.2 _ (by simp; omega) (fun h => by have := hS0 _ h; omega)).trans hl2
      have hk3 : W3.heap[w.heap.size]? = some (.deferred (some [])) := (hkp.kept.2 _ (by simp; omega) (fun h => by have := hS0 _ h; omega)).trans hk2
      have hr := run_endRound (P := P) none hl3
      refine ⟨_, _, hr, rfl, ⟨hI2 _ _ _ hi3 ⟨_, hl3⟩, ?_, (World.putObj_heap_other (by omega)).trans hk3⟩, ?_⟩
      · refine (World.putObj_heap_same (Array.getElem?_eq_some_iff.1 hl3).1).trans ?_
        rw [hrec]
        rfl
      · have q1 : Keeps n0 (fun k => S k ∨ k = w.heap.size + 1) W W3 :=
          ((Keeps.refl n0 _ W).putObj _ _ (by omega) (.inr rfl)).trans ⟨hkp.bel, hkp.kept.mono (fun _ hk => .inl hk)⟩
        exact q1.putObj _ _ (by omega) (.inr rfl)
    · -- behind the iterator
      rintro e W2 ⟨⟨v, rfl⟩, ⟨hi, hl, hk⟩, hkp⟩
      refine ⟨none, _, by have := run_endLoop (P := P) hl (by rw [hrec]; simp); rw [hrec] at this; exact this, ?_⟩
      refine hdone _ (by simp; have := (Array.getElem?_eq_some_iff.1 hl).1; omega) (hI2 _ _ _ hi ⟨_, hl⟩) ?_ ((World.putObj_heap_other (by omega)).trans hk)
      have q0 : Keeps n0 (fun k => S k ∨ k = w.heap.size + 1) w W1 := ⟨hb1.mono hn0, Kept.of_below hb1 _⟩
      exact (q0.trans hkp).putObj _ _ (by omega) (.inr rfl)
end
end Go.Proofs.YtikfghnkbgdbgaaDoorW.PrintLast
end
section
namespace Go.Proofs.YtikfghnkbgdbgaaDoor.Q
set_option linter.unusedSimpArgs false
set_option linter.unusedVariables false
open Go.RowKit Go.Proofs.YtikfghnkbgdbgaaDoorW.PrintWords Go.Proofs.YtikfghnkbgdbgaaDoorW.PrintLast Go.Proofs.YtikfghnkbgdbgaaDoorW.PrintMore
def cellsW (x : List Wk) : List Value := x.flatMap (fun y => [.int .i64 y.f0, .int .i64 y.f1, .int .i64 y.f2])
theorem cellsW_len (x : List Wk) : (cellsW x).length = x.length * 3 := by
  induction x with
  | nil => rfl
  | cons y r ih => simp only [cellsW, List.flatMap_cons, List.length_append, List.length_cons, List.length_nil] at *; omega
theorem cellsW_at : ∀ (x : List Wk) (j : Nat) (u : Value), (cellsW x)[j]? = some u → ∃ k i p, x[k]? = some p ∧ j = k * 3 + i ∧ i < 3 ∧ [Value.int .i64 p.f0, .int .i64 p.f1, .int .i64 p.f2][i]? = some u
  | [], j, u, h => by simp [cellsW] at h
  | y :: r, j, u, h => by
    have e : cellsW (y :: r) = [Value.int .i64 y.f0, .int .i64 y.f1, .int .i64 y.f2] ++ cellsW r := by simp [cellsW]
    rw [e] at h
    by_cases hj : j < 3
    · rw [List.getElem?_append_left (by simpa using hj)] at h
      exact ⟨0, j, y, rfl, by omega, hj, h⟩
    · rw [List.getElem?_append_right (by simp; omega)] at h
      obtain ⟨k, i, p, h1, h2, h3, h4⟩ := cellsW_at r _ u h
      exact ⟨k + 1, i, p, by simpa using h1, by simp at h2; omega, h3, h4⟩
theorem cellsW_reps (W : World) (base : Nat) (ok : Nat → Prop) : ∀ x : List Wk, Reps (k59.M W base ok) 3 x (cellsW x)
  | [] => Reps.none _ _
  | y :: r => by
    refine ⟨cellsW_len _, fun j p hj => ?_⟩
    have e : cellsW (y :: r) = [Value.int .i64 y.f0, .int .i64 y.f1, .int .i64 y.f2] ++ cellsW r := by simp [cellsW]
    rw [e]
    cases j with
    | zero =>
      simp at hj
      subst hj
      simpa using k59_mkM W base ok y
    | succ j =>
      have := (cellsW_reps W base ok r).2 j p (by simpa using hj)
      rw [show (j + 1) * 3 = 3 + j * 3 by omega, ← List.drop_drop]
      simpa using this
theorem cellsW_read {W : World} {ad : Addr} {n : Nat} {x : List Wk} (h : Kd.C k59 W (some ad) n x) (j : Nat) (u : Value) (hu : (cellsW x)[j]? = some u) : W.cell? (ad.add j) = some u := by
  obtain ⟨k, i, p, h1, h2, h3, h4⟩ := cellsW_at x j u hu
  have hk : k < x.length := (List.getElem?_eq_some_iff.1 h1).1
  obtain ⟨ad', e, hc⟩ := h.2.2 (by have := h.1; omega)
  obtain ⟨c, hs, hr, hcell⟩ := hc k p h1
  injection e with e
  subst e
  rw [k59_open hr] at hcell
  rw [h2]
  exact hcell i u h4
theorem append_plan (W : World) (A : Option Addr) (x : List Wk) (y : Wk) (h : Kd.C k59 W A x.length x) (hA : x = [] → A = none) (hl : x.length ≤ 8) (ty : TypeId) :
    ∃ A' c' w', (Builtin.append_ #[26, 26] ty #[.slice A x.length x.length, .slice (some ⟨W.heap.size, 0, none⟩) 1 1]).run Tryd.prog (W.alloc (.cells #[.int .i64 y.f0, .int .i64 y.f1, .int .i64 y.f2] 59)) = .ok (.slice A' (x.length + 1) c') w' ∧
      Kd.R k59 59 w' (W.heap.size + 1) (fun _ => True) (.slice A' (x.length + 1) c') (x ++ [y]) ∧ A' ≠ none ∧ x.length + 1 ≤ c' ∧ Below (W.heap.size + 1) (W.alloc (.cells #[.int .i64 y.f0, .int .i64 y.f1, .int .i64 y.f2] 59)) w' := by
  have hu : Tryd.prog.underlying 26 = some (.slice 59) := by kernel_rfl
  obtain ⟨i, hi⟩ : ∃ i, Tryd.prog.info? 59 = some i := Option.isSome_iff_exists.1 (by kernel_rfl)
  have hinf := info59
  rw [hi] at hinf
  simp only [Option.map_some, Option.some.injEq, Prod.mk.injEq] at hinf
  obtain ⟨hz, hsz, hby⟩ := hinf
  have hs : (W.alloc (.cells #[.int .i64 y.f0, .int .i64 y.f1, .int .i64 y.f2] 59)).heap.size = W.heap.size + 1 := by simp
  have hnews : ∀ j u, [Value.int .i64 y.f0, .int .i64 y.f1, .int .i64 y.f2][j]? = some u → (W.alloc (.cells #[.int .i64 y.f0, .int .i64 y.f1, .int .i64 y.f2] 59)).cell? ((⟨W.heap.size, 0, none⟩ : Addr).add j) = some u := by
    intro j u hj
    rw [Addr.add_lit, blk_cell (World.alloc_heap_new W _)]
    simpa using hj
  have main : ∃ v' w', (Builtin.append_ #[26, 26] ty #[.slice A x.length x.length, .slice (some ⟨W.heap.size, 0, none⟩) 1 1]).run Tryd.prog (W.alloc (.cells #[.int .i64 y.f0, .int .i64 y.f1, .int .i64 y.f2] 59)) = .ok v' w' ∧
      w'.ownsRow (W.heap.size + 1) 59 3 v' (x.length + 1) (cellsW x ++ [.int .i64 y.f0, .int .i64 y.f1, .int .i64 y.f2]) ∧ (W.alloc (.cells #[.int .i64 y.f0, .int .i64 y.f1, .int .i64 y.f2] 59)).grownBy w' none := by
    cases A with
    | some b =>
      have := run_append_arg_grows (P := Tryd.prog) (W.alloc (.cells #[.int .i64 y.f0, .int .i64 y.f1, .int .i64 y.f2] 59)) 26 ty 59 i _ 3 24 hu hi hz hsz hby rfl (by decide) b x.length x.length (cellsW x) (cellsW_len x)
        (fun j u hj => (((Below.refl W.heap.size W).alloc (Nat.le_refl _) _).cell (World.block_lt_of_cell? _ _ (cellsW_read h j u hj))).trans (cellsW_read h j u hj)) ⟨W.heap.size, 0, none⟩ 1 1 _ rfl hnews (by omega) (by simp [maxLen]; omega) (by omega)
      rw [hs] at this
      exact this
    | none =>
      have hx : x = [] := by
        cases x with
        | nil => rfl
        | cons z r => obtain ⟨ad, e, _⟩ := h.2.2 (by simp); cases e
      subst hx
      obtain ⟨v', w', h1, h2, h3, _⟩ := run_append_own (P := Tryd.prog) (W.alloc (.cells #[.int .i64 y.f0, .int .i64 y.f1, .int .i64 y.f2] 59)) (W.heap.size + 1) 26 ty 59 i _ 3 24 hu hi hz hsz hby rfl (by decide) (.slice none 0 0) 0 [] (World.ownsRow_nil _ _ _ _) ⟨W.heap.size, 0, none⟩ 1 1 [.int .i64 y.f0, .int .i64 y.f1, .int .i64 y.f2] rfl hnews (by simp [Value.oneCell']) (by decide) (by decide) (by rw [hs]; exact Nat.le_refl _)
      exact ⟨v', w', h1, h2, h3⟩
  obtain ⟨v', w', hr, hown, hg⟩ := main
  have hR : Kd.R k59 59 w' (W.heap.size + 1) (fun _ => True) v' (x ++ [y]) := by
    refine ⟨fun _ _ => trivial, cellsW (x ++ [y]), ?_, cellsW_reps _ _ _ _⟩
    have e : cellsW (x ++ [y]) = cellsW x ++ [.int .i64 y.f0, .int .i64 y.f1, .int .i64 y.f2] := by simp [cellsW]
    rw [e, List.length_append]
    exact hown
  obtain ⟨g', c', rfl, _⟩ := hown.form (by omega)
  refine ⟨some ⟨g', 0, none⟩, c', w', hr, hR, by simp, ?_, ⟨hg.os, hg.tape, hg.output, hg.size, fun k hk => hg.block k (by rw [hs]; exact hk) (by simp)⟩⟩
  exact (Kd.R_reads' hR).2.1
end Go.Proofs.YtikfghnkbgdbgaaDoor.Q
end
section
namespace Go.Proofs.YtikfghnkbgdbgaaDoor.Q
set_option linter.unusedSimpArgs false
set_option linter.unusedVariables false
open Go.RowKit Go.Proofs.YtikfghnkbgdbgaaDoorW.PrintWords Go.Proofs.YtikfghnkbgdbgaaDoorW.PrintLast Go.Proofs.YtikfghnkbgdbgaaDoorW.PrintMore
structure Src (w W : World) (ms : List M) (gs : List G) (n : Int) (b g gm : Nat) (many : Int) (A0 : Option Addr) (c0 : Nat) (A1 : Option Addr) (c1 : Nat) : Prop where
  box : BoxAt w W A0 ms.length c0 A1 gs.length c1 n b g
  mp : MapIs W b (spotsL ms n.toNat)
  mn : W.heap[gm]? = some (.cells #[.int .i64 many] 3 (0, 0))
section
variable {w W W' : World} {ms : List M} {gs : List G} {n : Int} {b g gm : Nat} {many : Int} {A0 : Option Addr} {c0 : Nat} {A1 : Option Addr} {c1 : Nat} {S : Nat → Prop}
theorem Src.keeps (h : Src w W ms gs n b g gm many A0 c0 A1 c1) (hk : Keeps w.heap.size S W W') (hg : ¬ S g) (hb : ¬ S b) (hm : ¬ S gm) : Src w W' ms gs n b g gm many A0 c0 A1 c1 :=
  ⟨⟨blk_kept h.box.box hk.kept hg, h.box.bel.trans hk.bel⟩, h.mp.kept (hk.kept.2 _ h.mp.lt hb), blk_kept h.mn hk.kept hm⟩
theorem Src.below (h : Src w W ms gs n b g gm many A0 c0 A1 c1) (hb : Below W.heap.size W W') : Src w W' ms gs n b g gm many A0 c0 A1 c1 :=
  ⟨h.box.step hb, h.mp.below hb, (hb.block _ (Array.getElem?_eq_some_iff.1 h.mn).1).trans h.mn⟩
end
def Pr8 (ms : List M) (gs : List G) (n : Int) (base : Nat) (x : List Wk) (v : Value) (W : World) : Prop :=
  ∃ A c, v = .slice A x.length c ∧ x.length ≤ c ∧ (x = [] → A = none) ∧ Kd.F k59 W (fun k => base ≤ k) A x.length x ∧ Fair ms gs n x
theorem flat_snoc (f : Int → Bool) (e : Int → List (List Wk)) (k : Nat) : ((upTo ((k + 1 : Nat) : Int)).filter f).flatMap e = ((upTo (k : Int)).filter f).flatMap e ++ (if f k = true then e k else []) := by
  rw [filter_snoc, List.flatMap_append]
  split <;> simp
theorem enumP_at (ms : List M) (gs : List G) (n many : Int) (s : Nat) (p : List Wk) (night gang : Int) (h0 : 0 ≤ gang) (h1 : gang < gs.length) (he : night * gs.length + gang + (s + 1) = many * gs.length) :
    enumP ms gs n many (s + 1) p = enumP ms gs n many s p ++ ((upTo ms.length).filter (fun m => fitsB ms gs n p ⟨night, gang, m⟩)).flatMap (fun m => enumP ms gs n many s (p ++ [⟨night, gang, m⟩])) := by
  have hat : many * gs.length - (s + 1) = night * gs.length + gang := by omega
  have hq := (Int.ediv_emod_unique (a := night * gs.length + gang) (b := gs.length) (r := gang) (q := night) (by omega)).2 ⟨by rw [Int.mul_comm]; omega, h0, h1⟩
  show enumP ms gs n many s p ++ ((upTo ms.length).filter (fun m => fitsB ms gs n p ⟨(many * gs.length - (s + 1)) / gs.length, (many * gs.length - (s + 1)) % gs.length, m⟩)).flatMap (fun m => enumP ms gs n many s (p ++ [⟨(many * gs.length - (s + 1)) / gs.length, (many * gs.length - (s + 1)) % gs.length, m⟩])) = _
  rw [hat, hq.1, hq.2]
theorem last_W3 (p : List Wk) (h : p ≠ []) : p.getLast? = some (W3 p (p.length - 1)) := by
  have hl : p.length - 1 < p.length := by have := List.length_pos_iff.2 h; omega
  rw [List.getLast?_eq_getElem?, List.getElem?_eq_getElem hl]
  simp [W3, rd_T59, List.getD_eq_getElem?_getD, show ((p.length : Int) - 1).toNat = p.length - 1 by omega, List.getElem?_eq_getElem hl]
theorem fits_nil (ms : List M) (gs : List G) (n : Int) (x : Wk) : fitsB ms gs n [] x = canB ms gs n x := by simp [fitsB]
theorem fits_last (ms : List M) (gs : List G) (n : Int) (p : List Wk) (x : Wk) (h : p ≠ []) : fitsB ms gs n p x = (canB ms gs n x && !(decide ((W3 p (p.length - 1)).f0 = x.f0) && within (x.f2 - (W3 p (p.length - 1)).f2) (-1) 1)) := by
  simp only [fitsB, last_W3 p h, within]
theorem fits_last2 (ms : List M) (gs : List G) (n : Int) (p : List Wk) (x : Wk) (h : p ≠ []) : fitsB ms gs n p x = (canB ms gs n x && !(decide ((rd_T59 p ((p.length : Int) - 1)).f0 = x.f0) && within (x.f2 - (rd_T59 p ((p.length : Int) - 1)).f2) (-1) 1)) := by
  have hl := List.length_pos_iff.2 h
  rw [fits_last ms gs n p x h, W3, show ((p.length - 1 : Nat) : Int) = (p.length : Int) - 1 by omega]
theorem can_last {ms : List M} {gs : List G} {n : Int} {p : List Wk} (hf : Fair ms gs n p) (h : p ≠ []) : canB ms gs n (rd_T59 p ((p.length : Int) - 1)) = true := by
  have hl := List.length_pos_iff.2 h
  have := hf.can (p.length - 1) (by omega)
  rwa [W3, show ((p.length - 1 : Nat) : Int) = (p.length : Int) - 1 by omega] at this
theorem Fair.snoc {ms : List M} {gs : List G} {n : Int} {p : List Wk} (h : Fair ms gs n p) {x : Wk} (hx : canB ms gs n x = true) (hl : p.length + 1 ≤ 8) : Fair ms gs n (p ++ [x]) := by
  refine ⟨fun j hj => ?_, by simpa using hl⟩
  by_cases q : j < p.length
  · have := h.can j q
    simpa [W3, rd_T59, List.getD_eq_getElem?_getD, List.getElem?_append_left q] using this
  · have e : j = p.length := by simp at hj; omega
    subst e
    simpa [W3, rd_T59, List.getD_eq_getElem?_getD] using hx
theorem fits_can {ms : List M} {gs : List G} {n : Int} {p : List Wk} {x : Wk} (h : fitsB ms gs n p x = true) : canB ms gs n x = true := by
  unfold fitsB at h
  simp only [Bool.and_eq_true] at h
  exact h.1
end Go.Proofs.YtikfghnkbgdbgaaDoor.Q
end
section
namespace Go.Proofs.YtikfghnkbgdbgaaDoor.Q
set_option linter.unusedSimpArgs false
set_option linter.unusedVariables false
open Go.RowKit Go.Proofs.YtikfghnkbgdbgaaDoorW.PrintWords Go.Proofs.YtikfghnkbgdbgaaDoorW.PrintLast Go.Proofs.YtikfghnkbgdbgaaDoorW.PrintMore
theorem wide_fn (f : FuncId) : Fence.wide.fn f = True := rfl
theorem wide_depth : Fence.wide.depth = none := rfl
attribute [local go_sem] Oper.semAt_some wide_fn wide_depth
section
variable {w : World} {ms : List M} {gs : List G} {n : Int} {b g gm : Nat} {many : Int} {A0 : Option Addr} {c0 : Nat} {A1 : Option Addr} {c1 : Nat} {S : Nat → Prop} {base l yb nx : Nat} {J : List (List Wk) → World → Prop}
structure Mine (W : World) (l yb nx g gm : Nat) : Prop where
  y : W.heap[yb]? = some (.cells #[.func (.yield l) #[] #[]] 114 (0, 0))
  nx : W.heap[nx]? = some (.cells #[.func (.func 101) #[] #[.pointer (some ⟨g, 0, none⟩), .pointer (some ⟨gm, 0, none⟩), .pointer (some ⟨yb, 0, none⟩), .pointer (some ⟨nx, 0, none⟩)]] 127 (0, 0))
theorem Mine.keeps {n0 : Nat} {W W' : World} (h : Mine W l yb nx g gm) (hk : Keeps n0 S W W') (h1 : ¬ S yb) (h2 : ¬ S nx) : Mine W' l yb nx g gm := ⟨blk_kept h.y hk.kept h1, blk_kept h.nx hk.kept h2⟩
def Rounds (l m n0 base : Nat) (S : Nat → Prop) (ms : List M) (gs : List G) (n : Int) (J : List (List Wk) → World → Prop) : Prop :=
  ∀ pre x v W1, J pre W1 → Pr8 ms gs n base x v W1 → YieldAt Fence.wide m Tryd.prog l #[v] W1 fun e W' => e = .returned (.bool true) ∧ J (pre ++ [x]) W' ∧ Keeps n0 S W1 W'
set_option maxRecDepth 100000 in
set_option maxHeartbeats 4000000 in
theorem next_zero (hY : Rounds l 0 w.heap.size base S ms gs n J) (pre : List (List Wk)) (x : List Wk) (night gang : Int) (A : Option Addr) (c : Nat) (W : World) (hj : J pre W) (hs : Src w W ms gs n b g gm many A0 c0 A1 c1) (hm : Mine W l yb nx g gm)
    (hg1 : 1 ≤ gs.length) (hg2 : gs.length ≤ 2) (hm4 : many ≤ 4) (h0 : 0 ≤ gang) (h1 : gang ≤ gs.length) (h2 : 0 ≤ night) (he : night * gs.length + gang = many * gs.length) (hx : Pr8 ms gs n base x (.slice A x.length c) W) :
    Calls Tryd.prog 101 #[.slice A x.length c, .int .i64 night, .int .i64 gang, .pointer (some ⟨g, 0, none⟩), .pointer (some ⟨gm, 0, none⟩), .pointer (some ⟨yb, 0, none⟩), .pointer (some ⟨nx, 0, none⟩)] W fun e W' =>
      e = .returned (.bool true) ∧ J (pre ++ [x]) W' ∧ Keeps w.heap.size S W W' := by
  have hb1 := (blk_cell hs.box.box 1).trans rfl
  have hb2 := (blk_cell hs.mn 0).trans rfl
  have hb3 := (blk_cell hm.y 0).trans rfl
  have hgl := (Array.getElem?_eq_some_iff.1 hs.box.box).1
  obtain ⟨fn, tmps, assign, body, hy, hR⟩ := hY pre x _ W hj hx
  clear hj hs hm hx
  have hc : (gang = gs.length ∧ night + 1 = many) ∨ (gang = 0 ∧ night = many ∧ (gang == (gs.length : Int)) = false) := by
    by_cases h : gang = gs.length
    · refine .inl ⟨h, ?_⟩
      have e : (night + 1) * (gs.length : Int) = many * gs.length := by rw [Int.add_mul]; omega
      exact Int.eq_of_mul_eq_mul_right (by omega) e
    · refine .inr ?_
      have hlt : gang < gs.length := by omega
      have q := (Int.ediv_emod_unique (a := night * gs.length + gang) (b := gs.length) (r := gang) (q := night) (by omega)).2 ⟨by rw [Int.mul_comm]; omega, h0, hlt⟩
      rw [he, Int.mul_ediv_cancel _ (by omega), Int.mul_emod_left] at q
      exact ⟨q.2.symm, q.1.symm, beq_eq_false_iff_ne.2 h⟩
  clear he
  refine (callsIn_wide (n := 0)).1 (callsIn_of_wp Tryd.func101 rfl trivial ((wpIn_wide (n := 0)).2 ?_) rfl)
  simp only [Tryd.ntmps101, List.size_toArray, List.length_cons, List.length_nil, Nat.reduceAdd, Nat.reduceSub, Array.replicate_succ, Array.replicate_zero, List.push_toArray, List.append_toArray, List.nil_append, List.cons_append]
  rcases hc with ⟨rfl, hn⟩ | ⟨rfl, hn, hq⟩
  all_goals
    subst hn
    go_wp2
    go_step3
    refine (wpIn_wide (n := 0)).1 ?_
    gi_wp2
  all_goals
    refine hR.mono ?_
    rintro e W' ⟨rfl, h⟩
    gi_wp2
    simp only [Exit.noGoto_ret]
    refine bodyPost_ret (v := .bool true) (by simp [results, Tryd.results101, go_sem]) rfl ?_
    exact ⟨rfl, h⟩
end
end Go.Proofs.YtikfghnkbgdbgaaDoor.Q
end
section
namespace Go.Proofs.YtikfghnkbgdbgaaDoor.Q
set_option linter.unusedSimpArgs false
set_option linter.unusedVariables false
open Go.RowKit Go.Proofs.YtikfghnkbgdbgaaDoorW.PrintWords Go.Proofs.YtikfghnkbgdbgaaDoorW.PrintLast Go.Proofs.YtikfghnkbgdbgaaDoorW.PrintMore
section
variable {w : World} {ms : List M} {gs : List G} {n : Int} {b g gm : Nat} {many : Int} {A0 : Option Addr} {c0 : Nat} {A1 : Option Addr} {c1 : Nat} {S : Nat → Prop} {base l yb nx : Nat} {J : List (List Wk) → World → Prop}
structure Ctx (w : World) (ms : List M) (gs : List G) (n : Int) (b g gm : Nat) (many : Int) (A1 : Option Addr) (S : Nat → Prop) (base l yb nx : Nat) (J : List (List Wk) → World → Prop) : Prop where
  hY : Rounds l 0 w.heap.size base S ms gs n J
  hJ : ∀ pre A B, J pre A → Below A.heap.size A B → J pre B
  hS : ∀ k, base ≤ k → ¬ S k
  hg : ¬ S g
  hb : ¬ S b
  hm : ¬ S gm
  hy : base ≤ yb
  hn : base ≤ nx
  hw : w.heap.size ≤ base
  g1 : 1 ≤ gs.length
  g2 : gs.length ≤ 2
  m4 : many ≤ 4
  n0 : 0 ≤ n
  ml : ms.length ≤ 4
  rd : Kd.C k63 w A1 gs.length gs
  gv : GV w
def X_next : Nat := 0
def X_next.T13 : Bool × List (List Nat × List Nat) := (true, [([], []), ([], []), ([], []), ([], []), ([1, 2, 3], [1, 2, 3]), ([], []), ([5], [5]), ([4, 6], [4, 6]), ([], []), ([], []), ([9], [9]), ([0, 7, 8, 10, 7], [0, 7, 8, 10]), ([11], [11])])
def X_next.B13 : List Nat := [0, 0, 0, 0, 14, 0, 32, 126, 0, 0, 512, 2047, 4095]
theorem X_next.tab13 : rtab .any (opsOf Tryd.f101 13) = X_next.T13 := by kernel_rfl
theorem X_next.bits13 : waitsOk X_next.T13.2 X_next.B13 = true := by kernel_rfl
def NextSays (w : World) (ms : List M) (gs : List G) (n : Int) (b g gm : Nat) (many : Int) (A0 : Option Addr) (c0 : Nat) (A1 : Option Addr) (c1 : Nat) (S : Nat → Prop) (base l yb nx : Nat) (J : List (List Wk) → World → Prop) (s : Nat) : Prop :=
  ∀ (pre : List (List Wk)) (x : List Wk) (night gang : Int) (A : Option Addr) (c : Nat) (W : World), J pre W → Src w W ms gs n b g gm many A0 c0 A1 c1 → Mine W l yb nx g gm →
    0 ≤ gang → gang ≤ gs.length → 0 ≤ night → night * gs.length + gang + s = many * gs.length → (x.length : Int) ≤ night * gs.length + gang → Pr8 ms gs n base x (.slice A x.length c) W →
    Calls Tryd.prog 101 #[.slice A x.length c, .int .i64 night, .int .i64 gang, .pointer (some ⟨g, 0, none⟩), .pointer (some ⟨gm, 0, none⟩), .pointer (some ⟨yb, 0, none⟩), .pointer (some ⟨nx, 0, none⟩)] W fun e W' =>
      e = .returned (.bool true) ∧ J (pre ++ enumP ms gs n many s x) W' ∧ Keeps w.heap.size S W W'
set_option maxRecDepth 100000 in
set_option maxHeartbeats 8000000 in
theorem next_succ (C : Ctx w ms gs n b g gm many A1 S base l yb nx J) (s : Nat) (ih : NextSays w ms gs n b g gm many A0 c0 A1 c1 S base l yb nx J s) : NextSays w ms gs n b g gm many A0 c0 A1 c1 S base l yb nx J (s + 1) := by
  intro pre x night gang A c W hj hs hm h0 h1 h2 he hx8 hx
  have HC := Aside0.mk C
  have IH := Aside0.mk ih
  have HJ := Aside0.mk hj
  have HS := Aside0.mk hs
  have HM := Aside0.mk hm
  have HX := Aside0.mk hx
  obtain ⟨A', c', hv, hlc, hnil, hF, hfair⟩ := hx
  injection hv with hv1 hv2 hv3
  subst hv1 hv3
  have HF := Aside0.mk hF
  have HN := Aside0.mk hnil
  have HFA := Aside0.mk hfair
  clear hv2 hnil hF hfair
  have hb1 := (blk_cell hs.box.box 1).trans rfl
  have hgl := (Array.getElem?_eq_some_iff.1 hs.box.box).1
  have g2 := C.g2
  have m4 := C.m4
  have g1 := C.g1
  have hn1 : night ≤ 4 := by
    have : night * (gs.length : Int) ≤ 4 * gs.length := by have := Int.mul_le_mul_of_nonneg_right m4 (show (0 : Int) ≤ gs.length by omega); omega
    exact Int.le_of_mul_le_mul_right this (by omega)
  clear C ih hj hs hm
  go_enter Tryd.func101, Tryd.ntmps101
  go_wp2
  go_step3
  go_step
  go_cut [1, 2] (fun v1 v2 wc => ∃ N G : Int, v1 = .int .i64 N ∧ v2 = .int .i64 G ∧ 0 ≤ G ∧ G < gs.length ∧ 0 ≤ N ∧ N * gs.length + G + (s + 1) = many * gs.length ∧ (x.length : Int) ≤ N * gs.length + G ∧ W = wc)
  case first =>
    by_cases h : gang = gs.length
    · have hq : (gang == (gs.length : Int)) = true := beq_iff_eq.2 h
      go_wp2
      go_meet
      case rel => exact ⟨night + 1, 0, by first | rfl | (congr 1; unfold wrap64; omega), rfl, by omega, by omega, by omega, by rw [Int.add_mul]; omega, by rw [Int.add_mul]; omega, rfl⟩
    · have hq : (gang == (gs.length : Int)) = false := beq_eq_false_iff_ne.2 h
      go_wp2
      go_meet
      case rel => exact ⟨night, gang, rfl, rfl, h0, by omega, h2, he, hx8, rfl⟩
  case rest =>
    obtain ⟨N, G, rfl, rfl, hG0, hG1, hN0, heq, hx9, rfl⟩ := hcut
    have hlt : N < many := Int.lt_of_mul_lt_mul_right (a := (gs.length : Int)) (by omega) (by omega)
    have hne : (N == many) = false := beq_eq_false_iff_ne.2 (by omega)
    have hb2 := (blk_cell HS.out.mn 0).trans rfl
    have hb3 := (blk_cell HM.out.nx 0).trans rfl
    clear hb1 hgl h0 h1 h2 he hx8 hn1
    go_wp2_with (fail)
    refine (IH.out pre x N (G + 1) A c W HJ.out HS.out HM.out (by omega) (by omega) hN0 (by omega) (by omega) HX.out).mono ?_
    rintro e V1 ⟨rfl, hj1, hk1⟩
    have HJ1 := Aside0.mk hj1
    have HK1 := Aside0.mk hk1
    have HS1 := Aside0.mk (HS.out.keeps hk1 HC.out.hg HC.out.hb HC.out.hm)
    have hb0 := (blk_cell HS1.out.box.box 0).trans rfl
    clear hj1 hk1 hb2 hb3 hne HJ
    go_wp2_with (fail)
    go_step3
    go_wp2_with (fail)
    clear hb0
    have HLT := Aside0.mk hlt
    have ml := HC.out.ml
    have hxl : (x.length : Int) ≤ 7 := by
      have : many * (gs.length : Int) ≤ 4 * gs.length := Int.mul_le_mul_of_nonneg_right m4 (by omega)
      omega
    have hN4 : N < 4 := by omega
    clear hlt
    go_loopw [41] (fun v41 wr => ∃ k : Nat, k ≤ ms.length ∧ v41 = .int .i64 k ∧ Aside0 (J (pre ++ (enumP ms gs n many s x ++ ((upTo (k : Int)).filter (fun m => fitsB ms gs n x ⟨N, G, m⟩)).flatMap (fun m => enumP ms gs n many s (x ++ [⟨N, G, m⟩])))) wr) ∧ Aside0 (Keeps w.heap.size S W wr)) (fun v41 _ => ms.length - (intOf v41).toNat)
    case atStart => exact ⟨0, Nat.zero_le _, rfl, ⟨by simpa [upTo] using HJ1.out⟩, HK1⟩
    case round =>
      obtain ⟨k, hk, rfl, HJr, HKr⟩ := hrel
      by_cases hlt : k < ms.length
      · have HSr := Aside0.mk (HS.out.keeps HKr.out HC.out.hg HC.out.hb HC.out.hm)
        have HMr := Aside0.mk (HM.out.keeps HKr.out (HC.out.hS _ HC.out.hy) (HC.out.hS _ HC.out.hn))
        have hbl := (Below.refl wr.heap.size wr).alloc (Nat.le_refl _) (.cells #[.int .i64 N, .int .i64 G, .int .i64 k] 59)
        have HJ2 := Aside0.mk (HC.out.hJ _ _ _ HJr.out hbl)
        have HK2 := Aside0.mk (HKr.out.step hbl HS.out.box.bel.size)
        have HS2 := Aside0.mk (HSr.out.below hbl)
        have HB2 := Aside0.mk (World.alloc_heap_new wr (.cells #[.int .i64 N, .int .i64 G, .int .i64 k] 59))
        have hk4 : (k : Int) < 4 := by omega
        clear hbl
        go_upto_region 12 with (fail)
        go_cut [76] (fun v76 wc => v76 = .bool (!fitsB ms gs n x ⟨N, G, k⟩) ∧ Aside0 (J (pre ++ (enumP ms gs n many s x ++ ((upTo (k : Int)).filter (fun m => fitsB ms gs n x ⟨N, G, m⟩)).flatMap (fun m => enumP ms gs n many s (x ++ [⟨N, G, m⟩])))) wc) ∧ Aside0 (Keeps w.heap.size S W wc) ∧
          Aside0 (wc.heap[wr.heap.size]? = some (.cells #[.int .i64 N, .int .i64 G, .int .i64 k] 59 (0, 0))))
        case first =>
          have q0 := (blk_cell HS2.out.box.box 0).trans rfl
          have q1 := (blk_cell HS2.out.box.box 1).trans rfl
          have q2 := (blk_cell HS2.out.box.box 2).trans rfl
          have q3 := (blk_cell HS2.out.box.box 3).trans rfl
          have q4 := (blk_cell HB2.out 0).trans rfl
          have q5 := (blk_cell HB2.out 1).trans rfl
          have q6 := (blk_cell HB2.out 2).trans rfl
          go_wp2_with (fail)
          refine (can_calls ms gs A0 c0 A1 c1 n b _ _ _ _ ?s1 HC.out.n0 ?s2 ?s3 g2).mono ?_
          case s1 => exact Kd.C_below HC.out.rd HS2.out.box.bel
          case s2 => exact HS2.out.mp
          case s3 => exact gv_below HC.out.gv HS2.out.box.bel
          rintro e V3 ⟨he, hb⟩
          have HJ3 := Aside0.mk (HC.out.hJ _ _ _ HJ2.out hb)
          have HK3 := Aside0.mk (HK2.out.step hb HS.out.box.bel.size)
          have HB3 := Aside0.mk ((hb.block _ (Array.getElem?_eq_some_iff.1 HB2.out).1).trans HB2.out)
          have HP := Aside0.mk (Kd.F_now (Kd.F_kept HF.out HK3.out.kept HC.out.hS))
          clear hb q0 q1 q2 q3 q4 q5 q6
          cases hc : canB ms gs n ⟨N, G, (k : Int)⟩ with
          | false =>
            rw [hc] at he
            subst he
            have HCF := Aside0.mk hc
            clear hc
            go_wp2
            go_meet
            case rel =>
              refine ⟨?_, HJ3, HK3, HB3⟩
              have : fitsB ms gs n x ⟨N, G, k⟩ = false := by
                cases h : fitsB ms gs n x ⟨N, G, k⟩ with
                | false => rfl
                | true => exact absurd (fits_can h) (by rw [HCF.out]; simp)
              rw [this]; rfl
          | true =>
            rw [hc] at he
            subst he
            have HCF := Aside0.mk hc
            clear hc
            by_cases hxe : x = []
            · subst hxe
              go_wp2
              go_meet
              case rel =>
                refine ⟨?_, HJ3, HK3, HB3⟩
                rw [show fitsB ms gs n [] ⟨N, G, k⟩ = true by rw [fits_nil]; exact HCF.out]; rfl
            · have hxp : 0 < x.length := List.length_pos_iff.2 hxe
              have hx1 : decide (0 < (x.length : Int)) = true := decide_eq_true (by omega)
              have HXE := Aside0.mk hxe
              obtain ⟨ad, hA, hy0, hy1, hy2⟩ := at_T59 HP.out ((x.length : Int) - 1) (by omega) (by omega)
              rw [show ((x.length : Int) - 1).toNat = x.length - 1 by omega] at hy0 hy1 hy2
              clear hxe
              by_cases hyn : (rd_T59 x ((x.length : Int) - 1)).f0 = N
              · have hyq : ((rd_T59 x ((x.length : Int) - 1)).f0 == N) = true := beq_iff_eq.2 hyn
                have HYN := Aside0.mk hyn
                clear hyn
                subst hA
                go_wp2_with (fail)
                have hcy := canB_bounds (can_last HFA.out HXE.out)
                have hwr : wrap64 ((k : Int) - (rd_T59 x ((x.length : Int) - 1)).f2) = (k : Int) - (rd_T59 x ((x.length : Int) - 1)).f2 := by unfold wrap64; omega
                refine (within_calls _ _ _ _ rfl _).mono ?_
                rintro e V4 ⟨rfl, hb⟩
                have HJ4 := Aside0.mk (HC.out.hJ _ _ _ HJ3.out hb)
                have HK4 := Aside0.mk (HK3.out.step hb HS.out.box.bel.size)
                have HB4 := Aside0.mk ((hb.block _ (Array.getElem?_eq_some_iff.1 HB3.out).1).trans HB3.out)
                have HFT := Aside0.mk (show fitsB ms gs n x ⟨N, G, k⟩ = !within (wrap64 ((k : Int) - (rd_T59 x ((x.length : Int) - 1)).f2)) (-1) 1 by rw [hwr, fits_last2 ms gs n x _ HXE.out, HCF.out, HYN.out]; simp)
                clear hb hcy hwr
                go_wp2
                go_meet
                case rel => exact ⟨by rw [HFT.out, Bool.not_not], HJ4, HK4, HB4⟩
              · have hyq : ((rd_T59 x ((x.length : Int) - 1)).f0 == N) = false := beq_eq_false_iff_ne.2 hyn
                have HYN := Aside0.mk hyn
                clear hyn
                subst hA
                go_wp2
                go_meet
                case rel =>
                  refine ⟨?_, HJ3, HK3, HB3⟩
                  rw [show fitsB ms gs n x ⟨N, G, k⟩ = true by rw [fits_last2 ms gs n x _ HXE.out, HCF.out]; simp [HYN.out]]; rfl
        case rest =>
          obtain ⟨rfl, HJ3, HK3, HB3⟩ := hcut
          have HT := Aside0.mk (flat_snoc (fun m => fitsB ms gs n x ⟨N, G, m⟩) (fun m => enumP ms gs n many s (x ++ [⟨N, G, m⟩])) k)
          cases hf : fitsB ms gs n x ⟨N, G, (k : Int)⟩ with
          | false =>
            have HFF := Aside0.mk hf
            clear hf
            go_wp2
            go_roundw
            case rel => exact ⟨k + 1, by omega, by go_num, ⟨by rw [HT.out, if_neg (by rw [HFF.out]; simp), List.append_nil]; exact HJ3.out⟩, HK3⟩
            case measure => simp [intOf]; omega
          | true =>
            have HFF := Aside0.mk hf
            clear hf
            go_wp2_with (fail)
            have HM5 := Aside0.mk (show Mine wc.drew l yb nx g gm from ⟨(HM.out.keeps HK3.out (HC.out.hS _ HC.out.hy) (HC.out.hS _ HC.out.hn)).y, (HM.out.keeps HK3.out (HC.out.hS _ HC.out.hy) (HC.out.hS _ HC.out.hn)).nx⟩)
            have HK5 := Aside0.mk (HK3.out.step (Below.refl _ wc).drew HS.out.box.bel.size)
            have HJ5 := Aside0.mk (HC.out.hJ _ _ _ HJ3.out (Below.refl _ wc).drew)
            have HB5 := Aside0.mk (show wc.drew.heap[wr.heap.size]? = _ from HB3.out)
            clear HJ3 HK3 HB3
            refine start_ (n := 13) (S := fun w' => w'.cell? ⟨nx, 0, none⟩ = some (.func (.func 101) #[] #[.pointer (some ⟨g, 0, none⟩), .pointer (some ⟨gm, 0, none⟩), .pointer (some ⟨yb, 0, none⟩), .pointer (some ⟨nx, 0, none⟩)]) ∧ w'.cell? ⟨wr.heap.size, 0, none⟩ = some (.int .i64 N) ∧ w'.cell? ⟨wr.heap.size, 1, none⟩ = some (.int .i64 G) ∧ w'.cell? ⟨wr.heap.size, 2, none⟩ = some (.int .i64 k)) (ds := [11]) (bs 13 0) (by kernel_rfl) rfl rfl ⟨(blk_cell HM5.out.nx 0).trans rfl, (blk_cell HB5.out 0).trans rfl, (blk_cell HB5.out 1).trans rfl, (blk_cell HB5.out 2).trans rfl⟩ (fun hHeld => ?_)
            refine with_tabW X_next.tab13 X_next.bits13 (fun HT_ HW_ => ?_)
            generalize World.drew _ = w5 at HM5 HK5 HJ5 HB5 hHeld ⊢
            refine pu HT_ 1 (some 78) (bs 13 2) ?_
            refine pu HT_ 2 (some 79) (bs 13 6) ?_
            refine pu HT_ 3 (some 80) (bs 13 14) ?_
            refine pu HT_ 4 (some 81) (bs 13 30) ?_
            refine pu HT_ 8 (some 85) (bs 13 286) ?_
            refine pu HT_ 9 (some 86) (bs 13 798) ?_
            refine pu HT_ 10 (some 87) (bs 13 1822) ?_
            refine tk4 HT_ HW_ hHeld 0 (some 77) (bs 13 1823) ?_
            refine tk4 HT_ HW_ hHeld 5 (some 82) (bs 13 1855) ?_
            refine on HT_ 6 (some 83) (bs 13 1919) (fun K hK => ?_)
            refine value_ (w1 := ?_) (v := ?_) (by rfl) rfl ?_ ?_
            rotate_left 2
            · go_simp
              constructor
              · rfl
              · rfl
            refine hK.out _ _ ⟨(blk_cell (blk_alloc HM5.out.nx _) 0).trans rfl, (blk_cell (blk_alloc HB5.out _) 0).trans rfl, (blk_cell (blk_alloc HB5.out _) 1).trans rfl, (blk_cell (blk_alloc HB5.out _) 2).trans rfl⟩ (fun hHeld => ?_)
            clear hK K
            refine nm 83 ?_
            refine on HT_ 7 (some 84) (bs 13 2047) (fun K hK => ?_)
            obtain ⟨A', c', w6, hrun, hR6, hAn, hlc6, hb6⟩ := append_plan w5 A x ⟨N, G, k⟩ (Kd.F_now (Kd.F_kept HF.out HK5.out.kept HC.out.hS)) HN.out (by omega) 26
            refine value_ (w1 := w6) (v := .slice A' (x.length + 1) c') (by rfl) rfl ?_ ?_
            · simp [execOp, resolve, invoke, builtin, Act.eval, hrun, Result.andThen]
            have HR6 := Aside0.mk hR6
            have HA6 := Aside0.mk hAn
            have HL6 := Aside0.mk hlc6
            have HQ6 := Aside0.mk (((Below.refl w5.heap.size w5).alloc (Nat.le_refl _) (.cells #[.int .i64 N, .int .i64 G, .int .i64 k] 59)).trans (hb6.mono (Nat.le_succ _)))
            clear hR6 hAn hlc6 hb6 hrun
            have HM6 := Aside0.mk (show Mine w6 l yb nx g gm from ⟨(HQ6.out.block _ (Array.getElem?_eq_some_iff.1 HM5.out.y).1).trans HM5.out.y, (HQ6.out.block _ (Array.getElem?_eq_some_iff.1 HM5.out.nx).1).trans HM5.out.nx⟩)
            have HK6 := Aside0.mk (HK5.out.step HQ6.out HS.out.box.bel.size)
            have HJ6 := Aside0.mk (HC.out.hJ _ _ _ HJ5.out HQ6.out)
            have HB6 := Aside0.mk ((HQ6.out.block _ (Array.getElem?_eq_some_iff.1 HB5.out).1).trans HB5.out)
            refine hK.out _ _ ⟨(blk_cell HM6.out.nx 0).trans rfl, (blk_cell HB6.out 0).trans rfl, (blk_cell HB6.out 1).trans rfl, (blk_cell HB6.out 2).trans rfl⟩ (fun hHeld => ?_)
            clear hK K
            refine nm 84 ?_
            refine last_ (i := 11) (N := some 88) (bs 13 4095) rfl rfl (one_of HT_.out (by kernel_rfl)) (by decide) (fun K hK => ?_)
            have hwr : wrap64 (G + 1) = G + 1 := by unfold wrap64; omega
            have hlen : (x ++ [(⟨N, G, (k : Int)⟩ : Wk)]).length = x.length + 1 := by simp
            have hbn : base ≤ w5.heap.size := Nat.le_trans HC.out.hn (Nat.le_of_lt (Array.getElem?_eq_some_iff.1 HM5.out.nx).1)
            have hF6 : Kd.F k59 w6 (fun k => base ≤ k) A' (x.length + 1) (x ++ [⟨N, G, (k : Int)⟩]) := Kd.F_mono (Kd.R_F (Kd.R_bound HR6.out)) (fun q hq => by have := hq.2.1; omega)
            have hIH := IH.out _ (x ++ [⟨N, G, (k : Int)⟩]) N (G + 1) A' c' w6 HJ6.out (HS.out.keeps HK6.out HC.out.hg HC.out.hb HC.out.hm) HM6.out (by omega) (by omega) hN0 (by omega) (by rw [hlen]; omega)
              ⟨A', c', rfl, by rw [hlen]; exact HL6.out, fun h => by simp at h, by rw [hlen]; exact hF6, HFA.out.snoc (fits_can HFF.out) (by omega)⟩
            rw [hlen] at hIH
            refine goesC_ Tryd.func101 (by kernel_rfl) rfl #[.slice A' (x.length + 1) c', .int .i64 N, .int .i64 (G + 1), .pointer (some ⟨g, 0, none⟩), .pointer (some ⟨gm, 0, none⟩), .pointer (some ⟨yb, 0, none⟩), .pointer (some ⟨nx, 0, none⟩)] (by rfl) rfl rfl (by rfl) (by simp [Act.eval, i64_w, hwr]) ?_
            refine hIH.mono ?_
            clear hIH hF6 hlen hbn hwr
            rintro e w7 ⟨rfl, hj7, hk7⟩
            refine ⟨_, rfl, ?_⟩
            have HJ7 := Aside0.mk hj7
            have HK7 := Aside0.mk (HK6.out.trans hk7)
            clear hj7 hk7
            refine hK.out _ _ ?_
            clear hK K
            refine nm 88 ?_
            refine pu HT_ 12 (some 89) (bs 13 8191) ?_
            refine done_ (done_of HT_.out (by kernel_rfl)) ?_
            clear hHeld
            go_wp2
            go_roundw
            case rel => exact ⟨k + 1, by omega, by go_num, ⟨by rw [HT.out, if_pos HFF.out]; simpa only [List.append_assoc] using HJ7.out⟩, HK7⟩
            case measure => simp [intOf]; omega
      · obtain rfl : k = ms.length := by omega
        have HE := Aside0.mk (enumP_at ms gs n many s x N G hG0 hG1 heq)
        go_wp2
        simp only [Exit.noGoto_ret]
        refine bodyPost_ret (v := .bool true) (by simp [results, Tryd.results101, go_sem]) rfl ?_
        exact ⟨rfl, by rw [HE.out]; exact HJr.out, HKr.out⟩
end
end Go.Proofs.YtikfghnkbgdbgaaDoor.Q
end
section
namespace Go.Proofs.YtikfghnkbgdbgaaDoor.Q
set_option linter.unusedSimpArgs false
set_option linter.unusedVariables false
open Go.RowKit Go.Proofs.YtikfghnkbgdbgaaDoorW.PrintWords Go.Proofs.YtikfghnkbgdbgaaDoorW.PrintLast Go.Proofs.YtikfghnkbgdbgaaDoorW.PrintMore
section
variable {w : World} {ms : List M} {gs : List G} {n : Int} {b g gm : Nat} {many : Int} {A0 : Option Addr} {c0 : Nat} {A1 : Option Addr} {c1 : Nat}
theorem next_says {S : Nat → Prop} {base l yb nx : Nat} {J : List (List Wk) → World → Prop} (C : Ctx w ms gs n b g gm many A1 S base l yb nx J) : ∀ s, NextSays w ms gs n b g gm many A0 c0 A1 c1 S base l yb nx J s
  | 0 => fun pre x night gang A c W hj hs hm h0 h1 h2 he _ hx => next_zero C.hY pre x night gang A c W hj hs hm C.g1 C.g2 C.m4 h0 h1 h2 (by simpa using he) hx
  | s + 1 => next_succ C s (next_says C s)
set_option maxRecDepth 100000 in
set_option maxHeartbeats 2000000 in
/-- The iterator's contract. -/
theorem plans1_calls (wl : World) (S : Nat → Prop) (hS0 : ∀ k, S k → k < wl.heap.size) (hg : ¬ S g) (hb : ¬ S b) (hgm : ¬ S gm) (hs : Src w wl ms gs n b g gm many A0 c0 A1 c1) (g1 : 1 ≤ gs.length) (g2 : gs.length ≤ 2) (m0 : 0 ≤ many) (m4 : many ≤ 4) (n0 : 0 ≤ n) (ml : ms.length ≤ 4) (rd : Kd.C k63 w A1 gs.length gs) (gv : GV w)
    (l : Nat) (J : List (List Wk) → World → Prop) (W : World) (hl : l = wl.heap.size + 1) (hW : W.heap.size = wl.heap.size + 2) (hbW : Below wl.heap.size wl W) (hJ : ∀ pre A B, J pre A → Below A.heap.size A B → J pre B)
    (hY : ∀ pre x v W1, J pre W1 → Pr8 ms gs n (wl.heap.size + 2) x v W1 → YieldAt Fence.wide 0 Tryd.prog l #[v] W1 fun e W' => e = .returned (.bool true) ∧ J (pre ++ [x]) W' ∧ Keeps w.heap.size (fun k => S k ∨ k = l) W1 W') (h0 : J [] W) :
    Calls Tryd.prog 100 (#[.func (.yield l) #[] #[]] ++ #[.pointer (some ⟨g, 0, none⟩), .pointer (some ⟨gm, 0, none⟩)]) W fun e W' => (∃ v, e = .returned v) ∧ J (plansL ms gs n many) W' ∧ Keeps w.heap.size (fun k => S k ∨ k = l) W W' := by
  have hgl := (Array.getElem?_eq_some_iff.1 hs.box.box).1
  have hbl := hs.mp.lt
  have hml := (Array.getElem?_eq_some_iff.1 hs.mn).1
  have hsW := hs.box.bel.size
  obtain ⟨V, hV⟩ : ∃ V, W.alloc (.cells #[.func (.yield l) #[] #[]] 114) = V := ⟨_, rfl⟩
  have hVs : V.heap.size = W.heap.size + 1 := by rw [← hV]; simp
  have C : Ctx w ms gs n b g gm many A1 (fun k => S k ∨ k = l) (wl.heap.size + 2) l W.heap.size V.heap.size J :=
    ⟨hY, hJ, fun k hk h => h.elim (fun h => by have := hS0 k h; omega) (fun h => by omega), fun h => h.elim hg (fun h => by omega), fun h => h.elim hb (fun h => by omega), fun h => h.elim hgm (fun h => by omega), by omega, by omega, by omega, g1, g2, m4, n0, ml, rd, gv⟩
  have HC := Aside0.mk C
  have hb1 : Below W.heap.size W V := by rw [← hV]; exact (Below.refl W.heap.size W).alloc (Nat.le_refl _) _
  have hB2 : Below W.heap.size W (V.alloc (.cells #[(.func (.func 101) #[] #[.pointer (some ⟨g, 0, none⟩), .pointer (some ⟨gm, 0, none⟩), .pointer (some ⟨W.heap.size, 0, none⟩), .pointer (some ⟨V.heap.size, 0, none⟩)])] 127)) := hb1.alloc (by omega) _
  have hyb : V.heap[W.heap.size]? = some (.cells #[.func (.yield l) #[] #[]] 114 (0, 0)) := by rw [← hV]; exact World.alloc_heap_new W _
  have HB := Aside0.mk hB2
  have HM := Aside0.mk (Mine.mk (l := l) (g := g) (gm := gm) (blk_alloc hyb (.cells #[(.func (.func 101) #[] #[.pointer (some ⟨g, 0, none⟩), .pointer (some ⟨gm, 0, none⟩), .pointer (some ⟨W.heap.size, 0, none⟩), .pointer (some ⟨V.heap.size, 0, none⟩)])] 127)) (World.alloc_heap_new V (.cells #[(.func (.func 101) #[] #[.pointer (some ⟨g, 0, none⟩), .pointer (some ⟨gm, 0, none⟩), .pointer (some ⟨W.heap.size, 0, none⟩), .pointer (some ⟨V.heap.size, 0, none⟩)])] 127)))
  have HS := Aside0.mk ((hs.keeps (S := fun _ => False) ⟨hbW.mono hsW, Kept.of_below hbW _⟩ (fun h => h) (fun h => h) (fun h => h)).below hB2)
  have HJ0 := Aside0.mk (hJ _ _ _ h0 hB2)
  have hHW : w.heap.size ≤ W.heap.size := by omega
  have HV := Aside0.mk hV
  clear hs C hb1 hB2 hyb h0 hY hJ rd gv hS0 hg hb hgm hbW hW hl hgl hbl hml hsW hV hVs
  rw [show (#[Value.func (.yield l) #[] #[]] ++ #[Value.pointer (some ⟨g, 0, none⟩), Value.pointer (some ⟨gm, 0, none⟩)]) = #[Value.func (.yield l) #[] #[], Value.pointer (some ⟨g, 0, none⟩), Value.pointer (some ⟨gm, 0, none⟩)] from rfl]
  go_enter Tryd.func100, Tryd.ntmps100
  go_upto_region 1 with (fail)
  rw [HV.out]
  go_wp2_with (fail)
  refine (next_says HC.out (many.toNat * gs.length) [] [] 0 0 none 0 _ HJ0.out HS.out HM.out (Int.le_refl _) (by omega) (Int.le_refl _) ?he (by simp) ⟨none, 0, rfl, Nat.le_refl _, fun _ => rfl, Kd.F_nil _ _ _, ⟨fun j h => by simp at h, by simp⟩⟩).mono ?_
  case he =>
    rw [Int.natCast_mul, Int.toNat_of_nonneg m0]
    omega
  rintro e W' ⟨rfl, hj, hk⟩
  have HJ1 := Aside0.mk hj
  have HK1 := Aside0.mk hk
  clear hj hk
  go_wp2
  refine bodyPost_end (v := .tuple #[]) (by simp [results, Tryd.results100, go_sem]) rfl ?_
  exact ⟨⟨_, rfl⟩, by simpa [plansL] using HJ1.out, ⟨(HB.out.mono hHW).trans HK1.out.bel, (Kept.of_below HB.out _).then_ HK1.out.kept (fun _ h => .inl h)⟩⟩
set_option maxRecDepth 100000 in
set_option maxHeartbeats 1000000 in
/-- The maker of the iterator. -/
theorem plans_calls (A0 : Option Addr) (n0 c0 : Nat) (A1 : Option Addr) (n1 c1 : Nat) (n : Int) (b : Nat) (many : Int) (w : World) :
    Calls Tryd.prog 81 #[.agg #[.slice A0 n0 c0, .slice A1 n1 c1, .int .i64 n, .map (some b)], .int .i64 many] w fun e w' =>
      e = .returned (.func (.func 100) #[] #[.pointer (some ⟨w.heap.size, 0, none⟩), .pointer (some ⟨w.heap.size + 1, 0, none⟩)]) ∧
      w' = (w.alloc (.cells #[.slice A0 n0 c0, .slice A1 n1 c1, .int .i64 n, .map (some b)] 86)).alloc (.cells #[.int .i64 many] 3) := by
  go_enter Tryd.func81, Tryd.ntmps81
  go_wp2
  go_ret
  exact ⟨rfl, rfl⟩
end
end Go.Proofs.YtikfghnkbgdbgaaDoor.Q
end
section
namespace Go.Proofs.YtikfghnkbgdbgaaDoor.Q
set_option linter.unusedSimpArgs false
set_option linter.unusedVariables false
open Go.RowKit Go.Proofs.YtikfghnkbgdbgaaDoorW.PrintWords Go.Proofs.YtikfghnkbgdbgaaDoorW.PrintLast Go.Proofs.YtikfghnkbgdbgaaDoorW.PrintMore
def markOf (D : Nat) : Deferred := { target := .collected D, args := #[] }
def takeAll (w : World) : List Nat → World
  | [] => w
  | D :: r => takeAll (w.putObj D (.deferred none)) r
theorem leaves_marks {P : Program} {fn : Func} {tmps : Array Value} {R : Ending → World → Prop} {v : Value} : ∀ (Ds : List Nat) (w : World), Ds.Nodup → (∀ D ∈ Ds, w.heap[D]? = some (.deferred (some []))) →
    (results fn tmps).run P (takeAll w Ds) = .ok v (takeAll w Ds) → R (.returned v) (takeAll w Ds) → LeavesInM Fence.wide 0 P fn tmps R (Ds.map markOf) .returning w
  | [], w, _, _, hr, hR => ⟨_, hr, hR⟩
  | D :: r, w, hn, hd, hr, hR => by
    refine ⟨by simp, .inl ⟨D, _, rfl, run_takeDeferred (hd D (by simp)), ?_⟩⟩
    have hn' := List.nodup_cons.1 hn
    refine leaves_marks r _ hn'.2 (fun E hE => ?_) hr hR
    rw [World.putObj_heap_other (k := E) (r := D) (fun e => hn'.1 (by rw [← e]; exact hE))]
    exact hd E (by simp [hE])
theorem postM_ret {P : Program} {fn : Func} {a : Act} {w : World} {R : Ending → World → Prop} {v : Value} (Ds : List Nat) (ha : a.defers = Ds.map markOf) (hn : Ds.Nodup) (hd : ∀ D ∈ Ds, w.heap[D]? = some (.deferred (some [])))
    (hr : (results fn a.tmps).run P (takeAll w Ds) = .ok v (takeAll w Ds)) (hR : R (.returned v) (takeAll w Ds)) : bodyPostM Fence.wide 0 P fn R .ret a w := by
  show LeavesInM Fence.wide 0 P fn a.tmps R a.defers .returning w
  rw [ha]
  exact leaves_marks Ds w hn hd hr hR
theorem takeAll_below (n0 : Nat) : ∀ (Ds : List Nat) (w : World), (∀ D ∈ Ds, n0 ≤ D) → Below n0 w (takeAll w Ds)
  | [], w, _ => Below.refl _ _
  | D :: r, w, h => (below_putObj w D n0 _ (h D (by simp))).trans (takeAll_below n0 r _ (fun E hE => h E (by simp [hE])))
theorem calls_marks {P : Program} {f : FuncId} {fn : Func} {c : Code} {args : Array Value} {w : World} {R : Ending → World → Prop} (hf : P.funcs[f]? = some fn) (hb : fn.body = some c)
    (h : c.wp P (bodyPostM Fence.wide 0 P fn R) { tmps := args ++ Array.replicate (fn.ntmps - args.size) undef, defers := [] } w) : Calls P f args w R :=
  (callsIn_wide (n := 0)).1 (callsIn_of_wp_marks hf hb trivial ((wpIn_wide (n := 0)).2 h) rfl)
end Go.Proofs.YtikfghnkbgdbgaaDoor.Q
end
section
namespace Go.Proofs.YtikfghnkbgdbgaaDoor.Q
set_option linter.unusedSimpArgs false
set_option linter.unusedVariables false
open Go.RowKit Go.Proofs.YtikfghnkbgdbgaaDoorW.PrintWords Go.Proofs.YtikfghnkbgdbgaaDoorW.PrintLast Go.Proofs.YtikfghnkbgdbgaaDoorW.PrintMore
theorem cmp_law (a b : Int) : L.cmp_Compare_int.f a b = some (cmpI a b) := by
  unfold L.cmp_Compare_int.f L.cmp_isNaN_int.f cmpI
  simp
  split
  · rfl
  · split <;> rfl
theorem rd_get (l : List Int) (j : Nat) (h : j < l.length) : rd l (j : Int) = l[j] := by simp [rd, List.getD_eq_getElem?_getD, List.getElem?_eq_getElem h]
theorem compare_law (x y : List Int) (hx : x.length ≤ 64) : ∀ (k j : Nat), x.length - j < k → j ≤ x.length → j ≤ y.length → L.slices_Compare_int_int.l0 k x y x (x.length : Int) (j : Int) = some (cmpIL (x.drop j) (y.drop j))
  | 0, j, h, _, _ => by omega
  | k + 1, j, h, hj, hjy => by
    unfold L.slices_Compare_int_int.l0
    by_cases hlt : j < x.length
    · rw [if_pos (by omega), if_pos (by omega), if_pos (by omega), List.drop_eq_getElem_cons hlt]
      by_cases hy : j < y.length
      · rw [if_neg (by omega), if_pos (by omega), rd_get x j hlt, rd_get y j hy, cmp_law, List.drop_eq_getElem_cons hy]
        simp only [Option.bind_some, cmpIL]
        by_cases hc : cmpI x[j] y[j] = 0
        · rw [if_pos hc, if_neg (by simp [hc]), show wrap64 ((j : Int) + 1) = ((j + 1 : Nat) : Int) by unfold wrap64; omega]
          exact compare_law x y hx k (j + 1) (by omega) (by omega) (by omega)
        · rw [if_neg hc, if_pos hc]
      · rw [if_pos (by omega), show y.drop j = [] from List.drop_eq_nil_of_le (by omega)]
        rfl
    · obtain rfl : j = x.length := by omega
      rw [if_neg (by omega), show x.drop x.length = [] from List.drop_eq_nil_of_le (Nat.le_refl _)]
      by_cases hy : x.length < y.length
      · rw [if_pos (by omega), List.drop_eq_getElem_cons hy]
        rfl
      · rw [if_neg (by omega), show y.drop x.length = [] from List.drop_eq_nil_of_le (by omega)]
        rfl
theorem compare_calls (A0 : Option Addr) (c0 : Nat) (x : List Int) (A1 : Option Addr) (c1 : Nat) (y : List Int) (w : World) (hr0 : Kd.C (Kd.int .i64) w A0 x.length x) (hc0 : x.length ≤ c0) (hr1 : Kd.C (Kd.int .i64) w A1 y.length y) (hc1 : y.length ≤ c1) (hx : x.length ≤ 64) :
    Calls Tryd.prog 85 #[.slice A0 x.length c0, .slice A1 y.length c1] w fun e w' => e = .returned (.int .i64 (cmpIL x y)) ∧ Below w.heap.size w w' :=
  (L.slices_Compare_int_int.calls (x.length + 1) A0 c0 x A1 c1 y (cmpIL x y) w hr0 hc0 hr1 hc1 (compare_law x y hx (x.length + 1) 0 (by omega) (by omega) (by omega))).mono fun e w' ⟨he, hd⟩ => ⟨he, hd.below⟩
theorem greatest_law (a b : Int) : L.gang_greatest_int.f 3 a [b] = some (max a b) := by
  have e : wrap64 1 = 1 := by unfold wrap64; omega
  simp [L.gang_greatest_int.f, L.gang_greatest_int.l0, e, rd]
  unfold mx
  split <;> omega
theorem C_one (W : World) (b : Int) (t : TypeId) (c : Nat) : Kd.C (Kd.int .i64) (W.alloc (.cells #[.int .i64 b] t)) (some ⟨W.heap.size, 0, none⟩) 1 [b] := by
  refine ⟨rfl, by decide, fun _ => ⟨_, rfl, fun j p hj => ?_⟩⟩
  cases j with
  | zero =>
    simp at hj
    subst hj
    refine ⟨[.int .i64 b], rfl, rfl, fun i u hu => ?_⟩
    cases i with
    | zero =>
      simp at hu
      subst hu
      exact (blk_cell (World.alloc_heap_new W _) 0).trans rfl
    | succ i => simp at hu
  | succ j => simp at hj
theorem greatest_calls (a b : Int) (W : World) (t : TypeId) : Calls Tryd.prog 84 #[.int .i64 a, .slice (some ⟨W.heap.size, 0, none⟩) 1 1] (W.alloc (.cells #[.int .i64 b] t)) fun e w' => e = .returned (.int .i64 (max a b)) ∧ Below (W.heap.size + 1) (W.alloc (.cells #[.int .i64 b] t)) w' :=
  (L.gang_greatest_int.calls 3 a (some ⟨W.heap.size, 0, none⟩) 1 [b] (max a b) _ (C_one W b t 1) (Nat.le_refl _) (greatest_law a b)).mono fun e w' ⟨he, hd⟩ => ⟨he, by rwa [World.size_alloc] at hd⟩
end Go.Proofs.YtikfghnkbgdbgaaDoor.Q
end
section
namespace Go.Proofs.YtikfghnkbgdbgaaDoor.Q
set_option linter.unusedSimpArgs false
set_option linter.unusedVariables false
open Go.RowKit Go.Proofs.YtikfghnkbgdbgaaDoorW.PrintWords Go.Proofs.YtikfghnkbgdbgaaDoorW.PrintLast Go.Proofs.YtikfghnkbgdbgaaDoorW.PrintMore
theorem C_three {W : World} {g : Nat} {a b c : Int} {t : TypeId} (h : W.heap[g]? = some (.cells #[.int .i64 a, .int .i64 b, .int .i64 c] t (0, 0))) : Kd.C (Kd.int .i64) W (some ⟨g, 0, none⟩) 3 [a, b, c] := by
  refine ⟨rfl, by decide, fun _ => ⟨_, rfl, fun j p hj => ?_⟩⟩
  have key : ∀ (u : Int) (j : Nat), #[Value.int .i64 a, .int .i64 b, .int .i64 c][j]? = some (.int .i64 u) → ∃ cs : List Value, cs.length = 1 ∧ (Kd.int .i64).K W u cs ∧ ∀ i v, cs[i]? = some v → W.cell? ((⟨g, 0, none⟩ : Addr).add (j * 1 + i)) = some v := by
    intro u j hu
    refine ⟨[.int .i64 u], rfl, rfl, fun i v hv => ?_⟩
    cases i with
    | zero =>
      simp at hv
      subst hv
      rw [Addr.add_lit, blk_cell h]
      simpa using hu
    | succ i => simp at hv
  match j, hj with
  | 0, hj => simp at hj; subst hj; exact key a 0 rfl
  | 1, hj => simp at hj; subst hj; exact key b 1 rfl
  | 2, hj => simp at hj; subst hj; exact key c 2 rfl
  | j + 3, hj => simp at hj
theorem cmpW_list (x y : Wk) : cmpIL [x.f0, x.f1, x.f2] [y.f0, y.f1, y.f2] = cmpW x y := by
  unfold cmpW
  simp only [cmpIL]
  split
  · rfl
  · split
    · rfl
    · split
      · rfl
      · rename_i h; simp at h; exact h.symm
set_option maxRecDepth 100000 in
set_option maxHeartbeats 2000000 in
theorem cmpW_calls (x y : Wk) (w : World) : Calls Tryd.prog 99 #[.agg #[.int .i64 x.f0, .int .i64 x.f1, .int .i64 x.f2], .agg #[.int .i64 y.f0, .int .i64 y.f1, .int .i64 y.f2]] w fun e w' => e = .returned (.int .i64 (cmpW x y)) ∧ Below w.heap.size w w' := by
  obtain ⟨V, hV⟩ : ∃ V, (w.alloc (.cells #[.int .i64 x.f0, .int .i64 x.f1, .int .i64 x.f2] 59)).alloc (.cells #[.int .i64 y.f0, .int .i64 y.f1, .int .i64 y.f2] 59) = V := ⟨_, rfl⟩
  have hb : Below w.heap.size w V := by rw [← hV]; exact ((Below.refl _ w).alloc (Nat.le_refl _) _).alloc (by simp) _
  have h1 : V.heap[w.heap.size]? = some (.cells #[.int .i64 x.f0, .int .i64 x.f1, .int .i64 x.f2] 59 (0, 0)) := by rw [← hV]; exact blk_alloc (World.alloc_heap_new w _) _
  have h2 : V.heap[w.heap.size + 1]? = some (.cells #[.int .i64 y.f0, .int .i64 y.f1, .int .i64 y.f2] 59 (0, 0)) := by rw [← hV]; have := World.alloc_heap_new (w.alloc (.cells #[.int .i64 x.f0, .int .i64 x.f1, .int .i64 x.f2] 59)) (.cells #[.int .i64 y.f0, .int .i64 y.f1, .int .i64 y.f2] 59); rwa [World.size_alloc] at this
  have a0 := (blk_cell h1 0).trans rfl
  have a1 := (blk_cell h1 1).trans rfl
  have a2 := (blk_cell h1 2).trans rfl
  have b0 := (blk_cell h2 0).trans rfl
  have b1 := (blk_cell h2 1).trans rfl
  have b2 := (blk_cell h2 2).trans rfl
  have hv1 := (Array.getElem?_eq_some_iff.1 h1).1
  have hv2 := (Array.getElem?_eq_some_iff.1 h2).1
  have HV := Aside0.mk hV
  have HB := Aside0.mk hb
  clear hV hb h1 h2
  go_enter Tryd.func99, Tryd.ntmps99
  go_upto_region 1 with (fail)
  rw [HV.out]
  go_wp2_with (fail)
  have k1 := C_three (blk_alloc (World.alloc_heap_new V (.cells #[.int .i64 x.f0, .int .i64 x.f1, .int .i64 x.f2] 3)) (.cells #[.int .i64 y.f0, .int .i64 y.f1, .int .i64 y.f2] 3))
  have k2 := C_three (World.alloc_heap_new (V.alloc (.cells #[.int .i64 x.f0, .int .i64 x.f1, .int .i64 x.f2] 3)) (.cells #[.int .i64 y.f0, .int .i64 y.f1, .int .i64 y.f2] 3))
  rw [World.size_alloc] at k2
  refine (compare_calls _ 3 [x.f0, x.f1, x.f2] _ 3 [y.f0, y.f1, y.f2] _ k1 (by simp) k2 (by simp) (by simp)).mono ?_
  rintro e w1 ⟨rfl, hb1⟩
  have HB1 := Aside0.mk (below_then ((HB.out.alloc HB.out.size (.cells #[.int .i64 x.f0, .int .i64 x.f1, .int .i64 x.f2] 3)).alloc (by simp; have := HB.out.size; omega) (.cells #[.int .i64 y.f0, .int .i64 y.f1, .int .i64 y.f2] 3)) (by simp; have := HB.out.size; omega) hb1)
  rw [cmpW_list]
  clear k1 k2 hb1
  go_wp2
  go_ret
  exact ⟨rfl, HB1.out⟩
set_option maxRecDepth 100000 in
set_option maxHeartbeats 2000000 in
theorem compareFunc_calls (A0 : Option Addr) (c0 : Nat) (x : List Wk) (A1 : Option Addr) (c1 : Nat) (y : List Wk) (w : World) (hr0 : Kd.C k59 w A0 x.length x) (hr1 : Kd.C k59 w A1 y.length y) (hx : x.length ≤ 8) (hy : y.length ≤ 8) :
    Calls Tryd.prog 98 #[.slice A0 x.length c0, .slice A1 y.length c1, .func (.func 99) #[] #[]] w fun e w' => e = .returned (.int .i64 (cmpL x y)) ∧ Below w.heap.size w w' := by
  have HR0 := Aside0.mk hr0
  have HR1 := Aside0.mk hr1
  clear hr0 hr1
  go_enter Tryd.func98, Tryd.ntmps98
  go_wp2
  go_loopw [13] (fun v13 wr => ∃ k : Nat, k ≤ x.length ∧ k ≤ y.length ∧ v13 = .int .i64 k ∧ Aside0 (cmpL x y = cmpL (x.drop k) (y.drop k)) ∧ Aside0 (Below w.heap.size w wr)) (fun v13 _ => x.length - (intOf v13).toNat)
  case atStart => exact ⟨0, Nat.zero_le _, Nat.zero_le _, rfl, ⟨rfl⟩, ⟨Below.refl _ _⟩⟩
  case round =>
    obtain ⟨k, hk, hky, rfl, HE, HY⟩ := hrel
    by_cases hlt : k < x.length
    · obtain ⟨ad, hA, hx0, hx1, hx2⟩ := at_T59 (Kd.C_below HR0.out HY.out) (k : Int) (by omega) (by omega)
      rw [Int.toNat_natCast] at hx0 hx1 hx2
      subst hA
      by_cases hlty : k < y.length
      · obtain ⟨ay, hA, hy0, hy1, hy2⟩ := at_T59 (Kd.C_below HR1.out HY.out) (k : Int) (by omega) (by omega)
        rw [Int.toNat_natCast] at hy0 hy1 hy2
        subst hA
        have HS := Aside0.mk (show cmpL (x.drop k) (y.drop k) = if cmpW (rd_T59 x k) (rd_T59 y k) ≠ 0 then cmpW (rd_T59 x k) (rd_T59 y k) else cmpL (x.drop (k + 1)) (y.drop (k + 1)) by
          rw [drop_W3 x k hlt, drop_W3 y k hlty]; rfl)
        have bl := (Below.refl wr.heap.size wr).alloc (Nat.le_refl _) (.cells #[.int .i64 (rd_T59 x k).f0, .int .i64 (rd_T59 x k).f1, .int .i64 (rd_T59 x k).f2] 59)
        have hz0 := (bl.cell (World.block_lt_of_cell? _ _ hy0)).trans hy0
        have hz1 := (bl.cell (World.block_lt_of_cell? _ _ hy1)).trans hy1
        have hz2 := (bl.cell (World.block_lt_of_cell? _ _ hy2)).trans hy2
        have HBL := Aside0.mk ((HY.out.trans (bl.mono HY.out.size)).alloc (by simp; have := HY.out.size; omega) (.cells #[.int .i64 (rd_T59 y k).f0, .int .i64 (rd_T59 y k).f1, .int .i64 (rd_T59 y k).f2] 59))
        clear bl hy0 hy1 hy2
        go_wp2_with (fail)
        refine (cmpW_calls (rd_T59 x k) (rd_T59 y k) _).mono ?_
        rintro e w2 ⟨rfl, hb⟩
        have HB2 := Aside0.mk (below_then HBL.out HBL.out.size hb)
        clear hb hx0 hx1 hx2 hz0 hz1 hz2
        by_cases hc : cmpW (rd_T59 x k) (rd_T59 y k) = 0
        · have hc1 : (cmpW (rd_T59 x k) (rd_T59 y k) == 0) = true := beq_iff_eq.2 hc
          have hc2 : (cmpW (rd_T59 x k) (rd_T59 y k) != 0) = false := by simp [bne, hc1]
          have HC := Aside0.mk hc
          clear hc
          go_wp2
          go_roundw
          case rel => exact ⟨k + 1, by omega, by omega, by go_num, ⟨by rw [HE.out, HS.out, if_neg (by rw [HC.out]; simp)]⟩, HB2⟩
          case measure => simp [intOf]; omega
        · have hc1 : (cmpW (rd_T59 x k) (rd_T59 y k) == 0) = false := beq_eq_false_iff_ne.2 hc
          have hc2 : (cmpW (rd_T59 x k) (rd_T59 y k) != 0) = true := by simp [bne, hc1]
          have HC := Aside0.mk hc
          clear hc
          go_wp2
          go_ret
          exact ⟨by rw [HE.out, HS.out, if_pos HC.out]; rfl, HB2.out⟩
      · have HS := Aside0.mk (show cmpL (x.drop k) (y.drop k) = 1 by
          rw [drop_W3 x k hlt, List.drop_eq_nil_of_le (show y.length ≤ k by omega)]; rfl)
        have HBL := Aside0.mk (HY.out.alloc HY.out.size (.cells #[.int .i64 (rd_T59 x k).f0, .int .i64 (rd_T59 x k).f1, .int .i64 (rd_T59 x k).f2] 59))
        go_wp2
        go_ret
        exact ⟨by rw [HE.out, HS.out]; rfl, HBL.out⟩
    · obtain rfl : k = x.length := by omega
      by_cases hyl : x.length < y.length
      · have HS := Aside0.mk (show cmpL (x.drop x.length) (y.drop x.length) = -1 by
          rw [drop_W3 y _ hyl, List.drop_eq_nil_of_le (Nat.le_refl _)]; rfl)
        go_wp2
        go_ret
        exact ⟨by rw [HE.out, HS.out]; rfl, HY.out⟩
      · have HS := Aside0.mk (show cmpL (x.drop x.length) (y.drop x.length) = 0 by
          rw [List.drop_eq_nil_of_le (show x.length ≤ x.length from Nat.le_refl _), List.drop_eq_nil_of_le (show y.length ≤ x.length by omega)]; rfl)
        go_wp2
        go_ret
        exact ⟨by rw [HE.out, HS.out]; rfl, HY.out⟩
set_option maxRecDepth 100000 in
set_option maxHeartbeats 2000000 in
theorem better_calls (A0 : Option Addr) (c0 : Nat) (x : List Wk) (A1 : Option Addr) (c1 : Nat) (y : List Wk) (w : World) (hr0 : Kd.C k59 w A0 x.length x) (hr1 : Kd.C k59 w A1 y.length y) (hx : x.length ≤ 8) (hy : y.length ≤ 8) :
    Calls Tryd.prog 97 #[.slice A0 x.length c0, .slice A1 y.length c1] w fun e w' => e = .returned (.bool (betterB x y)) ∧ Below w.heap.size w w' := by
  have HR0 := Aside0.mk hr0
  have HR1 := Aside0.mk hr1
  clear hr0 hr1
  go_enter Tryd.func97, Tryd.ntmps97
  by_cases h1 : x.length < y.length
  · have q1 : decide (x.length < y.length) = true := decide_eq_true h1
    have HB := Aside0.mk (show betterB x y = true by simp [betterB, h1])
    go_wp2
    go_ret
    exact ⟨by rw [HB.out]; rfl, Below.refl _ _⟩
  · have q1 : decide (x.length < y.length) = false := decide_eq_false h1
    by_cases h2 : x.length = y.length
    · have q2 : (x.length == y.length) = true := beq_iff_eq.2 h2
      have q3 : ((x.length : Int) == (y.length : Int)) = true := beq_iff_eq.2 (by omega)
      have HB := Aside0.mk (show betterB x y = decide (cmpL x y < 0) by simp [betterB, h1, h2])
      clear h1 h2
      go_wp2_with (fail)
      refine (compareFunc_calls A0 c0 x A1 c1 y _ HR0.out HR1.out hx hy).mono ?_
      rintro e w1 ⟨rfl, hb⟩
      have HB1 := Aside0.mk hb
      clear hb
      go_wp2
      go_ret
      exact ⟨by rw [HB.out]; rfl, HB1.out⟩
    · have q2 : (x.length == y.length) = false := beq_eq_false_iff_ne.2 h2
      have q3 : ((x.length : Int) == (y.length : Int)) = false := beq_eq_false_iff_ne.2 (by omega)
      have HB := Aside0.mk (show betterB x y = false by simp [betterB, h1, h2])
      clear h1 h2
      go_wp2
      go_ret
      exact ⟨by rw [HB.out]; rfl, Below.refl _ _⟩
set_option maxRecDepth 100000 in
theorem fewest_calls (w : World) : Calls Tryd.prog 80 #[] w fun e w' => e = .returned (.agg #[.func (.func 97) #[] #[]]) ∧ Below w.heap.size w w' := by
  go_enter Tryd.func80, Tryd.ntmps80
  go_wp2
  refine bodyPost_ret (v := .agg #[.func (.func 97) #[] #[]]) (by simp [results, Tryd.results80, go_sem]) rfl ⟨rfl, ?_⟩
  exact (Below.refl _ w).alloc (Nat.le_refl _) _
end Go.Proofs.YtikfghnkbgdbgaaDoor.Q
end
section
namespace Go.Proofs.YtikfghnkbgdbgaaDoorW.PrintLast
open Go.RowKit Go.Proofs.YtikfghnkbgdbgaaDoorW.PrintWords Go.Proofs.YtikfghnkbgdbgaaDoorW.PrintMore
section
variable {P : Program} {ops : Array Oper} {Q : Exit → Act → World → Prop}
theorem goesF_ {oi : Oper} {N : Option Tmp} {a : Act} {w : World} {K : Act → World → Prop} {f : FuncId} {fn : Func} {c : Operand} {ags : Array Operand} {ts : Array TypeId} {fst lb : Array Value} (hf : P.funcs[f]? = some fn) (hname : (fn.name == "runtime.NumGoroutine") = false) (hb : fn.body.isSome = true) (args : Array Value)
    (hw : Region.wanted oi (yielded ops a.tmps) = true) (hN : oi.dst = N) (hop : oi.op = .call { callee := .value c, args := ags, argTypes := ts }) (hc : a.eval c = .func (.func f) fst lb) (hargs : fst ++ ags.map a.eval ++ lb = args)
    (h : Calls P f args w fun e w' => ∃ v, e = .returned v ∧ K (a.put N v) w') : if Region.wanted oi (yielded ops a.tmps) = true then Oper.wp P oi a w K Q else K (a.put N undef) w := by
  refine call_ f args hw hN ?_ h
  have he := enters_ hf hname hb args w
  unfold execOp
  simp [hop, resolve, Deferred.ofValue, invoke, hc, ← Array.append_assoc, hargs, he]
end
end Go.Proofs.YtikfghnkbgdbgaaDoorW.PrintLast
namespace Go.Proofs.YtikfghnkbgdbgaaDoor.Q
set_option linter.unusedSimpArgs false
set_option linter.unusedVariables false
open Go.RowKit Go.Proofs.YtikfghnkbgdbgaaDoorW.PrintWords Go.Proofs.YtikfghnkbgdbgaaDoorW.PrintLast Go.Proofs.YtikfghnkbgdbgaaDoorW.PrintMore
def retM (P : Program) (fn : Func) (R : Ending → World → Prop) : Exit → Act → World → Prop
  | .ret, a, w => LeavesInM Fence.wide 0 P fn a.tmps R a.defers .returning w
  | _, _, _ => False
theorem calls_ret {P : Program} {f : FuncId} {fn : Func} {c : Code} {args : Array Value} {w : World} {R : Ending → World → Prop} (hf : P.funcs[f]? = some fn) (hb : fn.body = some c)
    (h : c.wp P (retM P fn R) { tmps := args ++ Array.replicate (fn.ntmps - args.size) undef, defers := [] } w) : Calls P f args w R :=
  calls_marks hf hb (Code.wp_mono (fun e a w q => by cases e <;> first | exact q | exact q.elim) h)
theorem retM_ret {P : Program} {fn : Func} {a : Act} {w : World} {R : Ending → World → Prop} {v : Value} (Ds : List Nat) (ha : a.defers = Ds.map markOf) (hn : Ds.Nodup) (hd : ∀ D ∈ Ds, w.heap[D]? = some (.deferred (some [])))
    (hr : (results fn a.tmps).run P (takeAll w Ds) = .ok v (takeAll w Ds)) (hR : R (.returned v) (takeAll w Ds)) : retM P fn R .ret a w := postM_ret Ds ha hn hd hr hR
theorem takeAll_kept : ∀ (Ds : List Nat) (w : World), Kept w (takeAll w Ds) (fun k => k ∈ Ds)
  | [], w => Kept.refl _ _
  | D :: r, w => by
    have h := takeAll_kept r (w.putObj D (.deferred none))
    refine (Kept.refl w _).then_ (S2 := fun k => k ∈ D :: r) ⟨by show w.heap.size ≤ (takeAll (w.putObj D (.deferred none)) r).heap.size; have := h.1; simpa using this, fun i hi hn => ?_⟩ (fun _ hk => .inl hk)
    have hn1 : i ≠ D := fun e => hn (by simp [e])
    have hn2 : i ∉ r := fun e => hn (by simp [e])
    exact (h.2 i (by simpa using hi) hn2).trans (World.putObj_heap_other hn1)
theorem mended_empty {ms : List M} {gs : List G} {n : Int} (h : okB ms gs n = true) : mendedL ms gs [] = [] := mended_none h rfl rfl rfl rfl
theorem bestOf_snoc (ms : List M) (gs : List G) (pre : List (List Wk)) (x : List Wk) : bestOf ms gs (pre ++ [x]) = bestStep ms gs (bestOf ms gs pre) x := by simp [bestOf]
theorem bestStep_cases (ms : List M) (gs : List G) (b : Option (List Wk)) (x : List Wk) : (bestStep ms gs b x = some x ∧ (mendedL ms gs x).length = ms.length) ∨ bestStep ms gs b x = b := by
  have key : ∀ c : Bool, ((if (c && decide ((mendedL ms gs x).length = ms.length)) = true then some x else b) = some x ∧ (mendedL ms gs x).length = ms.length) ∨ (if (c && decide ((mendedL ms gs x).length = ms.length)) = true then some x else b) = b := by
    intro c
    by_cases hc : (c && decide ((mendedL ms gs x).length = ms.length)) = true
    · rw [if_pos hc]
      rw [Bool.and_eq_true] at hc
      exact .inl ⟨rfl, of_decide_eq_true hc.2⟩
    · rw [if_neg hc]
      exact .inr rfl
  exact key _
theorem bestOf_full (ms : List M) (gs : List G) : ∀ (l : List (List Wk)) (b : Option (List Wk)), (∀ p, b = some p → (mendedL ms gs p).length = ms.length) → ∀ p, l.foldl (bestStep ms gs) b = some p → (mendedL ms gs p).length = ms.length
  | [], b, hb, p, h => hb p h
  | x :: r, b, hb, p, h => by
    refine bestOf_full ms gs r _ ?_ p h
    intro q hq
    rcases bestStep_cases ms gs b x with ⟨e, hl⟩ | e
    · rw [e] at hq
      injection hq with hq
      rw [← hq]
      exact hl
    · rw [e] at hq
      exact hb q hq
theorem bestOf_ne {ms : List M} {gs : List G} {n : Int} (hok : okB ms gs n = true) {pre : List (List Wk)} {p : List Wk} (h : bestOf ms gs pre = some p) : p ≠ [] := by
  intro e
  subst e
  have := bestOf_full ms gs pre none (fun _ h => by cases h) [] h
  rw [mended_empty hok] at this
  have := (okB_bounds hok).1.1
  simp at *
  omega
def BestV (W : World) (ms : List M) (gs : List G) (n : Int) (base : Nat) : Option (List Wk) → Value → Prop
  | none, v => v = .slice none 0 0
  | some p, v => Pr8 ms gs n base p v W
structure PlanI (w W : World) (ms : List M) (gs : List G) (n : Int) (b g gx p6 p7 gb base : Nat) (Ds : List Nat) (A0 : Option Addr) (c0 : Nat) (A1 : Option Addr) (c1 : Nat) (pre : List (List Wk)) : Prop where
  box : BoxAt w W A0 ms.length c0 A1 gs.length c1 n b g
  x : W.heap[gx]? = some (.cells #[.slice A0 ms.length c0, .slice A1 gs.length c1, .int .i64 n] 25 (0, 0))
  mp : MapIs W b (spotsL ms n.toNat)
  h6 : W.heap[p6]? = some (.cells #[.func (.func 97) #[] #[]] 103 (0, 0))
  h7 : W.heap[p7]? = some (.cells #[.func (.func 77) #[.agg #[.slice A0 ms.length c0, .slice A1 gs.length c1, .int .i64 n, .map (some b)]] #[]] 100 (0, 0))
  ds : ∀ D ∈ Ds, W.heap[D]? = some (.deferred (some []))
  best : ∃ v, W.heap[gb]? = some (.cells #[v] 26 (0, 0)) ∧ BestV W ms gs n base (bestOf ms gs pre) v
section
variable {w W W' : World} {ms : List M} {gs : List G} {n : Int} {b g gx p6 p7 gb base : Nat} {Ds : List Nat} {A0 : Option Addr} {c0 : Nat} {A1 : Option Addr} {c1 : Nat} {pre : List (List Wk)}
theorem Pr8.below {x : List Wk} {v : Value} (h : Pr8 ms gs n base x v W) (hb : Below W.heap.size W W') : Pr8 ms gs n base x v W' := by
  obtain ⟨A, c, h1, h2, h3, h4, h5⟩ := h
  exact ⟨A, c, h1, h2, h3, Kd.F_below h4 hb, h5⟩
theorem Pr8.kept {x : List Wk} {v : Value} {S : Nat → Prop} (h : Pr8 ms gs n base x v W) (hb : Kept W W' S) (hS : ∀ k, base ≤ k → ¬ S k) : Pr8 ms gs n base x v W' := by
  obtain ⟨A, c, h1, h2, h3, h4, h5⟩ := h
  exact ⟨A, c, h1, h2, h3, Kd.F_kept h4 hb hS, h5⟩
theorem BestV.below {o : Option (List Wk)} {v : Value} (h : BestV W ms gs n base o v) (hb : Below W.heap.size W W') : BestV W' ms gs n base o v := by
  cases o with
  | none => exact h
  | some p => exact Pr8.below h hb
theorem BestV.kept {o : Option (List Wk)} {v : Value} {S : Nat → Prop} (h : BestV W ms gs n base o v) (hb : Kept W W' S) (hS : ∀ k, base ≤ k → ¬ S k) : BestV W' ms gs n base o v := by
  cases o with
  | none => exact h
  | some p => exact Pr8.kept h hb hS
theorem PlanI.below (h : PlanI w W ms gs n b g gx p6 p7 gb base Ds A0 c0 A1 c1 pre) (hb : Below W.heap.size W W') : PlanI w W' ms gs n b g gx p6 p7 gb base Ds A0 c0 A1 c1 pre := by
  obtain ⟨v, h1, h2⟩ := h.best
  have lift : ∀ {k : Nat} {o : Obj}, W.heap[k]? = some o → W'.heap[k]? = some o := fun hk => (hb.block _ (Array.getElem?_eq_some_iff.1 hk).1).trans hk
  exact ⟨h.box.step hb, lift h.x, h.mp.below hb, lift h.h6, lift h.h7, fun D hD => lift (h.ds D hD), v, lift h1, h2.below hb⟩
theorem PlanI.store {pre' : List (List Wk)} (h : PlanI w W ms gs n b g gx p6 p7 gb base Ds A0 c0 A1 c1 pre) (h1 : g ≠ gb) (h2 : gx ≠ gb) (h3 : b ≠ gb) (h4 : p6 ≠ gb) (h5 : p7 ≠ gb) (h6 : ∀ D ∈ Ds, D ≠ gb) (hw : w.heap.size ≤ gb) (hl : gb < base) (v' : Value) (hv : BestV W ms gs n base (bestOf ms gs pre') v') :
    PlanI w (W.setCell ⟨gb, 0, none⟩ v') ms gs n b g gx p6 p7 gb base Ds A0 c0 A1 c1 pre' := by
  obtain ⟨v, q1, q2⟩ := h.best
  refine ⟨⟨blk_far h.box.box h1 _, h.box.bel.setCell (p := ⟨gb, 0, none⟩) hw _⟩, blk_far h.x h2 _, h.mp.kept (Below.heap_setCell _ _ _ _ h3), blk_far h.h6 h4 _, blk_far h.h7 h5 _, fun D hD => (Below.heap_setCell _ _ _ _ (h6 D hD)).trans (h.ds D hD), v', (blk_set q1 0 _).trans rfl, ?_⟩
  exact hv.kept (S := fun k => k = gb) (Kept.setCell (S := fun k => k = gb) (Kept.refl W _) (p := ⟨gb, 0, none⟩) (.inl rfl) v') (fun k hk e => by omega)
theorem PlanI.same {pre' : List (List Wk)} (h : PlanI w W ms gs n b g gx p6 p7 gb base Ds A0 c0 A1 c1 pre) (he : bestOf ms gs pre' = bestOf ms gs pre) : PlanI w W ms gs n b g gx p6 p7 gb base Ds A0 c0 A1 c1 pre' := by
  obtain ⟨v, q1, q2⟩ := h.best
  exact ⟨h.box, h.x, h.mp, h.h6, h.h7, h.ds, v, q1, by rw [he]; exact q2⟩
theorem PlanI.put (h : PlanI w W ms gs n b g gx p6 p7 gb base Ds A0 c0 A1 c1 pre) (l : Nat) (o : Obj) (hr : ∃ r, W.heap[l]? = some (.loop r)) (hw : w.heap.size ≤ l) (hl : l < base) : PlanI w (W.putObj l o) ms gs n b g gx p6 p7 gb base Ds A0 c0 A1 c1 pre := by
  obtain ⟨r, hr⟩ := hr
  obtain ⟨v, h1, h2⟩ := h.best
  have lift : ∀ {k : Nat} {q : Obj}, W.heap[k]? = some q → (∀ r, q ≠ .loop r) → (W.putObj l o).heap[k]? = some q := fun {k q} hk hne =>
    (World.putObj_heap_other (fun e => by subst e; rw [hr] at hk; injection hk with hk; exact hne r hk.symm)).trans hk
  have hm : MapIs (W.putObj l o) b (spotsL ms n.toNat) := by
    obtain ⟨es, clock, q1, q2⟩ := h.mp
    exact ⟨es, clock, lift q1 (fun r e => by cases e), q2⟩
  exact ⟨⟨lift h.box.box (fun r e => by cases e), h.box.bel.trans (below_putObj W l _ o hw)⟩, lift h.x (fun r e => by cases e), hm, lift h.h6 (fun r e => by cases e), lift h.h7 (fun r e => by cases e), fun D hD => lift (h.ds D hD) (fun r e => by cases e), v, lift h1 (fun r e => by cases e),
    h2.kept (S := fun k => k = l) ⟨by simp, fun i hi hn => World.putObj_heap_other hn⟩ (fun k hk e => by omega)⟩
end
end Go.Proofs.YtikfghnkbgdbgaaDoor.Q
end
section
namespace Go.Proofs.YtikfghnkbgdbgaaDoor.Q
set_option linter.unusedSimpArgs false
set_option linter.unusedVariables false
open Go.RowKit Go.Proofs.YtikfghnkbgdbgaaDoorW.PrintWords Go.Proofs.YtikfghnkbgdbgaaDoorW.PrintLast Go.Proofs.YtikfghnkbgdbgaaDoorW.PrintMore
attribute [local go_sem] Oper.semAt_some wide_fn wide_depth
theorem slice_neq (w : World) (A : Option Addr) (l c : Nat) : (binOp .neq 26 (.slice A l c) (.slice none 0 0)).run Tryd.prog w = .ok (.bool (!A.isNone)) w := run_neq_slice_nil w _ 59 A l c (by kernel_rfl)
theorem slice_eql (w : World) (A : Option Addr) (l c : Nat) : (binOp .eql 26 (.slice A l c) (.slice none 0 0)).run Tryd.prog w = .ok (.bool A.isNone) w := by
  have := run_equal_slice_nil (P := Tryd.prog) w 26 59 A l c (by kernel_rfl)
  simp [binOp, this]
theorem keeps_setCell' {n0 : Nat} {S : Nat → Prop} {X Y : World} (h : Keeps n0 S X Y) {p : Addr} (hS : S p.block) (hp : n0 ≤ p.block) (v : Value) : Keeps n0 S X (Y.setCell p v) :=
  ⟨h.bel.setCell hp v, h.kept.setCell (.inl hS) v⟩
theorem pr8_read {ms : List M} {gs : List G} {n : Int} {base : Nat} {x : List Wk} {A : Option Addr} {c : Nat} {W : World} (h : Pr8 ms gs n base x (.slice A x.length c) W) : Kd.C k59 W A x.length x := by
  obtain ⟨A', c', e, _, _, hF, _⟩ := h
  injection e with e1 e2 e3
  subst e1
  exact Kd.F_now hF
def X_Plan : Nat := 0
def X_Plan.T11 : Bool × List (List Nat × List Nat) := (true, [([], []), ([0], [0]), ([1], [1]), ([2], [2]), ([3, 2], [2, 3]), ([2], [2]), ([2], [2]), ([4, 5, 6, 2, 2], [2, 4, 5, 6]), ([2, 7], [2, 7]), ([8, 7], [8]), ([9], [9]), ([9], [9]), ([10, 11, 9, 9], [9, 10, 11]), ([12, 9], [9, 12]), ([9], [9]), ([14, 9], [9, 14]), ([15, 9], [9, 15]), ([13, 16, 9], [9, 13, 16]), ([9, 17], [9, 17])])
def X_Plan.B11 : List Nat := [0, 1, 3, 7, 15, 7, 7, 127, 255, 511, 1023, 1023, 4095, 8191, 1023, 17407, 50175, 131071, 262143]
theorem X_Plan.tab11 : rtab .any (opsOf Tryd.f31 11) = X_Plan.T11 := by kernel_rfl
theorem X_Plan.bits11 : waitsOk X_Plan.T11.2 X_Plan.B11 = true := by kernel_rfl
structure Ahead (w W : World) (ms : List M) (gs : List G) (n : Int) (b g gx p6 p7 : Nat) (A0 : Option Addr) (c0 : Nat) (A1 : Option Addr) (c1 : Nat) : Prop where
  box : BoxAt w W A0 ms.length c0 A1 gs.length c1 n b g
  x : W.heap[gx]? = some (.cells #[.slice A0 ms.length c0, .slice A1 gs.length c1, .int .i64 n] 25 (0, 0))
  mp : MapIs W b (spotsL ms n.toNat)
  h6 : W.heap[p6]? = some (.cells #[.func (.func 97) #[] #[]] 103 (0, 0))
  h7 : W.heap[p7]? = some (.cells #[.func (.func 77) #[.agg #[.slice A0 ms.length c0, .slice A1 gs.length c1, .int .i64 n, .map (some b)]] #[]] 100 (0, 0))
theorem Ahead.below {w W W' : World} {ms : List M} {gs : List G} {n : Int} {b g gx p6 p7 : Nat} {A0 : Option Addr} {c0 : Nat} {A1 : Option Addr} {c1 : Nat} (h : Ahead w W ms gs n b g gx p6 p7 A0 c0 A1 c1) (hb : Below W.heap.size W W') : Ahead w W' ms gs n b g gx p6 p7 A0 c0 A1 c1 := by
  have lift : ∀ {k : Nat} {o : Obj}, W.heap[k]? = some o → W'.heap[k]? = some o := fun hk => (hb.block _ (Array.getElem?_eq_some_iff.1 hk).1).trans hk
  exact ⟨h.box.step hb, lift h.x, h.mp.below hb, lift h.h6, lift h.h7⟩
set_option maxRecDepth 100000 in
set_option maxHeartbeats 4000000 in
theorem gang_Plan.calls (A0_0 : Option Addr) (c0_0 : Nat) (l0_0 : List (M)) (A0_1 : Option Addr) (c0_1 : Nat) (l0_1 : List (G)) (a0_2 : Int) (r1 : List (Wk)) (r2 : Int) (w : World) (hr0_0 : Kd.C k66 w A0_0 l0_0.length l0_0) (hc0_0 : l0_0.length ≤ c0_0) (hr0_1 : Kd.C k63 w A0_1 l0_1.length l0_1) (hc0_1 : l0_1.length ≤ c0_1) (hG : GV w) (h : gang_Plan.f l0_0 l0_1 a0_2 = some (r1, r2)) :
    Calls Tryd.prog 31 #[.agg #[.slice A0_0 l0_0.length c0_0, .slice A0_1 l0_1.length c0_1, .int .i64 a0_2]] w fun e w' => ∃ v0_ : Value, e = .returned (.tuple #[v0_, .int .i64 r2]) ∧ Kd.V k59 59 w' w.heap.size (fun k_ => (w.heap.size ≤ k_)) v0_ r1 ∧ Below w.heap.size w w' := by
  have HR0 := Aside0.mk hr0_0
  have HR1 := Aside0.mk hr0_1
  have HG0 := Aside0.mk hG
  have H := Aside0.mk h
  have hB := ((Below.refl w.heap.size w).alloc (Nat.le_refl _) (.cells #[.slice A0_0 l0_0.length c0_0, .slice A0_1 l0_1.length c0_1, .int .i64 a0_2] 25))
  have HB := Aside0.mk hB
  have hx := World.alloc_heap_new w (.cells #[.slice A0_0 l0_0.length c0_0, .slice A0_1 l0_1.length c0_1, .int .i64 a0_2] 25)
  have HX := Aside0.mk hx
  clear hr0_0 hr0_1 hG hB h hx
  refine calls_ret Tryd.func31 rfl ?_
  simp only [Tryd.ntmps31, List.size_toArray, List.length_cons, List.length_nil, Nat.reduceAdd, Nat.reduceSub, Array.replicate_succ, Array.replicate_zero, List.push_toArray, List.append_toArray, List.nil_append, List.cons_append]
  go_wp2_with (fail)
  refine (asked_any l0_0 l0_1 A0_0 c0_0 A0_1 c0_1 a0_2 none 0 [] _ (Kd.C_below HR0.out HB.out) hc0_0 (Kd.C_below HR1.out HB.out) hc0_1 ⟨rfl, by simp, fun h => by simp at h⟩ (Nat.le_refl _) (gv_below HG0.out HB.out)).mono ?_
  rintro e w1 ⟨B0, n0, d0, B1, n1, d1, m, bm, E, rfl, hE, hs, hb⟩
  have HB1 := Aside0.mk (below_then HB.out HB.out.size hb)
  have HX1 := Aside0.mk ((hb.block w.heap.size (by simp)).trans HX.out)
  clear hb
  by_cases hE0 : E = 0
  · obtain ⟨b, ⟨rfl, rfl, rfl⟩, ⟨rfl, rfl, rfl⟩, rfl, rfl, hm, hl⟩ := hs hE0
    subst hE0
    have HE := Aside0.mk hE
    have HM := Aside0.mk hm
    have HH : Aside0 ((match planL l0_0 l0_1 a0_2 with | some p => some (p, (0 : Int)) | none => some ([], 4)) = some (r1, r2)) := ⟨by rw [← H.out]; unfold gang_Plan.f; rw [if_pos (askedE_ok hE.symm).1]; rfl⟩
    have hbd := okB_bounds (askedE_ok hE.symm).1
    have hg2 := hbd.2.1.2
    have hg1 := hbd.2.1.1
    have hm4 := hbd.1.2
    have hn4 : a0_2 ≤ 4 := by omega
    have hn0 : 0 ≤ a0_2 := by omega
    have hbl1 := HM.out.lt
    have HBL := Aside0.mk (show b < w1.heap.size from hbl1)
    clear hm hs hE hl H hbd hbl1
    go_upto_region 4 with (fail)
    obtain ⟨V, hV⟩ : ∃ V, w1.alloc (.cells #[.slice A0_0 l0_0.length c0_0, .slice A0_1 l0_1.length c0_1, .int .i64 a0_2, .map (some b)] 86) = V := ⟨_, rfl⟩
    have HA := Aside0.mk (show V.heap[w1.heap.size]? = some (.cells #[.slice A0_0 l0_0.length c0_0, .slice A0_1 l0_1.length c0_1, .int .i64 a0_2, .map (some b)] 86 (0, 0)) by rw [← hV]; exact World.alloc_heap_new w1 _)
    have HBV := Aside0.mk (show Below w.heap.size w V by rw [← hV]; exact HB1.out.alloc HB1.out.size _)
    have HXV := Aside0.mk (show V.heap[w.heap.size]? = some (.cells #[.slice A0_0 l0_0.length c0_0, .slice A0_1 l0_1.length c0_1, .int .i64 a0_2] 25 (0, 0)) by rw [← hV]; exact blk_alloc HX1.out _)
    have HMV := Aside0.mk (show MapIs V b (spotsL l0_0 a0_2.toNat) by rw [← hV]; exact HM.out.below ((Below.refl _ w1).alloc (Nat.le_refl _) _))
    rw [hV]
    clear hV
    go_cut [6, 7] from 19 to 21 (fun v6 v7 wc => ∃ p6 p7 : Nat, v6 = .pointer (some ⟨p6, 0, none⟩) ∧ v7 = .pointer (some ⟨p7, 0, none⟩) ∧ Aside0 (Ahead w wc l0_0 l0_1 a0_2 b w1.heap.size w.heap.size p6 p7 A0_0 c0_0 A0_1 c0_1))
    case first =>
      have q0 := (blk_cell HA.out 0).trans rfl
      have q1 := (blk_cell HA.out 1).trans rfl
      have q2 := (blk_cell HA.out 2).trans rfl
      have q3 := (blk_cell HA.out 3).trans rfl
      have hlt := (Array.getElem?_eq_some_iff.1 HA.out).1
      refine start_ (n := 7) (S := fun w' => w'.cell? ⟨w1.heap.size, 0, none⟩ = some (.slice A0_0 l0_0.length c0_0) ∧ w'.cell? ⟨w1.heap.size, 1, none⟩ = some (.slice A0_1 l0_1.length c0_1) ∧ w'.cell? ⟨w1.heap.size, 2, none⟩ = some (.int .i64 a0_2) ∧ w'.cell? ⟨w1.heap.size, 3, none⟩ = some (.map (some b))) (ds := []) (bs 7 0) (by kernel_rfl) rfl rfl ⟨q0, q1, q2, q3⟩ (fun hHeld => ?_)
      have HB0 := Aside0.mk ((Below.refl V.heap.size V).drew)
      generalize World.drew _ = w5 at HB0 hHeld ⊢
      refine take_ (i := 1) (N := some 20) (v := ?_) (a' := ?_) (bs 7 2) rfl rfl (by kernel_rfl) (fun _ _ _ h => h) (Or.inl ⟨by rfl, ?_⟩) hHeld ?_ ?_
      rotate_left
      · rintro w' ⟨s0, s1, s2, s3⟩
        go_simp
        with_reducible rfl
      rotate_left
      · simp only [Act.put, List.setIfInBounds_toArray, List.set_cons_zero, List.set_cons_succ, i64_w, i32_w]
        rfl
      refine pv 2 (some 21) (bs 7 6) ?_
      refine join_ (σ := Nat × Nat) 2 (bs 7 31) (fun s => [(19, .agg #[.func (.func 97) #[] #[]]), (6, .pointer (some ⟨s.1, 0, none⟩)), (7, .pointer (some ⟨s.2, 0, none⟩))]) (fun s w' => w'.heap[s.1]? = some (.cells #[.nilFunc] 103 (0, 0)) ∧ w'.heap[s.2]? = some (.cells #[.nilFunc] 100 (0, 0)) ∧ Below V.heap.size V w' ∧ V.heap.size ≤ s.1 ∧ V.heap.size ≤ s.2) ?_ ?_
      rotate_left
      · intro hCont
        refine three_ (i := 0) (j := 3) (k := 4) (Ni := some 19) (Nj := some 6) (Nk := some 7) (bs 7 7) (bs 7 14) (bs 7 22) rfl rfl rfl rfl rfl rfl (by kernel_rfl) (by decide) (by decide) (by decide) (fun K hK => ?_) (fun K hK => ?_) (fun K hK => ?_)
        · skip
          refine goes_ Tryd.func80 (by kernel_rfl) rfl #[] (by rfl) rfl rfl (by simp) ?_
          refine (fewest_calls _).mono ?_
          rintro e w5_0 ⟨rfl, hbn⟩
          refine ⟨_, rfl, ?_⟩
          replace HB0 := Aside0.mk (HB0.out.trans (hbn.mono HB0.out.size))
          clear hbn
          refine hK.out _ _ ⟨(blk_cell ((HB0.out.block w1.heap.size hlt).trans HA.out) 0).trans rfl, (blk_cell ((HB0.out.block w1.heap.size hlt).trans HA.out) 1).trans rfl, (blk_cell ((HB0.out.block w1.heap.size hlt).trans HA.out) 2).trans rfl, (blk_cell ((HB0.out.block w1.heap.size hlt).trans HA.out) 3).trans rfl⟩ (fun hHeld => ?_)
          clear hK K
          refine nm 19 ?_
          refine two_ (i := 3) (j := 4) (Ni := some 6) (Nj := some 7) (bs 7 15) (bs 7 23) rfl rfl rfl rfl (by kernel_rfl) (by decide) (by decide) (fun K hK => ?_) (fun K hK => ?_)
          · skip
            refine value_ (w1 := w5_0.alloc (.cells #[.nilFunc] 103)) (v := .pointer (some ⟨w5_0.heap.size, 0, none⟩)) (by rfl) rfl (by go_simp) ?_
            have hbn : Below w5_0.heap.size w5_0 (w5_0.alloc (.cells #[.nilFunc] 103)) := (Below.refl _ _).alloc (Nat.le_refl _) _
            have hnn := World.alloc_heap_new w5_0 (.cells #[.nilFunc] 103)
            generalize w5_0.alloc (.cells #[.nilFunc] 103) = w5_0_3 at hbn hnn ⊢
            have HZ3 := Aside0.mk HB0.out.size
            replace HB0 := Aside0.mk (HB0.out.trans (hbn.mono HB0.out.size))
            have HN3 := Aside0.mk hnn
            clear hnn
            clear hbn
            refine hK.out _ _ ⟨(blk_cell ((HB0.out.block w1.heap.size hlt).trans HA.out) 0).trans rfl, (blk_cell ((HB0.out.block w1.heap.size hlt).trans HA.out) 1).trans rfl, (blk_cell ((HB0.out.block w1.heap.size hlt).trans HA.out) 2).trans rfl, (blk_cell ((HB0.out.block w1.heap.size hlt).trans HA.out) 3).trans rfl⟩ (fun hHeld => ?_)
            clear hK K
            refine nm 6 ?_
            refine one_ (i := 4) (N := some 7) (bs 7 31) rfl rfl (by kernel_rfl) (by decide) (fun K hK => ?_)
            refine value_ (w1 := w5_0_3.alloc (.cells #[.nilFunc] 100)) (v := .pointer (some ⟨w5_0_3.heap.size, 0, none⟩)) (by rfl) rfl (by go_simp) ?_
            have hbn : Below w5_0_3.heap.size w5_0_3 (w5_0_3.alloc (.cells #[.nilFunc] 100)) := (Below.refl _ _).alloc (Nat.le_refl _) _
            have hnn := World.alloc_heap_new w5_0_3 (.cells #[.nilFunc] 100)
            generalize w5_0_3.alloc (.cells #[.nilFunc] 100) = w5_0_3_4 at hbn hnn ⊢
            have HZ4 := Aside0.mk HB0.out.size
            replace HB0 := Aside0.mk (HB0.out.trans (hbn.mono HB0.out.size))
            replace HN3 := Aside0.mk ((hbn.block _ (Array.getElem?_eq_some_iff.1 HN3.out).1).trans HN3.out)
            have HN4 := Aside0.mk hnn
            clear hnn
            clear hbn
            refine hK.out _ _ ⟨(blk_cell ((HB0.out.block w1.heap.size hlt).trans HA.out) 0).trans rfl, (blk_cell ((HB0.out.block w1.heap.size hlt).trans HA.out) 1).trans rfl, (blk_cell ((HB0.out.block w1.heap.size hlt).trans HA.out) 2).trans rfl, (blk_cell ((HB0.out.block w1.heap.size hlt).trans HA.out) 3).trans rfl⟩ (fun hHeld => ?_)
            clear hK K
            refine nm 7 ?_
            exact norm_ (by simp only [putAll, Act.put, List.setIfInBounds_toArray, List.set_cons_zero, List.set_cons_succ]) (hCont ⟨w5_0.heap.size, w5_0_3.heap.size⟩ _ ⟨HN3.out, HN4.out, HB0.out, HZ3.out, HZ4.out⟩)
          · skip
            refine value_ (w1 := w5_0.alloc (.cells #[.nilFunc] 100)) (v := .pointer (some ⟨w5_0.heap.size, 0, none⟩)) (by rfl) rfl (by go_simp) ?_
            have hbn : Below w5_0.heap.size w5_0 (w5_0.alloc (.cells #[.nilFunc] 100)) := (Below.refl _ _).alloc (Nat.le_refl _) _
            have hnn := World.alloc_heap_new w5_0 (.cells #[.nilFunc] 100)
            generalize w5_0.alloc (.cells #[.nilFunc] 100) = w5_0_4 at hbn hnn ⊢
            have HZ4 := Aside0.mk HB0.out.size
            replace HB0 := Aside0.mk (HB0.out.trans (hbn.mono HB0.out.size))
            have HN4 := Aside0.mk hnn
            clear hnn
            clear hbn
            refine hK.out _ _ ⟨(blk_cell ((HB0.out.block w1.heap.size hlt).trans HA.out) 0).trans rfl, (blk_cell ((HB0.out.block w1.heap.size hlt).trans HA.out) 1).trans rfl, (blk_cell ((HB0.out.block w1.heap.size hlt).trans HA.out) 2).trans rfl, (blk_cell ((HB0.out.block w1.heap.size hlt).trans HA.out) 3).trans rfl⟩ (fun hHeld => ?_)
            clear hK K
            refine nm 7 ?_
            refine one_ (i := 3) (N := some 6) (bs 7 31) rfl rfl (by kernel_rfl) (by decide) (fun K hK => ?_)
            refine value_ (w1 := w5_0_4.alloc (.cells #[.nilFunc] 103)) (v := .pointer (some ⟨w5_0_4.heap.size, 0, none⟩)) (by rfl) rfl (by go_simp) ?_
            have hbn : Below w5_0_4.heap.size w5_0_4 (w5_0_4.alloc (.cells #[.nilFunc] 103)) := (Below.refl _ _).alloc (Nat.le_refl _) _
            have hnn := World.alloc_heap_new w5_0_4 (.cells #[.nilFunc] 103)
            generalize w5_0_4.alloc (.cells #[.nilFunc] 103) = w5_0_4_3 at hbn hnn ⊢
            have HZ3 := Aside0.mk HB0.out.size
            replace HB0 := Aside0.mk (HB0.out.trans (hbn.mono HB0.out.size))
            replace HN4 := Aside0.mk ((hbn.block _ (Array.getElem?_eq_some_iff.1 HN4.out).1).trans HN4.out)
            have HN3 := Aside0.mk hnn
            clear hnn
            clear hbn
            refine hK.out _ _ ⟨(blk_cell ((HB0.out.block w1.heap.size hlt).trans HA.out) 0).trans rfl, (blk_cell ((HB0.out.block w1.heap.size hlt).trans HA.out) 1).trans rfl, (blk_cell ((HB0.out.block w1.heap.size hlt).trans HA.out) 2).trans rfl, (blk_cell ((HB0.out.block w1.heap.size hlt).trans HA.out) 3).trans rfl⟩ (fun hHeld => ?_)
            clear hK K
            refine nm 6 ?_
            exact norm_ (by simp only [putAll, Act.put, List.setIfInBounds_toArray, List.set_cons_zero, List.set_cons_succ]) (hCont ⟨w5_0_4.heap.size, w5_0.heap.size⟩ _ ⟨HN3.out, HN4.out, HB0.out, HZ3.out, HZ4.out⟩)
        · skip
          refine value_ (w1 := w5.alloc (.cells #[.nilFunc] 103)) (v := .pointer (some ⟨w5.heap.size, 0, none⟩)) (by rfl) rfl (by go_simp) ?_
          have hbn : Below w5.heap.size w5 (w5.alloc (.cells #[.nilFunc] 103)) := (Below.refl _ _).alloc (Nat.le_refl _) _
          have hnn := World.alloc_heap_new w5 (.cells #[.nilFunc] 103)
          generalize w5.alloc (.cells #[.nilFunc] 103) = w5_3 at hbn hnn ⊢
          have HZ3 := Aside0.mk HB0.out.size
          replace HB0 := Aside0.mk (HB0.out.trans (hbn.mono HB0.out.size))
          have HN3 := Aside0.mk hnn
          clear hnn
          clear hbn
          refine hK.out _ _ ⟨(blk_cell ((HB0.out.block w1.heap.size hlt).trans HA.out) 0).trans rfl, (blk_cell ((HB0.out.block w1.heap.size hlt).trans HA.out) 1).trans rfl, (blk_cell ((HB0.out.block w1.heap.size hlt).trans HA.out) 2).trans rfl, (blk_cell ((HB0.out.block w1.heap.size hlt).trans HA.out) 3).trans rfl⟩ (fun hHeld => ?_)
          clear hK K
          refine nm 6 ?_
          refine two_ (i := 0) (j := 4) (Ni := some 19) (Nj := some 7) (bs 7 15) (bs 7 30) rfl rfl rfl rfl (by kernel_rfl) (by decide) (by decide) (fun K hK => ?_) (fun K hK => ?_)
          · skip
            refine goes_ Tryd.func80 (by kernel_rfl) rfl #[] (by rfl) rfl rfl (by simp) ?_
            refine (fewest_calls _).mono ?_
            rintro e w5_3_0 ⟨rfl, hbn⟩
            refine ⟨_, rfl, ?_⟩
            replace HB0 := Aside0.mk (HB0.out.trans (hbn.mono HB0.out.size))
            replace HN3 := Aside0.mk ((hbn.block _ (Array.getElem?_eq_some_iff.1 HN3.out).1).trans HN3.out)
            clear hbn
            refine hK.out _ _ ⟨(blk_cell ((HB0.out.block w1.heap.size hlt).trans HA.out) 0).trans rfl, (blk_cell ((HB0.out.block w1.heap.size hlt).trans HA.out) 1).trans rfl, (blk_cell ((HB0.out.block w1.heap.size hlt).trans HA.out) 2).trans rfl, (blk_cell ((HB0.out.block w1.heap.size hlt).trans HA.out) 3).trans rfl⟩ (fun hHeld => ?_)
            clear hK K
            refine nm 19 ?_
            refine one_ (i := 4) (N := some 7) (bs 7 31) rfl rfl (by kernel_rfl) (by decide) (fun K hK => ?_)
            refine value_ (w1 := w5_3_0.alloc (.cells #[.nilFunc] 100)) (v := .pointer (some ⟨w5_3_0.heap.size, 0, none⟩)) (by rfl) rfl (by go_simp) ?_
            have hbn : Below w5_3_0.heap.size w5_3_0 (w5_3_0.alloc (.cells #[.nilFunc] 100)) := (Below.refl _ _).alloc (Nat.le_refl _) _
            have hnn := World.alloc_heap_new w5_3_0 (.cells #[.nilFunc] 100)
            generalize w5_3_0.alloc (.cells #[.nilFunc] 100) = w5_3_0_4 at hbn hnn ⊢
            have HZ4 := Aside0.mk HB0.out.size
            replace HB0 := Aside0.mk (HB0.out.trans (hbn.mono HB0.out.size))
            replace HN3 := Aside0.mk ((hbn.block _ (Array.getElem?_eq_some_iff.1 HN3.out).1).trans HN3.out)
            have HN4 := Aside0.mk hnn
            clear hnn
            clear hbn
            refine hK.out _ _ ⟨(blk_cell ((HB0.out.block w1.heap.size hlt).trans HA.out) 0).trans rfl, (blk_cell ((HB0.out.block w1.heap.size hlt).trans HA.out) 1).trans rfl, (blk_cell ((HB0.out.block w1.heap.size hlt).trans HA.out) 2).trans rfl, (blk_cell ((HB0.out.block w1.heap.size hlt).trans HA.out) 3).trans rfl⟩ (fun hHeld => ?_)
            clear hK K
            refine nm 7 ?_
            exact norm_ (by simp only [putAll, Act.put, List.setIfInBounds_toArray, List.set_cons_zero, List.set_cons_succ]) (hCont ⟨w5.heap.size, w5_3_0.heap.size⟩ _ ⟨HN3.out, HN4.out, HB0.out, HZ3.out, HZ4.out⟩)
          · skip
            refine value_ (w1 := w5_3.alloc (.cells #[.nilFunc] 100)) (v := .pointer (some ⟨w5_3.heap.size, 0, none⟩)) (by rfl) rfl (by go_simp) ?_
            have hbn : Below w5_3.heap.size w5_3 (w5_3.alloc (.cells #[.nilFunc] 100)) := (Below.refl _ _).alloc (Nat.le_refl _) _
            have hnn := World.alloc_heap_new w5_3 (.cells #[.nilFunc] 100)
            generalize w5_3.alloc (.cells #[.nilFunc] 100) = w5_3_4 at hbn hnn ⊢
            have HZ4 := Aside0.mk HB0.out.size
            replace HB0 := Aside0.mk (HB0.out.trans (hbn.mono HB0.out.size))
            replace HN3 := Aside0.mk ((hbn.block _ (Array.getElem?_eq_some_iff.1 HN3.out).1).trans HN3.out)
            have HN4 := Aside0.mk hnn
            clear hnn
            clear hbn
            refine hK.out _ _ ⟨(blk_cell ((HB0.out.block w1.heap.size hlt).trans HA.out) 0).trans rfl, (blk_cell ((HB0.out.block w1.heap.size hlt).trans HA.out) 1).trans rfl, (blk_cell ((HB0.out.block w1.heap.size hlt).trans HA.out) 2).trans rfl, (blk_cell ((HB0.out.block w1.heap.size hlt).trans HA.out) 3).trans rfl⟩ (fun hHeld => ?_)
            clear hK K
            refine nm 7 ?_
            refine one_ (i := 0) (N := some 19) (bs 7 31) rfl rfl (by kernel_rfl) (by decide) (fun K hK => ?_)
            refine goes_ Tryd.func80 (by kernel_rfl) rfl #[] (by rfl) rfl rfl (by simp) ?_
            refine (fewest_calls _).mono ?_
            rintro e w5_3_4_0 ⟨rfl, hbn⟩
            refine ⟨_, rfl, ?_⟩
            replace HB0 := Aside0.mk (HB0.out.trans (hbn.mono HB0.out.size))
            replace HN3 := Aside0.mk ((hbn.block _ (Array.getElem?_eq_some_iff.1 HN3.out).1).trans HN3.out)
            replace HN4 := Aside0.mk ((hbn.block _ (Array.getElem?_eq_some_iff.1 HN4.out).1).trans HN4.out)
            clear hbn
            refine hK.out _ _ ⟨(blk_cell ((HB0.out.block w1.heap.size hlt).trans HA.out) 0).trans rfl, (blk_cell ((HB0.out.block w1.heap.size hlt).trans HA.out) 1).trans rfl, (blk_cell ((HB0.out.block w1.heap.size hlt).trans HA.out) 2).trans rfl, (blk_cell ((HB0.out.block w1.heap.size hlt).trans HA.out) 3).trans rfl⟩ (fun hHeld => ?_)
            clear hK K
            refine nm 19 ?_
            exact norm_ (by simp only [putAll, Act.put, List.setIfInBounds_toArray, List.set_cons_zero, List.set_cons_succ]) (hCont ⟨w5.heap.size, w5_3.heap.size⟩ _ ⟨HN3.out, HN4.out, HB0.out, HZ3.out, HZ4.out⟩)
        · skip
          refine value_ (w1 := w5.alloc (.cells #[.nilFunc] 100)) (v := .pointer (some ⟨w5.heap.size, 0, none⟩)) (by rfl) rfl (by go_simp) ?_
          have hbn : Below w5.heap.size w5 (w5.alloc (.cells #[.nilFunc] 100)) := (Below.refl _ _).alloc (Nat.le_refl _) _
          have hnn := World.alloc_heap_new w5 (.cells #[.nilFunc] 100)
          generalize w5.alloc (.cells #[.nilFunc] 100) = w5_4 at hbn hnn ⊢
          have HZ4 := Aside0.mk HB0.out.size
          replace HB0 := Aside0.mk (HB0.out.trans (hbn.mono HB0.out.size))
          have HN4 := Aside0.mk hnn
          clear hnn
          clear hbn
          refine hK.out _ _ ⟨(blk_cell ((HB0.out.block w1.heap.size hlt).trans HA.out) 0).trans rfl, (blk_cell ((HB0.out.block w1.heap.size hlt).trans HA.out) 1).trans rfl, (blk_cell ((HB0.out.block w1.heap.size hlt).trans HA.out) 2).trans rfl, (blk_cell ((HB0.out.block w1.heap.size hlt).trans HA.out) 3).trans rfl⟩ (fun hHeld => ?_)
          clear hK K
          refine nm 7 ?_
          refine two_ (i := 0) (j := 3) (Ni := some 19) (Nj := some 6) (bs 7 23) (bs 7 30) rfl rfl rfl rfl (by kernel_rfl) (by decide) (by decide) (fun K hK => ?_) (fun K hK => ?_)
          · skip
            refine goes_ Tryd.func80 (by kernel_rfl) rfl #[] (by rfl) rfl rfl (by simp) ?_
            refine (fewest_calls _).mono ?_
            rintro e w5_4_0 ⟨rfl, hbn⟩
            refine ⟨_, rfl, ?_⟩
            replace HB0 := Aside0.mk (HB0.out.trans (hbn.mono HB0.out.size))
            replace HN4 := Aside0.mk ((hbn.block _ (Array.getElem?_eq_some_iff.1 HN4.out).1).trans HN4.out)
            clear hbn
            refine hK.out _ _ ⟨(blk_cell ((HB0.out.block w1.heap.size hlt).trans HA.out) 0).trans rfl, (blk_cell ((HB0.out.block w1.heap.size hlt).trans HA.out) 1).trans rfl, (blk_cell ((HB0.out.block w1.heap.size hlt).trans HA.out) 2).trans rfl, (blk_cell ((HB0.out.block w1.heap.size hlt).trans HA.out) 3).trans rfl⟩ (fun hHeld => ?_)
            clear hK K
            refine nm 19 ?_
            refine one_ (i := 3) (N := some 6) (bs 7 31) rfl rfl (by kernel_rfl) (by decide) (fun K hK => ?_)
            refine value_ (w1 := w5_4_0.alloc (.cells #[.nilFunc] 103)) (v := .pointer (some ⟨w5_4_0.heap.size, 0, none⟩)) (by rfl) rfl (by go_simp) ?_
            have hbn : Below w5_4_0.heap.size w5_4_0 (w5_4_0.alloc (.cells #[.nilFunc] 103)) := (Below.refl _ _).alloc (Nat.le_refl _) _
            have hnn := World.alloc_heap_new w5_4_0 (.cells #[.nilFunc] 103)
            generalize w5_4_0.alloc (.cells #[.nilFunc] 103) = w5_4_0_3 at hbn hnn ⊢
            have HZ3 := Aside0.mk HB0.out.size
            replace HB0 := Aside0.mk (HB0.out.trans (hbn.mono HB0.out.size))
            replace HN4 := Aside0.mk ((hbn.block _ (Array.getElem?_eq_some_iff.1 HN4.out).1).trans HN4.out)
            have HN3 := Aside0.mk hnn
            clear hnn
            clear hbn
            refine hK.out _ _ ⟨(blk_cell ((HB0.out.block w1.heap.size hlt).trans HA.out) 0).trans rfl, (blk_cell ((HB0.out.block w1.heap.size hlt).trans HA.out) 1).trans rfl, (blk_cell ((HB0.out.block w1.heap.size hlt).trans HA.out) 2).trans rfl, (blk_cell ((HB0.out.block w1.heap.size hlt).trans HA.out) 3).trans rfl⟩ (fun hHeld => ?_)
            clear hK K
            refine nm 6 ?_
            exact norm_ (by simp only [putAll, Act.put, List.setIfInBounds_toArray, List.set_cons_zero, List.set_cons_succ]) (hCont ⟨w5_4_0.heap.size, w5.heap.size⟩ _ ⟨HN3.out, HN4.out, HB0.out, HZ3.out, HZ4.out⟩)
          · skip
            refine value_ (w1 := w5_4.alloc (.cells #[.nilFunc] 103)) (v := .pointer (some ⟨w5_4.heap.size, 0, none⟩)) (by rfl) rfl (by go_simp) ?_
            have hbn : Below w5_4.heap.size w5_4 (w5_4.alloc (.cells #[.nilFunc] 103)) := (Below.refl _ _).alloc (Nat.le_refl _) _
            have hnn := World.alloc_heap_new w5_4 (.cells #[.nilFunc] 103)
            generalize w5_4.alloc (.cells #[.nilFunc] 103) = w5_4_3 at hbn hnn ⊢
            have HZ3 := Aside0.mk HB0.out.size
            replace HB0 := Aside0.mk (HB0.out.trans (hbn.mono HB0.out.size))
            replace HN4 := Aside0.mk ((hbn.block _ (Array.getElem?_eq_some_iff.1 HN4.out).1).trans HN4.out)
            have HN3 := Aside0.mk hnn
            clear hnn
            clear hbn
            refine hK.out _ _ ⟨(blk_cell ((HB0.out.block w1.heap.size hlt).trans HA.out) 0).trans rfl, (blk_cell ((HB0.out.block w1.heap.size hlt).trans HA.out) 1).trans rfl, (blk_cell ((HB0.out.block w1.heap.size hlt).trans HA.out) 2).trans rfl, (blk_cell ((HB0.out.block w1.heap.size hlt).trans HA.out) 3).trans rfl⟩ (fun hHeld => ?_)
            clear hK K
            refine nm 6 ?_
            refine one_ (i := 0) (N := some 19) (bs 7 31) rfl rfl (by kernel_rfl) (by decide) (fun K hK => ?_)
            refine goes_ Tryd.func80 (by kernel_rfl) rfl #[] (by rfl) rfl rfl (by simp) ?_
            refine (fewest_calls _).mono ?_
            rintro e w5_4_3_0 ⟨rfl, hbn⟩
            refine ⟨_, rfl, ?_⟩
            replace HB0 := Aside0.mk (HB0.out.trans (hbn.mono HB0.out.size))
            replace HN4 := Aside0.mk ((hbn.block _ (Array.getElem?_eq_some_iff.1 HN4.out).1).trans HN4.out)
            replace HN3 := Aside0.mk ((hbn.block _ (Array.getElem?_eq_some_iff.1 HN3.out).1).trans HN3.out)
            clear hbn
            refine hK.out _ _ ⟨(blk_cell ((HB0.out.block w1.heap.size hlt).trans HA.out) 0).trans rfl, (blk_cell ((HB0.out.block w1.heap.size hlt).trans HA.out) 1).trans rfl, (blk_cell ((HB0.out.block w1.heap.size hlt).trans HA.out) 2).trans rfl, (blk_cell ((HB0.out.block w1.heap.size hlt).trans HA.out) 3).trans rfl⟩ (fun hHeld => ?_)
            clear hK K
            refine nm 19 ?_
            exact norm_ (by simp only [putAll, Act.put, List.setIfInBounds_toArray, List.set_cons_zero, List.set_cons_succ]) (hCont ⟨w5_4.heap.size, w5.heap.size⟩ _ ⟨HN3.out, HN4.out, HB0.out, HZ3.out, HZ4.out⟩)
      rintro ⟨p6, p7⟩ w6 ⟨h6, h7, hB6, hz6, hz7⟩
      dsimp only at h6 h7 hz6 hz7 ⊢
      have hBK := (hB6.block w1.heap.size hlt).trans HA.out
      have hne6 : w1.heap.size ≠ p6 := fun e => by rw [← e, hBK] at h6; cases h6
      have hne7 : w1.heap.size ≠ p7 := fun e => by rw [← e, hBK] at h7; cases h7
      have hne67 : p6 ≠ p7 := fun e => by rw [← e, h6] at h7; cases h7
      have hHeld : w6.cell? ⟨w1.heap.size, 0, none⟩ = some (.slice A0_0 l0_0.length c0_0) ∧ w6.cell? ⟨w1.heap.size, 1, none⟩ = some (.slice A0_1 l0_1.length c0_1) ∧ w6.cell? ⟨w1.heap.size, 2, none⟩ = some (.int .i64 a0_2) ∧ w6.cell? ⟨w1.heap.size, 3, none⟩ = some (.map (some b)) := ⟨(blk_cell hBK 0).trans rfl, (blk_cell hBK 1).trans rfl, (blk_cell hBK 2).trans rfl, (blk_cell hBK 3).trans rfl⟩
      refine norm_ (a' := ?_) ?_ ?_
      rotate_left
      · simp only [putAll, Act.put, List.setIfInBounds_toArray, List.set_cons_zero, List.set_cons_succ]
        rfl
      refine one_ (i := 5) (N := none) (bs 7 63) rfl rfl (by kernel_rfl) (by decide) (fun K hK => ?_)
      have hs0 := (blk_cell h6 0).trans rfl
      have hs1 := blk_frozen h6 0
      refine skip_ (w1 := ?_) (by rfl) rfl ?_ ?_
      rotate_left
      · go_simp
        rfl
      refine hK.out _ _ ⟨(blk_cell (blk_far hBK hne6 _) 0).trans rfl, (blk_cell (blk_far hBK hne6 _) 1).trans rfl, (blk_cell (blk_far hBK hne6 _) 2).trans rfl, (blk_cell (blk_far hBK hne6 _) 3).trans rfl⟩ (fun hHeld => ?_)
      clear hK K
      refine one_ (i := 6) (N := none) (bs 7 127) rfl rfl (by kernel_rfl) (by decide) (fun K hK => ?_)
      have hs2 := (blk_cell (blk_far h7 (p := ⟨p6, 0, none⟩) (Ne.symm hne67) (.func (.func 97) #[] #[])) 0).trans rfl
      have hs3 := blk_frozen (blk_far h7 (p := ⟨p6, 0, none⟩) (Ne.symm hne67) (.func (.func 97) #[] #[])) 0
      refine skip_ (w1 := ?_) (by rfl) rfl ?_ ?_
      rotate_left
      · go_simp
        rfl
      refine hK.out _ _ ⟨(blk_cell (blk_far (blk_far hBK hne6 _) hne7 _) 0).trans rfl, (blk_cell (blk_far (blk_far hBK hne6 _) hne7 _) 1).trans rfl, (blk_cell (blk_far (blk_far hBK hne6 _) hne7 _) 2).trans rfl, (blk_cell (blk_far (blk_far hBK hne6 _) hne7 _) 3).trans rfl⟩ (fun hHeld => ?_)
      clear hK K
      refine done_ (by kernel_rfl) ?_
      have HB6 := Aside0.mk hB6
      have HZ := Aside0.mk (And.intro hz6 hz7)
      have HHH := Aside0.mk (And.intro h6 h7)
      have HBK := Aside0.mk hBK
      have HNE := Aside0.mk (And.intro hne6 (And.intro hne7 hne67))
      have HLT := Aside0.mk hlt
      clear hHeld hs0 hs1 hs2 hs3 hB6 hz6 hz7 h6 h7 hBK hne6 hne7 hne67 q0 q1 q2 q3 hlt
      go_wp2
      go_meet
      case rel =>
        have hxl := (Array.getElem?_eq_some_iff.1 HXV.out).1
        have hz := HZ.out
        have hbl := HBL.out
        have hlt := HLT.out
        have hsz := HBV.out.size
        refine ⟨p6, p7, rfl, rfl, ⟨⟨⟨blk_far (blk_far HBK.out HNE.out.1 _) HNE.out.2.1 _, ?_⟩, ?_, ?_, ?_, ?_⟩⟩⟩
        · exact ((HBV.out.trans (HB6.out.mono hsz)).setCell (p := ⟨p6, 0, none⟩) (by show w.heap.size ≤ p6; omega) _).setCell (p := ⟨p7, 0, none⟩) (by show w.heap.size ≤ p7; omega) _
        · exact blk_far (blk_far ((HB6.out.block _ hxl).trans HXV.out) (show w.heap.size ≠ p6 by omega) _) (show w.heap.size ≠ p7 by omega) _
        · exact (HMV.out.below HB6.out).kept ((Below.heap_setCell _ _ _ _ (show b ≠ p7 by omega)).trans (Below.heap_setCell _ _ _ _ (show b ≠ p6 by omega)))
        · exact blk_far ((blk_set HHH.out.1 0 _).trans rfl) HNE.out.2.2 _
        · exact (blk_set (blk_far HHH.out.2 (show p7 ≠ p6 from Ne.symm HNE.out.2.2) _) 0 _).trans rfl
    case rest =>
      obtain ⟨p6, p7, rfl, rfl, HAH⟩ := hcut
      have hx2 := (blk_cell HAH.out.x 2).trans rfl
      go_wp2_with (fail)
      clear hx2
      refine wp_loop (fun a W => ∃ (u8 u9 u10 u25 u26 u27 u28 u29 u30 u31 u32 u33 u34 u35 u36 u37 u38 u39 u40 u41 u42 u43 u44 u45 u46 u47 u48 u49 u50 u51 u52 u53 u54 u55 u56 u57 u58 u59 u60 : Value) (k : Nat) (Ds : List Nat), a = { tmps := #[.agg #[.slice A0_0 l0_0.length c0_0, .slice A0_1 l0_1.length c0_1, .int .i64 a0_2], .pointer (some ⟨w.heap.size, 0, none⟩), .slice none 0 0, .int .i64 0, .pointer (some ⟨w1.heap.size, 0, none⟩), .int .i64 0, .pointer (some ⟨p6, 0, none⟩), .pointer (some ⟨p7, 0, none⟩), u8, u9, u10, .tuple #[.agg #[.slice A0_0 l0_0.length c0_0, .slice A0_1 l0_1.length c0_1, .int .i64 a0_2, .map (some b)], .int .i64 0], .agg #[.slice A0_0 l0_0.length c0_0, .slice A0_1 l0_1.length c0_1, .int .i64 a0_2], .tuple #[.agg #[.slice A0_0 l0_0.length c0_0, .slice A0_1 l0_1.length c0_1, .int .i64 a0_2, .map (some b)], .int .i64 0], .agg #[.slice A0_0 l0_0.length c0_0, .slice A0_1 l0_1.length c0_1, .int .i64 a0_2, .map (some b)], .int .i64 0, .int .i64 0, .bool false, undef, u19, u20, u21, .pointer (some ⟨w.heap.size, 2, none⟩), .int .i64 a0_2, .int .i64 k, u25, u26, u27, u28, u29, u30, u31, u32, u33, u34, u35, u36, u37, u38, u39, u40, u41, u42, u43, u44, u45, u46, u47, u48, u49, u50, u51, u52, u53, u54, u55, u56, u57, u58, u59, u60], defers := Ds.map markOf } ∧ (k : Int) ≤ a0_2 ∧ Ahead w W l0_0 l0_1 a0_2 b w1.heap.size w.heap.size p6 p7 A0_0 c0_0 A0_1 c0_1 ∧
        (∀ D ∈ Ds, W.heap[D]? = some (.deferred (some [])) ∧ w.heap.size ≤ D) ∧ Ds.Nodup ∧ planL l0_0 l0_1 a0_2 = planAt l0_0 l0_1 a0_2 (a0_2.toNat - k) k) (fun a W => a0_2.toNat - (intOf (a.tmps.getD 24 undef)).toNat) ?start ?round
      case start =>
        refine ⟨_, _, _, _, _, _, _, _, _, _, _, _, _, _, _, _, _, _, _, _, _, _, _, _, _, _, _, _, _, _, _, _, _, _, _, _, _, _, _, 0, [], rfl, by simpa using hn0, HAH.out, fun D h => by simp at h, List.nodup_nil, rfl⟩
      case round =>
        rintro a W ⟨u8, u9, u10, u25, u26, u27, u28, u29, u30, u31, u32, u33, u34, u35, u36, u37, u38, u39, u40, u41, u42, u43, u44, u45, u46, u47, u48, u49, u50, u51, u52, u53, u54, u55, u56, u57, u58, u59, u60, k, Ds, rfl, hk, hA, hD, hnd, hsp⟩
        have HA2 := Aside0.mk hA
        have HD := Aside0.mk hD
        have HND := Aside0.mk hnd
        have HSP := Aside0.mk hsp
        clear hA hD hnd hsp HAH
        by_cases hlt : (k : Int) < a0_2
        · have q0 := (blk_cell HA2.out.box.box 0).trans rfl
          have q1 := (blk_cell HA2.out.box.box 1).trans rfl
          have q2 := (blk_cell HA2.out.box.box 2).trans rfl
          have q3 := (blk_cell HA2.out.box.box 3).trans rfl
          have hgl := (Array.getElem?_eq_some_iff.1 HA2.out.box.box).1
          go_wp2_with (fail)
          refine (plans_calls A0_0 l0_0.length c0_0 A0_1 l0_1.length c0_1 a0_2 b (k + 1) _).mono ?_
          obtain ⟨V, hV⟩ : ∃ V, W.alloc (.cells #[.slice none 0 0] 26) = V := ⟨_, rfl⟩
          have HVW := Aside0.mk (show Below W.heap.size W V by rw [← hV]; exact (Below.refl _ W).alloc (Nat.le_refl _) _)
          have HVB := Aside0.mk (show V.heap[W.heap.size]? = some (.cells #[.slice none 0 0] 26 (0, 0)) by rw [← hV]; exact World.alloc_heap_new W _)
          have HVS := Aside0.mk (show V.heap.size = W.heap.size + 1 by rw [← hV]; simp)
          rw [hV]
          clear hV
          rintro e wl ⟨rfl, hwl⟩
          have hbl : Below V.heap.size V wl := by rw [hwl]; exact ((Below.refl _ V).alloc (Nat.le_refl _) _).alloc (by simp) _
          have hsl : wl.heap.size = V.heap.size + 2 := by rw [hwl]; simp
          have hWl : Below W.heap.size W wl := HVW.out.trans (hbl.mono HVW.out.size)
          have HAl := Aside0.mk (HA2.out.below hWl)
          have HPI := Aside0.mk (show PlanI w wl l0_0 l0_1 a0_2 b w1.heap.size w.heap.size p6 p7 W.heap.size (wl.heap.size + 2) Ds A0_0 c0_0 A0_1 c0_1 [] from
            ⟨HAl.out.box, HAl.out.x, HAl.out.mp, HAl.out.h6, HAl.out.h7, fun D hD' => (hWl.block _ (Array.getElem?_eq_some_iff.1 (HD.out D hD').1).1).trans (HD.out D hD').1, .slice none 0 0, (hbl.block _ (Array.getElem?_eq_some_iff.1 HVB.out).1).trans HVB.out, rfl⟩)
          have HSr := Aside0.mk (Src.mk (w := w) (W := wl) (ms := l0_0) (gs := l0_1) (n := a0_2) (b := b) (g := V.heap.size) (gm := V.heap.size + 1) (many := (k : Int) + 1) (A0 := A0_0) (c0 := c0_0) (A1 := A0_1) (c1 := c0_1)
            ⟨by rw [hwl]; exact blk_alloc (World.alloc_heap_new V _) _, HAl.out.box.bel⟩ HAl.out.mp (by rw [hwl]; have q := World.alloc_heap_new (V.alloc (.cells #[.slice A0_0 l0_0.length c0_0, .slice A0_1 l0_1.length c0_1, .int .i64 a0_2, .map (some b)] 86)) (.cells #[.int .i64 ((k : Int) + 1)] 3); rwa [World.size_alloc] at q))
          have HSL := Aside0.mk hsl
          have HGL := Aside0.mk hgl
          clear hbl hwl hsl hWl q0 q1 q2 q3 hgl
          go_wp2_with (fail)
          refine wpIn_range_all (P := Tryd.prog) (w := wl) (n := 0) rfl (enters_ Tryd.func100 (by kernel_rfl) rfl) w.heap.size HAl.out.box.bel.size (fun q => q = W.heap.size) (fun q hq => by have h1 := HVS.out; have h2 := HSL.out; have h3 := HA2.out.box.bel.size; omega) (plansL l0_0 l0_1 a0_2 (k + 1)) (fun x v Z => Pr8 l0_0 l0_1 a0_2 (wl.heap.size + 2) x v Z) w HAl.out.box.bel ?hit ?hPr
            (fun pre Z => PlanI w Z l0_0 l0_1 a0_2 b w1.heap.size w.heap.size p6 p7 W.heap.size (wl.heap.size + 2) Ds A0_0 c0_0 A0_1 c0_1 pre) ?hI1 ?hI2 HPI.out ?a1 ?assign ?body ?done
          case hit =>
            have h1 := HVS.out
            have h2 := HSL.out
            have hb := HBL.out
            have hg := HGL.out
            intro l J Z hl hZ hbZ hJ hY h0
            exact plans1_calls wl (fun q => q = W.heap.size) (fun q hq => by omega) (by omega) (by omega) (by omega) HSr.out hg1 hg2 (by omega) (by omega) hn0 hm4 HR1.out HG0.out l J Z hl hZ hbZ hJ hY h0
          case hPr =>
            rintro x v Z o hp _
            exact hp.kept (S := fun q => q = wl.heap.size + 1) ⟨by simp, fun i hi hn => World.putObj_heap_other hn⟩ (fun q hq e => by omega)
          case hI1 => exact fun pre X Y h hb => h.below hb
          case hI2 => exact fun pre X o h hr => h.put _ o hr (by have := HAl.out.box.bel.size; omega) (by omega)
          case assign =>
            intro x v Z K hK
            gi_wp2
            exact hK
          case body =>
            rintro pre x v Z hZ hI hp
            obtain ⟨A, c, rfl, hlc, hnil, hF, hfa⟩ := id hp
            obtain ⟨vb, hcell, hbv⟩ := hI.best
            have HFA := Aside0.mk hfa
            have HAZ := Aside0.mk hI.box.bel.size
            have HLTS := Aside0.mk (show w1.heap.size < W.heap.size ∧ w.heap.size < W.heap.size ∧ b < W.heap.size ∧ p6 < W.heap.size ∧ p7 < W.heap.size from
              ⟨HGL.out, (Array.getElem?_eq_some_iff.1 HA2.out.x).1, HA2.out.mp.lt, (Array.getElem?_eq_some_iff.1 HA2.out.h6).1, (Array.getElem?_eq_some_iff.1 HA2.out.h7).1⟩)
            have HDL := Aside0.mk (fun D (h : D ∈ Ds) => (Array.getElem?_eq_some_iff.1 (HD.out D h).1).1)
            have HBC := Aside0.mk (show Z.drew.heap[W.heap.size]? = _ from hcell)
            have HI5 := Aside0.mk (hI.below (Below.refl _ Z).drew)
            have HP5 := Aside0.mk (hp.below (Below.refl _ Z).drew)
            have HK5 := Aside0.mk ((Keeps.refl w.heap.size (fun q => q = W.heap.size) Z).step (Below.refl _ Z).drew hI.box.bel.size)
            have hse := slice_eql
            have hml := mended_len l0_0 l0_1 x
            clear hnil hF hfa hcell hp hZ
            cases hbo : bestOf l0_0 l0_1 pre with
            | none =>
              rw [hbo] at hbv
              obtain rfl : vb = .slice none 0 0 := hbv
              clear hI
              by_cases hfull : (mendedL l0_0 l0_1 x).length = l0_0.length
              · have hf1 : ((mendedL l0_0 l0_1 x).length == l0_0.length) = true := beq_iff_eq.2 hfull
                have hf2 : (((mendedL l0_0 l0_1 x).length : Int) == (l0_0.length : Int)) = true := beq_iff_eq.2 (by omega)
                have HBS := Aside0.mk (show bestOf l0_0 l0_1 (pre ++ [x]) = some x by rw [bestOf_snoc, hbo]; unfold bestStep; rw [if_pos (by simp [hfull])])
                clear hbo hfull
                gi_wp2
                refine startIn_ (n := 19) (S := fun w' => w'.cell? ⟨W.heap.size, 0, none⟩ = some (.slice none 0 0) ∧ w'.cell? ⟨p6, 0, none⟩ = some (.func (.func 97) #[] #[]) ∧ w'.cell? ⟨p7, 0, none⟩ = some (.func (.func 77) #[.agg #[.slice A0_0 l0_0.length c0_0, .slice A0_1 l0_1.length c0_1, .int .i64 a0_2, .map (some b)]] #[]) ∧ w'.cell? ⟨w.heap.size, 0, none⟩ = some (.slice A0_0 l0_0.length c0_0)) (ds := []) (by kernel_rfl) (fun h => by obtain ⟨_, _, h⟩ := h; exact Exit.noConfusion (And.left h)) (bs 19 0) (by kernel_rfl) rfl rfl ⟨(blk_cell HBC.out 0).trans rfl, (blk_cell HI5.out.h6 0).trans rfl, (blk_cell HI5.out.h7 0).trans rfl, (blk_cell HI5.out.x 0).trans rfl⟩ (fun hHeld => ?_)
                refine with_tabW X_Plan.tab11 X_Plan.bits11 (fun HT_ HW_ => ?_)
                generalize World.drew _ = w5 at HBC HI5 HP5 HK5 hHeld ⊢
                refine tk4 HT_ HW_ hHeld 0 (some 32) (bs 19 1) ?_
                refine pu HT_ 1 (some 33) (bs 19 3) ?_
                refine pu HT_ 2 (some 34) (bs 19 7) ?_
                refine pn HT_ 3 (some 35) (bs 19 15) ?_
                refine pn HT_ 4 (some 36) (bs 19 31) ?_
                refine pn HT_ 5 (some 37) (bs 19 63) ?_
                refine pn HT_ 6 (some 38) (bs 19 127) ?_
                refine pn HT_ 7 (some 39) (bs 19 255) ?_
                refine pu HT_ 8 (some 40) (bs 19 511) ?_
                refine pu HT_ 9 (some 41) (bs 19 1023) ?_
                refine pu HT_ 11 (some 43) (bs 19 3071) ?_
                refine pu HT_ 14 (some 46) (bs 19 19455) ?_
                refine tk4 HT_ HW_ hHeld 10 (some 42) (bs 19 20479) ?_
                refine tk4 HT_ HW_ hHeld 15 (some 47) (bs 19 53247) ?_
                refine pu HT_ 16 (some 48) (bs 19 118783) ?_
                refine on HT_ 12 (some 44) (bs 19 122879) (fun K hK => ?_)
                refine goesF_ Tryd.func77 (by kernel_rfl) rfl #[.agg #[.slice A0_0 l0_0.length c0_0, .slice A0_1 l0_1.length c0_1, .int .i64 a0_2, .map (some b)], .slice A x.length c] (by rfl) rfl rfl (by rfl) (by simp [Act.eval]) ?_
                refine (mended_calls l0_0 l0_1 A0_0 c0_0 A0_1 c0_1 a0_2 b A c x _ (Kd.C_below HR0.out HI5.out.box.bel) (Kd.C_below HR1.out HI5.out.box.bel) (pr8_read HP5.out) (gv_below HG0.out HI5.out.box.bel) (askedE_ok HE.out.symm).1 HFA.out).mono ?_
                rintro e w6 ⟨v2, rfl, hR, hb⟩
                obtain ⟨A2, c2, rfl⟩ := Kd.R_slice hR
                refine ⟨_, rfl, ?_⟩
                clear hR
                replace HBC := Aside0.mk ((hb.block _ (Array.getElem?_eq_some_iff.1 HBC.out).1).trans HBC.out)
                replace HI5 := Aside0.mk (HI5.out.below hb)
                replace HP5 := Aside0.mk (HP5.out.below hb)
                replace HK5 := Aside0.mk (HK5.out.step hb HAZ.out)
                clear hb
                refine hK.out _ _ ⟨(blk_cell HBC.out 0).trans rfl, (blk_cell HI5.out.h6 0).trans rfl, (blk_cell HI5.out.h7 0).trans rfl, (blk_cell HI5.out.x 0).trans rfl⟩ (fun hHeld => ?_)
                clear hK K
                refine nm 44 ?_
                refine pu HT_ 13 (some 45) (bs 19 131071) ?_
                refine pu HT_ 17 (some 49) (bs 19 262143) ?_
                refine pu HT_ 18 (some 50) (bs 19 524287) ?_
                refine done_ (done_of HT_.out (by kernel_rfl)) ?_
                clear hHeld
                have hs0 := (blk_cell HBC.out 0).trans rfl
                have hs1 := blk_frozen HBC.out 0
                gi_wp2
                have hl := HLTS.out
                exact ⟨HI5.out.store (by omega) (by omega) (by omega) (by omega) (by omega) (fun D h => by have := HDL.out D h; omega) (by have := HA2.out.box.bel.size; omega) (by have := HSL.out; have := HVS.out; omega) _ (by rw [HBS.out]; exact HP5.out), keeps_setCell' HK5.out (p := ⟨W.heap.size, 0, none⟩) rfl HA2.out.box.bel.size _⟩
              · have hf1 : ((mendedL l0_0 l0_1 x).length == l0_0.length) = false := beq_eq_false_iff_ne.2 hfull
                have hf2 : (((mendedL l0_0 l0_1 x).length : Int) == (l0_0.length : Int)) = false := beq_eq_false_iff_ne.2 (by omega)
                have HBS := Aside0.mk (show bestOf l0_0 l0_1 (pre ++ [x]) = bestOf l0_0 l0_1 pre by rw [bestOf_snoc, hbo]; unfold bestStep; rw [if_neg (by simp [hfull])])
                clear hbo hfull
                gi_wp2
                refine startIn_ (n := 19) (S := fun w' => w'.cell? ⟨W.heap.size, 0, none⟩ = some (.slice none 0 0) ∧ w'.cell? ⟨p6, 0, none⟩ = some (.func (.func 97) #[] #[]) ∧ w'.cell? ⟨p7, 0, none⟩ = some (.func (.func 77) #[.agg #[.slice A0_0 l0_0.length c0_0, .slice A0_1 l0_1.length c0_1, .int .i64 a0_2, .map (some b)]] #[]) ∧ w'.cell? ⟨w.heap.size, 0, none⟩ = some (.slice A0_0 l0_0.length c0_0)) (ds := []) (by kernel_rfl) (fun h => by obtain ⟨_, _, h⟩ := h; exact Exit.noConfusion (And.left h)) (bs 19 0) (by kernel_rfl) rfl rfl ⟨(blk_cell HBC.out 0).trans rfl, (blk_cell HI5.out.h6 0).trans rfl, (blk_cell HI5.out.h7 0).trans rfl, (blk_cell HI5.out.x 0).trans rfl⟩ (fun hHeld => ?_)
                refine with_tabW X_Plan.tab11 X_Plan.bits11 (fun HT_ HW_ => ?_)
                generalize World.drew _ = w5 at HBC HI5 HP5 HK5 hHeld ⊢
                refine tk4 HT_ HW_ hHeld 0 (some 32) (bs 19 1) ?_
                refine pu HT_ 1 (some 33) (bs 19 3) ?_
                refine pu HT_ 2 (some 34) (bs 19 7) ?_
                refine pn HT_ 3 (some 35) (bs 19 15) ?_
                refine pn HT_ 4 (some 36) (bs 19 31) ?_
                refine pn HT_ 5 (some 37) (bs 19 63) ?_
                refine pn HT_ 6 (some 38) (bs 19 127) ?_
                refine pn HT_ 7 (some 39) (bs 19 255) ?_
                refine pu HT_ 8 (some 40) (bs 19 511) ?_
                refine pu HT_ 9 (some 41) (bs 19 1023) ?_
                refine pu HT_ 11 (some 43) (bs 19 3071) ?_
                refine pu HT_ 14 (some 46) (bs 19 19455) ?_
                refine tk4 HT_ HW_ hHeld 10 (some 42) (bs 19 20479) ?_
                refine tk4 HT_ HW_ hHeld 15 (some 47) (bs 19 53247) ?_
                refine pu HT_ 16 (some 48) (bs 19 118783) ?_
                refine on HT_ 12 (some 44) (bs 19 122879) (fun K hK => ?_)
                refine goesF_ Tryd.func77 (by kernel_rfl) rfl #[.agg #[.slice A0_0 l0_0.length c0_0, .slice A0_1 l0_1.length c0_1, .int .i64 a0_2, .map (some b)], .slice A x.length c] (by rfl) rfl rfl (by rfl) (by simp [Act.eval]) ?_
                refine (mended_calls l0_0 l0_1 A0_0 c0_0 A0_1 c0_1 a0_2 b A c x _ (Kd.C_below HR0.out HI5.out.box.bel) (Kd.C_below HR1.out HI5.out.box.bel) (pr8_read HP5.out) (gv_below HG0.out HI5.out.box.bel) (askedE_ok HE.out.symm).1 HFA.out).mono ?_
                rintro e w6 ⟨v2, rfl, hR, hb⟩
                obtain ⟨A2, c2, rfl⟩ := Kd.R_slice hR
                refine ⟨_, rfl, ?_⟩
                clear hR
                replace HBC := Aside0.mk ((hb.block _ (Array.getElem?_eq_some_iff.1 HBC.out).1).trans HBC.out)
                replace HI5 := Aside0.mk (HI5.out.below hb)
                replace HP5 := Aside0.mk (HP5.out.below hb)
                replace HK5 := Aside0.mk (HK5.out.step hb HAZ.out)
                clear hb
                refine hK.out _ _ ⟨(blk_cell HBC.out 0).trans rfl, (blk_cell HI5.out.h6 0).trans rfl, (blk_cell HI5.out.h7 0).trans rfl, (blk_cell HI5.out.x 0).trans rfl⟩ (fun hHeld => ?_)
                clear hK K
                refine nm 44 ?_
                refine pu HT_ 13 (some 45) (bs 19 131071) ?_
                refine pu HT_ 17 (some 49) (bs 19 262143) ?_
                refine pu HT_ 18 (some 50) (bs 19 524287) ?_
                refine done_ (done_of HT_.out (by kernel_rfl)) ?_
                clear hHeld
                gi_wp2
                exact ⟨HI5.out.same HBS.out, HK5.out⟩
            | some pb =>
              rw [hbo] at hbv
              have hb5 := Pr8.below (show Pr8 l0_0 l0_1 a0_2 (wl.heap.size + 2) pb vb Z from hbv) (Below.refl _ Z).drew
              obtain ⟨Ab, cb, rfl, _, _, hFb, hfb⟩ := id hbv
              have hpne := bestOf_ne (askedE_ok HE.out.symm).1 hbo
              obtain ⟨adb, rfl⟩ : ∃ ad, Ab = some ad := by
                obtain ⟨ad, e, _⟩ := (Kd.F_now hFb).2.2 (List.length_pos_iff.2 hpne)
                exact ⟨ad, e⟩
              have HB5 := Aside0.mk hb5
              have HFB := Aside0.mk hfb
              clear hI hbv hb5 hFb hfb hpne
              cases hbe : betterB x pb with
              | false =>
                have HBE := Aside0.mk hbe
                have HBS := Aside0.mk (show bestOf l0_0 l0_1 (pre ++ [x]) = bestOf l0_0 l0_1 pre by rw [bestOf_snoc, hbo]; unfold bestStep; rw [if_neg (by simp [hbe])])
                clear hbo hbe
                gi_wp2
                refine startIn_ (n := 19) (S := fun w' => w'.cell? ⟨W.heap.size, 0, none⟩ = some (.slice (some adb) pb.length cb) ∧ w'.cell? ⟨p6, 0, none⟩ = some (.func (.func 97) #[] #[]) ∧ w'.cell? ⟨p7, 0, none⟩ = some (.func (.func 77) #[.agg #[.slice A0_0 l0_0.length c0_0, .slice A0_1 l0_1.length c0_1, .int .i64 a0_2, .map (some b)]] #[]) ∧ w'.cell? ⟨w.heap.size, 0, none⟩ = some (.slice A0_0 l0_0.length c0_0)) (ds := []) (by kernel_rfl) (fun h => by obtain ⟨_, _, h⟩ := h; exact Exit.noConfusion (And.left h)) (bs 19 0) (by kernel_rfl) rfl rfl ⟨(blk_cell HBC.out 0).trans rfl, (blk_cell HI5.out.h6 0).trans rfl, (blk_cell HI5.out.h7 0).trans rfl, (blk_cell HI5.out.x 0).trans rfl⟩ (fun hHeld => ?_)
                refine with_tabW X_Plan.tab11 X_Plan.bits11 (fun HT_ HW_ => ?_)
                generalize World.drew _ = w5 at HBC HI5 HP5 HK5 HB5 hHeld ⊢
                refine tk4 HT_ HW_ hHeld 0 (some 32) (bs 19 1) ?_
                refine pu HT_ 1 (some 33) (bs 19 3) ?_
                refine pu HT_ 2 (some 34) (bs 19 7) ?_
                refine pu HT_ 3 (some 35) (bs 19 15) ?_
                refine pu HT_ 5 (some 37) (bs 19 47) ?_
                refine tk4 HT_ HW_ hHeld 4 (some 36) (bs 19 63) ?_
                refine tk4 HT_ HW_ hHeld 6 (some 38) (bs 19 127) ?_
                refine on HT_ 7 (some 39) (bs 19 255) (fun K hK => ?_)
                refine goesT_ Tryd.func97 (by kernel_rfl) rfl #[.slice A x.length c, .slice (some adb) pb.length cb] (by rfl) rfl rfl (by rfl) (by (try simp only [List.map_toArray, List.map_cons, List.map_nil]); rfl) ?_
                refine (better_calls A c x (some adb) cb pb _ (pr8_read HP5.out) (pr8_read HB5.out) HFA.out.len HFB.out.len).mono ?_
                rw [HBE.out]
                rintro e w6 ⟨rfl, hb⟩
                refine ⟨_, rfl, ?_⟩
                replace HB5 := Aside0.mk (HB5.out.below hb)
                replace HBC := Aside0.mk ((hb.block _ (Array.getElem?_eq_some_iff.1 HBC.out).1).trans HBC.out)
                replace HI5 := Aside0.mk (HI5.out.below hb)
                replace HP5 := Aside0.mk (HP5.out.below hb)
                replace HK5 := Aside0.mk (HK5.out.step hb HAZ.out)
                clear hb
                refine hK.out _ _ ⟨(blk_cell HBC.out 0).trans rfl, (blk_cell HI5.out.h6 0).trans rfl, (blk_cell HI5.out.h7 0).trans rfl, (blk_cell HI5.out.x 0).trans rfl⟩ (fun hHeld => ?_)
                clear hK K
                refine nm 39 ?_
                refine pu HT_ 8 (some 40) (bs 19 511) ?_
                refine pu HT_ 9 (some 41) (bs 19 1023) ?_
                refine pn HT_ 10 (some 42) (bs 19 2047) ?_
                refine pn HT_ 11 (some 43) (bs 19 4095) ?_
                refine pn HT_ 12 (some 44) (bs 19 8191) ?_
                refine pn HT_ 13 (some 45) (bs 19 16383) ?_
                refine pn HT_ 14 (some 46) (bs 19 32767) ?_
                refine pn HT_ 15 (some 47) (bs 19 65535) ?_
                refine pn HT_ 16 (some 48) (bs 19 131071) ?_
                refine pn HT_ 17 (some 49) (bs 19 262143) ?_
                refine pu HT_ 18 (some 50) (bs 19 524287) ?_
                refine done_ (done_of HT_.out (by kernel_rfl)) ?_
                clear hHeld
                gi_wp2
                exact ⟨HI5.out.same HBS.out, HK5.out⟩
              | true =>
                have HBE := Aside0.mk hbe
                by_cases hfull : (mendedL l0_0 l0_1 x).length = l0_0.length
                · have hf1 : ((mendedL l0_0 l0_1 x).length == l0_0.length) = true := beq_iff_eq.2 hfull
                  have hf2 : (((mendedL l0_0 l0_1 x).length : Int) == (l0_0.length : Int)) = true := beq_iff_eq.2 (by omega)
                  have HBS := Aside0.mk (show bestOf l0_0 l0_1 (pre ++ [x]) = some x by rw [bestOf_snoc, hbo]; unfold bestStep; rw [if_pos (by simp [hbe, hfull])])
                  clear hbo hfull hbe
                  gi_wp2
                  refine startIn_ (n := 19) (S := fun w' => w'.cell? ⟨W.heap.size, 0, none⟩ = some (.slice (some adb) pb.length cb) ∧ w'.cell? ⟨p6, 0, none⟩ = some (.func (.func 97) #[] #[]) ∧ w'.cell? ⟨p7, 0, none⟩ = some (.func (.func 77) #[.agg #[.slice A0_0 l0_0.length c0_0, .slice A0_1 l0_1.length c0_1, .int .i64 a0_2, .map (some b)]] #[]) ∧ w'.cell? ⟨w.heap.size, 0, none⟩ = some (.slice A0_0 l0_0.length c0_0)) (ds := []) (by kernel_rfl) (fun h => by obtain ⟨_, _, h⟩ := h; exact Exit.noConfusion (And.left h)) (bs 19 0) (by kernel_rfl) rfl rfl ⟨(blk_cell HBC.out 0).trans rfl, (blk_cell HI5.out.h6 0).trans rfl, (blk_cell HI5.out.h7 0).trans rfl, (blk_cell HI5.out.x 0).trans rfl⟩ (fun hHeld => ?_)
                  refine with_tabW X_Plan.tab11 X_Plan.bits11 (fun HT_ HW_ => ?_)
                  generalize World.drew _ = w5 at HBC HI5 HP5 HK5 HB5 hHeld ⊢
                  refine tk4 HT_ HW_ hHeld 0 (some 32) (bs 19 1) ?_
                  refine pu HT_ 1 (some 33) (bs 19 3) ?_
                  refine pu HT_ 2 (some 34) (bs 19 7) ?_
                  refine pu HT_ 3 (some 35) (bs 19 15) ?_
                  refine pu HT_ 5 (some 37) (bs 19 47) ?_
                  refine tk4 HT_ HW_ hHeld 4 (some 36) (bs 19 63) ?_
                  refine tk4 HT_ HW_ hHeld 6 (some 38) (bs 19 127) ?_
                  refine on HT_ 7 (some 39) (bs 19 255) (fun K hK => ?_)
                  refine goesT_ Tryd.func97 (by kernel_rfl) rfl #[.slice A x.length c, .slice (some adb) pb.length cb] (by rfl) rfl rfl (by rfl) (by (try simp only [List.map_toArray, List.map_cons, List.map_nil]); rfl) ?_
                  refine (better_calls A c x (some adb) cb pb _ (pr8_read HP5.out) (pr8_read HB5.out) HFA.out.len HFB.out.len).mono ?_
                  rw [HBE.out]
                  rintro e w6 ⟨rfl, hb⟩
                  refine ⟨_, rfl, ?_⟩
                  replace HB5 := Aside0.mk (HB5.out.below hb)
                  replace HBC := Aside0.mk ((hb.block _ (Array.getElem?_eq_some_iff.1 HBC.out).1).trans HBC.out)
                  replace HI5 := Aside0.mk (HI5.out.below hb)
                  replace HP5 := Aside0.mk (HP5.out.below hb)
                  replace HK5 := Aside0.mk (HK5.out.step hb HAZ.out)
                  clear hb
                  refine hK.out _ _ ⟨(blk_cell HBC.out 0).trans rfl, (blk_cell HI5.out.h6 0).trans rfl, (blk_cell HI5.out.h7 0).trans rfl, (blk_cell HI5.out.x 0).trans rfl⟩ (fun hHeld => ?_)
                  clear hK K
                  refine nm 39 ?_
                  refine pu HT_ 8 (some 40) (bs 19 511) ?_
                  refine pu HT_ 9 (some 41) (bs 19 1023) ?_
                  refine pu HT_ 11 (some 43) (bs 19 3071) ?_
                  refine pu HT_ 14 (some 46) (bs 19 19455) ?_
                  refine tk4 HT_ HW_ hHeld 10 (some 42) (bs 19 20479) ?_
                  refine tk4 HT_ HW_ hHeld 15 (some 47) (bs 19 53247) ?_
                  refine pu HT_ 16 (some 48) (bs 19 118783) ?_
                  refine on HT_ 12 (some 44) (bs 19 122879) (fun K hK => ?_)
                  refine goesF_ Tryd.func77 (by kernel_rfl) rfl #[.agg #[.slice A0_0 l0_0.length c0_0, .slice A0_1 l0_1.length c0_1, .int .i64 a0_2, .map (some b)], .slice A x.length c] (by rfl) rfl rfl (by rfl) (by simp [Act.eval]) ?_
                  refine (mended_calls l0_0 l0_1 A0_0 c0_0 A0_1 c0_1 a0_2 b A c x _ (Kd.C_below HR0.out HI5.out.box.bel) (Kd.C_below HR1.out HI5.out.box.bel) (pr8_read HP5.out) (gv_below HG0.out HI5.out.box.bel) (askedE_ok HE.out.symm).1 HFA.out).mono ?_
                  rintro e w6 ⟨v2, rfl, hR, hb⟩
                  obtain ⟨A2, c2, rfl⟩ := Kd.R_slice hR
                  refine ⟨_, rfl, ?_⟩
                  clear hR
                  replace HB5 := Aside0.mk (HB5.out.below hb)
                  replace HBC := Aside0.mk ((hb.block _ (Array.getElem?_eq_some_iff.1 HBC.out).1).trans HBC.out)
                  replace HI5 := Aside0.mk (HI5.out.below hb)
                  replace HP5 := Aside0.mk (HP5.out.below hb)
                  replace HK5 := Aside0.mk (HK5.out.step hb HAZ.out)
                  clear hb
                  refine hK.out _ _ ⟨(blk_cell HBC.out 0).trans rfl, (blk_cell HI5.out.h6 0).trans rfl, (blk_cell HI5.out.h7 0).trans rfl, (blk_cell HI5.out.x 0).trans rfl⟩ (fun hHeld => ?_)
                  clear hK K
                  refine nm 44 ?_
                  refine pu HT_ 13 (some 45) (bs 19 131071) ?_
                  refine pu HT_ 17 (some 49) (bs 19 262143) ?_
                  refine pu HT_ 18 (some 50) (bs 19 524287) ?_
                  refine done_ (done_of HT_.out (by kernel_rfl)) ?_
                  clear hHeld
                  have hs0 := (blk_cell HBC.out 0).trans rfl
                  have hs1 := blk_frozen HBC.out 0
                  gi_wp2
                  have hl := HLTS.out
                  exact ⟨HI5.out.store (by omega) (by omega) (by omega) (by omega) (by omega) (fun D h => by have := HDL.out D h; omega) (by have := HA2.out.box.bel.size; omega) (by have := HSL.out; have := HVS.out; omega) _ (by rw [HBS.out]; exact HP5.out), keeps_setCell' HK5.out (p := ⟨W.heap.size, 0, none⟩) rfl HA2.out.box.bel.size _⟩
                · have hf1 : ((mendedL l0_0 l0_1 x).length == l0_0.length) = false := beq_eq_false_iff_ne.2 hfull
                  have hf2 : (((mendedL l0_0 l0_1 x).length : Int) == (l0_0.length : Int)) = false := beq_eq_false_iff_ne.2 (by omega)
                  have HBS := Aside0.mk (show bestOf l0_0 l0_1 (pre ++ [x]) = bestOf l0_0 l0_1 pre by rw [bestOf_snoc, hbo]; unfold bestStep; rw [if_neg (by simp [hfull])])
                  clear hbo hfull hbe
                  gi_wp2
                  refine startIn_ (n := 19) (S := fun w' => w'.cell? ⟨W.heap.size, 0, none⟩ = some (.slice (some adb) pb.length cb) ∧ w'.cell? ⟨p6, 0, none⟩ = some (.func (.func 97) #[] #[]) ∧ w'.cell? ⟨p7, 0, none⟩ = some (.func (.func 77) #[.agg #[.slice A0_0 l0_0.length c0_0, .slice A0_1 l0_1.length c0_1, .int .i64 a0_2, .map (some b)]] #[]) ∧ w'.cell? ⟨w.heap.size, 0, none⟩ = some (.slice A0_0 l0_0.length c0_0)) (ds := []) (by kernel_rfl) (fun h => by obtain ⟨_, _, h⟩ := h; exact Exit.noConfusion (And.left h)) (bs 19 0) (by kernel_rfl) rfl rfl ⟨(blk_cell HBC.out 0).trans rfl, (blk_cell HI5.out.h6 0).trans rfl, (blk_cell HI5.out.h7 0).trans rfl, (blk_cell HI5.out.x 0).trans rfl⟩ (fun hHeld => ?_)
                  refine with_tabW X_Plan.tab11 X_Plan.bits11 (fun HT_ HW_ => ?_)
                  generalize World.drew _ = w5 at HBC HI5 HP5 HK5 HB5 hHeld ⊢
                  refine tk4 HT_ HW_ hHeld 0 (some 32) (bs 19 1) ?_
                  refine pu HT_ 1 (some 33) (bs 19 3) ?_
                  refine pu HT_ 2 (some 34) (bs 19 7) ?_
                  refine pu HT_ 3 (some 35) (bs 19 15) ?_
                  refine pu HT_ 5 (some 37) (bs 19 47) ?_
                  refine tk4 HT_ HW_ hHeld 4 (some 36) (bs 19 63) ?_
                  refine tk4 HT_ HW_ hHeld 6 (some 38) (bs 19 127) ?_
                  refine on HT_ 7 (some 39) (bs 19 255) (fun K hK => ?_)
                  refine goesT_ Tryd.func97 (by kernel_rfl) rfl #[.slice A x.length c, .slice (some adb) pb.length cb] (by rfl) rfl rfl (by rfl) (by (try simp only [List.map_toArray, List.map_cons, List.map_nil]); rfl) ?_
                  refine (better_calls A c x (some adb) cb pb _ (pr8_read HP5.out) (pr8_read HB5.out) HFA.out.len HFB.out.len).mono ?_
                  rw [HBE.out]
                  rintro e w6 ⟨rfl, hb⟩
                  refine ⟨_, rfl, ?_⟩
                  replace HB5 := Aside0.mk (HB5.out.below hb)
                  replace HBC := Aside0.mk ((hb.block _ (Array.getElem?_eq_some_iff.1 HBC.out).1).trans HBC.out)
                  replace HI5 := Aside0.mk (HI5.out.below hb)
                  replace HP5 := Aside0.mk (HP5.out.below hb)
                  replace HK5 := Aside0.mk (HK5.out.step hb HAZ.out)
                  clear hb
                  refine hK.out _ _ ⟨(blk_cell HBC.out 0).trans rfl, (blk_cell HI5.out.h6 0).trans rfl, (blk_cell HI5.out.h7 0).trans rfl, (blk_cell HI5.out.x 0).trans rfl⟩ (fun hHeld => ?_)
                  clear hK K
                  refine nm 39 ?_
                  refine pu HT_ 8 (some 40) (bs 19 511) ?_
                  refine pu HT_ 9 (some 41) (bs 19 1023) ?_
                  refine pu HT_ 11 (some 43) (bs 19 3071) ?_
                  refine pu HT_ 14 (some 46) (bs 19 19455) ?_
                  refine tk4 HT_ HW_ hHeld 10 (some 42) (bs 19 20479) ?_
                  refine tk4 HT_ HW_ hHeld 15 (some 47) (bs 19 53247) ?_
                  refine pu HT_ 16 (some 48) (bs 19 118783) ?_
                  refine on HT_ 12 (some 44) (bs 19 122879) (fun K hK => ?_)
                  refine goesF_ Tryd.func77 (by kernel_rfl) rfl #[.agg #[.slice A0_0 l0_0.length c0_0, .slice A0_1 l0_1.length c0_1, .int .i64 a0_2, .map (some b)], .slice A x.length c] (by rfl) rfl rfl (by rfl) (by simp [Act.eval]) ?_
                  refine (mended_calls l0_0 l0_1 A0_0 c0_0 A0_1 c0_1 a0_2 b A c x _ (Kd.C_below HR0.out HI5.out.box.bel) (Kd.C_below HR1.out HI5.out.box.bel) (pr8_read HP5.out) (gv_below HG0.out HI5.out.box.bel) (askedE_ok HE.out.symm).1 HFA.out).mono ?_
                  rintro e w6 ⟨v2, rfl, hR, hb⟩
                  obtain ⟨A2, c2, rfl⟩ := Kd.R_slice hR
                  refine ⟨_, rfl, ?_⟩
                  clear hR
                  replace HB5 := Aside0.mk (HB5.out.below hb)
                  replace HBC := Aside0.mk ((hb.block _ (Array.getElem?_eq_some_iff.1 HBC.out).1).trans HBC.out)
                  replace HI5 := Aside0.mk (HI5.out.below hb)
                  replace HP5 := Aside0.mk (HP5.out.below hb)
                  replace HK5 := Aside0.mk (HK5.out.step hb HAZ.out)
                  clear hb
                  refine hK.out _ _ ⟨(blk_cell HBC.out 0).trans rfl, (blk_cell HI5.out.h6 0).trans rfl, (blk_cell HI5.out.h7 0).trans rfl, (blk_cell HI5.out.x 0).trans rfl⟩ (fun hHeld => ?_)
                  clear hK K
                  refine nm 44 ?_
                  refine pu HT_ 13 (some 45) (bs 19 131071) ?_
                  refine pu HT_ 17 (some 49) (bs 19 262143) ?_
                  refine pu HT_ 18 (some 50) (bs 19 524287) ?_
                  refine done_ (done_of HT_.out (by kernel_rfl)) ?_
                  clear hHeld
                  gi_wp2
                  exact ⟨HI5.out.same HBS.out, HK5.out⟩
          case done =>
            intro Z hDz hI hK hdef
            have HI := Aside0.mk hI
            have HDF := Aside0.mk hdef
            have HK := Aside0.mk hK
            obtain ⟨vb, hcell, hbv⟩ := hI.best
            have hc0 := (blk_cell hcell 0).trans rfl
            have HDS : Aside0 (∀ D ∈ wl.heap.size :: Ds, Z.heap[D]? = some (.deferred (some [])) ∧ w.heap.size ≤ D) := ⟨fun D h => by
              rcases List.mem_cons.1 h with rfl | h
              · exact ⟨hdef, HAl.out.box.bel.size⟩
              · exact ⟨hI.ds D h, (HD.out D h).2⟩⟩
            have HNN : Aside0 ((wl.heap.size :: Ds).Nodup) := ⟨List.nodup_cons.2 ⟨fun h => by
              have h1 := (Array.getElem?_eq_some_iff.1 (HD.out _ h).1).1
              have h2 := HVS.out
              have h3 := HSL.out
              omega, HND.out⟩⟩
            have HPS := Aside0.mk (show planAt l0_0 l0_1 a0_2 (a0_2.toNat - k) k = match bestOf l0_0 l0_1 (plansL l0_0 l0_1 a0_2 (k + 1)) with | some p => some p | none => planAt l0_0 l0_1 a0_2 (a0_2.toNat - (k + 1)) ((k + 1 : Nat) : Int) by
              rw [show a0_2.toNat - k = (a0_2.toNat - (k + 1)) + 1 by omega]; rfl)
            clear hI hdef hK hDz hcell
            cases hbo : bestOf l0_0 l0_1 (plansL l0_0 l0_1 a0_2 (k + 1)) with
            | none =>
              rw [hbo] at hbv
              obtain rfl : vb = .slice none 0 0 := hbv
              have hsn := slice_neq
              have HPN := Aside0.mk (show planL l0_0 l0_1 a0_2 = planAt l0_0 l0_1 a0_2 (a0_2.toNat - (k + 1)) ((k + 1 : Nat) : Int) by rw [HSP.out, HPS.out, hbo])
              clear hbo
              go_wp2
              refine ⟨⟨_, _, _, _, _, _, _, _, _, _, _, _, _, _, _, _, _, _, _, _, _, _, _, _, _, _, _, _, _, _, _, _, _, _, _, _, _, _, _, k + 1, wl.heap.size :: Ds, by rfl, by omega, ⟨HI.out.box, HI.out.x, HI.out.mp, HI.out.h6, HI.out.h7⟩, HDS.out, HNN.out, HPN.out⟩, ?_⟩
              show a0_2.toNat - ((k : Int) + 1).toNat < a0_2.toNat - (k : Int).toNat
              omega
            | some p =>
              rw [hbo] at hbv
              obtain ⟨A, c, rfl, hlc, hnil, hF, hfa⟩ := hbv
              have hsn := slice_neq
              have hq : some (p, (0 : Int)) = some (r1, r2) := by rw [← HH.out, HSP.out, HPS.out, hbo]
              have hpne := bestOf_ne (askedE_ok HE.out.symm).1 hbo
              obtain ⟨rfl, rfl⟩ : p = r1 ∧ 0 = r2 := by simpa using hq
              obtain ⟨ad, rfl⟩ : ∃ ad, A = some ad := by
                obtain ⟨ad, e, _⟩ := (Kd.F_now hF).2.2 (List.length_pos_iff.2 hpne)
                exact ⟨ad, e⟩
              have HFF := Aside0.mk hF
              clear hbo hq hpne hnil hF hfa
              go_wp2
              refine retM_ret (wl.heap.size :: Ds) rfl HNN.out (fun D h => (HDS.out D h).1) (results_tmp2 rfl _ _ _) ⟨_, rfl, ?_, HI.out.box.bel.trans (takeAll_below w.heap.size _ _ (fun D h => (HDS.out D h).2))⟩
              refine Kd.V_mk (Nat.le_refl _) (Kd.F_mono (Kd.F_kept HFF.out (takeAll_kept (wl.heap.size :: Ds) Z) (fun q hq hm => ?_)) (fun q hq => by have := HAl.out.box.bel.size; omega))
              rcases List.mem_cons.1 hm with rfl | hm
              · omega
              · have h1 := (Array.getElem?_eq_some_iff.1 (HD.out _ hm).1).1
                have h2 := HVS.out
                have h3 := HSL.out
                omega
        · have hke : (k : Int) = a0_2 := by omega
          have HPN := Aside0.mk (show planL l0_0 l0_1 a0_2 = none by rw [HSP.out, show a0_2.toNat - k = 0 by omega]; rfl)
          have hq : some (([] : List Wk), (4 : Int)) = some (r1, r2) := by rw [← HH.out, HPN.out]
          obtain ⟨rfl, rfl⟩ : [] = r1 ∧ 4 = r2 := by simpa using hq
          have HBE := Aside0.mk HA2.out.box.bel
          clear hq
          go_wp2
          exact retM_ret Ds rfl HND.out (fun D h => (HD.out D h).1) (results_tmp2 rfl _ _ _) ⟨_, rfl, Kd.V_nil _ _ _ _ _, HBE.out.trans (takeAll_below w.heap.size Ds _ (fun D h => (HD.out D h).2))⟩
  · have HE := Aside0.mk hE
    have hE1 : (E == 0) = false := beq_eq_false_iff_ne.2 hE0
    have hE2 : (E != 0) = true := bne_iff_ne.2 hE0
    have h41 : some (([] : List Wk), E) = some (r1, r2) := by
      rw [← H.out]
      unfold gang_Plan.f
      unfold askedE at hE
      split at hE
      · rename_i q
        exact absurd (by rw [hE]; rfl) hE0
      · rename_i q
        rw [if_neg q, hE]
    obtain ⟨rfl, rfl⟩ : [] = r1 ∧ E = r2 := by simpa using h41
    clear hE hs hE0 h41
    go_wp2
    exact retM_ret [] rfl List.nodup_nil (fun _ h => by simp at h) (results_tmp2 rfl _ _ _) ⟨_, rfl, Kd.V_nil _ _ _ _ _, HB1.out.alloc HB1.out.size _⟩
end Go.Proofs.YtikfghnkbgdbgaaDoor.Q
end
