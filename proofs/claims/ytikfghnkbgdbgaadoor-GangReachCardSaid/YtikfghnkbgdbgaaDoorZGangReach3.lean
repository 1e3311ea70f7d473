/- It is proved that the statement GangReach holds of the given program for every book and every three numbers; there are no conditions. -/
import Derived.Test.YtikfghnkbgdbgaaDoorZGangReach2
import Derived.Test.YtikfghnkbgdbgaaDoorTie
import Derived.Test.YtikfghnkbgdbgaaDoorCards
import Derived.SevenTiedAt
set_option linter.unusedSimpArgs false
set_option linter.unusedVariables false
section
namespace Go.Proofs.YtikfghnkbgdbgaaDoor.Q
set_option linter.unusedSimpArgs false
set_option linter.unusedVariables false
open Go.RowKit Go.Proofs.YtikfghnkbgdbgaaDoorW.PrintWords Go.Proofs.YtikfghnkbgdbgaaDoorW.PrintLast Go.Proofs.YtikfghnkbgdbgaaDoorW.PrintMore
def ownM : List M := [⟨⟨2, 3⟩, 0⟩, ⟨⟨1, 2⟩, 1⟩, ⟨⟨2, 2⟩, 2⟩]
def ownG (tt : Int) : List G := [⟨0, 1, ⟨1, 2⟩⟩, ⟨1, tt, ⟨2, 2⟩⟩]
def bothP : List Wk := [⟨0, 0, 0⟩, ⟨0, 1, 2⟩]
def twoP : List Wk := [⟨0, 0, 0⟩, ⟨1, 0, 0⟩]
def planP : List Wk := [⟨0, 0, 0⟩, ⟨0, 1, 2⟩, ⟨1, 0, 0⟩, ⟨2, 0, 0⟩, ⟨3, 1, 1⟩]
def canL : List Int := [0, 2, 3]
def cloL : List Int := [0, 2]
def menL : List Int := [2]
def mosL : List Int := [0, 2]
def nonL : List Wk := []
set_option maxRecDepth 100000
theorem own_eq : macadamlaw04_own.f = some (ownM, ownG 2, 4) := by kernel_rfl
theorem short_eq : macadamlaw04_short.f = some (ownM, ownG 2, 3) := by kernel_rfl
theorem far_eq : macadamlaw04_far.f = some (ownM, ownG 1, 4) := by kernel_rfl
theorem sh_can : gang_Can.f ownM (ownG 2) 4 1 2 = some (canL, 0) := by kernel_rfl
theorem sh_may : gang_May.f ownM (ownG 2) 4 bothP = some (true, 0) := by kernel_rfl
theorem sh_closed : gang_Closed.f ownM (ownG 2) 4 bothP 0 = some (cloL, 0) := by kernel_rfl
theorem sh_done : gang_Done.f ownM (ownG 2) 4 twoP 0 = some (2, 4, 0) := by kernel_rfl
theorem sh_mended : gang_Mended.f ownM (ownG 2) 4 bothP = some (menL, 0) := by kernel_rfl
theorem sh_open : gang_Open.f ownM (ownG 2) 4 bothP = some (0, 0) := by kernel_rfl
theorem sh_plan : gang_Plan.f ownM (ownG 2) 4 = some (planP, 0) := by kernel_rfl
theorem sh_most : gang_Most.f ownM (ownG 2) 3 = some (mosL, 0) := by kernel_rfl
theorem sh_first : gang_First.f ownM (ownG 1) 4 = some (2, 0) := by kernel_rfl
theorem sh_noplan : gang_Plan.f ownM (ownG 2) 3 = some (nonL, 4) := by kernel_rfl
theorem lit2 (a b : Wk) (w : World) (base : Nat) (ok : Nat → Prop) : Reps (Kd.M k59 w base ok) 3 [a, b] [.int .i64 a.f0, .int .i64 a.f1, .int .i64 a.f2, .int .i64 b.f0, .int .i64 b.f1, .int .i64 b.f2] :=
  Reps.c3 (show Kd.M k59 _ _ _ a [.int .i64 a.f0, .int .i64 a.f1, .int .i64 a.f2] from (k59_mkM _ _ _ a)) (Reps.c3 (show Kd.M k59 _ _ _ b [.int .i64 b.f0, .int .i64 b.f1, .int .i64 b.f2] from (k59_mkM _ _ _ b)) (Reps.none _ _))
theorem list_of_step {P : Program} {ops : Array Oper} {o : Oper} {a : Act} {Q : Exit → Act → World → Prop} {rest : List Oper} {W : World} (h : if Region.wanted o (yielded ops a.tmps) = true then Oper.wp P o a W (wpList P ops Q rest) Q else wpList P ops Q rest (a.put o.dst undef) W) : wpList P ops Q (o :: rest) a W := by
  simp only [wpList]
  by_cases hw : Region.wanted o (yielded ops a.tmps) = true
  · rw [if_pos hw] at h ⊢; exact Or.inl h
  · rw [if_neg hw] at h ⊢; exact h
theorem lit5 (a b c d e : Wk) (w : World) (base : Nat) (ok : Nat → Prop) : Reps (Kd.M k59 w base ok) 3 [a, b, c, d, e] [.int .i64 a.f0, .int .i64 a.f1, .int .i64 a.f2, .int .i64 b.f0, .int .i64 b.f1, .int .i64 b.f2, .int .i64 c.f0, .int .i64 c.f1, .int .i64 c.f2, .int .i64 d.f0, .int .i64 d.f1, .int .i64 d.f2, .int .i64 e.f0, .int .i64 e.f1, .int .i64 e.f2] :=
  Reps.c3 (show Kd.M k59 _ _ _ a [.int .i64 a.f0, .int .i64 a.f1, .int .i64 a.f2] from (k59_mkM _ _ _ a)) (Reps.c3 (show Kd.M k59 _ _ _ b [.int .i64 b.f0, .int .i64 b.f1, .int .i64 b.f2] from (k59_mkM _ _ _ b)) (Reps.c3 (show Kd.M k59 _ _ _ c [.int .i64 c.f0, .int .i64 c.f1, .int .i64 c.f2] from (k59_mkM _ _ _ c)) (Reps.c3 (show Kd.M k59 _ _ _ d [.int .i64 d.f0, .int .i64 d.f1, .int .i64 d.f2] from (k59_mkM _ _ _ d)) (Reps.c3 (show Kd.M k59 _ _ _ e [.int .i64 e.f0, .int .i64 e.f1, .int .i64 e.f2] from (k59_mkM _ _ _ e)) (Reps.none _ _)))))
theorem eqSpan (d : Nat) (w : World) (x0 y0 x1 y1 : Int) :
    (Op.equalIn (d + 2) 40 (.agg #[.int .i64 x0, .int .i64 x1]) (.agg #[.int .i64 y0, .int .i64 y1])).run Tryd.prog w = .ok (x0 == y0 && (x1 == y1)) w := by
  refine eqA_of Tryd.underlying40 (by kernel_rfl) ?_
  refine eqf_cons (by rfl) (by go_simp; rfl) (by go_simp; rfl) (by go_simp) ?_
  exact eqf_last (by rfl) (by go_simp; rfl) (by go_simp; rfl) (by go_simp)
theorem equal_span (w : World) : (Op.equalIn 10000 40 (.agg #[.int .i64 2, .int .i64 4]) (.agg #[.int .i64 2, .int .i64 4])).run Tryd.prog w = .ok true w := eqSpan 9998 w 2 2 4 4
def X_shov.T6 : Bool × List (List Nat × List Nat) := (true, [([], []), ([0], [0]), ([1], [1]), ([2], [2]), ([3, 2], [2, 3]), ([2, 4], [2, 4]), ([5, 2], [5]), ([6], [6]), ([7, 6], [6, 7]), ([6, 8], [6, 8]), ([9, 6], [9]), ([10], [10]), ([11, 10], [10, 11]), ([10, 12], [10, 12]), ([13, 10], [13]), ([14], [14]), ([15, 14], [14, 15]), ([14, 16], [14, 16]), ([17, 14], [17]), ([18], [18]), ([18], [18]), ([19, 20, 18, 18], [18, 19, 20]), ([21, 18], [18, 21]), ([18, 22], [18, 22]), ([23, 21], [23]), ([24], [24]), ([25, 24], [24, 25]), ([24, 26], [24, 26]), ([27, 24], [27]), ([28], [28]), ([28], [28]), ([29, 30, 28, 28], [28, 29, 30]), ([31, 28], [28, 31]), ([28, 32], [28, 32]), ([33, 31], [33]), ([34], [34]), ([34, 34], [34]), ([35, 36, 34], [34, 35, 36]), ([34, 37], [34, 37]), ([38, 36], [38]), ([39], [39]), ([39], [39]), ([40, 41, 39, 39], [39, 40, 41]), ([42, 39], [39, 42]), ([39, 43], [39, 43])])
def X_shov.B6 : List Nat := [0, 1, 3, 7, 15, 31, 63, 127, 255, 511, 1023, 2047, 4095, 8191, 16383, 32767, 65535, 131071, 262143, 524287, 524287, 2097151, 4194303, 8388607, 16777215, 33554431, 67108863, 134217727, 268435455, 536870911, 536870911, 2147483647, 4294967295, 8589934591, 17179869183, 34359738367, 34359738367, 137438953471, 274877906943, 549755813887, 1099511627775, 1099511627775, 4398046511103, 8796093022207, 17592186044415]
theorem X_shov.tab6 : rtab .any (opsOf Tryd.f24 6) = X_shov.T6 := by kernel_rfl
theorem X_shov.bits6 : waitsOk X_shov.T6.2 X_shov.B6 = true := by kernel_rfl
theorem macadamlaw04_both.calls (r : List Wk) (w : World) (h : bothP = r) :
    Calls Tryd.prog 74 #[] w fun e w' => ∃ v0_ : Value, e = .returned (v0_) ∧ Kd.R k59 59 w' w.heap.size (fun _ => True) v0_ r ∧ Below w.heap.size w w' := by
  subst h
  have HB0 := Aside0.mk (Below.refl w.heap.size w)
  go_enter Tryd.func74, Tryd.ntmps74
  go_wp2_with (fail)
  refine (macadamlaw04_work.calls 0 0 0 0 0 0 _ (by kernel_rfl)).mono ?_
  rintro e w1 ⟨rfl, hb⟩
  have HB1 := Aside0.mk (below_then HB0.out HB0.out.size hb)
  clear hb HB0
  go_wp2_with (fail)
  refine (macadamlaw04_work.calls 0 1 2 0 1 2 _ (by kernel_rfl)).mono ?_
  rintro e w2 ⟨rfl, hb⟩
  have HB2 := Aside0.mk (below_then HB1.out HB1.out.size hb)
  clear hb HB1
  go_wp2_with ((with_reducible refine gate_dst (N := 3) rfl ?_); refine Kd.R_lit k59 _ 59 ?hg (N := 3) ?hd (xs := bothP) (inner := [.int .i64 0, .int .i64 0, .int .i64 0, .int .i64 0, .int .i64 1, .int .i64 2]) (ok := fun _ => True) (okp := fun _ => True) ?hr ?hp (fun _ hk => hk) trivial (Below.refl _ _) (Nat.le_refl _) (by simp [bothP]) ?_; (case hd => rfl); (case hg => rfl); (case hr => first | (go_simp; done) | (go_simp; rfl)); (case hp => exact lit2 _ _ _ _ _); intro v3 w3 ho hb hg_ hnew_; clear hg_ hnew_; have HO := Aside0.mk (Kd.R_lower ho HB2.out.size); have HB3 := Aside0.mk (below_then HB2.out HB2.out.size hb); clear hb ho HB2)
  go_ret
  exact ⟨_, by rfl, HO.out, HB3.out⟩
set_option maxHeartbeats 8000000 in
theorem macadamlaw04_shovelled.calls0 (w : World) (hG : GV w) :
    Calls Tryd.prog 24 #[] w fun e w' => e = .returned (.bool true) ∧ Below w.heap.size w w' := by
  have HG0 := Aside0.mk hG
  have HB0 := Aside0.mk (Below.refl w.heap.size w)
  clear hG
  go_enter Tryd.func24, Tryd.ntmps24
  go_wp2_with (fail)
  refine (macadamlaw04_own.calls ownM (ownG 2) 4 _ own_eq).mono ?_
  rintro e w1 ⟨va, vb, rfl, ha, hbb, hb⟩
  have HB1 := Aside0.mk (below_then HB0.out HB0.out.size hb)
  clear hb HB0
  obtain ⟨Aa, ca, rfl⟩ := Kd.R_slice ha
  have CA := Aside0.mk (Kd.R_reads' ha)
  clear ha
  obtain ⟨Ab, cb, rfl⟩ := Kd.R_slice hbb
  have CB := Aside0.mk (Kd.R_reads' hbb)
  clear hbb
  go_wp2_with (fail)
  refine (gang_Can.calls _ _ _ _ _ _ _ _ _ canL 0 _ CA.out.2.2 CA.out.2.1 CB.out.2.2 CB.out.2.1 (gv_below HG0.out HB1.out) sh_can).mono ?_
  rintro e w2 ⟨v1, rfl, hv, hb⟩
  have HB2 := Aside0.mk (below_then HB1.out HB1.out.size hb)
  replace CA := Aside0.mk (⟨CA.out.1, CA.out.2.1, Kd.C_below CA.out.2.2 hb⟩ : _ ∧ _ ∧ Kd.C _ _ _ _ _)
  replace CB := Aside0.mk (⟨CB.out.1, CB.out.2.1, Kd.C_below CB.out.2.2 hb⟩ : _ ∧ _ ∧ Kd.C _ _ _ _ _)
  clear hb HB1
  obtain ⟨A1, c1, rfl⟩ := Kd.V_slice hv
  have C1 := Aside0.mk (Kd.V_reads' hv)
  clear hv
  clear CA
  clear CB
  go_wp2_with (fail)
  refine (macadamlaw04_own.calls ownM (ownG 2) 4 _ own_eq).mono ?_
  rintro e w3 ⟨va, vb, rfl, ha, hbb, hb⟩
  have HB3 := Aside0.mk (below_then HB2.out HB2.out.size hb)
  replace C1 := Aside0.mk (⟨C1.out.1, C1.out.2.1, Kd.C_below C1.out.2.2 hb⟩ : _ ∧ _ ∧ Kd.C _ _ _ _ _)
  clear hb HB2
  obtain ⟨Aa, ca, rfl⟩ := Kd.R_slice ha
  have CA := Aside0.mk (Kd.R_reads' ha)
  clear ha
  obtain ⟨Ab, cb, rfl⟩ := Kd.R_slice hbb
  have CB := Aside0.mk (Kd.R_reads' hbb)
  clear hbb
  go_wp2_with (fail)
  refine (macadamlaw04_both.calls bothP _ (by kernel_rfl)).mono ?_
  rintro e w4 ⟨vp, rfl, hp, hb⟩
  have HB4 := Aside0.mk (below_then HB3.out HB3.out.size hb)
  replace C1 := Aside0.mk (⟨C1.out.1, C1.out.2.1, Kd.C_below C1.out.2.2 hb⟩ : _ ∧ _ ∧ Kd.C _ _ _ _ _)
  replace CA := Aside0.mk (⟨CA.out.1, CA.out.2.1, Kd.C_below CA.out.2.2 hb⟩ : _ ∧ _ ∧ Kd.C _ _ _ _ _)
  replace CB := Aside0.mk (⟨CB.out.1, CB.out.2.1, Kd.C_below CB.out.2.2 hb⟩ : _ ∧ _ ∧ Kd.C _ _ _ _ _)
  clear hb HB3
  obtain ⟨Ap, cp, rfl⟩ := Kd.R_slice hp
  have CP := Aside0.mk (Kd.R_reads' hp)
  clear hp
  go_wp2_with (fail)
  refine (gang_May.calls _ _ _ _ _ _ _ _ _ bothP true 0 _ CA.out.2.2 CA.out.2.1 CB.out.2.2 CB.out.2.1 CP.out.2.2 CP.out.2.1 (gv_below HG0.out HB4.out) sh_may).mono ?_
  rintro e w5 ⟨rfl, hb⟩
  have HB5 := Aside0.mk (below_then HB4.out HB4.out.size hb)
  replace C1 := Aside0.mk (⟨C1.out.1, C1.out.2.1, Kd.C_below C1.out.2.2 hb⟩ : _ ∧ _ ∧ Kd.C _ _ _ _ _)
  replace CA := Aside0.mk (⟨CA.out.1, CA.out.2.1, Kd.C_below CA.out.2.2 hb⟩ : _ ∧ _ ∧ Kd.C _ _ _ _ _)
  replace CB := Aside0.mk (⟨CB.out.1, CB.out.2.1, Kd.C_below CB.out.2.2 hb⟩ : _ ∧ _ ∧ Kd.C _ _ _ _ _)
  replace CP := Aside0.mk (⟨CP.out.1, CP.out.2.1, Kd.C_below CP.out.2.2 hb⟩ : _ ∧ _ ∧ Kd.C _ _ _ _ _)
  clear hb HB4
  clear CA
  clear CB
  clear CP
  go_wp2_with (fail)
  refine (macadamlaw04_own.calls ownM (ownG 2) 4 _ own_eq).mono ?_
  rintro e w6 ⟨va, vb, rfl, ha, hbb, hb⟩
  have HB6 := Aside0.mk (below_then HB5.out HB5.out.size hb)
  replace C1 := Aside0.mk (⟨C1.out.1, C1.out.2.1, Kd.C_below C1.out.2.2 hb⟩ : _ ∧ _ ∧ Kd.C _ _ _ _ _)
  clear hb HB5
  obtain ⟨Aa, ca, rfl⟩ := Kd.R_slice ha
  have CA := Aside0.mk (Kd.R_reads' ha)
  clear ha
  obtain ⟨Ab, cb, rfl⟩ := Kd.R_slice hbb
  have CB := Aside0.mk (Kd.R_reads' hbb)
  clear hbb
  go_wp2_with (fail)
  refine (macadamlaw04_both.calls bothP _ (by kernel_rfl)).mono ?_
  rintro e w7 ⟨vp, rfl, hp, hb⟩
  have HB7 := Aside0.mk (below_then HB6.out HB6.out.size hb)
  replace C1 := Aside0.mk (⟨C1.out.1, C1.out.2.1, Kd.C_below C1.out.2.2 hb⟩ : _ ∧ _ ∧ Kd.C _ _ _ _ _)
  replace CA := Aside0.mk (⟨CA.out.1, CA.out.2.1, Kd.C_below CA.out.2.2 hb⟩ : _ ∧ _ ∧ Kd.C _ _ _ _ _)
  replace CB := Aside0.mk (⟨CB.out.1, CB.out.2.1, Kd.C_below CB.out.2.2 hb⟩ : _ ∧ _ ∧ Kd.C _ _ _ _ _)
  clear hb HB6
  obtain ⟨Ap, cp, rfl⟩ := Kd.R_slice hp
  have CP := Aside0.mk (Kd.R_reads' hp)
  clear hp
  go_wp2_with (fail)
  refine (gang_Closed.calls _ _ _ _ _ _ _ _ _ bothP 0 cloL 0 _ CA.out.2.2 CA.out.2.1 CB.out.2.2 CB.out.2.1 CP.out.2.2 CP.out.2.1 (gv_below HG0.out HB7.out) sh_closed).mono ?_
  rintro e w8 ⟨v5, rfl, hv, hb⟩
  have HB8 := Aside0.mk (below_then HB7.out HB7.out.size hb)
  replace C1 := Aside0.mk (⟨C1.out.1, C1.out.2.1, Kd.C_below C1.out.2.2 hb⟩ : _ ∧ _ ∧ Kd.C _ _ _ _ _)
  replace CA := Aside0.mk (⟨CA.out.1, CA.out.2.1, Kd.C_below CA.out.2.2 hb⟩ : _ ∧ _ ∧ Kd.C _ _ _ _ _)
  replace CB := Aside0.mk (⟨CB.out.1, CB.out.2.1, Kd.C_below CB.out.2.2 hb⟩ : _ ∧ _ ∧ Kd.C _ _ _ _ _)
  replace CP := Aside0.mk (⟨CP.out.1, CP.out.2.1, Kd.C_below CP.out.2.2 hb⟩ : _ ∧ _ ∧ Kd.C _ _ _ _ _)
  clear hb HB7
  obtain ⟨A5, c5, rfl⟩ := Kd.V_slice hv
  have C5 := Aside0.mk (Kd.V_reads' hv)
  clear hv
  clear CA
  clear CB
  clear CP
  go_wp2_with (fail)
  refine (macadamlaw04_own.calls ownM (ownG 2) 4 _ own_eq).mono ?_
  rintro e w9 ⟨va, vb, rfl, ha, hbb, hb⟩
  have HB9 := Aside0.mk (below_then HB8.out HB8.out.size hb)
  replace C1 := Aside0.mk (⟨C1.out.1, C1.out.2.1, Kd.C_below C1.out.2.2 hb⟩ : _ ∧ _ ∧ Kd.C _ _ _ _ _)
  replace C5 := Aside0.mk (⟨C5.out.1, C5.out.2.1, Kd.C_below C5.out.2.2 hb⟩ : _ ∧ _ ∧ Kd.C _ _ _ _ _)
  clear hb HB8
  obtain ⟨Aa, ca, rfl⟩ := Kd.R_slice ha
  have CA := Aside0.mk (Kd.R_reads' ha)
  clear ha
  obtain ⟨Ab, cb, rfl⟩ := Kd.R_slice hbb
  have CB := Aside0.mk (Kd.R_reads' hbb)
  clear hbb
  go_wp2_with (fail)
  refine (macadamlaw04_work.calls 0 0 0 0 0 0 _ (by kernel_rfl)).mono ?_
  rintro e w10 ⟨rfl, hb⟩
  have HB10 := Aside0.mk (below_then HB9.out HB9.out.size hb)
  replace C1 := Aside0.mk (⟨C1.out.1, C1.out.2.1, Kd.C_below C1.out.2.2 hb⟩ : _ ∧ _ ∧ Kd.C _ _ _ _ _)
  replace C5 := Aside0.mk (⟨C5.out.1, C5.out.2.1, Kd.C_below C5.out.2.2 hb⟩ : _ ∧ _ ∧ Kd.C _ _ _ _ _)
  replace CA := Aside0.mk (⟨CA.out.1, CA.out.2.1, Kd.C_below CA.out.2.2 hb⟩ : _ ∧ _ ∧ Kd.C _ _ _ _ _)
  replace CB := Aside0.mk (⟨CB.out.1, CB.out.2.1, Kd.C_below CB.out.2.2 hb⟩ : _ ∧ _ ∧ Kd.C _ _ _ _ _)
  clear hb HB9
  go_wp2_with (fail)
  refine (macadamlaw04_work.calls 1 0 0 1 0 0 _ (by kernel_rfl)).mono ?_
  rintro e w11 ⟨rfl, hb⟩
  have HB11 := Aside0.mk (below_then HB10.out HB10.out.size hb)
  replace C1 := Aside0.mk (⟨C1.out.1, C1.out.2.1, Kd.C_below C1.out.2.2 hb⟩ : _ ∧ _ ∧ Kd.C _ _ _ _ _)
  replace C5 := Aside0.mk (⟨C5.out.1, C5.out.2.1, Kd.C_below C5.out.2.2 hb⟩ : _ ∧ _ ∧ Kd.C _ _ _ _ _)
  replace CA := Aside0.mk (⟨CA.out.1, CA.out.2.1, Kd.C_below CA.out.2.2 hb⟩ : _ ∧ _ ∧ Kd.C _ _ _ _ _)
  replace CB := Aside0.mk (⟨CB.out.1, CB.out.2.1, Kd.C_below CB.out.2.2 hb⟩ : _ ∧ _ ∧ Kd.C _ _ _ _ _)
  clear hb HB10
  go_wp2_with ((with_reducible refine gate_dst (N := 36) rfl ?_); refine Kd.R_lit k59 _ 59 ?hg (N := 36) ?hd (xs := twoP) (inner := [.int .i64 0, .int .i64 0, .int .i64 0, .int .i64 1, .int .i64 0, .int .i64 0]) (ok := fun _ => True) (okp := fun _ => True) ?hr ?hp (fun _ hk => hk) trivial (Below.refl _ _) (Nat.le_refl _) (by simp [twoP]) ?_; (case hd => rfl); (case hg => rfl); (case hr => first | (go_simp; done) | (go_simp; rfl)); (case hp => exact lit2 _ _ _ _ _); intro v3 w12 ho hb hg_ hnew_; clear hg_ hnew_; have HO := Aside0.mk ho; have HB12 := Aside0.mk (below_then HB11.out HB11.out.size hb); replace C1 := Aside0.mk (⟨C1.out.1, C1.out.2.1, Kd.C_below C1.out.2.2 hb⟩ : _ ∧ _ ∧ Kd.C _ _ _ _ _); replace C5 := Aside0.mk (⟨C5.out.1, C5.out.2.1, Kd.C_below C5.out.2.2 hb⟩ : _ ∧ _ ∧ Kd.C _ _ _ _ _); replace CA := Aside0.mk (⟨CA.out.1, CA.out.2.1, Kd.C_below CA.out.2.2 hb⟩ : _ ∧ _ ∧ Kd.C _ _ _ _ _); replace CB := Aside0.mk (⟨CB.out.1, CB.out.2.1, Kd.C_below CB.out.2.2 hb⟩ : _ ∧ _ ∧ Kd.C _ _ _ _ _); clear hb ho HB11; (obtain ⟨Ap, cp, rfl⟩ := Kd.R_slice HO.out); have CP := Aside0.mk (Kd.R_reads' HO.out); clear HO)
  go_wp2_with (fail)
  refine (gang_Done.calls _ _ _ _ _ _ _ _ _ twoP 0 2 4 0 _ CA.out.2.2 CA.out.2.1 CB.out.2.2 CB.out.2.1 CP.out.2.2 CP.out.2.1 (gv_below HG0.out HB12.out) sh_done).mono ?_
  rintro e w13 ⟨rfl, hb⟩
  have HB13 := Aside0.mk (below_then HB12.out HB12.out.size hb)
  replace C1 := Aside0.mk (⟨C1.out.1, C1.out.2.1, Kd.C_below C1.out.2.2 hb⟩ : _ ∧ _ ∧ Kd.C _ _ _ _ _)
  replace C5 := Aside0.mk (⟨C5.out.1, C5.out.2.1, Kd.C_below C5.out.2.2 hb⟩ : _ ∧ _ ∧ Kd.C _ _ _ _ _)
  replace CA := Aside0.mk (⟨CA.out.1, CA.out.2.1, Kd.C_below CA.out.2.2 hb⟩ : _ ∧ _ ∧ Kd.C _ _ _ _ _)
  replace CB := Aside0.mk (⟨CB.out.1, CB.out.2.1, Kd.C_below CB.out.2.2 hb⟩ : _ ∧ _ ∧ Kd.C _ _ _ _ _)
  replace CP := Aside0.mk (⟨CP.out.1, CP.out.2.1, Kd.C_below CP.out.2.2 hb⟩ : _ ∧ _ ∧ Kd.C _ _ _ _ _)
  clear hb HB12
  clear CA
  clear CB
  clear CP
  go_wp2_with ((with_reducible refine gate_dst (N := 7) rfl ?_); refine bx 7 #[.int .i64 0, .int .i64 0] 40 ?_; intro gb hg w14 hbox hb; have HBB := Aside0.mk hb; have BX := Aside0.mk hbox; have GE := Aside0.mk (show w13.heap.size ≤ gb by rw [hg]; exact Nat.le_refl _); clear hb hbox hg; have hc0 : w14.cell? ⟨gb, 0, none⟩ = some (.int .i64 0) := (blk_cell BX.out 0).trans rfl; have hc1 : w14.cell? ⟨gb, 1, none⟩ = some (.int .i64 0) := (blk_cell BX.out 1).trans rfl; have hf0 := blk_frozen BX.out 0; have hf1 := blk_frozen BX.out 1)
  clear hc0 hc1 hf0 hf1
  have hb := below_set (v := .int .i64 4) (j := 1) (below_set (v := .int .i64 2) (j := 0) HBB.out GE.out) GE.out
  have BX2 := blk_put (blk_put BX.out 0 (.int .i64 2) rfl) 1 (.int .i64 4) rfl
  generalize (World.setCell (World.setCell _ _ _) _ _) = w15 at hb BX2 ⊢
  replace BX := Aside0.mk BX2
  clear BX2
  have HB15 := Aside0.mk (below_then HB13.out HB13.out.size hb)
  replace C1 := Aside0.mk (⟨C1.out.1, C1.out.2.1, Kd.C_below C1.out.2.2 hb⟩ : _ ∧ _ ∧ Kd.C _ _ _ _ _)
  replace C5 := Aside0.mk (⟨C5.out.1, C5.out.2.1, Kd.C_below C5.out.2.2 hb⟩ : _ ∧ _ ∧ Kd.C _ _ _ _ _)
  clear hb HB13
  clear HBB GE
  go_wp2_with (fail)
  refine (macadamlaw04_own.calls ownM (ownG 2) 4 _ own_eq).mono ?_
  rintro e w16 ⟨va, vb, rfl, ha, hbb, hb⟩
  have HB16 := Aside0.mk (below_then HB15.out HB15.out.size hb)
  replace C1 := Aside0.mk (⟨C1.out.1, C1.out.2.1, Kd.C_below C1.out.2.2 hb⟩ : _ ∧ _ ∧ Kd.C _ _ _ _ _)
  replace C5 := Aside0.mk (⟨C5.out.1, C5.out.2.1, Kd.C_below C5.out.2.2 hb⟩ : _ ∧ _ ∧ Kd.C _ _ _ _ _)
  replace BX := Aside0.mk (blk_below BX.out hb)
  clear hb HB15
  obtain ⟨Aa, ca, rfl⟩ := Kd.R_slice ha
  have CA := Aside0.mk (Kd.R_reads' ha)
  clear ha
  obtain ⟨Ab, cb, rfl⟩ := Kd.R_slice hbb
  have CB := Aside0.mk (Kd.R_reads' hbb)
  clear hbb
  go_wp2_with (fail)
  refine (macadamlaw04_both.calls bothP _ (by kernel_rfl)).mono ?_
  rintro e w17 ⟨vp, rfl, hp, hb⟩
  have HB17 := Aside0.mk (below_then HB16.out HB16.out.size hb)
  replace C1 := Aside0.mk (⟨C1.out.1, C1.out.2.1, Kd.C_below C1.out.2.2 hb⟩ : _ ∧ _ ∧ Kd.C _ _ _ _ _)
  replace C5 := Aside0.mk (⟨C5.out.1, C5.out.2.1, Kd.C_below C5.out.2.2 hb⟩ : _ ∧ _ ∧ Kd.C _ _ _ _ _)
  replace CA := Aside0.mk (⟨CA.out.1, CA.out.2.1, Kd.C_below CA.out.2.2 hb⟩ : _ ∧ _ ∧ Kd.C _ _ _ _ _)
  replace CB := Aside0.mk (⟨CB.out.1, CB.out.2.1, Kd.C_below CB.out.2.2 hb⟩ : _ ∧ _ ∧ Kd.C _ _ _ _ _)
  replace BX := Aside0.mk (blk_below BX.out hb)
  clear hb HB16
  obtain ⟨Ap, cp, rfl⟩ := Kd.R_slice hp
  have CP := Aside0.mk (Kd.R_reads' hp)
  clear hp
  go_wp2_with (fail)
  refine (gang_Mended.calls _ _ _ _ _ _ _ _ _ bothP menL 0 _ CA.out.2.2 CA.out.2.1 CB.out.2.2 CB.out.2.1 CP.out.2.2 CP.out.2.1 (gv_below HG0.out HB17.out) sh_mended).mono ?_
  rintro e w18 ⟨v9, rfl, hv, hb⟩
  have HB18 := Aside0.mk (below_then HB17.out HB17.out.size hb)
  replace C1 := Aside0.mk (⟨C1.out.1, C1.out.2.1, Kd.C_below C1.out.2.2 hb⟩ : _ ∧ _ ∧ Kd.C _ _ _ _ _)
  replace C5 := Aside0.mk (⟨C5.out.1, C5.out.2.1, Kd.C_below C5.out.2.2 hb⟩ : _ ∧ _ ∧ Kd.C _ _ _ _ _)
  replace CA := Aside0.mk (⟨CA.out.1, CA.out.2.1, Kd.C_below CA.out.2.2 hb⟩ : _ ∧ _ ∧ Kd.C _ _ _ _ _)
  replace CB := Aside0.mk (⟨CB.out.1, CB.out.2.1, Kd.C_below CB.out.2.2 hb⟩ : _ ∧ _ ∧ Kd.C _ _ _ _ _)
  replace CP := Aside0.mk (⟨CP.out.1, CP.out.2.1, Kd.C_below CP.out.2.2 hb⟩ : _ ∧ _ ∧ Kd.C _ _ _ _ _)
  replace BX := Aside0.mk (blk_below BX.out hb)
  clear hb HB17
  obtain ⟨A9, c9, rfl⟩ := Kd.V_slice hv
  have C9 := Aside0.mk (Kd.V_reads' hv)
  clear hv
  clear CA
  clear CB
  clear CP
  go_wp2_with (fail)
  have HBX := Aside0.mk (show Below w.heap.size w _ from HB18.out)
  clear HB18
  have hb := (Below.refl (World.heap w18).size w18).drew
  replace C1 := Aside0.mk (⟨C1.out.1, C1.out.2.1, Kd.C_below C1.out.2.2 hb⟩ : _ ∧ _ ∧ Kd.C _ _ _ _ _)
  replace C5 := Aside0.mk (⟨C5.out.1, C5.out.2.1, Kd.C_below C5.out.2.2 hb⟩ : _ ∧ _ ∧ Kd.C _ _ _ _ _)
  replace C9 := Aside0.mk (⟨C9.out.1, C9.out.2.1, Kd.C_below C9.out.2.2 hb⟩ : _ ∧ _ ∧ Kd.C _ _ _ _ _)
  replace BX := Aside0.mk (blk_below BX.out hb)
  replace HBX := Aside0.mk (below_then HBX.out HBX.out.size hb)
  clear hb
  have heq := equal_span
  refine start_ (n := 45) (S := fun w' => w'.cell? ⟨gb, 0, none⟩ = some (.int .i64 2) ∧ w'.cell? ⟨gb, 1, none⟩ = some (.int .i64 4)) (ds := []) (bs 45 0) (by kernel_rfl) rfl rfl ⟨(blk_cell BX.out 0).trans rfl, (blk_cell BX.out 1).trans rfl⟩ (fun hHeld => ?_)
  refine with_tabW X_shov.tab6 X_shov.bits6 (fun HT_ HW_ => ?_)
  generalize World.drew _ = wd at C1 C5 C9 BX HBX hHeld ⊢
  refine pu HT_ 0 (some 46) (bs 45 1) ?_
  refine pu HT_ 1 (some 47) (bs 45 3) ?_
  refine pu HT_ 2 (some 48) (bs 45 7) ?_
  refine pu HT_ 3 (some 49) (bs 45 15) ?_
  refine pu HT_ 4 (some 50) (bs 45 31) ?_
  refine pu HT_ 5 (some 51) (bs 45 63) ?_
  refine pu HT_ 6 (some 52) (bs 45 127) ?_
  refine pu HT_ 7 (some 53) (bs 45 255) ?_
  refine pu HT_ 8 (some 54) (bs 45 511) ?_
  refine pu HT_ 9 (some 55) (bs 45 1023) ?_
  refine pu HT_ 10 (some 56) (bs 45 2047) ?_
  refine pu HT_ 11 (some 57) (bs 45 4095) ?_
  refine pu HT_ 12 (some 58) (bs 45 8191) ?_
  refine pu HT_ 13 (some 59) (bs 45 16383) ?_
  refine pu HT_ 14 (some 60) (bs 45 32767) ?_
  refine pu HT_ 15 (some 61) (bs 45 65535) ?_
  refine pu HT_ 16 (some 62) (bs 45 131071) ?_
  refine pu HT_ 17 (some 63) (bs 45 262143) ?_
  refine pu HT_ 18 (some 64) (bs 45 524287) ?_
  refine pu HT_ 19 (some 65) (bs 45 1048575) ?_
  refine on HT_ 20 (some 66) (bs 45 2097151) (fun K hK => ?_)
  refine Kd.R_lit_step (Kd.int .i64) _ 3 ?hg (N := 66) ?hd (xs := canL) (inner := [.int .i64 0, .int .i64 2, .int .i64 3]) (ok := fun _ => True) (okp := fun _ => True) ?hr ?hp (fun _ hk => hk) trivial (Below.refl _ _) (Nat.le_refl _) (by simp [canL]) ?_; (case hd => rfl); (case hg => rfl); (case hr => first | (go_simp; done) | (go_simp; rfl)); (case hp => exact (Reps.one (show Kd.M (Kd.int .i64) _ _ _ (0 : Int) [.int .i64 0] from rfl) (Reps.one (show Kd.M (Kd.int .i64) _ _ _ (2 : Int) [.int .i64 2] from rfl) (Reps.one (show Kd.M (Kd.int .i64) _ _ _ (3 : Int) [.int .i64 3] from rfl) (Reps.none _ _)))))
  intro pv pw ho hb hg_ hnew_
  clear hg_ hnew_
  obtain ⟨pA, pc, rfl⟩ := Kd.R_slice ho
  have pC := Aside0.mk (Kd.R_reads' ho)
  clear ho
  replace C1 := Aside0.mk (⟨C1.out.1, C1.out.2.1, Kd.C_below C1.out.2.2 hb⟩ : _ ∧ _ ∧ Kd.C _ _ _ _ _)
  replace C5 := Aside0.mk (⟨C5.out.1, C5.out.2.1, Kd.C_below C5.out.2.2 hb⟩ : _ ∧ _ ∧ Kd.C _ _ _ _ _)
  replace C9 := Aside0.mk (⟨C9.out.1, C9.out.2.1, Kd.C_below C9.out.2.2 hb⟩ : _ ∧ _ ∧ Kd.C _ _ _ _ _)
  replace BX := Aside0.mk (blk_below BX.out hb)
  replace HBX := Aside0.mk (below_then HBX.out HBX.out.size hb)
  clear hb
  refine hK.out _ _ ⟨(blk_cell BX.out 0).trans rfl, (blk_cell BX.out 1).trans rfl⟩ (fun hHeld => ?_)
  clear hK K
  refine nm 66 ?_
  refine on HT_ 21 (some 67) (bs 45 4194303) (fun K hK => ?_)
  refine goes_ Tryd.func17 (by kernel_rfl) rfl #[.slice A1 canL.length c1, .slice pA canL.length pc] (by rfl) rfl rfl (by (try simp only [List.map_toArray, List.map_cons, List.map_nil]); first | done | rfl) ?_
  with_reducible refine (macadamref00_Like.calls 10 _ _ canL _ _ canL true _ C1.out.2.2 C1.out.2.1 pC.out.2.2 pC.out.2.1 (by kernel_rfl)).mono ?_
  rintro e px ⟨rfl, hd⟩
  refine ⟨_, rfl, ?_⟩
  have hb := hd.below
  clear hd
  replace C1 := Aside0.mk (⟨C1.out.1, C1.out.2.1, Kd.C_below C1.out.2.2 hb⟩ : _ ∧ _ ∧ Kd.C _ _ _ _ _)
  replace C5 := Aside0.mk (⟨C5.out.1, C5.out.2.1, Kd.C_below C5.out.2.2 hb⟩ : _ ∧ _ ∧ Kd.C _ _ _ _ _)
  replace C9 := Aside0.mk (⟨C9.out.1, C9.out.2.1, Kd.C_below C9.out.2.2 hb⟩ : _ ∧ _ ∧ Kd.C _ _ _ _ _)
  replace BX := Aside0.mk (blk_below BX.out hb)
  replace HBX := Aside0.mk (below_then HBX.out HBX.out.size hb)
  clear hb
  refine hK.out _ _ ⟨(blk_cell BX.out 0).trans rfl, (blk_cell BX.out 1).trans rfl⟩ (fun hHeld => ?_)
  clear hK K
  refine nm 67 ?_
  refine pu HT_ 22 (some 68) (bs 45 8388607) ?_
  refine pu HT_ 23 (some 69) (bs 45 16777215) ?_
  refine pu HT_ 24 (some 70) (bs 45 33554431) ?_
  refine pu HT_ 25 (some 71) (bs 45 67108863) ?_
  refine pu HT_ 26 (some 72) (bs 45 134217727) ?_
  refine pu HT_ 27 (some 73) (bs 45 268435455) ?_
  refine pu HT_ 28 (some 74) (bs 45 536870911) ?_
  refine pu HT_ 29 (some 75) (bs 45 1073741823) ?_
  refine on HT_ 30 (some 76) (bs 45 2147483647) (fun K hK => ?_)
  refine Kd.R_lit_step (Kd.int .i64) _ 3 ?hg (N := 76) ?hd (xs := cloL) (inner := [.int .i64 0, .int .i64 2]) (ok := fun _ => True) (okp := fun _ => True) ?hr ?hp (fun _ hk => hk) trivial (Below.refl _ _) (Nat.le_refl _) (by simp [cloL]) ?_; (case hd => rfl); (case hg => rfl); (case hr => first | (go_simp; done) | (go_simp; rfl)); (case hp => exact (Reps.one (show Kd.M (Kd.int .i64) _ _ _ (0 : Int) [.int .i64 0] from rfl) (Reps.one (show Kd.M (Kd.int .i64) _ _ _ (2 : Int) [.int .i64 2] from rfl) (Reps.none _ _))))
  intro qv qw ho hb hg_ hnew_
  clear hg_ hnew_
  obtain ⟨qA, qc, rfl⟩ := Kd.R_slice ho
  have qC := Aside0.mk (Kd.R_reads' ho)
  clear ho
  replace C1 := Aside0.mk (⟨C1.out.1, C1.out.2.1, Kd.C_below C1.out.2.2 hb⟩ : _ ∧ _ ∧ Kd.C _ _ _ _ _)
  replace C5 := Aside0.mk (⟨C5.out.1, C5.out.2.1, Kd.C_below C5.out.2.2 hb⟩ : _ ∧ _ ∧ Kd.C _ _ _ _ _)
  replace C9 := Aside0.mk (⟨C9.out.1, C9.out.2.1, Kd.C_below C9.out.2.2 hb⟩ : _ ∧ _ ∧ Kd.C _ _ _ _ _)
  replace BX := Aside0.mk (blk_below BX.out hb)
  replace HBX := Aside0.mk (below_then HBX.out HBX.out.size hb)
  clear hb
  refine hK.out _ _ ⟨(blk_cell BX.out 0).trans rfl, (blk_cell BX.out 1).trans rfl⟩ (fun hHeld => ?_)
  clear hK K
  refine nm 76 ?_
  refine on HT_ 31 (some 77) (bs 45 4294967295) (fun K hK => ?_)
  refine goes_ Tryd.func17 (by kernel_rfl) rfl #[.slice A5 cloL.length c5, .slice qA cloL.length qc] (by rfl) rfl rfl (by (try simp only [List.map_toArray, List.map_cons, List.map_nil]); first | done | rfl) ?_
  with_reducible refine (macadamref00_Like.calls 10 _ _ cloL _ _ cloL true _ C5.out.2.2 C5.out.2.1 qC.out.2.2 qC.out.2.1 (by kernel_rfl)).mono ?_
  rintro e qx ⟨rfl, hd⟩
  refine ⟨_, rfl, ?_⟩
  have hb := hd.below
  clear hd
  replace C1 := Aside0.mk (⟨C1.out.1, C1.out.2.1, Kd.C_below C1.out.2.2 hb⟩ : _ ∧ _ ∧ Kd.C _ _ _ _ _)
  replace C5 := Aside0.mk (⟨C5.out.1, C5.out.2.1, Kd.C_below C5.out.2.2 hb⟩ : _ ∧ _ ∧ Kd.C _ _ _ _ _)
  replace C9 := Aside0.mk (⟨C9.out.1, C9.out.2.1, Kd.C_below C9.out.2.2 hb⟩ : _ ∧ _ ∧ Kd.C _ _ _ _ _)
  replace BX := Aside0.mk (blk_below BX.out hb)
  replace HBX := Aside0.mk (below_then HBX.out HBX.out.size hb)
  clear hb
  refine hK.out _ _ ⟨(blk_cell BX.out 0).trans rfl, (blk_cell BX.out 1).trans rfl⟩ (fun hHeld => ?_)
  clear hK K
  refine nm 77 ?_
  refine pu HT_ 32 (some 78) (bs 45 8589934591) ?_
  refine pu HT_ 33 (some 79) (bs 45 17179869183) ?_
  refine pu HT_ 34 (some 80) (bs 45 34359738367) ?_
  refine tk2 HT_ HW_ hHeld 35 (some 81) (bs 45 68719476735) ?_
  refine on HT_ 36 (some 82) (bs 45 137438953471) (fun K hK => ?_)
  refine goes_ Tryd.func50 (by kernel_rfl) rfl #[.int .i64 2, .int .i64 4] (by rfl) rfl rfl (by (try simp only [List.map_toArray, List.map_cons, List.map_nil]); first | done | rfl) ?_
  with_reducible refine (macadamref00_Reach.calls 2 4 2 4 _ (by kernel_rfl)).mono ?_
  rintro e rx ⟨rfl, hb⟩
  refine ⟨_, rfl, ?_⟩
  replace C1 := Aside0.mk (⟨C1.out.1, C1.out.2.1, Kd.C_below C1.out.2.2 hb⟩ : _ ∧ _ ∧ Kd.C _ _ _ _ _)
  replace C5 := Aside0.mk (⟨C5.out.1, C5.out.2.1, Kd.C_below C5.out.2.2 hb⟩ : _ ∧ _ ∧ Kd.C _ _ _ _ _)
  replace C9 := Aside0.mk (⟨C9.out.1, C9.out.2.1, Kd.C_below C9.out.2.2 hb⟩ : _ ∧ _ ∧ Kd.C _ _ _ _ _)
  replace BX := Aside0.mk (blk_below BX.out hb)
  replace HBX := Aside0.mk (below_then HBX.out HBX.out.size hb)
  clear hb
  refine hK.out _ _ ⟨(blk_cell BX.out 0).trans rfl, (blk_cell BX.out 1).trans rfl⟩ (fun hHeld => ?_)
  clear hK K
  refine nm 82 ?_
  refine pu HT_ 37 (some 83) (bs 45 274877906943) ?_
  refine pu HT_ 38 (some 84) (bs 45 549755813887) ?_
  refine pu HT_ 39 (some 85) (bs 45 1099511627775) ?_
  refine pu HT_ 40 (some 86) (bs 45 2199023255551) ?_
  refine on HT_ 41 (some 87) (bs 45 4398046511103) (fun K hK => ?_)
  refine Kd.R_lit_step (Kd.int .i64) _ 3 ?hg (N := 87) ?hd (xs := menL) (inner := [.int .i64 2]) (ok := fun _ => True) (okp := fun _ => True) ?hr ?hp (fun _ hk => hk) trivial (Below.refl _ _) (Nat.le_refl _) (by simp [menL]) ?_; (case hd => rfl); (case hg => rfl); (case hr => first | (go_simp; done) | (go_simp; rfl)); (case hp => exact (Reps.one (show Kd.M (Kd.int .i64) _ _ _ (2 : Int) [.int .i64 2] from rfl) (Reps.none _ _)))
  intro rv rw ho hb hg_ hnew_
  clear hg_ hnew_
  obtain ⟨rA, rc, rfl⟩ := Kd.R_slice ho
  have rC := Aside0.mk (Kd.R_reads' ho)
  clear ho
  replace C1 := Aside0.mk (⟨C1.out.1, C1.out.2.1, Kd.C_below C1.out.2.2 hb⟩ : _ ∧ _ ∧ Kd.C _ _ _ _ _)
  replace C5 := Aside0.mk (⟨C5.out.1, C5.out.2.1, Kd.C_below C5.out.2.2 hb⟩ : _ ∧ _ ∧ Kd.C _ _ _ _ _)
  replace C9 := Aside0.mk (⟨C9.out.1, C9.out.2.1, Kd.C_below C9.out.2.2 hb⟩ : _ ∧ _ ∧ Kd.C _ _ _ _ _)
  replace BX := Aside0.mk (blk_below BX.out hb)
  replace HBX := Aside0.mk (below_then HBX.out HBX.out.size hb)
  clear hb
  refine hK.out _ _ ⟨(blk_cell BX.out 0).trans rfl, (blk_cell BX.out 1).trans rfl⟩ (fun hHeld => ?_)
  clear hK K
  refine nm 87 ?_
  refine on HT_ 42 (some 88) (bs 45 8796093022207) (fun K hK => ?_)
  refine goes_ Tryd.func17 (by kernel_rfl) rfl #[.slice A9 menL.length c9, .slice rA menL.length rc] (by rfl) rfl rfl (by (try simp only [List.map_toArray, List.map_cons, List.map_nil]); first | done | rfl) ?_
  with_reducible refine (macadamref00_Like.calls 10 _ _ menL _ _ menL true _ C9.out.2.2 C9.out.2.1 rC.out.2.2 rC.out.2.1 (by kernel_rfl)).mono ?_
  rintro e rx ⟨rfl, hd⟩
  refine ⟨_, rfl, ?_⟩
  have hb := hd.below
  clear hd
  replace C1 := Aside0.mk (⟨C1.out.1, C1.out.2.1, Kd.C_below C1.out.2.2 hb⟩ : _ ∧ _ ∧ Kd.C _ _ _ _ _)
  replace C5 := Aside0.mk (⟨C5.out.1, C5.out.2.1, Kd.C_below C5.out.2.2 hb⟩ : _ ∧ _ ∧ Kd.C _ _ _ _ _)
  replace C9 := Aside0.mk (⟨C9.out.1, C9.out.2.1, Kd.C_below C9.out.2.2 hb⟩ : _ ∧ _ ∧ Kd.C _ _ _ _ _)
  replace BX := Aside0.mk (blk_below BX.out hb)
  replace HBX := Aside0.mk (below_then HBX.out HBX.out.size hb)
  clear hb
  refine hK.out _ _ ⟨(blk_cell BX.out 0).trans rfl, (blk_cell BX.out 1).trans rfl⟩ (fun hHeld => ?_)
  clear hK K
  refine nm 88 ?_
  refine pu HT_ 43 (some 89) (bs 45 17592186044415) ?_
  refine pu HT_ 44 (some 90) (bs 45 35184372088831) ?_
  refine done_ (done_of HT_.out (by kernel_rfl)) ?_
  clear C1 C5 C9 BX heq
  go_wp2_with (fail)
  refine (macadamlaw04_own.calls ownM (ownG 2) 4 _ own_eq).mono ?_
  rintro e w19 ⟨va, vb, rfl, ha, hbb, hb⟩
  have HB19 := Aside0.mk (below_then HBX.out HBX.out.size hb)
  clear hb HBX
  obtain ⟨Aa, ca, rfl⟩ := Kd.R_slice ha
  have CA := Aside0.mk (Kd.R_reads' ha)
  clear ha
  obtain ⟨Ab, cb, rfl⟩ := Kd.R_slice hbb
  have CB := Aside0.mk (Kd.R_reads' hbb)
  clear hbb
  go_wp2_with (fail)
  refine (macadamlaw04_both.calls bothP _ (by kernel_rfl)).mono ?_
  rintro e w20 ⟨vp, rfl, hp, hb⟩
  have HB20 := Aside0.mk (below_then HB19.out HB19.out.size hb)
  replace CA := Aside0.mk (⟨CA.out.1, CA.out.2.1, Kd.C_below CA.out.2.2 hb⟩ : _ ∧ _ ∧ Kd.C _ _ _ _ _)
  replace CB := Aside0.mk (⟨CB.out.1, CB.out.2.1, Kd.C_below CB.out.2.2 hb⟩ : _ ∧ _ ∧ Kd.C _ _ _ _ _)
  clear hb HB19
  obtain ⟨Ap, cp, rfl⟩ := Kd.R_slice hp
  have CP := Aside0.mk (Kd.R_reads' hp)
  clear hp
  go_wp2_with (fail)
  refine (gang_Open.calls _ _ _ _ _ _ _ _ _ bothP 0 0 _ CA.out.2.2 CA.out.2.1 CB.out.2.2 CB.out.2.1 CP.out.2.2 CP.out.2.1 (gv_below HG0.out HB20.out) sh_open).mono ?_
  rintro e w21 ⟨rfl, hb⟩
  have HB21 := Aside0.mk (below_then HB20.out HB20.out.size hb)
  replace CA := Aside0.mk (⟨CA.out.1, CA.out.2.1, Kd.C_below CA.out.2.2 hb⟩ : _ ∧ _ ∧ Kd.C _ _ _ _ _)
  replace CB := Aside0.mk (⟨CB.out.1, CB.out.2.1, Kd.C_below CB.out.2.2 hb⟩ : _ ∧ _ ∧ Kd.C _ _ _ _ _)
  replace CP := Aside0.mk (⟨CP.out.1, CP.out.2.1, Kd.C_below CP.out.2.2 hb⟩ : _ ∧ _ ∧ Kd.C _ _ _ _ _)
  clear hb HB20
  clear CA
  clear CB
  clear CP
  go_wp2_with (fail)
  refine (macadamlaw04_own.calls ownM (ownG 2) 4 _ own_eq).mono ?_
  rintro e w22 ⟨va, vb, rfl, ha, hbb, hb⟩
  have HB22 := Aside0.mk (below_then HB21.out HB21.out.size hb)
  clear hb HB21
  obtain ⟨Aa, ca, rfl⟩ := Kd.R_slice ha
  have CA := Aside0.mk (Kd.R_reads' ha)
  clear ha
  obtain ⟨Ab, cb, rfl⟩ := Kd.R_slice hbb
  have CB := Aside0.mk (Kd.R_reads' hbb)
  clear hbb
  go_wp2_with (fail)
  refine (gang_Plan.calls _ _ _ _ _ _ _ planP 0 _ CA.out.2.2 CA.out.2.1 CB.out.2.2 CB.out.2.1 (gv_below HG0.out HB22.out) sh_plan).mono ?_
  rintro e w23 ⟨v12, rfl, hv, hb⟩
  have HB23 := Aside0.mk (below_then HB22.out HB22.out.size hb)
  replace CA := Aside0.mk (⟨CA.out.1, CA.out.2.1, Kd.C_below CA.out.2.2 hb⟩ : _ ∧ _ ∧ Kd.C _ _ _ _ _)
  replace CB := Aside0.mk (⟨CB.out.1, CB.out.2.1, Kd.C_below CB.out.2.2 hb⟩ : _ ∧ _ ∧ Kd.C _ _ _ _ _)
  clear hb HB22
  obtain ⟨A1, c1, rfl⟩ := Kd.V_slice hv
  have C1 := Aside0.mk (Kd.V_reads' hv)
  clear hv
  clear CA
  clear CB
  go_wp2_with (fail)
  refine (macadamlaw04_short.calls ownM (ownG 2) 3 _ short_eq).mono ?_
  rintro e w24 ⟨va, vb, rfl, ha, hbb, hb⟩
  have HB24 := Aside0.mk (below_then HB23.out HB23.out.size hb)
  replace C1 := Aside0.mk (⟨C1.out.1, C1.out.2.1, Kd.C_below C1.out.2.2 hb⟩ : _ ∧ _ ∧ Kd.C _ _ _ _ _)
  clear hb HB23
  obtain ⟨Aa, ca, rfl⟩ := Kd.R_slice ha
  have CA := Aside0.mk (Kd.R_reads' ha)
  clear ha
  obtain ⟨Ab, cb, rfl⟩ := Kd.R_slice hbb
  have CB := Aside0.mk (Kd.R_reads' hbb)
  clear hbb
  go_wp2_with (fail)
  refine (gang_Most.calls _ _ _ _ _ _ _ mosL 0 _ CA.out.2.2 CA.out.2.1 CB.out.2.2 CB.out.2.1 (gv_below HG0.out HB24.out) sh_most).mono ?_
  rintro e w25 ⟨v13, rfl, hv, hb⟩
  have HB25 := Aside0.mk (below_then HB24.out HB24.out.size hb)
  replace C1 := Aside0.mk (⟨C1.out.1, C1.out.2.1, Kd.C_below C1.out.2.2 hb⟩ : _ ∧ _ ∧ Kd.C _ _ _ _ _)
  replace CA := Aside0.mk (⟨CA.out.1, CA.out.2.1, Kd.C_below CA.out.2.2 hb⟩ : _ ∧ _ ∧ Kd.C _ _ _ _ _)
  replace CB := Aside0.mk (⟨CB.out.1, CB.out.2.1, Kd.C_below CB.out.2.2 hb⟩ : _ ∧ _ ∧ Kd.C _ _ _ _ _)
  clear hb HB24
  obtain ⟨A5, c5, rfl⟩ := Kd.V_slice hv
  have C5 := Aside0.mk (Kd.V_reads' hv)
  clear hv
  clear CA
  clear CB
  go_wp2_with (fail)
  refine (macadamlaw04_far.calls ownM (ownG 1) 4 _ far_eq).mono ?_
  rintro e w26 ⟨va, vb, rfl, ha, hbb, hb⟩
  have HB26 := Aside0.mk (below_then HB25.out HB25.out.size hb)
  replace C1 := Aside0.mk (⟨C1.out.1, C1.out.2.1, Kd.C_below C1.out.2.2 hb⟩ : _ ∧ _ ∧ Kd.C _ _ _ _ _)
  replace C5 := Aside0.mk (⟨C5.out.1, C5.out.2.1, Kd.C_below C5.out.2.2 hb⟩ : _ ∧ _ ∧ Kd.C _ _ _ _ _)
  clear hb HB25
  obtain ⟨Aa, ca, rfl⟩ := Kd.R_slice ha
  have CA := Aside0.mk (Kd.R_reads' ha)
  clear ha
  obtain ⟨Ab, cb, rfl⟩ := Kd.R_slice hbb
  have CB := Aside0.mk (Kd.R_reads' hbb)
  clear hbb
  go_wp2_with (fail)
  refine (gang_First.calls _ _ _ _ _ _ _ 2 0 _ CA.out.2.2 CA.out.2.1 CB.out.2.2 CB.out.2.1 (gv_below HG0.out HB26.out) sh_first).mono ?_
  rintro e w27 ⟨rfl, hb⟩
  have HB27 := Aside0.mk (below_then HB26.out HB26.out.size hb)
  replace C1 := Aside0.mk (⟨C1.out.1, C1.out.2.1, Kd.C_below C1.out.2.2 hb⟩ : _ ∧ _ ∧ Kd.C _ _ _ _ _)
  replace C5 := Aside0.mk (⟨C5.out.1, C5.out.2.1, Kd.C_below C5.out.2.2 hb⟩ : _ ∧ _ ∧ Kd.C _ _ _ _ _)
  replace CA := Aside0.mk (⟨CA.out.1, CA.out.2.1, Kd.C_below CA.out.2.2 hb⟩ : _ ∧ _ ∧ Kd.C _ _ _ _ _)
  replace CB := Aside0.mk (⟨CB.out.1, CB.out.2.1, Kd.C_below CB.out.2.2 hb⟩ : _ ∧ _ ∧ Kd.C _ _ _ _ _)
  clear hb HB26
  clear CA
  clear CB
  go_wp2_with (fail)
  refine (macadamlaw04_short.calls ownM (ownG 2) 3 _ short_eq).mono ?_
  rintro e w28 ⟨va, vb, rfl, ha, hbb, hb⟩
  have HB28 := Aside0.mk (below_then HB27.out HB27.out.size hb)
  replace C1 := Aside0.mk (⟨C1.out.1, C1.out.2.1, Kd.C_below C1.out.2.2 hb⟩ : _ ∧ _ ∧ Kd.C _ _ _ _ _)
  replace C5 := Aside0.mk (⟨C5.out.1, C5.out.2.1, Kd.C_below C5.out.2.2 hb⟩ : _ ∧ _ ∧ Kd.C _ _ _ _ _)
  clear hb HB27
  obtain ⟨Aa, ca, rfl⟩ := Kd.R_slice ha
  have CA := Aside0.mk (Kd.R_reads' ha)
  clear ha
  obtain ⟨Ab, cb, rfl⟩ := Kd.R_slice hbb
  have CB := Aside0.mk (Kd.R_reads' hbb)
  clear hbb
  go_wp2_with (fail)
  refine (gang_Plan.calls _ _ _ _ _ _ _ nonL 4 _ CA.out.2.2 CA.out.2.1 CB.out.2.2 CB.out.2.1 (gv_below HG0.out HB28.out) sh_noplan).mono ?_
  rintro e w29 ⟨v15, rfl, hv, hb⟩
  have HB29 := Aside0.mk (below_then HB28.out HB28.out.size hb)
  replace C1 := Aside0.mk (⟨C1.out.1, C1.out.2.1, Kd.C_below C1.out.2.2 hb⟩ : _ ∧ _ ∧ Kd.C _ _ _ _ _)
  replace C5 := Aside0.mk (⟨C5.out.1, C5.out.2.1, Kd.C_below C5.out.2.2 hb⟩ : _ ∧ _ ∧ Kd.C _ _ _ _ _)
  replace CA := Aside0.mk (⟨CA.out.1, CA.out.2.1, Kd.C_below CA.out.2.2 hb⟩ : _ ∧ _ ∧ Kd.C _ _ _ _ _)
  replace CB := Aside0.mk (⟨CB.out.1, CB.out.2.1, Kd.C_below CB.out.2.2 hb⟩ : _ ∧ _ ∧ Kd.C _ _ _ _ _)
  clear hb HB28
  clear CA
  clear CB
  clear hv
  go_wp2_with (fail)
  go_wp2_with (fail)
  refine (macadamlaw04_work.calls 0 0 0 0 0 0 _ (by kernel_rfl)).mono ?_
  rintro e w30 ⟨rfl, hb⟩
  have HB30 := Aside0.mk (below_then HB29.out HB29.out.size hb)
  replace C1 := Aside0.mk (⟨C1.out.1, C1.out.2.1, Kd.C_below C1.out.2.2 hb⟩ : _ ∧ _ ∧ Kd.C _ _ _ _ _)
  replace C5 := Aside0.mk (⟨C5.out.1, C5.out.2.1, Kd.C_below C5.out.2.2 hb⟩ : _ ∧ _ ∧ Kd.C _ _ _ _ _)
  clear hb HB29
  go_wp2_with (fail)
  refine (macadamlaw04_work.calls 0 1 2 0 1 2 _ (by kernel_rfl)).mono ?_
  rintro e w31 ⟨rfl, hb⟩
  have HB31 := Aside0.mk (below_then HB30.out HB30.out.size hb)
  replace C1 := Aside0.mk (⟨C1.out.1, C1.out.2.1, Kd.C_below C1.out.2.2 hb⟩ : _ ∧ _ ∧ Kd.C _ _ _ _ _)
  replace C5 := Aside0.mk (⟨C5.out.1, C5.out.2.1, Kd.C_below C5.out.2.2 hb⟩ : _ ∧ _ ∧ Kd.C _ _ _ _ _)
  clear hb HB30
  go_wp2_with (fail)
  refine (macadamlaw04_work.calls 1 0 0 1 0 0 _ (by kernel_rfl)).mono ?_
  rintro e w32 ⟨rfl, hb⟩
  have HB32 := Aside0.mk (below_then HB31.out HB31.out.size hb)
  replace C1 := Aside0.mk (⟨C1.out.1, C1.out.2.1, Kd.C_below C1.out.2.2 hb⟩ : _ ∧ _ ∧ Kd.C _ _ _ _ _)
  replace C5 := Aside0.mk (⟨C5.out.1, C5.out.2.1, Kd.C_below C5.out.2.2 hb⟩ : _ ∧ _ ∧ Kd.C _ _ _ _ _)
  clear hb HB31
  go_wp2_with (fail)
  refine (macadamlaw04_work.calls 2 0 0 2 0 0 _ (by kernel_rfl)).mono ?_
  rintro e w33 ⟨rfl, hb⟩
  have HB33 := Aside0.mk (below_then HB32.out HB32.out.size hb)
  replace C1 := Aside0.mk (⟨C1.out.1, C1.out.2.1, Kd.C_below C1.out.2.2 hb⟩ : _ ∧ _ ∧ Kd.C _ _ _ _ _)
  replace C5 := Aside0.mk (⟨C5.out.1, C5.out.2.1, Kd.C_below C5.out.2.2 hb⟩ : _ ∧ _ ∧ Kd.C _ _ _ _ _)
  clear hb HB32
  go_wp2_with (fail)
  refine (macadamlaw04_work.calls 3 1 1 3 1 1 _ (by kernel_rfl)).mono ?_
  rintro e w34 ⟨rfl, hb⟩
  have HB34 := Aside0.mk (below_then HB33.out HB33.out.size hb)
  replace C1 := Aside0.mk (⟨C1.out.1, C1.out.2.1, Kd.C_below C1.out.2.2 hb⟩ : _ ∧ _ ∧ Kd.C _ _ _ _ _)
  replace C5 := Aside0.mk (⟨C5.out.1, C5.out.2.1, Kd.C_below C5.out.2.2 hb⟩ : _ ∧ _ ∧ Kd.C _ _ _ _ _)
  clear hb HB33
  go_wp2_with ((with_reducible refine gate_dst (N := 146) rfl ?_); refine list_of_step ?_; refine Kd.R_lit_step k59 _ 59 ?hg (N := 146) ?hd (xs := planP) (inner := [.int .i64 0, .int .i64 0, .int .i64 0, .int .i64 0, .int .i64 1, .int .i64 2, .int .i64 1, .int .i64 0, .int .i64 0, .int .i64 2, .int .i64 0, .int .i64 0, .int .i64 3, .int .i64 1, .int .i64 1]) (ok := fun _ => True) (okp := fun _ => True) ?hr ?hp (fun _ hk => hk) trivial (Below.refl _ _) (Nat.le_refl _) (by simp [planP]) ?_; (case hd => rfl); (case hg => rfl); (case hr => first | (go_simp; done) | (go_simp; rfl)); (case hp => exact lit5 _ _ _ _ _ _ _ _); intro v3 w35 ho hb hg_ hnew_; clear hg_ hnew_; have HO := Aside0.mk ho; have HB35 := Aside0.mk (below_then HB34.out HB34.out.size hb); replace C1 := Aside0.mk (⟨C1.out.1, C1.out.2.1, Kd.C_below C1.out.2.2 hb⟩ : _ ∧ _ ∧ Kd.C _ _ _ _ _); replace C5 := Aside0.mk (⟨C5.out.1, C5.out.2.1, Kd.C_below C5.out.2.2 hb⟩ : _ ∧ _ ∧ Kd.C _ _ _ _ _); clear hb ho HB34; (obtain ⟨Ap, cp, rfl⟩ := Kd.R_slice HO.out); have CP := Aside0.mk (Kd.R_reads' HO.out); clear HO)
  go_wp2_with (fail)
  refine (macadamlaw04_same.calls 10 _ _ planP _ _ planP true _ C1.out.2.2 C1.out.2.1 CP.out.2.2 CP.out.2.1 (by kernel_rfl)).mono ?_
  rintro e w36 ⟨rfl, hd⟩
  have hb := hd.below
  clear hd
  have HB36 := Aside0.mk (below_then HB35.out HB35.out.size hb)
  replace C1 := Aside0.mk (⟨C1.out.1, C1.out.2.1, Kd.C_below C1.out.2.2 hb⟩ : _ ∧ _ ∧ Kd.C _ _ _ _ _)
  replace C5 := Aside0.mk (⟨C5.out.1, C5.out.2.1, Kd.C_below C5.out.2.2 hb⟩ : _ ∧ _ ∧ Kd.C _ _ _ _ _)
  replace CP := Aside0.mk (⟨CP.out.1, CP.out.2.1, Kd.C_below CP.out.2.2 hb⟩ : _ ∧ _ ∧ Kd.C _ _ _ _ _)
  clear hb HB35
  clear C1
  clear CP
  go_wp2_with ((with_reducible refine gate_dst (N := 151) rfl ?_); refine list_of_step ?_; refine Kd.R_lit_step (Kd.int .i64) _ 3 ?hg (N := 151) ?hd (xs := mosL) (inner := [.int .i64 0, .int .i64 2]) (ok := fun _ => True) (okp := fun _ => True) ?hr ?hp (fun _ hk => hk) trivial (Below.refl _ _) (Nat.le_refl _) (by simp [mosL]) ?_; (case hd => rfl); (case hg => rfl); (case hr => first | (go_simp; done) | (go_simp; rfl)); (case hp => exact (Reps.one (show Kd.M (Kd.int .i64) _ _ _ (0 : Int) [.int .i64 0] from rfl) (Reps.one (show Kd.M (Kd.int .i64) _ _ _ (2 : Int) [.int .i64 2] from rfl) (Reps.none _ _)))); intro v3 w37 ho hb hg_ hnew_; clear hg_ hnew_; have HO := Aside0.mk ho; have HB37 := Aside0.mk (below_then HB36.out HB36.out.size hb); replace C5 := Aside0.mk (⟨C5.out.1, C5.out.2.1, Kd.C_below C5.out.2.2 hb⟩ : _ ∧ _ ∧ Kd.C _ _ _ _ _); clear hb ho HB36; (obtain ⟨Ap, cp, rfl⟩ := Kd.R_slice HO.out); have CP := Aside0.mk (Kd.R_reads' HO.out); clear HO)
  go_wp2_with (fail)
  refine (macadamref00_Like.calls 10 _ _ mosL _ _ mosL true _ C5.out.2.2 C5.out.2.1 CP.out.2.2 CP.out.2.1 (by kernel_rfl)).mono ?_
  rintro e w38 ⟨rfl, hd⟩
  have hb := hd.below
  clear hd
  have HB38 := Aside0.mk (below_then HB37.out HB37.out.size hb)
  replace C5 := Aside0.mk (⟨C5.out.1, C5.out.2.1, Kd.C_below C5.out.2.2 hb⟩ : _ ∧ _ ∧ Kd.C _ _ _ _ _)
  replace CP := Aside0.mk (⟨CP.out.1, CP.out.2.1, Kd.C_below CP.out.2.2 hb⟩ : _ ∧ _ ∧ Kd.C _ _ _ _ _)
  clear hb HB37
  clear C5
  clear CP
  go_wp2_with (fail)
  go_ret
  exact ⟨by rfl, HB38.out⟩
def macadamlaw04_shovelled.f : Option Bool := some true
theorem macadamlaw04_shovelled.calls (r : Bool) (w : World) (hG : GV w) (h : macadamlaw04_shovelled.f = some r) :
    Calls Tryd.prog 24 #[] w fun e w' => e = .returned (.bool r) ∧ Below w.heap.size w w' := by
  obtain rfl : true = r := by simpa [macadamlaw04_shovelled.f] using h
  exact macadamlaw04_shovelled.calls0 w hG
end Go.Proofs.YtikfghnkbgdbgaaDoor.Q
end
section
namespace Go.Proofs.YtikfghnkbgdbgaaDoor.Q
open Go.RowKit Go.Proofs.YtikfghnkbgdbgaaDoorW.PrintWords Go.Proofs.YtikfghnkbgdbgaaDoorW.PrintLast Go.Proofs.YtikfghnkbgdbgaaDoorW.PrintMore
attribute [local go_sem] max2_int min2_int max_two min_two max_three min_three max_four min_four   -- for this text's walks alone
set_option linter.unusedVariables false
set_option linter.unusedSimpArgs false
def macadamlaw04_GangReach.f (k : Nat) (l0_0 : List (S66)) (l0_1 : List (S63)) (a0_2 : Int) (a1_0 : Int) (a1_1 : Int) (a1_2 : Int) : Option (Bool) := (macadamlaw04_sound.f k l0_0 l0_1 a0_2).bind fun t408 => (if t408 = true then ((macadamref00_Wrap.f a1_0 (l0_1.length : Int)).bind fun t410 => ((macadamref00_Wrap.f a1_1 (l0_0.length : Int)).bind fun t411 => ((macadamref00_Wrap.f a1_2 a0_2).bind fun t412 => ((gang_Can.f l0_0 l0_1 a0_2 t410 t411).bind fun bt413 => ((macadamlaw04_work.f t412 t410 t411).bind fun bt417 => ((gang_May.f l0_0 l0_1 a0_2 (([(⟨bt417.1, bt417.2.1, bt417.2.2⟩ : S59)] : List (S59)))).bind fun bt423 => (if 0 ≤ t410 then (if t410 < (l0_1.length : Int) then ((macadamref00_Amid.f t411 ((rd_T63 l0_1 t410).f0) ((rd_T63 l0_1 t410).f1)).bind fun t427 => (if bt413.2 = 0 then (if bt423.2 = 0 then ((macadamref00_Rising.f k bt413.1 a0_2).bind fun t428 => (if t428 = true then ((macadamref00_Place.f k bt413.1 t412).bind fun t429 => (if ((decide (t429 ≥ 0)) == bt423.1) = true then (if t427 = true then (if 0 ≤ t411 then (if t411 < (l0_0.length : Int) then ((macadamref00_In.f ((rd_T66 l0_0 t411).f1) t412).bind fun t431 => (if (bt423.1 == (!t431)) = true then ((macadamlaw04_shovelled.f).bind fun t432 => (some t432)) else (some false))) else (none)) else (none)) else (if (bt423.1 == false) = true then ((macadamlaw04_shovelled.f).bind fun t433 => (some t433)) else (some false))) else (some false))) else (some false))) else (some false)) else (some false))) else (none)) else (none)))))))) else ((macadamlaw04_shovelled.f).bind fun t409 => (some t409)))
def macadamlaw04_GangReach.T3 : Bool × List (List Nat × List Nat) := (true, [([], []), ([0], [0]), ([], []), ([2], [2]), ([3], [3]), ([1, 4], [1, 4]), ([], []), ([6], [6]), ([], []), ([8], [8]), ([9], [9]), ([7, 10, 5], [7, 10]), ([], []), ([12], [12]), ([], []), ([14], [14]), ([13, 15, 11], [13, 15]), ([5, 16, 0, 1, 2, 3, 4, 5], [5]), ([11, 17, 0, 1, 2, 3, 4, 5, 6, 7, 8, 9, 10, 11, 17], [11]), ([16, 18, 0, 1, 2, 3, 4, 5, 6, 7, 8, 9, 10, 11, 12, 13, 14, 15, 16, 17, 18], [16])])
def macadamlaw04_GangReach.B3 : List Nat := [0, 1, 0, 4, 12, 31, 0, 64, 0, 256, 768, 2047, 0, 4096, 0, 16384, 65535, 131071, 262143, 524287]
theorem macadamlaw04_GangReach.tab3 : rtab .any (opsOf Tryd.f7 3) = macadamlaw04_GangReach.T3 := by kernel_rfl
theorem macadamlaw04_GangReach.bits3 : waitsOk macadamlaw04_GangReach.T3.2 macadamlaw04_GangReach.B3 = true := by kernel_rfl
def macadamlaw04_GangReach.T5 : Bool × List (List Nat × List Nat) := (true, [([], []), ([], []), ([], []), ([], []), ([1, 2, 3], [1, 2, 3]), ([4], [4]), ([0, 5, 4], [0, 5]), ([6], [6]), ([7], [7]), ([7], [7]), ([8, 6, 0, 1, 2, 3, 4, 5, 6, 7, 8], [8]), ([9, 10, 0, 1, 2, 3, 4, 5, 6, 7, 8, 9, 10], [9])])
def macadamlaw04_GangReach.B5 : List Nat := [0, 0, 0, 0, 14, 30, 63, 127, 255, 255, 511, 2047]
theorem macadamlaw04_GangReach.tab5 : rtab .any (opsOf Tryd.f7 5) = macadamlaw04_GangReach.T5 := by kernel_rfl
theorem macadamlaw04_GangReach.bits5 : waitsOk macadamlaw04_GangReach.T5.2 macadamlaw04_GangReach.B5 = true := by kernel_rfl
def macadamlaw04_GangReach.T6 : Bool × List (List Nat × List Nat) := (true, [([], []), ([], []), ([1], [1]), ([], []), ([2, 3], [2, 3]), ([4], [4]), ([5], [5]), ([], []), ([7], [7]), ([], []), ([8, 9], [8, 9]), ([10], [10]), ([11], [11]), ([0, 6, 12], [0, 6, 12]), ([13, 13, 0, 1, 2, 3, 4, 5, 6, 7, 8, 9, 10, 11, 12, 13], [13])])
def macadamlaw04_GangReach.B6 : List Nat := [0, 0, 2, 0, 14, 30, 62, 0, 128, 0, 896, 1920, 3968, 8191, 16383]
theorem macadamlaw04_GangReach.tab6 : rtab .any (opsOf Tryd.f7 6) = macadamlaw04_GangReach.T6 := by kernel_rfl
theorem macadamlaw04_GangReach.bits6 : waitsOk macadamlaw04_GangReach.T6.2 macadamlaw04_GangReach.B6 = true := by kernel_rfl
set_option maxHeartbeats 8000000 in
set_option maxRecDepth 100000 in
theorem macadamlaw04_GangReach.calls (k : Nat) (A0_0 : Option Addr) (c0_0 : Nat) (l0_0 : List (S66)) (A0_1 : Option Addr) (c0_1 : Nat) (l0_1 : List (S63)) (a0_2 : Int) (a1_0 : Int) (a1_1 : Int) (a1_2 : Int) (r : Bool) (w : World) (hr0_0 : Kd.C k66 w A0_0 l0_0.length l0_0) (hc0_0 : l0_0.length ≤ c0_0) (hr0_1 : Kd.C k63 w A0_1 l0_1.length l0_1) (hc0_1 : l0_1.length ≤ c0_1) (hG : GV w) (h : macadamlaw04_GangReach.f k l0_0 l0_1 a0_2 a1_0 a1_1 a1_2 = some r) :
  Calls Tryd.prog 7 #[.agg #[.slice A0_0 l0_0.length c0_0, .slice A0_1 l0_1.length c0_1, .int .i64 a0_2], .agg #[.int .i64 a1_0, .int .i64 a1_1, .int .i64 a1_2]] w fun e w' => e = .returned (.bool r) ∧ Below w.heap.size w w' := by
 have hu25 := Tryd.underlying25
 have hu27 := Tryd.underlying27
 have HR0_0 := Aside0.mk hr0_0
 have HC0_0 := Aside0.mk hc0_0
 clear hr0_0 hc0_0
 have HR0_1 := Aside0.mk hr0_1
 have HC0_1 := Aside0.mk hc0_1
 clear hr0_1 hc0_1
 have HB := Aside0.mk (Below.refl w.heap.size w)
 have HG := Aside0.mk hG
 clear hG
 have H : ((macadamlaw04_sound.f k l0_0 l0_1 a0_2).bind fun t408 => (if t408 = true then ((macadamref00_Wrap.f a1_0 (l0_1.length : Int)).bind fun t410 => ((macadamref00_Wrap.f a1_1 (l0_0.length : Int)).bind fun t411 => ((macadamref00_Wrap.f a1_2 a0_2).bind fun t412 => ((gang_Can.f l0_0 l0_1 a0_2 t410 t411).bind fun bt413 => ((macadamlaw04_work.f t412 t410 t411).bind fun bt417 => ((gang_May.f l0_0 l0_1 a0_2 (([(⟨bt417.1, bt417.2.1, bt417.2.2⟩ : S59)] : List (S59)))).bind fun bt423 => (if 0 ≤ t410 then (if t410 < (l0_1.length : Int) then ((macadamref00_Amid.f t411 ((rd_T63 l0_1 t410).f0) ((rd_T63 l0_1 t410).f1)).bind fun t427 => (if bt413.2 = 0 then (if bt423.2 = 0 then ((macadamref00_Rising.f k bt413.1 a0_2).bind fun t428 => (if t428 = true then ((macadamref00_Place.f k bt413.1 t412).bind fun t429 => (if ((decide (t429 ≥ 0)) == bt423.1) = true then (if t427 = true then (if 0 ≤ t411 then (if t411 < (l0_0.length : Int) then ((macadamref00_In.f ((rd_T66 l0_0 t411).f1) t412).bind fun t431 => (if (bt423.1 == (!t431)) = true then ((macadamlaw04_shovelled.f).bind fun t432 => (some t432)) else (some false))) else (none)) else (none)) else (if (bt423.1 == false) = true then ((macadamlaw04_shovelled.f).bind fun t433 => (some t433)) else (some false))) else (some false))) else (some false))) else (some false)) else (some false))) else (none)) else (none)))))))) else ((macadamlaw04_shovelled.f).bind fun t409 => (some t409)))) = some r := h
 clear h
 replace H := Option.bind_eq_some_iff.mp H
 obtain ⟨t408, A30, H⟩ := H
 replace H : (if t408 = true then ((macadamref00_Wrap.f a1_0 (l0_1.length : Int)).bind fun t410 => ((macadamref00_Wrap.f a1_1 (l0_0.length : Int)).bind fun t411 => ((macadamref00_Wrap.f a1_2 a0_2).bind fun t412 => ((gang_Can.f l0_0 l0_1 a0_2 t410 t411).bind fun bt413 => ((macadamlaw04_work.f t412 t410 t411).bind fun bt417 => ((gang_May.f l0_0 l0_1 a0_2 (([(⟨bt417.1, bt417.2.1, bt417.2.2⟩ : S59)] : List (S59)))).bind fun bt423 => (if 0 ≤ t410 then (if t410 < (l0_1.length : Int) then ((macadamref00_Amid.f t411 ((rd_T63 l0_1 t410).f0) ((rd_T63 l0_1 t410).f1)).bind fun t427 => (if bt413.2 = 0 then (if bt423.2 = 0 then ((macadamref00_Rising.f k bt413.1 a0_2).bind fun t428 => (if t428 = true then ((macadamref00_Place.f k bt413.1 t412).bind fun t429 => (if ((decide (t429 ≥ 0)) == bt423.1) = true then (if t427 = true then (if 0 ≤ t411 then (if t411 < (l0_0.length : Int) then ((macadamref00_In.f ((rd_T66 l0_0 t411).f1) t412).bind fun t431 => (if (bt423.1 == (!t431)) = true then ((macadamlaw04_shovelled.f).bind fun t432 => (some t432)) else (some false))) else (none)) else (none)) else (if (bt423.1 == false) = true then ((macadamlaw04_shovelled.f).bind fun t433 => (some t433)) else (some false))) else (some false))) else (some false))) else (some false)) else (some false))) else (none)) else (none)))))))) else ((macadamlaw04_shovelled.f).bind fun t409 => (some t409))) = some r := H
 have A3 := Aside0.mk A30
 clear A30
 by_cases c4 : t408 = true
 ·subst c4
  have H1 : ((macadamref00_Wrap.f a1_0 (l0_1.length : Int)).bind fun t410 => ((macadamref00_Wrap.f a1_1 (l0_0.length : Int)).bind fun t411 => ((macadamref00_Wrap.f a1_2 a0_2).bind fun t412 => ((gang_Can.f l0_0 l0_1 a0_2 t410 t411).bind fun bt413 => ((macadamlaw04_work.f t412 t410 t411).bind fun bt417 => ((gang_May.f l0_0 l0_1 a0_2 (([(⟨bt417.1, bt417.2.1, bt417.2.2⟩ : S59)] : List (S59)))).bind fun bt423 => (if 0 ≤ t410 then (if t410 < (l0_1.length : Int) then ((macadamref00_Amid.f t411 ((rd_T63 l0_1 t410).f0) ((rd_T63 l0_1 t410).f1)).bind fun t427 => (if bt413.2 = 0 then (if bt423.2 = 0 then ((macadamref00_Rising.f k bt413.1 a0_2).bind fun t428 => (if t428 = true then ((macadamref00_Place.f k bt413.1 t412).bind fun t429 => (if ((decide (t429 ≥ 0)) == bt423.1) = true then (if t427 = true then (if 0 ≤ t411 then (if t411 < (l0_0.length : Int) then ((macadamref00_In.f ((rd_T66 l0_0 t411).f1) t412).bind fun t431 => (if (bt423.1 == (!t431)) = true then ((macadamlaw04_shovelled.f).bind fun t432 => (some t432)) else (some false))) else (none)) else (none)) else (if (bt423.1 == false) = true then ((macadamlaw04_shovelled.f).bind fun t433 => (some t433)) else (some false))) else (some false))) else (some false))) else (some false)) else (some false))) else (none)) else (none)))))))) = some r := by rw [if_pos rfl] at H; exact H
  clear H
  have H := H1
  clear H1
  replace H := Option.bind_eq_some_iff.mp H
  obtain ⟨t410, A50, H⟩ := H
  replace H : ((macadamref00_Wrap.f a1_1 (l0_0.length : Int)).bind fun t411 => ((macadamref00_Wrap.f a1_2 a0_2).bind fun t412 => ((gang_Can.f l0_0 l0_1 a0_2 t410 t411).bind fun bt413 => ((macadamlaw04_work.f t412 t410 t411).bind fun bt417 => ((gang_May.f l0_0 l0_1 a0_2 (([(⟨bt417.1, bt417.2.1, bt417.2.2⟩ : S59)] : List (S59)))).bind fun bt423 => (if 0 ≤ t410 then (if t410 < (l0_1.length : Int) then ((macadamref00_Amid.f t411 ((rd_T63 l0_1 t410).f0) ((rd_T63 l0_1 t410).f1)).bind fun t427 => (if bt413.2 = 0 then (if bt423.2 = 0 then ((macadamref00_Rising.f k bt413.1 a0_2).bind fun t428 => (if t428 = true then ((macadamref00_Place.f k bt413.1 t412).bind fun t429 => (if ((decide (t429 ≥ 0)) == bt423.1) = true then (if t427 = true then (if 0 ≤ t411 then (if t411 < (l0_0.length : Int) then ((macadamref00_In.f ((rd_T66 l0_0 t411).f1) t412).bind fun t431 => (if (bt423.1 == (!t431)) = true then ((macadamlaw04_shovelled.f).bind fun t432 => (some t432)) else (some false))) else (none)) else (none)) else (if (bt423.1 == false) = true then ((macadamlaw04_shovelled.f).bind fun t433 => (some t433)) else (some false))) else (some false))) else (some false))) else (some false)) else (some false))) else (none)) else (none))))))) = some r := H
  have A5 := Aside0.mk A50
  clear A50
  replace H := Option.bind_eq_some_iff.mp H
  obtain ⟨t411, A60, H⟩ := H
  replace H : ((macadamref00_Wrap.f a1_2 a0_2).bind fun t412 => ((gang_Can.f l0_0 l0_1 a0_2 t410 t411).bind fun bt413 => ((macadamlaw04_work.f t412 t410 t411).bind fun bt417 => ((gang_May.f l0_0 l0_1 a0_2 (([(⟨bt417.1, bt417.2.1, bt417.2.2⟩ : S59)] : List (S59)))).bind fun bt423 => (if 0 ≤ t410 then (if t410 < (l0_1.length : Int) then ((macadamref00_Amid.f t411 ((rd_T63 l0_1 t410).f0) ((rd_T63 l0_1 t410).f1)).bind fun t427 => (if bt413.2 = 0 then (if bt423.2 = 0 then ((macadamref00_Rising.f k bt413.1 a0_2).bind fun t428 => (if t428 = true then ((macadamref00_Place.f k bt413.1 t412).bind fun t429 => (if ((decide (t429 ≥ 0)) == bt423.1) = true then (if t427 = true then (if 0 ≤ t411 then (if t411 < (l0_0.length : Int) then ((macadamref00_In.f ((rd_T66 l0_0 t411).f1) t412).bind fun t431 => (if (bt423.1 == (!t431)) = true then ((macadamlaw04_shovelled.f).bind fun t432 => (some t432)) else (some false))) else (none)) else (none)) else (if (bt423.1 == false) = true then ((macadamlaw04_shovelled.f).bind fun t433 => (some t433)) else (some false))) else (some false))) else (some false))) else (some false)) else (some false))) else (none)) else (none)))))) = some r := H
  have A6 := Aside0.mk A60
  clear A60
  replace H := Option.bind_eq_some_iff.mp H
  obtain ⟨t412, A70, H⟩ := H
  replace H : ((gang_Can.f l0_0 l0_1 a0_2 t410 t411).bind fun bt413 => ((macadamlaw04_work.f t412 t410 t411).bind fun bt417 => ((gang_May.f l0_0 l0_1 a0_2 (([(⟨bt417.1, bt417.2.1, bt417.2.2⟩ : S59)] : List (S59)))).bind fun bt423 => (if 0 ≤ t410 then (if t410 < (l0_1.length : Int) then ((macadamref00_Amid.f t411 ((rd_T63 l0_1 t410).f0) ((rd_T63 l0_1 t410).f1)).bind fun t427 => (if bt413.2 = 0 then (if bt423.2 = 0 then ((macadamref00_Rising.f k bt413.1 a0_2).bind fun t428 => (if t428 = true then ((macadamref00_Place.f k bt413.1 t412).bind fun t429 => (if ((decide (t429 ≥ 0)) == bt423.1) = true then (if t427 = true then (if 0 ≤ t411 then (if t411 < (l0_0.length : Int) then ((macadamref00_In.f ((rd_T66 l0_0 t411).f1) t412).bind fun t431 => (if (bt423.1 == (!t431)) = true then ((macadamlaw04_shovelled.f).bind fun t432 => (some t432)) else (some false))) else (none)) else (none)) else (if (bt423.1 == false) = true then ((macadamlaw04_shovelled.f).bind fun t433 => (some t433)) else (some false))) else (some false))) else (some false))) else (some false)) else (some false))) else (none)) else (none))))) = some r := H
  have A7 := Aside0.mk A70
  clear A70
  replace H := Option.bind_eq_some_iff.mp H
  obtain ⟨⟨t413, t416⟩, A80, H⟩ := H
  replace H : ((macadamlaw04_work.f t412 t410 t411).bind fun bt417 => ((gang_May.f l0_0 l0_1 a0_2 (([(⟨bt417.1, bt417.2.1, bt417.2.2⟩ : S59)] : List (S59)))).bind fun bt423 => (if 0 ≤ t410 then (if t410 < (l0_1.length : Int) then ((macadamref00_Amid.f t411 ((rd_T63 l0_1 t410).f0) ((rd_T63 l0_1 t410).f1)).bind fun t427 => (if t416 = 0 then (if bt423.2 = 0 then ((macadamref00_Rising.f k t413 a0_2).bind fun t428 => (if t428 = true then ((macadamref00_Place.f k t413 t412).bind fun t429 => (if ((decide (t429 ≥ 0)) == bt423.1) = true then (if t427 = true then (if 0 ≤ t411 then (if t411 < (l0_0.length : Int) then ((macadamref00_In.f ((rd_T66 l0_0 t411).f1) t412).bind fun t431 => (if (bt423.1 == (!t431)) = true then ((macadamlaw04_shovelled.f).bind fun t432 => (some t432)) else (some false))) else (none)) else (none)) else (if (bt423.1 == false) = true then ((macadamlaw04_shovelled.f).bind fun t433 => (some t433)) else (some false))) else (some false))) else (some false))) else (some false)) else (some false))) else (none)) else (none)))) = some r := H
  have A8 := Aside0.mk A80
  clear A80
  replace H := Option.bind_eq_some_iff.mp H
  obtain ⟨⟨t417, t418, t419⟩, A90, H⟩ := H
  replace H : ((gang_May.f l0_0 l0_1 a0_2 (([(⟨t417, t418, t419⟩ : S59)] : List (S59)))).bind fun bt423 => (if 0 ≤ t410 then (if t410 < (l0_1.length : Int) then ((macadamref00_Amid.f t411 ((rd_T63 l0_1 t410).f0) ((rd_T63 l0_1 t410).f1)).bind fun t427 => (if t416 = 0 then (if bt423.2 = 0 then ((macadamref00_Rising.f k t413 a0_2).bind fun t428 => (if t428 = true then ((macadamref00_Place.f k t413 t412).bind fun t429 => (if ((decide (t429 ≥ 0)) == bt423.1) = true then (if t427 = true then (if 0 ≤ t411 then (if t411 < (l0_0.length : Int) then ((macadamref00_In.f ((rd_T66 l0_0 t411).f1) t412).bind fun t431 => (if (bt423.1 == (!t431)) = true then ((macadamlaw04_shovelled.f).bind fun t432 => (some t432)) else (some false))) else (none)) else (none)) else (if (bt423.1 == false) = true then ((macadamlaw04_shovelled.f).bind fun t433 => (some t433)) else (some false))) else (some false))) else (some false))) else (some false)) else (some false))) else (none)) else (none))) = some r := H
  have A9 := Aside0.mk A90
  clear A90
  obtain ⟨y420, hy420⟩ : ∃ y_ : List (S59), y_ = (([(⟨t417, t418, t419⟩ : S59)] : List (S59))) := ⟨_, rfl⟩
  replace H : ((gang_May.f l0_0 l0_1 a0_2 y420).bind fun bt423 => (if 0 ≤ t410 then (if t410 < (l0_1.length : Int) then ((macadamref00_Amid.f t411 ((rd_T63 l0_1 t410).f0) ((rd_T63 l0_1 t410).f1)).bind fun t427 => (if t416 = 0 then (if bt423.2 = 0 then ((macadamref00_Rising.f k t413 a0_2).bind fun t428 => (if t428 = true then ((macadamref00_Place.f k t413 t412).bind fun t429 => (if ((decide (t429 ≥ 0)) == bt423.1) = true then (if t427 = true then (if 0 ≤ t411 then (if t411 < (l0_0.length : Int) then ((macadamref00_In.f ((rd_T66 l0_0 t411).f1) t412).bind fun t431 => (if (bt423.1 == (!t431)) = true then ((macadamlaw04_shovelled.f).bind fun t432 => (some t432)) else (some false))) else (none)) else (none)) else (if (bt423.1 == false) = true then ((macadamlaw04_shovelled.f).bind fun t433 => (some t433)) else (some false))) else (some false))) else (some false))) else (some false)) else (some false))) else (none)) else (none))) = some r := by first | (rw [hy420]; with_reducible exact H) | (have H2_ := (Option.bind_some _ _).symm.trans H; rw [hy420]; with_reducible exact H2_) | (have H2_ := (Option.bind_some _ _).symm.trans H; with_reducible exact H2_) | with_reducible exact H | (rw [hy420]; exact H) | exact H
  have Ny420 := Aside0.mk hy420
  clear hy420
  replace H := Option.bind_eq_some_iff.mp H
  obtain ⟨⟨t423, t424⟩, A100, H⟩ := H
  replace H : (if 0 ≤ t410 then (if t410 < (l0_1.length : Int) then ((macadamref00_Amid.f t411 ((rd_T63 l0_1 t410).f0) ((rd_T63 l0_1 t410).f1)).bind fun t427 => (if t416 = 0 then (if t424 = 0 then ((macadamref00_Rising.f k t413 a0_2).bind fun t428 => (if t428 = true then ((macadamref00_Place.f k t413 t412).bind fun t429 => (if ((decide (t429 ≥ 0)) == t423) = true then (if t427 = true then (if 0 ≤ t411 then (if t411 < (l0_0.length : Int) then ((macadamref00_In.f ((rd_T66 l0_0 t411).f1) t412).bind fun t431 => (if (t423 == (!t431)) = true then ((macadamlaw04_shovelled.f).bind fun t432 => (some t432)) else (some false))) else (none)) else (none)) else (if (t423 == false) = true then ((macadamlaw04_shovelled.f).bind fun t433 => (some t433)) else (some false))) else (some false))) else (some false))) else (some false)) else (some false))) else (none)) else (none)) = some r := H
  have A10 := Aside0.mk A100
  clear A100
  by_cases c11 : 0 ≤ t410
  ·rw [if_pos c11] at H
   have c11b0 : decide (0 ≤ t410) = true := decide_eq_true c11
   clear c11
   by_cases c12 : t410 < (l0_1.length : Int)
   ·rw [if_pos c12] at H
    have c12b0 : decide (t410 < (l0_1.length : Int)) = true := decide_eq_true c12
    clear c12
    replace H := Option.bind_eq_some_iff.mp H
    obtain ⟨t427, A130, H⟩ := H
    replace H : (if t416 = 0 then (if t424 = 0 then ((macadamref00_Rising.f k t413 a0_2).bind fun t428 => (if t428 = true then ((macadamref00_Place.f k t413 t412).bind fun t429 => (if ((decide (t429 ≥ 0)) == t423) = true then (if t427 = true then (if 0 ≤ t411 then (if t411 < (l0_0.length : Int) then ((macadamref00_In.f ((rd_T66 l0_0 t411).f1) t412).bind fun t431 => (if (t423 == (!t431)) = true then ((macadamlaw04_shovelled.f).bind fun t432 => (some t432)) else (some false))) else (none)) else (none)) else (if (t423 == false) = true then ((macadamlaw04_shovelled.f).bind fun t433 => (some t433)) else (some false))) else (some false))) else (some false))) else (some false)) else (some false)) = some r := H
    have A13 := Aside0.mk A130
    clear A130
    by_cases c14 : t416 = 0
    ·rw [if_pos c14] at H
     have c14b0 : (t416 == 0) = true := beq_iff_eq.mpr c14
     have c14b1 : (t416 != 0) = false := bne_eq_false_iff_eq.mpr c14
     clear c14
     by_cases c15 : t424 = 0
     ·rw [if_pos c15] at H
      have c15b0 : (t424 == 0) = true := beq_iff_eq.mpr c15
      have c15b1 : (t424 != 0) = false := bne_eq_false_iff_eq.mpr c15
      clear c15
      replace H := Option.bind_eq_some_iff.mp H
      obtain ⟨t428, A160, H⟩ := H
      replace H : (if t428 = true then ((macadamref00_Place.f k t413 t412).bind fun t429 => (if ((decide (t429 ≥ 0)) == t423) = true then (if t427 = true then (if 0 ≤ t411 then (if t411 < (l0_0.length : Int) then ((macadamref00_In.f ((rd_T66 l0_0 t411).f1) t412).bind fun t431 => (if (t423 == (!t431)) = true then ((macadamlaw04_shovelled.f).bind fun t432 => (some t432)) else (some false))) else (none)) else (none)) else (if (t423 == false) = true then ((macadamlaw04_shovelled.f).bind fun t433 => (some t433)) else (some false))) else (some false))) else (some false)) = some r := H
      have A16 := Aside0.mk A160
      clear A160
      by_cases c17 : t428 = true
      ·subst c17
       have H1 : ((macadamref00_Place.f k t413 t412).bind fun t429 => (if ((decide (t429 ≥ 0)) == t423) = true then (if t427 = true then (if 0 ≤ t411 then (if t411 < (l0_0.length : Int) then ((macadamref00_In.f ((rd_T66 l0_0 t411).f1) t412).bind fun t431 => (if (t423 == (!t431)) = true then ((macadamlaw04_shovelled.f).bind fun t432 => (some t432)) else (some false))) else (none)) else (none)) else (if (t423 == false) = true then ((macadamlaw04_shovelled.f).bind fun t433 => (some t433)) else (some false))) else (some false))) = some r := by rw [if_pos rfl] at H; exact H
       clear H
       have H := H1
       clear H1
       replace H := Option.bind_eq_some_iff.mp H
       obtain ⟨t429, A180, H⟩ := H
       replace H : (if ((decide (t429 ≥ 0)) == t423) = true then (if t427 = true then (if 0 ≤ t411 then (if t411 < (l0_0.length : Int) then ((macadamref00_In.f ((rd_T66 l0_0 t411).f1) t412).bind fun t431 => (if (t423 == (!t431)) = true then ((macadamlaw04_shovelled.f).bind fun t432 => (some t432)) else (some false))) else (none)) else (none)) else (if (t423 == false) = true then ((macadamlaw04_shovelled.f).bind fun t433 => (some t433)) else (some false))) else (some false)) = some r := H
       have A18 := Aside0.mk A180
       clear A180
       by_cases c19 : ((decide (t429 ≥ 0)) == t423) = true
       ·rw [if_pos c19] at H
        have c19b0 : ((decide (t429 ≥ 0)) == t423) = true := c19
        (try (have c19b1 : decide ((decide (t429 ≥ 0)) = t423) = true := by simpa using c19))
        (try (have c19b2 : ((decide (t429 ≥ 0)) == t423) = true := by simpa using c19))
        clear c19
        by_cases c20 : t427 = true
        ·subst c20
         have H1 : (if 0 ≤ t411 then (if t411 < (l0_0.length : Int) then ((macadamref00_In.f ((rd_T66 l0_0 t411).f1) t412).bind fun t431 => (if (t423 == (!t431)) = true then ((macadamlaw04_shovelled.f).bind fun t432 => (some t432)) else (some false))) else (none)) else (none)) = some r := by rw [if_pos rfl] at H; exact H
         clear H
         have H := H1
         clear H1
         by_cases c21 : 0 ≤ t411
         ·rw [if_pos c21] at H
          have c21b0 : decide (0 ≤ t411) = true := decide_eq_true c21
          clear c21
          by_cases c22 : t411 < (l0_0.length : Int)
          ·rw [if_pos c22] at H
           have c22b0 : decide (t411 < (l0_0.length : Int)) = true := decide_eq_true c22
           clear c22
           replace H := Option.bind_eq_some_iff.mp H
           obtain ⟨t431, A230, H⟩ := H
           replace H : (if (t423 == (!t431)) = true then ((macadamlaw04_shovelled.f).bind fun t432 => (some t432)) else (some false)) = some r := H
           have A23 := Aside0.mk A230
           clear A230
           by_cases c24 : (t423 == (!t431)) = true
           ·rw [if_pos c24] at H
            have c24b0 : (t423 == (!t431)) = true := c24
            (try (have c24b1 : decide (t423 = (!t431)) = true := by simpa using c24))
            (try (have c24b2 : (t423 == (!t431)) = true := by simpa using c24))
            clear c24
            replace H := Option.bind_eq_some_iff.mp H
            obtain ⟨t432, A250, H⟩ := H
            replace H : (some t432) = some r := H
            have A25 := Aside0.mk A250
            clear A250
            obtain rfl := Option.some.inj H
            go_enter Tryd.func7, Tryd.ntmps7
            try go_wp2_with (first | ((with_reducible refine gate_dst (N := 2) rfl ?_); refine bx 2 #[.slice A0_0 l0_0.length c0_0, .slice A0_1 l0_1.length c0_1, .int .i64 a0_2] 25 ?_; intro gb406 hg w26 hbox hb; have n0_ := Aside0.mk (below_step (bw HB) hb); have n1_ := Aside0.mk (hbox); have n2_ := Aside0.mk (bz (bw HB) hg); have n3_ := Aside0.mk (bz (bw HB) hg); clear HB; have HB := n0_; have BK406 := n1_; have GW406 := n2_; have GE406 := n3_; clear n0_ n1_ n2_ n3_; clear hb hbox hg) | ((with_reducible refine gate_dst (N := 3) rfl ?_); refine bx 3 #[.int .i64 a1_0, .int .i64 a1_1, .int .i64 a1_2] 27 ?_; intro gb407 hg w27 hbox hb; have n0_ := Aside0.mk (blk_below (bm BK406) hb); have n1_ := Aside0.mk (below_step (bw1 HB GE406) hb); have n2_ := Aside0.mk (hbox); have n3_ := Aside0.mk (bz (bw1 HB GE406) hg); have n4_ := Aside0.mk (bz (bw1 HB GE406) hg); have n5_ := Aside0.mk (bl (bm BK406) hg); have n6_ := Aside0.mk (bg (bm BK406) hg); clear BK406; clear HB; have BK406 := n0_; have HB := n1_; have BK407 := n2_; have GW407 := n3_; have GE407 := n4_; have NB406_407 := n5_; have NB407_406 := n6_; clear n0_ n1_ n2_ n3_ n4_ n5_ n6_; clear hb hbox hg; have hnb28 := NB406_407.out; have hnc28 := NB407_406.out; obtain ⟨hcz29_0, hcz29_1, hcz29_2, hfz29_0, hfz29_1, hfz29_2⟩ := b3 BK406) | ((with_reducible refine gate_callee (f := 38) rfl ?_); refine gL (some 14) Tryd.func38 #[.agg #[.slice A0_0 l0_0.length c0_0, .slice A0_1 l0_1.length c0_1, .int .i64 a0_2]] ?_; (with_reducible refine (macadamlaw04_sound.calls k _ _ l0_0 _ _ l0_1 a0_2 true _ ?side1 ?side2 ?side3 ?side4 A3.out).mono ?_); (case side1 => repeat (first | exact (Kd.C_below HR0_0.out HB.out) | (with_reducible refine Kd.C_alloc ?_ _) | (with_reducible refine Kd.C_drewN ?_ _) | (with_reducible refine Kd.C_drew ?_))); (case side2 => exact HC0_0.out); (case side3 => repeat (first | exact (Kd.C_below HR0_1.out HB.out) | (with_reducible refine Kd.C_alloc ?_ _) | (with_reducible refine Kd.C_drewN ?_ _) | (with_reducible refine Kd.C_drew ?_))); (case side4 => exact HC0_1.out); rintro e w30 ⟨rfl, hb⟩; refine ⟨_, rfl, ?_⟩; have n0_ := Aside0.mk (blk_below (bm BK406) hb); have n1_ := Aside0.mk (blk_below (bm BK407) hb); have n2_ := Aside0.mk (below_step (bw2 HB GE406 GE407) hb); clear BK406; clear BK407; clear HB; have BK406 := n0_; have BK407 := n1_; have HB := n2_; clear n0_ n1_ n2_; (try clear hb); (try clear hb2); (try clear hk); (try clear hi)))
            have n0_ := Aside0.mk (blk_drew BK406.out)
            have n1_ := Aside0.mk (blk_drew BK407.out)
            have n2_ := Aside0.mk (below_drew1 HB.out)
            clear BK406
            clear BK407
            clear HB
            have BK406 := n0_
            have BK407 := n1_
            have HB := n2_
            clear n0_ n1_ n2_
            refine start_ (n := 20) (S := fun w' => w'.cell? ⟨gb407, 0, none⟩ = some (.int .i64 a1_0) ∧ w'.cell? ⟨gb407, 1, none⟩ = some (.int .i64 a1_1) ∧ w'.cell? ⟨gb407, 2, none⟩ = some (.int .i64 a1_2) ∧ w'.cell? ⟨gb406, 0, none⟩ = some (.slice A0_0 l0_0.length c0_0) ∧ w'.cell? ⟨gb406, 1, none⟩ = some (.slice A0_1 l0_1.length c0_1) ∧ w'.cell? ⟨gb406, 2, none⟩ = some (.int .i64 a0_2)) (ds := []) (bs 20 0) (by kernel_rfl) rfl rfl ⟨(blk_cell BK407.out 0).trans rfl, (blk_cell BK407.out 1).trans rfl, (blk_cell BK407.out 2).trans rfl, (blk_cell BK406.out 0).trans rfl, (blk_cell BK406.out 1).trans rfl, (blk_cell BK406.out 2).trans rfl⟩ (fun hHeld => ?_); refine with_tabW macadamlaw04_GangReach.tab3 macadamlaw04_GangReach.bits3 (fun HT_ HW_ => ?_)
            generalize w30.drew = w31 at BK406 BK407 HB hHeld ⊢
            refine pu HT_ 0 (some 17) (bs 20 1) ?_
            refine pu HT_ 2 (some 19) (bs 20 5) ?_
            refine pu HT_ 6 (some 23) (bs 20 69) ?_
            refine pu HT_ 8 (some 25) (bs 20 325) ?_
            refine pu HT_ 12 (some 29) (bs 20 4421) ?_
            refine pu HT_ 14 (some 31) (bs 20 20805) ?_
            refine tk6 HT_ HW_ hHeld 1 (some 18) (bs 20 20807) ?_
            refine tk6 HT_ HW_ hHeld 3 (some 20) (bs 20 20815) ?_
            refine pu HT_ 4 (some 21) (bs 20 20831) ?_
            refine tk6 HT_ HW_ hHeld 7 (some 24) (bs 20 20959) ?_
            refine tk6 HT_ HW_ hHeld 9 (some 26) (bs 20 21471) ?_
            refine pu HT_ 10 (some 27) (bs 20 22495) ?_
            refine tk6 HT_ HW_ hHeld 13 (some 30) (bs 20 30687) ?_
            refine tk6 HT_ HW_ hHeld 15 (some 32) (bs 20 63455) ?_
            refine on HT_ 5 (some 22) (bs 20 63487) (fun K hK => ?_)
            refine goes_ Tryd.func39 (by kernel_rfl) rfl #[.int .i64 a1_0, .int .i64 (l0_1.length : Int)] (by rfl) rfl rfl (by (try simp only [List.map_toArray, List.map_cons, List.map_nil]); first | done | rfl | (simp only [List.length_drop, List.length_take]; rfl)) ?_
            with_reducible refine (macadamref00_Wrap.calls a1_0 (l0_1.length : Int) t410 _ A5.out).mono ?_
            rintro e w' ⟨rfl, ⟨nd, rfl⟩⟩
            refine ⟨_, rfl, ?_⟩
            refine hK.out _ _ ⟨(blk_cell BK407.out 0).trans rfl, (blk_cell BK407.out 1).trans rfl, (blk_cell BK407.out 2).trans rfl, (blk_cell BK406.out 0).trans rfl, (blk_cell BK406.out 1).trans rfl, (blk_cell BK406.out 2).trans rfl⟩ (fun hHeld => ?_)
            clear hK K
            refine nm 22 ?_
            refine on HT_ 11 (some 28) (bs 20 65535) (fun K hK => ?_)
            refine goes_ Tryd.func39 (by kernel_rfl) rfl #[.int .i64 a1_1, .int .i64 (l0_0.length : Int)] (by rfl) rfl rfl (by (try simp only [List.map_toArray, List.map_cons, List.map_nil]); first | done | rfl | (simp only [List.length_drop, List.length_take]; rfl)) ?_
            with_reducible refine (macadamref00_Wrap.calls a1_1 (l0_0.length : Int) t411 _ A6.out).mono ?_
            rintro e w' ⟨rfl, ⟨nd, rfl⟩⟩
            refine ⟨_, rfl, ?_⟩
            refine hK.out _ _ ⟨(blk_cell BK407.out 0).trans rfl, (blk_cell BK407.out 1).trans rfl, (blk_cell BK407.out 2).trans rfl, (blk_cell BK406.out 0).trans rfl, (blk_cell BK406.out 1).trans rfl, (blk_cell BK406.out 2).trans rfl⟩ (fun hHeld => ?_)
            clear hK K
            refine nm 28 ?_
            refine on HT_ 16 (some 33) (bs 20 131071) (fun K hK => ?_)
            refine goes_ Tryd.func39 (by kernel_rfl) rfl #[.int .i64 a1_2, .int .i64 a0_2] (by rfl) rfl rfl (by (try simp only [List.map_toArray, List.map_cons, List.map_nil]); first | done | rfl | (simp only [List.length_drop, List.length_take]; rfl)) ?_
            with_reducible refine (macadamref00_Wrap.calls a1_2 a0_2 t412 _ A7.out).mono ?_
            rintro e w' ⟨rfl, ⟨nd, rfl⟩⟩
            refine ⟨_, rfl, ?_⟩
            refine hK.out _ _ ⟨(blk_cell BK407.out 0).trans rfl, (blk_cell BK407.out 1).trans rfl, (blk_cell BK407.out 2).trans rfl, (blk_cell BK406.out 0).trans rfl, (blk_cell BK406.out 1).trans rfl, (blk_cell BK406.out 2).trans rfl⟩ (fun hHeld => ?_)
            clear hK K
            refine nm 33 ?_
            refine pu HT_ 17 (some 5) (bs 20 262143) ?_
            refine pu HT_ 18 (some 6) (bs 20 524287) ?_
            refine pu HT_ 19 (some 7) (bs 20 1048575) ?_
            refine done_ (done_of HT_.out (by kernel_rfl)) ?_
            obtain ⟨hcz32_0, hcz32_1, hcz32_2, hfz32_0, hfz32_1, hfz32_2⟩ := b3 BK406
            try go_wp2_with (first | ((with_reducible refine gate_callee (f := 15) rfl ?_); refine gL (some 38) Tryd.func15 #[.agg #[.slice A0_0 l0_0.length c0_0, .slice A0_1 l0_1.length c0_1, .int .i64 a0_2], .int .i64 t410, .int .i64 t411] ?_; (with_reducible refine (gang_Can.calls _ _ l0_0 _ _ l0_1 a0_2 t410 t411 t413 t416 _ ?side1 ?side2 ?side3 ?side4 ?side5 A8.out).mono ?_); (case side1 => repeat (first | exact (Kd.C_below HR0_0.out (bw2 HB GE406 GE407)) | (with_reducible refine Kd.C_alloc ?_ _) | (with_reducible refine Kd.C_drewN ?_ _) | (with_reducible refine Kd.C_drew ?_))); (case side2 => exact HC0_0.out); (case side3 => repeat (first | exact (Kd.C_below HR0_1.out (bw2 HB GE406 GE407)) | (with_reducible refine Kd.C_alloc ?_ _) | (with_reducible refine Kd.C_drewN ?_ _) | (with_reducible refine Kd.C_drew ?_))); (case side4 => exact HC0_1.out); (case side5 => exact gv_below HG.out (bw2 HB GE406 GE407)); rintro e w33 ⟨v414, rfl, ho0, hb⟩; refine ⟨_, rfl, ?_⟩; have n0_ := Aside0.mk (Kd.V_lower (Kd.V_mono (ok' := fun k_ => k_ ≠ gb406 ∧ k_ ≠ gb407) ho0 (fun k_ hk_ => ⟨(Kd.freshB (g := gb406) (o := .cells #[.slice A0_0 l0_0.length c0_0, .slice A0_1 l0_1.length c0_1, .int .i64 a0_2] 25 (0, 0)) (bm BK406) k_ hk_), (Kd.freshB (g := gb407) (o := .cells #[.int .i64 a1_0, .int .i64 a1_1, .int .i64 a1_2] 27 (0, 0)) (bm BK407) k_ hk_)⟩)) (below_size (bw2 HB GE406 GE407))); have n1_ := Aside0.mk (blk_below (bm BK406) hb); have n2_ := Aside0.mk (blk_below (bm BK407) hb); have n3_ := Aside0.mk (below_step (bw2 HB GE406 GE407) hb); clear BK406; clear BK407; clear HB; have HO415 := n0_; have BK406 := n1_; have BK407 := n2_; have HB := n3_; clear n0_ n1_ n2_ n3_; (try clear hb); (try clear hb2); (try clear hk); (try clear hi); (try clear ho0)))
            have n0_ := Aside0.mk (Kd.V_drew HO415.out)
            have n1_ := Aside0.mk (blk_drew BK406.out)
            have n2_ := Aside0.mk (blk_drew BK407.out)
            have n3_ := Aside0.mk (below_drew1 HB.out)
            clear HO415
            clear BK406
            clear BK407
            clear HB
            have HO415 := n0_
            have BK406 := n1_
            have BK407 := n2_
            have HB := n3_
            clear n0_ n1_ n2_ n3_
            refine start_ (n := 12) (S := fun w' => w'.cell? ⟨gb406, 0, none⟩ = some (.slice A0_0 l0_0.length c0_0) ∧ w'.cell? ⟨gb406, 1, none⟩ = some (.slice A0_1 l0_1.length c0_1) ∧ w'.cell? ⟨gb406, 2, none⟩ = some (.int .i64 a0_2)) (ds := []) (bs 12 0) (by kernel_rfl) rfl rfl ⟨(blk_cell BK406.out 0).trans rfl, (blk_cell BK406.out 1).trans rfl, (blk_cell BK406.out 2).trans rfl⟩ (fun hHeld => ?_); refine with_tabW macadamlaw04_GangReach.tab5 macadamlaw04_GangReach.bits5 (fun HT_ HW_ => ?_)
            generalize w33.drew = w34 at HO415 BK406 BK407 HB hHeld ⊢
            refine pu HT_ 1 (some 43) (bs 12 2) ?_
            refine pu HT_ 2 (some 44) (bs 12 6) ?_
            refine pu HT_ 3 (some 45) (bs 12 14) ?_
            refine tk3 HT_ HW_ hHeld 0 (some 42) (bs 12 15) ?_
            refine on HT_ 4 (some 46) (bs 12 31) (fun K hK => ?_)
            refine goes_ Tryd.func44 (by kernel_rfl) rfl #[.int .i64 t412, .int .i64 t410, .int .i64 t411] (by rfl) rfl rfl (by (try simp only [List.map_toArray, List.map_cons, List.map_nil]); first | done | rfl | (simp only [List.length_drop, List.length_take]; rfl)) ?_
            with_reducible refine (macadamlaw04_work.calls t412 t410 t411 t417 t418 t419 _ A9.out).mono ?_
            rintro e w35 ⟨rfl, hb⟩
            refine ⟨_, rfl, ?_⟩
            have n0_ := Aside0.mk (Kd.V_below (by (with_reducible repeat (first | apply Kd.V_alloc | apply Kd.V_drewN | apply Kd.V_drew)); exact HO415.out) hb)
            have n1_ := Aside0.mk (blk_below (bm BK406) hb)
            have n2_ := Aside0.mk (blk_below (bm BK407) hb)
            have n3_ := Aside0.mk (below_step (bw2 HB GE406 GE407) hb)
            clear HO415
            clear BK406
            clear BK407
            clear HB
            have HO415 := n0_
            have BK406 := n1_
            have BK407 := n2_
            have HB := n3_
            clear n0_ n1_ n2_ n3_
            (try clear hb)
            (try clear hb2)
            (try clear hk)
            (try clear hi)
            refine hK.out _ _ ⟨(blk_cell BK406.out 0).trans rfl, (blk_cell BK406.out 1).trans rfl, (blk_cell BK406.out 2).trans rfl⟩ (fun hHeld => ?_)
            clear hK K
            refine nm 46 ?_
            refine on HT_ 5 (some 47) (bs 12 63) (fun K hK => ?_)
            refine Kd.R_lit_step k59 _ 59 ?hg (N := 47) ?hd (xs := ([(⟨t417, t418, t419⟩ : S59)] : List (S59))) (inner := [.int .i64 t417, .int .i64 t418, .int .i64 t419]) (ok := fun _ => True) (okp := fun _ => True) ?hr ?hp (fun _ hk => hk) trivial (Below.refl _ _) (Nat.le_refl _) (by simp) ?_; (case hd => rfl); (case hg => rfl); (case hr => first | (go_simp; done) | (go_simp; rfl)); (case hp => exact (Reps.c3 (show Kd.M k59 _ _ _ (⟨t417, t418, t419⟩ : S59) [.int .i64 t417, .int .i64 t418, .int .i64 t419] from (k59_mkM _ _ _ (⟨t417, t418, t419⟩ : S59) )) (Reps.none _ _)))
            intro v421 w36 ho37 hb hg_ hnew_
            clear hg_ hnew_
            (first | rw [← Ny420.out] at ho37 | (simp only [Int.reduceToNat] at ho37; rw [← Ny420.out] at ho37))
            have n0_ := Aside0.mk (Kd.V_elder' (by (with_reducible repeat (first | apply Kd.V_alloc | apply Kd.V_drewN | apply Kd.V_drew)); exact HO415.out) (Kd.R_base ho37) hb)
            have n1_ := Aside0.mk (Kd.R_lower ho37 (below_size (bw2 HB GE406 GE407)))
            have n2_ := Aside0.mk (blk_below (bm BK406) hb)
            have n3_ := Aside0.mk (blk_below (bm BK407) hb)
            have n4_ := Aside0.mk (below_step (bw2 HB GE406 GE407) hb)
            clear HO415
            clear BK406
            clear BK407
            clear HB
            have HO415 := n0_
            have HO422 := n1_
            have BK406 := n2_
            have BK407 := n3_
            have HB := n4_
            clear n0_ n1_ n2_ n3_ n4_
            clear hb ho37
            obtain ⟨Ao38, co38, eo38⟩ := Kd.R_slice HO422.out
            (first | subst eo38 | (injection eo38 with f1_ f2_ f3_; have f4_ := f1_.symm; have f5_ := f3_.symm; clear f1_ f2_ f3_; subst f4_; subst f5_))
            refine hK.out _ _ ⟨(blk_cell BK406.out 0).trans rfl, (blk_cell BK406.out 1).trans rfl, (blk_cell BK406.out 2).trans rfl⟩ (fun hHeld => ?_)
            clear hK K
            refine nm 47 ?_
            refine on HT_ 6 (some 48) (bs 12 127) (fun K hK => ?_)
            refine goes_ Tryd.func20 (by kernel_rfl) rfl #[.agg #[.slice A0_0 l0_0.length c0_0, .slice A0_1 l0_1.length c0_1, .int .i64 a0_2], .slice Ao38 y420.length co38] (by rfl) rfl rfl (by (try simp only [List.map_toArray, List.map_cons, List.map_nil]); first | done | rfl | (simp only [List.length_drop, List.length_take]; rfl)) ?_
            with_reducible refine (gang_May.calls _ _ l0_0 _ _ l0_1 a0_2 _ _ y420 t423 t424 _ ?side1 ?side2 ?side3 ?side4 ?side5 ?side6 ?side7 A10.out).mono ?_
            (case side1 => repeat (first | exact (Kd.C_below HR0_0.out HB.out) | (with_reducible refine Kd.C_alloc ?_ _) | (with_reducible refine Kd.C_drewN ?_ _) | (with_reducible refine Kd.C_drew ?_)))
            (case side2 => exact HC0_0.out)
            (case side3 => repeat (first | exact (Kd.C_below HR0_1.out HB.out) | (with_reducible refine Kd.C_alloc ?_ _) | (with_reducible refine Kd.C_drewN ?_ _) | (with_reducible refine Kd.C_drew ?_)))
            (case side4 => exact HC0_1.out)
            (case side5 => repeat (first | exact (Kd.R_reads' HO422.out).2.2 | (with_reducible refine Kd.C_alloc ?_ _) | (with_reducible refine Kd.C_drewN ?_ _) | (with_reducible refine Kd.C_drew ?_)))
            (case side6 => exact (Kd.R_reads' HO422.out).2.1)
            (case side7 => exact gv_below HG.out (bw2 HB GE406 GE407))
            rintro e w39 ⟨rfl, hb⟩
            refine ⟨_, rfl, ?_⟩
            have n0_ := Aside0.mk (Kd.V_below (by (with_reducible repeat (first | apply Kd.V_alloc | apply Kd.V_drewN | apply Kd.V_drew)); exact HO415.out) hb)
            have n1_ := Aside0.mk (Kd.R_below (by (with_reducible repeat (first | apply Kd.R_alloc | apply Kd.R_drewN | apply Kd.R_drew)); exact HO422.out) hb)
            have n2_ := Aside0.mk (blk_below (bm BK406) hb)
            have n3_ := Aside0.mk (blk_below (bm BK407) hb)
            have n4_ := Aside0.mk (below_step (bw2 HB GE406 GE407) hb)
            clear HO415
            clear HO422
            clear BK406
            clear BK407
            clear HB
            have HO415 := n0_
            have HO422 := n1_
            have BK406 := n2_
            have BK407 := n3_
            have HB := n4_
            clear n0_ n1_ n2_ n3_ n4_
            (try clear hb)
            (try clear hb2)
            (try clear hk)
            (try clear hi)
            refine hK.out _ _ ⟨(blk_cell BK406.out 0).trans rfl, (blk_cell BK406.out 1).trans rfl, (blk_cell BK406.out 2).trans rfl⟩ (fun hHeld => ?_)
            clear hK K
            refine nm 48 ?_
            refine pu HT_ 7 (some 41) (bs 12 255) ?_
            refine pu HT_ 8 (some 49) (bs 12 511) ?_
            refine pu HT_ 9 (some 50) (bs 12 1023) ?_
            refine pu HT_ 10 (some 10) (bs 12 2047) ?_
            refine pu HT_ 11 (some 11) (bs 12 4095) ?_
            refine done_ (done_of HT_.out (by kernel_rfl)) ?_
            try go_wp2
            have n0_ := Aside0.mk (Kd.V_drew HO415.out)
            have n1_ := Aside0.mk (Kd.R_drew HO422.out)
            have n2_ := Aside0.mk (blk_drew BK406.out)
            have n3_ := Aside0.mk (blk_drew BK407.out)
            have n4_ := Aside0.mk (below_drew1 HB.out)
            clear HO415
            clear HO422
            clear BK406
            clear BK407
            clear HB
            have HO415 := n0_
            have HO422 := n1_
            have BK406 := n2_
            have BK407 := n3_
            have HB := n4_
            clear n0_ n1_ n2_ n3_ n4_
            have p425 : 0 ≤ (t410 : Int) := of_decide_eq_true (by first | (with_reducible assumption) | assumption)
            have q425 : t410 < (l0_1.length : Int) := of_decide_eq_true (by first | (with_reducible assumption) | assumption)
            obtain ⟨ad425, e425, hx425_0, hx425_1, hx425_2, hx425_3⟩ := at_T63 HR0_1.out t410 p425 q425
            have hw425_3 := hx425_3
            have hw425_2 := hx425_2
            have hw425_1 := hx425_1
            have hw425_0 := hx425_0
            cases e425
            replace hx425_0 := cB HB hx425_0
            replace hx425_1 := cB HB hx425_1
            replace hx425_2 := cB HB hx425_2
            replace hx425_3 := cB HB hx425_3
            replace p425 := eq_true p425
            replace q425 := eq_true q425
            have p426 : 0 ≤ (t410 : Int) := of_decide_eq_true (by first | (with_reducible assumption) | assumption)
            have q426 : t410 < (l0_1.length : Int) := of_decide_eq_true (by first | (with_reducible assumption) | assumption)
            obtain ⟨ad426, e426, hx426_0, hx426_1, hx426_2, hx426_3⟩ := at_T63 HR0_1.out t410 p426 q426
            have hw426_3 := hx426_3
            have hw426_2 := hx426_2
            have hw426_1 := hx426_1
            have hw426_0 := hx426_0
            obtain rfl : ad425 = ad426 := (by injection e426)
            replace hx426_0 := cB HB hx426_0
            replace hx426_1 := cB HB hx426_1
            replace hx426_2 := cB HB hx426_2
            replace hx426_3 := cB HB hx426_3
            replace p426 := eq_true p426
            replace q426 := eq_true q426
            refine start_ (n := 15) (S := fun w' => w'.cell? ⟨gb406, 0, none⟩ = some (.slice A0_0 l0_0.length c0_0) ∧ w'.cell? ⟨gb406, 1, none⟩ = some (.slice (some ad425) l0_1.length c0_1) ∧ w'.cell? ⟨gb406, 2, none⟩ = some (.int .i64 a0_2) ∧ w'.cell? (ad425.add ((t410).toNat * 4)) = some (.int .i64 ((rd_T63 l0_1 t410).f0)) ∧ w'.cell? ⟨(ad425.add ((t410).toNat * 4)).block, (ad425.add ((t410).toNat * 4)).off + 1, none⟩ = some (.int .i64 ((rd_T63 l0_1 t410).f1)) ∧ w'.cell? ⟨(ad425.add ((t410).toNat * 4)).block, (ad425.add ((t410).toNat * 4)).off + 2, none⟩ = some (.int .i64 ((rd_T63 l0_1 t410).f2.f0)) ∧ w'.cell? ⟨(ad425.add ((t410).toNat * 4)).block, (ad425.add ((t410).toNat * 4)).off + 3, none⟩ = some (.int .i64 ((rd_T63 l0_1 t410).f2.f1)) ∧ w'.cell? (ad425.add ((t410).toNat * 4)) = some (.int .i64 ((rd_T63 l0_1 t410).f0)) ∧ w'.cell? ⟨(ad425.add ((t410).toNat * 4)).block, (ad425.add ((t410).toNat * 4)).off + 1, none⟩ = some (.int .i64 ((rd_T63 l0_1 t410).f1)) ∧ w'.cell? ⟨(ad425.add ((t410).toNat * 4)).block, (ad425.add ((t410).toNat * 4)).off + 2, none⟩ = some (.int .i64 ((rd_T63 l0_1 t410).f2.f0)) ∧ w'.cell? ⟨(ad425.add ((t410).toNat * 4)).block, (ad425.add ((t410).toNat * 4)).off + 3, none⟩ = some (.int .i64 ((rd_T63 l0_1 t410).f2.f1))) (ds := []) (bs 15 0) (by kernel_rfl) rfl rfl ⟨(blk_cell BK406.out 0).trans rfl, (blk_cell BK406.out 1).trans rfl, (blk_cell BK406.out 2).trans rfl, (cB HB hw425_0 :), (cB HB hw425_1 :), (cB HB hw425_2 :), (cB HB hw425_3 :), (cB HB hw426_0 :), (cB HB hw426_1 :), (cB HB hw426_2 :), (cB HB hw426_3 :)⟩ (fun hHeld => ?_); refine with_tabW macadamlaw04_GangReach.tab6 macadamlaw04_GangReach.bits6 (fun HT_ HW_ => ?_)
            generalize w39.drew = w40 at HO415 HO422 BK406 BK407 HB hx425_0 hx425_1 hx425_2 hx425_3 hx426_0 hx426_1 hx426_2 hx426_3 hHeld ⊢
            refine pu HT_ 0 (some 51) (bs 15 1) ?_
            refine pu HT_ 1 (some 52) (bs 15 3) ?_
            refine pu HT_ 3 (some 54) (bs 15 11) ?_
            refine pu HT_ 7 (some 58) (bs 15 139) ?_
            refine pu HT_ 9 (some 60) (bs 15 651) ?_
            refine tk11 HT_ HW_ hHeld 2 (some 53) (bs 15 655) ?_
            refine pu HT_ 4 (some 55) (bs 15 671) ?_
            refine pu HT_ 5 (some 56) (bs 15 703) ?_
            refine tk11 HT_ HW_ hHeld 6 (some 57) (bs 15 767) ?_
            refine tk11 HT_ HW_ hHeld 8 (some 59) (bs 15 1023) ?_
            refine pu HT_ 10 (some 61) (bs 15 2047) ?_
            refine pu HT_ 11 (some 62) (bs 15 4095) ?_
            refine tk11 HT_ HW_ hHeld 12 (some 63) (bs 15 8191) ?_
            refine on HT_ 13 (some 64) (bs 15 16383) (fun K hK => ?_)
            refine goes_ Tryd.func45 (by kernel_rfl) rfl #[.int .i64 t411, .int .i64 ((rd_T63 l0_1 t410).f0), .int .i64 ((rd_T63 l0_1 t410).f1)] (by rfl) rfl rfl (by (try simp only [List.map_toArray, List.map_cons, List.map_nil]); first | done | rfl | (simp only [List.length_drop, List.length_take]; rfl)) ?_
            with_reducible refine (macadamref00_Amid.calls t411 ((rd_T63 l0_1 t410).f0) ((rd_T63 l0_1 t410).f1) true _ A13.out).mono ?_
            rintro e w' ⟨rfl, ⟨nd, rfl⟩⟩
            refine ⟨_, rfl, ?_⟩
            refine hK.out _ _ ⟨(blk_cell BK406.out 0).trans rfl, (blk_cell BK406.out 1).trans rfl, (blk_cell BK406.out 2).trans rfl, (cB HB hw425_0 :), (cB HB hw425_1 :), (cB HB hw425_2 :), (cB HB hw425_3 :), (cB HB hw426_0 :), (cB HB hw426_1 :), (cB HB hw426_2 :), (cB HB hw426_3 :)⟩ (fun hHeld => ?_)
            clear hK K
            refine nm 64 ?_
            refine pu HT_ 14 (some 12) (bs 15 32767) ?_
            refine done_ (done_of HT_.out (by kernel_rfl)) ?_
            obtain ⟨hcz41_0, hcz41_1, hcz41_2, hfz41_0, hfz41_1, hfz41_2⟩ := b3 BK406
            obtain ⟨Ao42, co42, eo42⟩ := Kd.V_slice HO415.out
            subst eo42
            try go_wp2_with (first | (go_at_call 42; (with_reducible refine (macadamref00_Rising.calls k _ _ t413 a0_2 true _ ?side1 ?side2 A16.out).mono ?_); (case side1 => repeat (first | exact (Kd.V_reads' HO415.out).2.2 | (with_reducible refine Kd.C_alloc ?_ _) | (with_reducible refine Kd.C_drewN ?_ _) | (with_reducible refine Kd.C_drew ?_))); (case side2 => exact (Kd.V_reads' HO415.out).2.1); rintro e w' ⟨rfl, ⟨nd, rfl⟩⟩) | (go_at_call 43; (with_reducible refine (macadamref00_Place.calls k _ _ t413 t412 t429 _ ?side1 ?side2 A18.out).mono ?_); (case side1 => repeat (first | exact (Kd.V_reads' HO415.out).2.2 | (with_reducible refine Kd.C_alloc ?_ _) | (with_reducible refine Kd.C_drewN ?_ _) | (with_reducible refine Kd.C_drew ?_))); (case side2 => exact (Kd.V_reads' HO415.out).2.1); rintro e w' ⟨rfl, ⟨nd, rfl⟩⟩; have p430 : 0 ≤ (t411 : Int) := of_decide_eq_true (by first | (with_reducible assumption) | assumption); have q430 : t411 < (l0_0.length : Int) := of_decide_eq_true (by first | (with_reducible assumption) | assumption); obtain ⟨ad430, e430, hx430_0, hx430_1, hx430_2⟩ := at_T66 HR0_0.out t411 p430 q430; cases e430; replace hx430_0 := cB HB hx430_0; replace hx430_1 := cB HB hx430_1; replace hx430_2 := cB HB hx430_2; replace p430 := eq_true p430; replace q430 := eq_true q430) | (go_at_call 46; (with_reducible refine (macadamref00_In.calls ((rd_T66 l0_0 t411).f1) t412 t431 _ A23.out).mono ?_); rintro e w' ⟨rfl, ⟨nd, rfl⟩⟩) | (go_at_call 24; (with_reducible refine (macadamlaw04_shovelled.calls  t432 _ ?side1 A25.out).mono ?_); (case side1 => exact gv_below HG.out (bw2 HB GE406 GE407)); rintro e w43 ⟨rfl, hb⟩; have n0_ := Aside0.mk (Kd.V_below (by (with_reducible repeat (first | apply Kd.V_alloc | apply Kd.V_drewN | apply Kd.V_drew)); exact HO415.out) hb); have n1_ := Aside0.mk (Kd.R_below (by (with_reducible repeat (first | apply Kd.R_alloc | apply Kd.R_drewN | apply Kd.R_drew)); exact HO422.out) hb); have n2_ := Aside0.mk (blk_below (bm BK406) hb); have n3_ := Aside0.mk (blk_below (bm BK407) hb); have n4_ := Aside0.mk (below_step (bw2 HB GE406 GE407) hb); clear HO415; clear HO422; clear BK406; clear BK407; clear HB; have HO415 := n0_; have HO422 := n1_; have BK406 := n2_; have BK407 := n3_; have HB := n4_; clear n0_ n1_ n2_ n3_ n4_; (try clear hb); (try clear hb2); (try clear hk); (try clear hi)))
            go_ret
            exact ⟨by first | rfl | (simp [errW_none, errW_some] <;> rfl) | (simp [*, errW_none, errW_some] <;> rfl), bw2 HB GE406 GE407⟩
           ·rw [if_neg c24] at H
            have c24b0 : (t423 == (!t431)) = false := by simpa using c24
            (try (have c24b1 : decide (t423 = (!t431)) = false := by simpa using c24))
            (try (have c24b2 : (t423 == (!t431)) = false := by simpa using c24))
            (try (have c24b3 : ¬ (t423 = (!t431)) := by simpa using c24))
            clear c24
            obtain rfl := Option.some.inj H
            go_enter Tryd.func7, Tryd.ntmps7
            try go_wp2_with (first | ((with_reducible refine gate_dst (N := 2) rfl ?_); refine bx 2 #[.slice A0_0 l0_0.length c0_0, .slice A0_1 l0_1.length c0_1, .int .i64 a0_2] 25 ?_; intro gb406 hg w44 hbox hb; have n0_ := Aside0.mk (below_step (bw HB) hb); have n1_ := Aside0.mk (hbox); have n2_ := Aside0.mk (bz (bw HB) hg); have n3_ := Aside0.mk (bz (bw HB) hg); clear HB; have HB := n0_; have BK406 := n1_; have GW406 := n2_; have GE406 := n3_; clear n0_ n1_ n2_ n3_; clear hb hbox hg) | ((with_reducible refine gate_dst (N := 3) rfl ?_); refine bx 3 #[.int .i64 a1_0, .int .i64 a1_1, .int .i64 a1_2] 27 ?_; intro gb407 hg w45 hbox hb; have n0_ := Aside0.mk (blk_below (bm BK406) hb); have n1_ := Aside0.mk (below_step (bw1 HB GE406) hb); have n2_ := Aside0.mk (hbox); have n3_ := Aside0.mk (bz (bw1 HB GE406) hg); have n4_ := Aside0.mk (bz (bw1 HB GE406) hg); have n5_ := Aside0.mk (bl (bm BK406) hg); have n6_ := Aside0.mk (bg (bm BK406) hg); clear BK406; clear HB; have BK406 := n0_; have HB := n1_; have BK407 := n2_; have GW407 := n3_; have GE407 := n4_; have NB406_407 := n5_; have NB407_406 := n6_; clear n0_ n1_ n2_ n3_ n4_ n5_ n6_; clear hb hbox hg; have hnb46 := NB406_407.out; have hnc46 := NB407_406.out; obtain ⟨hcz47_0, hcz47_1, hcz47_2, hfz47_0, hfz47_1, hfz47_2⟩ := b3 BK406) | ((with_reducible refine gate_callee (f := 38) rfl ?_); refine gL (some 14) Tryd.func38 #[.agg #[.slice A0_0 l0_0.length c0_0, .slice A0_1 l0_1.length c0_1, .int .i64 a0_2]] ?_; (with_reducible refine (macadamlaw04_sound.calls k _ _ l0_0 _ _ l0_1 a0_2 true _ ?side1 ?side2 ?side3 ?side4 A3.out).mono ?_); (case side1 => repeat (first | exact (Kd.C_below HR0_0.out HB.out) | (with_reducible refine Kd.C_alloc ?_ _) | (with_reducible refine Kd.C_drewN ?_ _) | (with_reducible refine Kd.C_drew ?_))); (case side2 => exact HC0_0.out); (case side3 => repeat (first | exact (Kd.C_below HR0_1.out HB.out) | (with_reducible refine Kd.C_alloc ?_ _) | (with_reducible refine Kd.C_drewN ?_ _) | (with_reducible refine Kd.C_drew ?_))); (case side4 => exact HC0_1.out); rintro e w48 ⟨rfl, hb⟩; refine ⟨_, rfl, ?_⟩; have n0_ := Aside0.mk (blk_below (bm BK406) hb); have n1_ := Aside0.mk (blk_below (bm BK407) hb); have n2_ := Aside0.mk (below_step (bw2 HB GE406 GE407) hb); clear BK406; clear BK407; clear HB; have BK406 := n0_; have BK407 := n1_; have HB := n2_; clear n0_ n1_ n2_; (try clear hb); (try clear hb2); (try clear hk); (try clear hi)))
            have n0_ := Aside0.mk (blk_drew BK406.out)
            have n1_ := Aside0.mk (blk_drew BK407.out)
            have n2_ := Aside0.mk (below_drew1 HB.out)
            clear BK406
            clear BK407
            clear HB
            have BK406 := n0_
            have BK407 := n1_
            have HB := n2_
            clear n0_ n1_ n2_
            refine start_ (n := 20) (S := fun w' => w'.cell? ⟨gb407, 0, none⟩ = some (.int .i64 a1_0) ∧ w'.cell? ⟨gb407, 1, none⟩ = some (.int .i64 a1_1) ∧ w'.cell? ⟨gb407, 2, none⟩ = some (.int .i64 a1_2) ∧ w'.cell? ⟨gb406, 0, none⟩ = some (.slice A0_0 l0_0.length c0_0) ∧ w'.cell? ⟨gb406, 1, none⟩ = some (.slice A0_1 l0_1.length c0_1) ∧ w'.cell? ⟨gb406, 2, none⟩ = some (.int .i64 a0_2)) (ds := []) (bs 20 0) (by kernel_rfl) rfl rfl ⟨(blk_cell BK407.out 0).trans rfl, (blk_cell BK407.out 1).trans rfl, (blk_cell BK407.out 2).trans rfl, (blk_cell BK406.out 0).trans rfl, (blk_cell BK406.out 1).trans rfl, (blk_cell BK406.out 2).trans rfl⟩ (fun hHeld => ?_); refine with_tabW macadamlaw04_GangReach.tab3 macadamlaw04_GangReach.bits3 (fun HT_ HW_ => ?_)
            generalize w48.drew = w49 at BK406 BK407 HB hHeld ⊢
            refine pu HT_ 0 (some 17) (bs 20 1) ?_
            refine pu HT_ 2 (some 19) (bs 20 5) ?_
            refine pu HT_ 6 (some 23) (bs 20 69) ?_
            refine pu HT_ 8 (some 25) (bs 20 325) ?_
            refine pu HT_ 12 (some 29) (bs 20 4421) ?_
            refine pu HT_ 14 (some 31) (bs 20 20805) ?_
            refine tk6 HT_ HW_ hHeld 1 (some 18) (bs 20 20807) ?_
            refine tk6 HT_ HW_ hHeld 3 (some 20) (bs 20 20815) ?_
            refine pu HT_ 4 (some 21) (bs 20 20831) ?_
            refine tk6 HT_ HW_ hHeld 7 (some 24) (bs 20 20959) ?_
            refine tk6 HT_ HW_ hHeld 9 (some 26) (bs 20 21471) ?_
            refine pu HT_ 10 (some 27) (bs 20 22495) ?_
            refine tk6 HT_ HW_ hHeld 13 (some 30) (bs 20 30687) ?_
            refine tk6 HT_ HW_ hHeld 15 (some 32) (bs 20 63455) ?_
            refine on HT_ 5 (some 22) (bs 20 63487) (fun K hK => ?_)
            refine goes_ Tryd.func39 (by kernel_rfl) rfl #[.int .i64 a1_0, .int .i64 (l0_1.length : Int)] (by rfl) rfl rfl (by (try simp only [List.map_toArray, List.map_cons, List.map_nil]); first | done | rfl | (simp only [List.length_drop, List.length_take]; rfl)) ?_
            with_reducible refine (macadamref00_Wrap.calls a1_0 (l0_1.length : Int) t410 _ A5.out).mono ?_
            rintro e w' ⟨rfl, ⟨nd, rfl⟩⟩
            refine ⟨_, rfl, ?_⟩
            refine hK.out _ _ ⟨(blk_cell BK407.out 0).trans rfl, (blk_cell BK407.out 1).trans rfl, (blk_cell BK407.out 2).trans rfl, (blk_cell BK406.out 0).trans rfl, (blk_cell BK406.out 1).trans rfl, (blk_cell BK406.out 2).trans rfl⟩ (fun hHeld => ?_)
            clear hK K
            refine nm 22 ?_
            refine on HT_ 11 (some 28) (bs 20 65535) (fun K hK => ?_)
            refine goes_ Tryd.func39 (by kernel_rfl) rfl #[.int .i64 a1_1, .int .i64 (l0_0.length : Int)] (by rfl) rfl rfl (by (try simp only [List.map_toArray, List.map_cons, List.map_nil]); first | done | rfl | (simp only [List.length_drop, List.length_take]; rfl)) ?_
            with_reducible refine (macadamref00_Wrap.calls a1_1 (l0_0.length : Int) t411 _ A6.out).mono ?_
            rintro e w' ⟨rfl, ⟨nd, rfl⟩⟩
            refine ⟨_, rfl, ?_⟩
            refine hK.out _ _ ⟨(blk_cell BK407.out 0).trans rfl, (blk_cell BK407.out 1).trans rfl, (blk_cell BK407.out 2).trans rfl, (blk_cell BK406.out 0).trans rfl, (blk_cell BK406.out 1).trans rfl, (blk_cell BK406.out 2).trans rfl⟩ (fun hHeld => ?_)
            clear hK K
            refine nm 28 ?_
            refine on HT_ 16 (some 33) (bs 20 131071) (fun K hK => ?_)
            refine goes_ Tryd.func39 (by kernel_rfl) rfl #[.int .i64 a1_2, .int .i64 a0_2] (by rfl) rfl rfl (by (try simp only [List.map_toArray, List.map_cons, List.map_nil]); first | done | rfl | (simp only [List.length_drop, List.length_take]; rfl)) ?_
            with_reducible refine (macadamref00_Wrap.calls a1_2 a0_2 t412 _ A7.out).mono ?_
            rintro e w' ⟨rfl, ⟨nd, rfl⟩⟩
            refine ⟨_, rfl, ?_⟩
            refine hK.out _ _ ⟨(blk_cell BK407.out 0).trans rfl, (blk_cell BK407.out 1).trans rfl, (blk_cell BK407.out 2).trans rfl, (blk_cell BK406.out 0).trans rfl, (blk_cell BK406.out 1).trans rfl, (blk_cell BK406.out 2).trans rfl⟩ (fun hHeld => ?_)
            clear hK K
            refine nm 33 ?_
            refine pu HT_ 17 (some 5) (bs 20 262143) ?_
            refine pu HT_ 18 (some 6) (bs 20 524287) ?_
            refine pu HT_ 19 (some 7) (bs 20 1048575) ?_
            refine done_ (done_of HT_.out (by kernel_rfl)) ?_
            obtain ⟨hcz50_0, hcz50_1, hcz50_2, hfz50_0, hfz50_1, hfz50_2⟩ := b3 BK406
            try go_wp2_with (first | ((with_reducible refine gate_callee (f := 15) rfl ?_); refine gL (some 38) Tryd.func15 #[.agg #[.slice A0_0 l0_0.length c0_0, .slice A0_1 l0_1.length c0_1, .int .i64 a0_2], .int .i64 t410, .int .i64 t411] ?_; (with_reducible refine (gang_Can.calls _ _ l0_0 _ _ l0_1 a0_2 t410 t411 t413 t416 _ ?side1 ?side2 ?side3 ?side4 ?side5 A8.out).mono ?_); (case side1 => repeat (first | exact (Kd.C_below HR0_0.out (bw2 HB GE406 GE407)) | (with_reducible refine Kd.C_alloc ?_ _) | (with_reducible refine Kd.C_drewN ?_ _) | (with_reducible refine Kd.C_drew ?_))); (case side2 => exact HC0_0.out); (case side3 => repeat (first | exact (Kd.C_below HR0_1.out (bw2 HB GE406 GE407)) | (with_reducible refine Kd.C_alloc ?_ _) | (with_reducible refine Kd.C_drewN ?_ _) | (with_reducible refine Kd.C_drew ?_))); (case side4 => exact HC0_1.out); (case side5 => exact gv_below HG.out (bw2 HB GE406 GE407)); rintro e w51 ⟨v414, rfl, ho0, hb⟩; refine ⟨_, rfl, ?_⟩; have n0_ := Aside0.mk (Kd.V_lower (Kd.V_mono (ok' := fun k_ => k_ ≠ gb406 ∧ k_ ≠ gb407) ho0 (fun k_ hk_ => ⟨(Kd.freshB (g := gb406) (o := .cells #[.slice A0_0 l0_0.length c0_0, .slice A0_1 l0_1.length c0_1, .int .i64 a0_2] 25 (0, 0)) (bm BK406) k_ hk_), (Kd.freshB (g := gb407) (o := .cells #[.int .i64 a1_0, .int .i64 a1_1, .int .i64 a1_2] 27 (0, 0)) (bm BK407) k_ hk_)⟩)) (below_size (bw2 HB GE406 GE407))); have n1_ := Aside0.mk (blk_below (bm BK406) hb); have n2_ := Aside0.mk (blk_below (bm BK407) hb); have n3_ := Aside0.mk (below_step (bw2 HB GE406 GE407) hb); clear BK406; clear BK407; clear HB; have HO415 := n0_; have BK406 := n1_; have BK407 := n2_; have HB := n3_; clear n0_ n1_ n2_ n3_; (try clear hb); (try clear hb2); (try clear hk); (try clear hi); (try clear ho0)))
            have n0_ := Aside0.mk (Kd.V_drew HO415.out)
            have n1_ := Aside0.mk (blk_drew BK406.out)
            have n2_ := Aside0.mk (blk_drew BK407.out)
            have n3_ := Aside0.mk (below_drew1 HB.out)
            clear HO415
            clear BK406
            clear BK407
            clear HB
            have HO415 := n0_
            have BK406 := n1_
            have BK407 := n2_
            have HB := n3_
            clear n0_ n1_ n2_ n3_
            refine start_ (n := 12) (S := fun w' => w'.cell? ⟨gb406, 0, none⟩ = some (.slice A0_0 l0_0.length c0_0) ∧ w'.cell? ⟨gb406, 1, none⟩ = some (.slice A0_1 l0_1.length c0_1) ∧ w'.cell? ⟨gb406, 2, none⟩ = some (.int .i64 a0_2)) (ds := []) (bs 12 0) (by kernel_rfl) rfl rfl ⟨(blk_cell BK406.out 0).trans rfl, (blk_cell BK406.out 1).trans rfl, (blk_cell BK406.out 2).trans rfl⟩ (fun hHeld => ?_); refine with_tabW macadamlaw04_GangReach.tab5 macadamlaw04_GangReach.bits5 (fun HT_ HW_ => ?_)
            generalize w51.drew = w52 at HO415 BK406 BK407 HB hHeld ⊢
            refine pu HT_ 1 (some 43) (bs 12 2) ?_
            refine pu HT_ 2 (some 44) (bs 12 6) ?_
            refine pu HT_ 3 (some 45) (bs 12 14) ?_
            refine tk3 HT_ HW_ hHeld 0 (some 42) (bs 12 15) ?_
            refine on HT_ 4 (some 46) (bs 12 31) (fun K hK => ?_)
            refine goes_ Tryd.func44 (by kernel_rfl) rfl #[.int .i64 t412, .int .i64 t410, .int .i64 t411] (by rfl) rfl rfl (by (try simp only [List.map_toArray, List.map_cons, List.map_nil]); first | done | rfl | (simp only [List.length_drop, List.length_take]; rfl)) ?_
            with_reducible refine (macadamlaw04_work.calls t412 t410 t411 t417 t418 t419 _ A9.out).mono ?_
            rintro e w53 ⟨rfl, hb⟩
            refine ⟨_, rfl, ?_⟩
            have n0_ := Aside0.mk (Kd.V_below (by (with_reducible repeat (first | apply Kd.V_alloc | apply Kd.V_drewN | apply Kd.V_drew)); exact HO415.out) hb)
            have n1_ := Aside0.mk (blk_below (bm BK406) hb)
            have n2_ := Aside0.mk (blk_below (bm BK407) hb)
            have n3_ := Aside0.mk (below_step (bw2 HB GE406 GE407) hb)
            clear HO415
            clear BK406
            clear BK407
            clear HB
            have HO415 := n0_
            have BK406 := n1_
            have BK407 := n2_
            have HB := n3_
            clear n0_ n1_ n2_ n3_
            (try clear hb)
            (try clear hb2)
            (try clear hk)
            (try clear hi)
            refine hK.out _ _ ⟨(blk_cell BK406.out 0).trans rfl, (blk_cell BK406.out 1).trans rfl, (blk_cell BK406.out 2).trans rfl⟩ (fun hHeld => ?_)
            clear hK K
            refine nm 46 ?_
            refine on HT_ 5 (some 47) (bs 12 63) (fun K hK => ?_)
            refine Kd.R_lit_step k59 _ 59 ?hg (N := 47) ?hd (xs := ([(⟨t417, t418, t419⟩ : S59)] : List (S59))) (inner := [.int .i64 t417, .int .i64 t418, .int .i64 t419]) (ok := fun _ => True) (okp := fun _ => True) ?hr ?hp (fun _ hk => hk) trivial (Below.refl _ _) (Nat.le_refl _) (by simp) ?_; (case hd => rfl); (case hg => rfl); (case hr => first | (go_simp; done) | (go_simp; rfl)); (case hp => exact (Reps.c3 (show Kd.M k59 _ _ _ (⟨t417, t418, t419⟩ : S59) [.int .i64 t417, .int .i64 t418, .int .i64 t419] from (k59_mkM _ _ _ (⟨t417, t418, t419⟩ : S59) )) (Reps.none _ _)))
            intro v421 w54 ho55 hb hg_ hnew_
            clear hg_ hnew_
            (first | rw [← Ny420.out] at ho55 | (simp only [Int.reduceToNat] at ho55; rw [← Ny420.out] at ho55))
            have n0_ := Aside0.mk (Kd.V_elder' (by (with_reducible repeat (first | apply Kd.V_alloc | apply Kd.V_drewN | apply Kd.V_drew)); exact HO415.out) (Kd.R_base ho55) hb)
            have n1_ := Aside0.mk (Kd.R_lower ho55 (below_size (bw2 HB GE406 GE407)))
            have n2_ := Aside0.mk (blk_below (bm BK406) hb)
            have n3_ := Aside0.mk (blk_below (bm BK407) hb)
            have n4_ := Aside0.mk (below_step (bw2 HB GE406 GE407) hb)
            clear HO415
            clear BK406
            clear BK407
            clear HB
            have HO415 := n0_
            have HO422 := n1_
            have BK406 := n2_
            have BK407 := n3_
            have HB := n4_
            clear n0_ n1_ n2_ n3_ n4_
            clear hb ho55
            obtain ⟨Ao56, co56, eo56⟩ := Kd.R_slice HO422.out
            (first | subst eo56 | (injection eo56 with f1_ f2_ f3_; have f4_ := f1_.symm; have f5_ := f3_.symm; clear f1_ f2_ f3_; subst f4_; subst f5_))
            refine hK.out _ _ ⟨(blk_cell BK406.out 0).trans rfl, (blk_cell BK406.out 1).trans rfl, (blk_cell BK406.out 2).trans rfl⟩ (fun hHeld => ?_)
            clear hK K
            refine nm 47 ?_
            refine on HT_ 6 (some 48) (bs 12 127) (fun K hK => ?_)
            refine goes_ Tryd.func20 (by kernel_rfl) rfl #[.agg #[.slice A0_0 l0_0.length c0_0, .slice A0_1 l0_1.length c0_1, .int .i64 a0_2], .slice Ao56 y420.length co56] (by rfl) rfl rfl (by (try simp only [List.map_toArray, List.map_cons, List.map_nil]); first | done | rfl | (simp only [List.length_drop, List.length_take]; rfl)) ?_
            with_reducible refine (gang_May.calls _ _ l0_0 _ _ l0_1 a0_2 _ _ y420 t423 t424 _ ?side1 ?side2 ?side3 ?side4 ?side5 ?side6 ?side7 A10.out).mono ?_
            (case side1 => repeat (first | exact (Kd.C_below HR0_0.out HB.out) | (with_reducible refine Kd.C_alloc ?_ _) | (with_reducible refine Kd.C_drewN ?_ _) | (with_reducible refine Kd.C_drew ?_)))
            (case side2 => exact HC0_0.out)
            (case side3 => repeat (first | exact (Kd.C_below HR0_1.out HB.out) | (with_reducible refine Kd.C_alloc ?_ _) | (with_reducible refine Kd.C_drewN ?_ _) | (with_reducible refine Kd.C_drew ?_)))
            (case side4 => exact HC0_1.out)
            (case side5 => repeat (first | exact (Kd.R_reads' HO422.out).2.2 | (with_reducible refine Kd.C_alloc ?_ _) | (with_reducible refine Kd.C_drewN ?_ _) | (with_reducible refine Kd.C_drew ?_)))
            (case side6 => exact (Kd.R_reads' HO422.out).2.1)
            (case side7 => exact gv_below HG.out (bw2 HB GE406 GE407))
            rintro e w57 ⟨rfl, hb⟩
            refine ⟨_, rfl, ?_⟩
            have n0_ := Aside0.mk (Kd.V_below (by (with_reducible repeat (first | apply Kd.V_alloc | apply Kd.V_drewN | apply Kd.V_drew)); exact HO415.out) hb)
            have n1_ := Aside0.mk (Kd.R_below (by (with_reducible repeat (first | apply Kd.R_alloc | apply Kd.R_drewN | apply Kd.R_drew)); exact HO422.out) hb)
            have n2_ := Aside0.mk (blk_below (bm BK406) hb)
            have n3_ := Aside0.mk (blk_below (bm BK407) hb)
            have n4_ := Aside0.mk (below_step (bw2 HB GE406 GE407) hb)
            clear HO415
            clear HO422
            clear BK406
            clear BK407
            clear HB
            have HO415 := n0_
            have HO422 := n1_
            have BK406 := n2_
            have BK407 := n3_
            have HB := n4_
            clear n0_ n1_ n2_ n3_ n4_
            (try clear hb)
            (try clear hb2)
            (try clear hk)
            (try clear hi)
            refine hK.out _ _ ⟨(blk_cell BK406.out 0).trans rfl, (blk_cell BK406.out 1).trans rfl, (blk_cell BK406.out 2).trans rfl⟩ (fun hHeld => ?_)
            clear hK K
            refine nm 48 ?_
            refine pu HT_ 7 (some 41) (bs 12 255) ?_
            refine pu HT_ 8 (some 49) (bs 12 511) ?_
            refine pu HT_ 9 (some 50) (bs 12 1023) ?_
            refine pu HT_ 10 (some 10) (bs 12 2047) ?_
            refine pu HT_ 11 (some 11) (bs 12 4095) ?_
            refine done_ (done_of HT_.out (by kernel_rfl)) ?_
            try go_wp2
            have n0_ := Aside0.mk (Kd.V_drew HO415.out)
            have n1_ := Aside0.mk (Kd.R_drew HO422.out)
            have n2_ := Aside0.mk (blk_drew BK406.out)
            have n3_ := Aside0.mk (blk_drew BK407.out)
            have n4_ := Aside0.mk (below_drew1 HB.out)
            clear HO415
            clear HO422
            clear BK406
            clear BK407
            clear HB
            have HO415 := n0_
            have HO422 := n1_
            have BK406 := n2_
            have BK407 := n3_
            have HB := n4_
            clear n0_ n1_ n2_ n3_ n4_
            have p425 : 0 ≤ (t410 : Int) := of_decide_eq_true (by first | (with_reducible assumption) | assumption)
            have q425 : t410 < (l0_1.length : Int) := of_decide_eq_true (by first | (with_reducible assumption) | assumption)
            obtain ⟨ad425, e425, hx425_0, hx425_1, hx425_2, hx425_3⟩ := at_T63 HR0_1.out t410 p425 q425
            have hw425_3 := hx425_3
            have hw425_2 := hx425_2
            have hw425_1 := hx425_1
            have hw425_0 := hx425_0
            cases e425
            replace hx425_0 := cB HB hx425_0
            replace hx425_1 := cB HB hx425_1
            replace hx425_2 := cB HB hx425_2
            replace hx425_3 := cB HB hx425_3
            replace p425 := eq_true p425
            replace q425 := eq_true q425
            have p426 : 0 ≤ (t410 : Int) := of_decide_eq_true (by first | (with_reducible assumption) | assumption)
            have q426 : t410 < (l0_1.length : Int) := of_decide_eq_true (by first | (with_reducible assumption) | assumption)
            obtain ⟨ad426, e426, hx426_0, hx426_1, hx426_2, hx426_3⟩ := at_T63 HR0_1.out t410 p426 q426
            have hw426_3 := hx426_3
            have hw426_2 := hx426_2
            have hw426_1 := hx426_1
            have hw426_0 := hx426_0
            obtain rfl : ad425 = ad426 := (by injection e426)
            replace hx426_0 := cB HB hx426_0
            replace hx426_1 := cB HB hx426_1
            replace hx426_2 := cB HB hx426_2
            replace hx426_3 := cB HB hx426_3
            replace p426 := eq_true p426
            replace q426 := eq_true q426
            refine start_ (n := 15) (S := fun w' => w'.cell? ⟨gb406, 0, none⟩ = some (.slice A0_0 l0_0.length c0_0) ∧ w'.cell? ⟨gb406, 1, none⟩ = some (.slice (some ad425) l0_1.length c0_1) ∧ w'.cell? ⟨gb406, 2, none⟩ = some (.int .i64 a0_2) ∧ w'.cell? (ad425.add ((t410).toNat * 4)) = some (.int .i64 ((rd_T63 l0_1 t410).f0)) ∧ w'.cell? ⟨(ad425.add ((t410).toNat * 4)).block, (ad425.add ((t410).toNat * 4)).off + 1, none⟩ = some (.int .i64 ((rd_T63 l0_1 t410).f1)) ∧ w'.cell? ⟨(ad425.add ((t410).toNat * 4)).block, (ad425.add ((t410).toNat * 4)).off + 2, none⟩ = some (.int .i64 ((rd_T63 l0_1 t410).f2.f0)) ∧ w'.cell? ⟨(ad425.add ((t410).toNat * 4)).block, (ad425.add ((t410).toNat * 4)).off + 3, none⟩ = some (.int .i64 ((rd_T63 l0_1 t410).f2.f1)) ∧ w'.cell? (ad425.add ((t410).toNat * 4)) = some (.int .i64 ((rd_T63 l0_1 t410).f0)) ∧ w'.cell? ⟨(ad425.add ((t410).toNat * 4)).block, (ad425.add ((t410).toNat * 4)).off + 1, none⟩ = some (.int .i64 ((rd_T63 l0_1 t410).f1)) ∧ w'.cell? ⟨(ad425.add ((t410).toNat * 4)).block, (ad425.add ((t410).toNat * 4)).off + 2, none⟩ = some (.int .i64 ((rd_T63 l0_1 t410).f2.f0)) ∧ w'.cell? ⟨(ad425.add ((t410).toNat * 4)).block, (ad425.add ((t410).toNat * 4)).off + 3, none⟩ = some (.int .i64 ((rd_T63 l0_1 t410).f2.f1))) (ds := []) (bs 15 0) (by kernel_rfl) rfl rfl ⟨(blk_cell BK406.out 0).trans rfl, (blk_cell BK406.out 1).trans rfl, (blk_cell BK406.out 2).trans rfl, (cB HB hw425_0 :), (cB HB hw425_1 :), (cB HB hw425_2 :), (cB HB hw425_3 :), (cB HB hw426_0 :), (cB HB hw426_1 :), (cB HB hw426_2 :), (cB HB hw426_3 :)⟩ (fun hHeld => ?_); refine with_tabW macadamlaw04_GangReach.tab6 macadamlaw04_GangReach.bits6 (fun HT_ HW_ => ?_)
            generalize w57.drew = w58 at HO415 HO422 BK406 BK407 HB hx425_0 hx425_1 hx425_2 hx425_3 hx426_0 hx426_1 hx426_2 hx426_3 hHeld ⊢
            refine pu HT_ 0 (some 51) (bs 15 1) ?_
            refine pu HT_ 1 (some 52) (bs 15 3) ?_
            refine pu HT_ 3 (some 54) (bs 15 11) ?_
            refine pu HT_ 7 (some 58) (bs 15 139) ?_
            refine pu HT_ 9 (some 60) (bs 15 651) ?_
            refine tk11 HT_ HW_ hHeld 2 (some 53) (bs 15 655) ?_
            refine pu HT_ 4 (some 55) (bs 15 671) ?_
            refine pu HT_ 5 (some 56) (bs 15 703) ?_
            refine tk11 HT_ HW_ hHeld 6 (some 57) (bs 15 767) ?_
            refine tk11 HT_ HW_ hHeld 8 (some 59) (bs 15 1023) ?_
            refine pu HT_ 10 (some 61) (bs 15 2047) ?_
            refine pu HT_ 11 (some 62) (bs 15 4095) ?_
            refine tk11 HT_ HW_ hHeld 12 (some 63) (bs 15 8191) ?_
            refine on HT_ 13 (some 64) (bs 15 16383) (fun K hK => ?_)
            refine goes_ Tryd.func45 (by kernel_rfl) rfl #[.int .i64 t411, .int .i64 ((rd_T63 l0_1 t410).f0), .int .i64 ((rd_T63 l0_1 t410).f1)] (by rfl) rfl rfl (by (try simp only [List.map_toArray, List.map_cons, List.map_nil]); first | done | rfl | (simp only [List.length_drop, List.length_take]; rfl)) ?_
            with_reducible refine (macadamref00_Amid.calls t411 ((rd_T63 l0_1 t410).f0) ((rd_T63 l0_1 t410).f1) true _ A13.out).mono ?_
            rintro e w' ⟨rfl, ⟨nd, rfl⟩⟩
            refine ⟨_, rfl, ?_⟩
            refine hK.out _ _ ⟨(blk_cell BK406.out 0).trans rfl, (blk_cell BK406.out 1).trans rfl, (blk_cell BK406.out 2).trans rfl, (cB HB hw425_0 :), (cB HB hw425_1 :), (cB HB hw425_2 :), (cB HB hw425_3 :), (cB HB hw426_0 :), (cB HB hw426_1 :), (cB HB hw426_2 :), (cB HB hw426_3 :)⟩ (fun hHeld => ?_)
            clear hK K
            refine nm 64 ?_
            refine pu HT_ 14 (some 12) (bs 15 32767) ?_
            refine done_ (done_of HT_.out (by kernel_rfl)) ?_
            obtain ⟨hcz59_0, hcz59_1, hcz59_2, hfz59_0, hfz59_1, hfz59_2⟩ := b3 BK406
            obtain ⟨Ao60, co60, eo60⟩ := Kd.V_slice HO415.out
            subst eo60
            try go_wp2_with (first | (go_at_call 42; (with_reducible refine (macadamref00_Rising.calls k _ _ t413 a0_2 true _ ?side1 ?side2 A16.out).mono ?_); (case side1 => repeat (first | exact (Kd.V_reads' HO415.out).2.2 | (with_reducible refine Kd.C_alloc ?_ _) | (with_reducible refine Kd.C_drewN ?_ _) | (with_reducible refine Kd.C_drew ?_))); (case side2 => exact (Kd.V_reads' HO415.out).2.1); rintro e w' ⟨rfl, ⟨nd, rfl⟩⟩) | (go_at_call 43; (with_reducible refine (macadamref00_Place.calls k _ _ t413 t412 t429 _ ?side1 ?side2 A18.out).mono ?_); (case side1 => repeat (first | exact (Kd.V_reads' HO415.out).2.2 | (with_reducible refine Kd.C_alloc ?_ _) | (with_reducible refine Kd.C_drewN ?_ _) | (with_reducible refine Kd.C_drew ?_))); (case side2 => exact (Kd.V_reads' HO415.out).2.1); rintro e w' ⟨rfl, ⟨nd, rfl⟩⟩; have p430 : 0 ≤ (t411 : Int) := of_decide_eq_true (by first | (with_reducible assumption) | assumption); have q430 : t411 < (l0_0.length : Int) := of_decide_eq_true (by first | (with_reducible assumption) | assumption); obtain ⟨ad430, e430, hx430_0, hx430_1, hx430_2⟩ := at_T66 HR0_0.out t411 p430 q430; cases e430; replace hx430_0 := cB HB hx430_0; replace hx430_1 := cB HB hx430_1; replace hx430_2 := cB HB hx430_2; replace p430 := eq_true p430; replace q430 := eq_true q430) | (go_at_call 46; (with_reducible refine (macadamref00_In.calls ((rd_T66 l0_0 t411).f1) t412 t431 _ A23.out).mono ?_); rintro e w' ⟨rfl, ⟨nd, rfl⟩⟩))
            go_ret
            exact ⟨by first | rfl | (simp [errW_none, errW_some] <;> rfl) | (simp [*, errW_none, errW_some] <;> rfl), bw2 HB GE406 GE407⟩
          ·rw [if_neg c22] at H
           exact absurd H (by simp)
         ·rw [if_neg c21] at H
          exact absurd H (by simp)
        ·replace c20 := Bool.eq_false_iff.mpr c20
         subst c20
         have H1 : (if (t423 == false) = true then ((macadamlaw04_shovelled.f).bind fun t433 => (some t433)) else (some false)) = some r := by rw [if_neg (show ¬ (false = true) by decide)] at H; exact H
         clear H
         have H := H1
         clear H1
         by_cases c61 : (t423 == false) = true
         ·rw [if_pos c61] at H
          have c61b0 : (t423 == false) = true := c61
          (try (have c61b1 : decide (t423 = false) = true := by simpa using c61))
          (try (have c61b2 : (t423 == false) = true := by simpa using c61))
          clear c61
          replace H := Option.bind_eq_some_iff.mp H
          obtain ⟨t433, A620, H⟩ := H
          replace H : (some t433) = some r := H
          have A62 := Aside0.mk A620
          clear A620
          obtain rfl := Option.some.inj H
          go_enter Tryd.func7, Tryd.ntmps7
          try go_wp2_with (first | ((with_reducible refine gate_dst (N := 2) rfl ?_); refine bx 2 #[.slice A0_0 l0_0.length c0_0, .slice A0_1 l0_1.length c0_1, .int .i64 a0_2] 25 ?_; intro gb406 hg w63 hbox hb; have n0_ := Aside0.mk (below_step (bw HB) hb); have n1_ := Aside0.mk (hbox); have n2_ := Aside0.mk (bz (bw HB) hg); have n3_ := Aside0.mk (bz (bw HB) hg); clear HB; have HB := n0_; have BK406 := n1_; have GW406 := n2_; have GE406 := n3_; clear n0_ n1_ n2_ n3_; clear hb hbox hg) | ((with_reducible refine gate_dst (N := 3) rfl ?_); refine bx 3 #[.int .i64 a1_0, .int .i64 a1_1, .int .i64 a1_2] 27 ?_; intro gb407 hg w64 hbox hb; have n0_ := Aside0.mk (blk_below (bm BK406) hb); have n1_ := Aside0.mk (below_step (bw1 HB GE406) hb); have n2_ := Aside0.mk (hbox); have n3_ := Aside0.mk (bz (bw1 HB GE406) hg); have n4_ := Aside0.mk (bz (bw1 HB GE406) hg); have n5_ := Aside0.mk (bl (bm BK406) hg); have n6_ := Aside0.mk (bg (bm BK406) hg); clear BK406; clear HB; have BK406 := n0_; have HB := n1_; have BK407 := n2_; have GW407 := n3_; have GE407 := n4_; have NB406_407 := n5_; have NB407_406 := n6_; clear n0_ n1_ n2_ n3_ n4_ n5_ n6_; clear hb hbox hg; have hnb65 := NB406_407.out; have hnc65 := NB407_406.out; obtain ⟨hcz66_0, hcz66_1, hcz66_2, hfz66_0, hfz66_1, hfz66_2⟩ := b3 BK406) | ((with_reducible refine gate_callee (f := 38) rfl ?_); refine gL (some 14) Tryd.func38 #[.agg #[.slice A0_0 l0_0.length c0_0, .slice A0_1 l0_1.length c0_1, .int .i64 a0_2]] ?_; (with_reducible refine (macadamlaw04_sound.calls k _ _ l0_0 _ _ l0_1 a0_2 true _ ?side1 ?side2 ?side3 ?side4 A3.out).mono ?_); (case side1 => repeat (first | exact (Kd.C_below HR0_0.out HB.out) | (with_reducible refine Kd.C_alloc ?_ _) | (with_reducible refine Kd.C_drewN ?_ _) | (with_reducible refine Kd.C_drew ?_))); (case side2 => exact HC0_0.out); (case side3 => repeat (first | exact (Kd.C_below HR0_1.out HB.out) | (with_reducible refine Kd.C_alloc ?_ _) | (with_reducible refine Kd.C_drewN ?_ _) | (with_reducible refine Kd.C_drew ?_))); (case side4 => exact HC0_1.out); rintro e w67 ⟨rfl, hb⟩; refine ⟨_, rfl, ?_⟩; have n0_ := Aside0.mk (blk_below (bm BK406) hb); have n1_ := Aside0.mk (blk_below (bm BK407) hb); have n2_ := Aside0.mk (below_step (bw2 HB GE406 GE407) hb); clear BK406; clear BK407; clear HB; have BK406 := n0_; have BK407 := n1_; have HB := n2_; clear n0_ n1_ n2_; (try clear hb); (try clear hb2); (try clear hk); (try clear hi)))
          have n0_ := Aside0.mk (blk_drew BK406.out)
          have n1_ := Aside0.mk (blk_drew BK407.out)
          have n2_ := Aside0.mk (below_drew1 HB.out)
          clear BK406
          clear BK407
          clear HB
          have BK406 := n0_
          have BK407 := n1_
          have HB := n2_
          clear n0_ n1_ n2_
          refine start_ (n := 20) (S := fun w' => w'.cell? ⟨gb407, 0, none⟩ = some (.int .i64 a1_0) ∧ w'.cell? ⟨gb407, 1, none⟩ = some (.int .i64 a1_1) ∧ w'.cell? ⟨gb407, 2, none⟩ = some (.int .i64 a1_2) ∧ w'.cell? ⟨gb406, 0, none⟩ = some (.slice A0_0 l0_0.length c0_0) ∧ w'.cell? ⟨gb406, 1, none⟩ = some (.slice A0_1 l0_1.length c0_1) ∧ w'.cell? ⟨gb406, 2, none⟩ = some (.int .i64 a0_2)) (ds := []) (bs 20 0) (by kernel_rfl) rfl rfl ⟨(blk_cell BK407.out 0).trans rfl, (blk_cell BK407.out 1).trans rfl, (blk_cell BK407.out 2).trans rfl, (blk_cell BK406.out 0).trans rfl, (blk_cell BK406.out 1).trans rfl, (blk_cell BK406.out 2).trans rfl⟩ (fun hHeld => ?_); refine with_tabW macadamlaw04_GangReach.tab3 macadamlaw04_GangReach.bits3 (fun HT_ HW_ => ?_)
          generalize w67.drew = w68 at BK406 BK407 HB hHeld ⊢
          refine pu HT_ 0 (some 17) (bs 20 1) ?_
          refine pu HT_ 2 (some 19) (bs 20 5) ?_
          refine pu HT_ 6 (some 23) (bs 20 69) ?_
          refine pu HT_ 8 (some 25) (bs 20 325) ?_
          refine pu HT_ 12 (some 29) (bs 20 4421) ?_
          refine pu HT_ 14 (some 31) (bs 20 20805) ?_
          refine tk6 HT_ HW_ hHeld 1 (some 18) (bs 20 20807) ?_
          refine tk6 HT_ HW_ hHeld 3 (some 20) (bs 20 20815) ?_
          refine pu HT_ 4 (some 21) (bs 20 20831) ?_
          refine tk6 HT_ HW_ hHeld 7 (some 24) (bs 20 20959) ?_
          refine tk6 HT_ HW_ hHeld 9 (some 26) (bs 20 21471) ?_
          refine pu HT_ 10 (some 27) (bs 20 22495) ?_
          refine tk6 HT_ HW_ hHeld 13 (some 30) (bs 20 30687) ?_
          refine tk6 HT_ HW_ hHeld 15 (some 32) (bs 20 63455) ?_
          refine on HT_ 5 (some 22) (bs 20 63487) (fun K hK => ?_)
          refine goes_ Tryd.func39 (by kernel_rfl) rfl #[.int .i64 a1_0, .int .i64 (l0_1.length : Int)] (by rfl) rfl rfl (by (try simp only [List.map_toArray, List.map_cons, List.map_nil]); first | done | rfl | (simp only [List.length_drop, List.length_take]; rfl)) ?_
          with_reducible refine (macadamref00_Wrap.calls a1_0 (l0_1.length : Int) t410 _ A5.out).mono ?_
          rintro e w' ⟨rfl, ⟨nd, rfl⟩⟩
          refine ⟨_, rfl, ?_⟩
          refine hK.out _ _ ⟨(blk_cell BK407.out 0).trans rfl, (blk_cell BK407.out 1).trans rfl, (blk_cell BK407.out 2).trans rfl, (blk_cell BK406.out 0).trans rfl, (blk_cell BK406.out 1).trans rfl, (blk_cell BK406.out 2).trans rfl⟩ (fun hHeld => ?_)
          clear hK K
          refine nm 22 ?_
          refine on HT_ 11 (some 28) (bs 20 65535) (fun K hK => ?_)
          refine goes_ Tryd.func39 (by kernel_rfl) rfl #[.int .i64 a1_1, .int .i64 (l0_0.length : Int)] (by rfl) rfl rfl (by (try simp only [List.map_toArray, List.map_cons, List.map_nil]); first | done | rfl | (simp only [List.length_drop, List.length_take]; rfl)) ?_
          with_reducible refine (macadamref00_Wrap.calls a1_1 (l0_0.length : Int) t411 _ A6.out).mono ?_
          rintro e w' ⟨rfl, ⟨nd, rfl⟩⟩
          refine ⟨_, rfl, ?_⟩
          refine hK.out _ _ ⟨(blk_cell BK407.out 0).trans rfl, (blk_cell BK407.out 1).trans rfl, (blk_cell BK407.out 2).trans rfl, (blk_cell BK406.out 0).trans rfl, (blk_cell BK406.out 1).trans rfl, (blk_cell BK406.out 2).trans rfl⟩ (fun hHeld => ?_)
          clear hK K
          refine nm 28 ?_
          refine on HT_ 16 (some 33) (bs 20 131071) (fun K hK => ?_)
          refine goes_ Tryd.func39 (by kernel_rfl) rfl #[.int .i64 a1_2, .int .i64 a0_2] (by rfl) rfl rfl (by (try simp only [List.map_toArray, List.map_cons, List.map_nil]); first | done | rfl | (simp only [List.length_drop, List.length_take]; rfl)) ?_
          with_reducible refine (macadamref00_Wrap.calls a1_2 a0_2 t412 _ A7.out).mono ?_
          rintro e w' ⟨rfl, ⟨nd, rfl⟩⟩
          refine ⟨_, rfl, ?_⟩
          refine hK.out _ _ ⟨(blk_cell BK407.out 0).trans rfl, (blk_cell BK407.out 1).trans rfl, (blk_cell BK407.out 2).trans rfl, (blk_cell BK406.out 0).trans rfl, (blk_cell BK406.out 1).trans rfl, (blk_cell BK406.out 2).trans rfl⟩ (fun hHeld => ?_)
          clear hK K
          refine nm 33 ?_
          refine pu HT_ 17 (some 5) (bs 20 262143) ?_
          refine pu HT_ 18 (some 6) (bs 20 524287) ?_
          refine pu HT_ 19 (some 7) (bs 20 1048575) ?_
          refine done_ (done_of HT_.out (by kernel_rfl)) ?_
          obtain ⟨hcz69_0, hcz69_1, hcz69_2, hfz69_0, hfz69_1, hfz69_2⟩ := b3 BK406
          try go_wp2_with (first | ((with_reducible refine gate_callee (f := 15) rfl ?_); refine gL (some 38) Tryd.func15 #[.agg #[.slice A0_0 l0_0.length c0_0, .slice A0_1 l0_1.length c0_1, .int .i64 a0_2], .int .i64 t410, .int .i64 t411] ?_; (with_reducible refine (gang_Can.calls _ _ l0_0 _ _ l0_1 a0_2 t410 t411 t413 t416 _ ?side1 ?side2 ?side3 ?side4 ?side5 A8.out).mono ?_); (case side1 => repeat (first | exact (Kd.C_below HR0_0.out (bw2 HB GE406 GE407)) | (with_reducible refine Kd.C_alloc ?_ _) | (with_reducible refine Kd.C_drewN ?_ _) | (with_reducible refine Kd.C_drew ?_))); (case side2 => exact HC0_0.out); (case side3 => repeat (first | exact (Kd.C_below HR0_1.out (bw2 HB GE406 GE407)) | (with_reducible refine Kd.C_alloc ?_ _) | (with_reducible refine Kd.C_drewN ?_ _) | (with_reducible refine Kd.C_drew ?_))); (case side4 => exact HC0_1.out); (case side5 => exact gv_below HG.out (bw2 HB GE406 GE407)); rintro e w70 ⟨v414, rfl, ho0, hb⟩; refine ⟨_, rfl, ?_⟩; have n0_ := Aside0.mk (Kd.V_lower (Kd.V_mono (ok' := fun k_ => k_ ≠ gb406 ∧ k_ ≠ gb407) ho0 (fun k_ hk_ => ⟨(Kd.freshB (g := gb406) (o := .cells #[.slice A0_0 l0_0.length c0_0, .slice A0_1 l0_1.length c0_1, .int .i64 a0_2] 25 (0, 0)) (bm BK406) k_ hk_), (Kd.freshB (g := gb407) (o := .cells #[.int .i64 a1_0, .int .i64 a1_1, .int .i64 a1_2] 27 (0, 0)) (bm BK407) k_ hk_)⟩)) (below_size (bw2 HB GE406 GE407))); have n1_ := Aside0.mk (blk_below (bm BK406) hb); have n2_ := Aside0.mk (blk_below (bm BK407) hb); have n3_ := Aside0.mk (below_step (bw2 HB GE406 GE407) hb); clear BK406; clear BK407; clear HB; have HO415 := n0_; have BK406 := n1_; have BK407 := n2_; have HB := n3_; clear n0_ n1_ n2_ n3_; (try clear hb); (try clear hb2); (try clear hk); (try clear hi); (try clear ho0)))
          have n0_ := Aside0.mk (Kd.V_drew HO415.out)
          have n1_ := Aside0.mk (blk_drew BK406.out)
          have n2_ := Aside0.mk (blk_drew BK407.out)
          have n3_ := Aside0.mk (below_drew1 HB.out)
          clear HO415
          clear BK406
          clear BK407
          clear HB
          have HO415 := n0_
          have BK406 := n1_
          have BK407 := n2_
          have HB := n3_
          clear n0_ n1_ n2_ n3_
          refine start_ (n := 12) (S := fun w' => w'.cell? ⟨gb406, 0, none⟩ = some (.slice A0_0 l0_0.length c0_0) ∧ w'.cell? ⟨gb406, 1, none⟩ = some (.slice A0_1 l0_1.length c0_1) ∧ w'.cell? ⟨gb406, 2, none⟩ = some (.int .i64 a0_2)) (ds := []) (bs 12 0) (by kernel_rfl) rfl rfl ⟨(blk_cell BK406.out 0).trans rfl, (blk_cell BK406.out 1).trans rfl, (blk_cell BK406.out 2).trans rfl⟩ (fun hHeld => ?_); refine with_tabW macadamlaw04_GangReach.tab5 macadamlaw04_GangReach.bits5 (fun HT_ HW_ => ?_)
          generalize w70.drew = w71 at HO415 BK406 BK407 HB hHeld ⊢
          refine pu HT_ 1 (some 43) (bs 12 2) ?_
          refine pu HT_ 2 (some 44) (bs 12 6) ?_
          refine pu HT_ 3 (some 45) (bs 12 14) ?_
          refine tk3 HT_ HW_ hHeld 0 (some 42) (bs 12 15) ?_
          refine on HT_ 4 (some 46) (bs 12 31) (fun K hK => ?_)
          refine goes_ Tryd.func44 (by kernel_rfl) rfl #[.int .i64 t412, .int .i64 t410, .int .i64 t411] (by rfl) rfl rfl (by (try simp only [List.map_toArray, List.map_cons, List.map_nil]); first | done | rfl | (simp only [List.length_drop, List.length_take]; rfl)) ?_
          with_reducible refine (macadamlaw04_work.calls t412 t410 t411 t417 t418 t419 _ A9.out).mono ?_
          rintro e w72 ⟨rfl, hb⟩
          refine ⟨_, rfl, ?_⟩
          have n0_ := Aside0.mk (Kd.V_below (by (with_reducible repeat (first | apply Kd.V_alloc | apply Kd.V_drewN | apply Kd.V_drew)); exact HO415.out) hb)
          have n1_ := Aside0.mk (blk_below (bm BK406) hb)
          have n2_ := Aside0.mk (blk_below (bm BK407) hb)
          have n3_ := Aside0.mk (below_step (bw2 HB GE406 GE407) hb)
          clear HO415
          clear BK406
          clear BK407
          clear HB
          have HO415 := n0_
          have BK406 := n1_
          have BK407 := n2_
          have HB := n3_
          clear n0_ n1_ n2_ n3_
          (try clear hb)
          (try clear hb2)
          (try clear hk)
          (try clear hi)
          refine hK.out _ _ ⟨(blk_cell BK406.out 0).trans rfl, (blk_cell BK406.out 1).trans rfl, (blk_cell BK406.out 2).trans rfl⟩ (fun hHeld => ?_)
          clear hK K
          refine nm 46 ?_
          refine on HT_ 5 (some 47) (bs 12 63) (fun K hK => ?_)
          refine Kd.R_lit_step k59 _ 59 ?hg (N := 47) ?hd (xs := ([(⟨t417, t418, t419⟩ : S59)] : List (S59))) (inner := [.int .i64 t417, .int .i64 t418, .int .i64 t419]) (ok := fun _ => True) (okp := fun _ => True) ?hr ?hp (fun _ hk => hk) trivial (Below.refl _ _) (Nat.le_refl _) (by simp) ?_; (case hd => rfl); (case hg => rfl); (case hr => first | (go_simp; done) | (go_simp; rfl)); (case hp => exact (Reps.c3 (show Kd.M k59 _ _ _ (⟨t417, t418, t419⟩ : S59) [.int .i64 t417, .int .i64 t418, .int .i64 t419] from (k59_mkM _ _ _ (⟨t417, t418, t419⟩ : S59) )) (Reps.none _ _)))
          intro v421 w73 ho74 hb hg_ hnew_
          clear hg_ hnew_
          (first | rw [← Ny420.out] at ho74 | (simp only [Int.reduceToNat] at ho74; rw [← Ny420.out] at ho74))
          have n0_ := Aside0.mk (Kd.V_elder' (by (with_reducible repeat (first | apply Kd.V_alloc | apply Kd.V_drewN | apply Kd.V_drew)); exact HO415.out) (Kd.R_base ho74) hb)
          have n1_ := Aside0.mk (Kd.R_lower ho74 (below_size (bw2 HB GE406 GE407)))
          have n2_ := Aside0.mk (blk_below (bm BK406) hb)
          have n3_ := Aside0.mk (blk_below (bm BK407) hb)
          have n4_ := Aside0.mk (below_step (bw2 HB GE406 GE407) hb)
          clear HO415
          clear BK406
          clear BK407
          clear HB
          have HO415 := n0_
          have HO422 := n1_
          have BK406 := n2_
          have BK407 := n3_
          have HB := n4_
          clear n0_ n1_ n2_ n3_ n4_
          clear hb ho74
          obtain ⟨Ao75, co75, eo75⟩ := Kd.R_slice HO422.out
          (first | subst eo75 | (injection eo75 with f1_ f2_ f3_; have f4_ := f1_.symm; have f5_ := f3_.symm; clear f1_ f2_ f3_; subst f4_; subst f5_))
          refine hK.out _ _ ⟨(blk_cell BK406.out 0).trans rfl, (blk_cell BK406.out 1).trans rfl, (blk_cell BK406.out 2).trans rfl⟩ (fun hHeld => ?_)
          clear hK K
          refine nm 47 ?_
          refine on HT_ 6 (some 48) (bs 12 127) (fun K hK => ?_)
          refine goes_ Tryd.func20 (by kernel_rfl) rfl #[.agg #[.slice A0_0 l0_0.length c0_0, .slice A0_1 l0_1.length c0_1, .int .i64 a0_2], .slice Ao75 y420.length co75] (by rfl) rfl rfl (by (try simp only [List.map_toArray, List.map_cons, List.map_nil]); first | done | rfl | (simp only [List.length_drop, List.length_take]; rfl)) ?_
          with_reducible refine (gang_May.calls _ _ l0_0 _ _ l0_1 a0_2 _ _ y420 t423 t424 _ ?side1 ?side2 ?side3 ?side4 ?side5 ?side6 ?side7 A10.out).mono ?_
          (case side1 => repeat (first | exact (Kd.C_below HR0_0.out HB.out) | (with_reducible refine Kd.C_alloc ?_ _) | (with_reducible refine Kd.C_drewN ?_ _) | (with_reducible refine Kd.C_drew ?_)))
          (case side2 => exact HC0_0.out)
          (case side3 => repeat (first | exact (Kd.C_below HR0_1.out HB.out) | (with_reducible refine Kd.C_alloc ?_ _) | (with_reducible refine Kd.C_drewN ?_ _) | (with_reducible refine Kd.C_drew ?_)))
          (case side4 => exact HC0_1.out)
          (case side5 => repeat (first | exact (Kd.R_reads' HO422.out).2.2 | (with_reducible refine Kd.C_alloc ?_ _) | (with_reducible refine Kd.C_drewN ?_ _) | (with_reducible refine Kd.C_drew ?_)))
          (case side6 => exact (Kd.R_reads' HO422.out).2.1)
          (case side7 => exact gv_below HG.out (bw2 HB GE406 GE407))
          rintro e w76 ⟨rfl, hb⟩
          refine ⟨_, rfl, ?_⟩
          have n0_ := Aside0.mk (Kd.V_below (by (with_reducible repeat (first | apply Kd.V_alloc | apply Kd.V_drewN | apply Kd.V_drew)); exact HO415.out) hb)
          have n1_ := Aside0.mk (Kd.R_below (by (with_reducible repeat (first | apply Kd.R_alloc | apply Kd.R_drewN | apply Kd.R_drew)); exact HO422.out) hb)
          have n2_ := Aside0.mk (blk_below (bm BK406) hb)
          have n3_ := Aside0.mk (blk_below (bm BK407) hb)
          have n4_ := Aside0.mk (below_step (bw2 HB GE406 GE407) hb)
          clear HO415
          clear HO422
          clear BK406
          clear BK407
          clear HB
          have HO415 := n0_
          have HO422 := n1_
          have BK406 := n2_
          have BK407 := n3_
          have HB := n4_
          clear n0_ n1_ n2_ n3_ n4_
          (try clear hb)
          (try clear hb2)
          (try clear hk)
          (try clear hi)
          refine hK.out _ _ ⟨(blk_cell BK406.out 0).trans rfl, (blk_cell BK406.out 1).trans rfl, (blk_cell BK406.out 2).trans rfl⟩ (fun hHeld => ?_)
          clear hK K
          refine nm 48 ?_
          refine pu HT_ 7 (some 41) (bs 12 255) ?_
          refine pu HT_ 8 (some 49) (bs 12 511) ?_
          refine pu HT_ 9 (some 50) (bs 12 1023) ?_
          refine pu HT_ 10 (some 10) (bs 12 2047) ?_
          refine pu HT_ 11 (some 11) (bs 12 4095) ?_
          refine done_ (done_of HT_.out (by kernel_rfl)) ?_
          try go_wp2
          have n0_ := Aside0.mk (Kd.V_drew HO415.out)
          have n1_ := Aside0.mk (Kd.R_drew HO422.out)
          have n2_ := Aside0.mk (blk_drew BK406.out)
          have n3_ := Aside0.mk (blk_drew BK407.out)
          have n4_ := Aside0.mk (below_drew1 HB.out)
          clear HO415
          clear HO422
          clear BK406
          clear BK407
          clear HB
          have HO415 := n0_
          have HO422 := n1_
          have BK406 := n2_
          have BK407 := n3_
          have HB := n4_
          clear n0_ n1_ n2_ n3_ n4_
          have p425 : 0 ≤ (t410 : Int) := of_decide_eq_true (by first | (with_reducible assumption) | assumption)
          have q425 : t410 < (l0_1.length : Int) := of_decide_eq_true (by first | (with_reducible assumption) | assumption)
          obtain ⟨ad425, e425, hx425_0, hx425_1, hx425_2, hx425_3⟩ := at_T63 HR0_1.out t410 p425 q425
          have hw425_3 := hx425_3
          have hw425_2 := hx425_2
          have hw425_1 := hx425_1
          have hw425_0 := hx425_0
          cases e425
          replace hx425_0 := cB HB hx425_0
          replace hx425_1 := cB HB hx425_1
          replace hx425_2 := cB HB hx425_2
          replace hx425_3 := cB HB hx425_3
          replace p425 := eq_true p425
          replace q425 := eq_true q425
          have p426 : 0 ≤ (t410 : Int) := of_decide_eq_true (by first | (with_reducible assumption) | assumption)
          have q426 : t410 < (l0_1.length : Int) := of_decide_eq_true (by first | (with_reducible assumption) | assumption)
          obtain ⟨ad426, e426, hx426_0, hx426_1, hx426_2, hx426_3⟩ := at_T63 HR0_1.out t410 p426 q426
          have hw426_3 := hx426_3
          have hw426_2 := hx426_2
          have hw426_1 := hx426_1
          have hw426_0 := hx426_0
          obtain rfl : ad425 = ad426 := (by injection e426)
          replace hx426_0 := cB HB hx426_0
          replace hx426_1 := cB HB hx426_1
          replace hx426_2 := cB HB hx426_2
          replace hx426_3 := cB HB hx426_3
          replace p426 := eq_true p426
          replace q426 := eq_true q426
          refine start_ (n := 15) (S := fun w' => w'.cell? ⟨gb406, 0, none⟩ = some (.slice A0_0 l0_0.length c0_0) ∧ w'.cell? ⟨gb406, 1, none⟩ = some (.slice (some ad425) l0_1.length c0_1) ∧ w'.cell? ⟨gb406, 2, none⟩ = some (.int .i64 a0_2) ∧ w'.cell? (ad425.add ((t410).toNat * 4)) = some (.int .i64 ((rd_T63 l0_1 t410).f0)) ∧ w'.cell? ⟨(ad425.add ((t410).toNat * 4)).block, (ad425.add ((t410).toNat * 4)).off + 1, none⟩ = some (.int .i64 ((rd_T63 l0_1 t410).f1)) ∧ w'.cell? ⟨(ad425.add ((t410).toNat * 4)).block, (ad425.add ((t410).toNat * 4)).off + 2, none⟩ = some (.int .i64 ((rd_T63 l0_1 t410).f2.f0)) ∧ w'.cell? ⟨(ad425.add ((t410).toNat * 4)).block, (ad425.add ((t410).toNat * 4)).off + 3, none⟩ = some (.int .i64 ((rd_T63 l0_1 t410).f2.f1)) ∧ w'.cell? (ad425.add ((t410).toNat * 4)) = some (.int .i64 ((rd_T63 l0_1 t410).f0)) ∧ w'.cell? ⟨(ad425.add ((t410).toNat * 4)).block, (ad425.add ((t410).toNat * 4)).off + 1, none⟩ = some (.int .i64 ((rd_T63 l0_1 t410).f1)) ∧ w'.cell? ⟨(ad425.add ((t410).toNat * 4)).block, (ad425.add ((t410).toNat * 4)).off + 2, none⟩ = some (.int .i64 ((rd_T63 l0_1 t410).f2.f0)) ∧ w'.cell? ⟨(ad425.add ((t410).toNat * 4)).block, (ad425.add ((t410).toNat * 4)).off + 3, none⟩ = some (.int .i64 ((rd_T63 l0_1 t410).f2.f1))) (ds := []) (bs 15 0) (by kernel_rfl) rfl rfl ⟨(blk_cell BK406.out 0).trans rfl, (blk_cell BK406.out 1).trans rfl, (blk_cell BK406.out 2).trans rfl, (cB HB hw425_0 :), (cB HB hw425_1 :), (cB HB hw425_2 :), (cB HB hw425_3 :), (cB HB hw426_0 :), (cB HB hw426_1 :), (cB HB hw426_2 :), (cB HB hw426_3 :)⟩ (fun hHeld => ?_); refine with_tabW macadamlaw04_GangReach.tab6 macadamlaw04_GangReach.bits6 (fun HT_ HW_ => ?_)
          generalize w76.drew = w77 at HO415 HO422 BK406 BK407 HB hx425_0 hx425_1 hx425_2 hx425_3 hx426_0 hx426_1 hx426_2 hx426_3 hHeld ⊢
          refine pu HT_ 0 (some 51) (bs 15 1) ?_
          refine pu HT_ 1 (some 52) (bs 15 3) ?_
          refine pu HT_ 3 (some 54) (bs 15 11) ?_
          refine pu HT_ 7 (some 58) (bs 15 139) ?_
          refine pu HT_ 9 (some 60) (bs 15 651) ?_
          refine tk11 HT_ HW_ hHeld 2 (some 53) (bs 15 655) ?_
          refine pu HT_ 4 (some 55) (bs 15 671) ?_
          refine pu HT_ 5 (some 56) (bs 15 703) ?_
          refine tk11 HT_ HW_ hHeld 6 (some 57) (bs 15 767) ?_
          refine tk11 HT_ HW_ hHeld 8 (some 59) (bs 15 1023) ?_
          refine pu HT_ 10 (some 61) (bs 15 2047) ?_
          refine pu HT_ 11 (some 62) (bs 15 4095) ?_
          refine tk11 HT_ HW_ hHeld 12 (some 63) (bs 15 8191) ?_
          refine on HT_ 13 (some 64) (bs 15 16383) (fun K hK => ?_)
          refine goes_ Tryd.func45 (by kernel_rfl) rfl #[.int .i64 t411, .int .i64 ((rd_T63 l0_1 t410).f0), .int .i64 ((rd_T63 l0_1 t410).f1)] (by rfl) rfl rfl (by (try simp only [List.map_toArray, List.map_cons, List.map_nil]); first | done | rfl | (simp only [List.length_drop, List.length_take]; rfl)) ?_
          with_reducible refine (macadamref00_Amid.calls t411 ((rd_T63 l0_1 t410).f0) ((rd_T63 l0_1 t410).f1) false _ A13.out).mono ?_
          rintro e w' ⟨rfl, ⟨nd, rfl⟩⟩
          refine ⟨_, rfl, ?_⟩
          refine hK.out _ _ ⟨(blk_cell BK406.out 0).trans rfl, (blk_cell BK406.out 1).trans rfl, (blk_cell BK406.out 2).trans rfl, (cB HB hw425_0 :), (cB HB hw425_1 :), (cB HB hw425_2 :), (cB HB hw425_3 :), (cB HB hw426_0 :), (cB HB hw426_1 :), (cB HB hw426_2 :), (cB HB hw426_3 :)⟩ (fun hHeld => ?_)
          clear hK K
          refine nm 64 ?_
          refine pu HT_ 14 (some 12) (bs 15 32767) ?_
          refine done_ (done_of HT_.out (by kernel_rfl)) ?_
          obtain ⟨hcz78_0, hcz78_1, hcz78_2, hfz78_0, hfz78_1, hfz78_2⟩ := b3 BK406
          obtain ⟨Ao79, co79, eo79⟩ := Kd.V_slice HO415.out
          subst eo79
          try go_wp2_with (first | (go_at_call 42; (with_reducible refine (macadamref00_Rising.calls k _ _ t413 a0_2 true _ ?side1 ?side2 A16.out).mono ?_); (case side1 => repeat (first | exact (Kd.V_reads' HO415.out).2.2 | (with_reducible refine Kd.C_alloc ?_ _) | (with_reducible refine Kd.C_drewN ?_ _) | (with_reducible refine Kd.C_drew ?_))); (case side2 => exact (Kd.V_reads' HO415.out).2.1); rintro e w' ⟨rfl, ⟨nd, rfl⟩⟩) | (go_at_call 43; (with_reducible refine (macadamref00_Place.calls k _ _ t413 t412 t429 _ ?side1 ?side2 A18.out).mono ?_); (case side1 => repeat (first | exact (Kd.V_reads' HO415.out).2.2 | (with_reducible refine Kd.C_alloc ?_ _) | (with_reducible refine Kd.C_drewN ?_ _) | (with_reducible refine Kd.C_drew ?_))); (case side2 => exact (Kd.V_reads' HO415.out).2.1); rintro e w' ⟨rfl, ⟨nd, rfl⟩⟩) | (go_at_call 24; (with_reducible refine (macadamlaw04_shovelled.calls  t433 _ ?side1 A62.out).mono ?_); (case side1 => exact gv_below HG.out (bw2 HB GE406 GE407)); rintro e w80 ⟨rfl, hb⟩; have n0_ := Aside0.mk (Kd.V_below (by (with_reducible repeat (first | apply Kd.V_alloc | apply Kd.V_drewN | apply Kd.V_drew)); exact HO415.out) hb); have n1_ := Aside0.mk (Kd.R_below (by (with_reducible repeat (first | apply Kd.R_alloc | apply Kd.R_drewN | apply Kd.R_drew)); exact HO422.out) hb); have n2_ := Aside0.mk (blk_below (bm BK406) hb); have n3_ := Aside0.mk (blk_below (bm BK407) hb); have n4_ := Aside0.mk (below_step (bw2 HB GE406 GE407) hb); clear HO415; clear HO422; clear BK406; clear BK407; clear HB; have HO415 := n0_; have HO422 := n1_; have BK406 := n2_; have BK407 := n3_; have HB := n4_; clear n0_ n1_ n2_ n3_ n4_; (try clear hb); (try clear hb2); (try clear hk); (try clear hi)))
          go_ret
          exact ⟨by first | rfl | (simp [errW_none, errW_some] <;> rfl) | (simp [*, errW_none, errW_some] <;> rfl), bw2 HB GE406 GE407⟩
         ·rw [if_neg c61] at H
          have c61b0 : (t423 == false) = false := by simpa using c61
          (try (have c61b1 : decide (t423 = false) = false := by simpa using c61))
          (try (have c61b2 : (t423 == false) = false := by simpa using c61))
          (try (have c61b3 : ¬ (t423 = false) := by simpa using c61))
          clear c61
          have c61b8 : t423 = true := by simpa using c61b0
          obtain rfl := Option.some.inj H
          go_enter Tryd.func7, Tryd.ntmps7
          try go_wp2_with (first | ((with_reducible refine gate_dst (N := 2) rfl ?_); refine bx 2 #[.slice A0_0 l0_0.length c0_0, .slice A0_1 l0_1.length c0_1, .int .i64 a0_2] 25 ?_; intro gb406 hg w81 hbox hb; have n0_ := Aside0.mk (below_step (bw HB) hb); have n1_ := Aside0.mk (hbox); have n2_ := Aside0.mk (bz (bw HB) hg); have n3_ := Aside0.mk (bz (bw HB) hg); clear HB; have HB := n0_; have BK406 := n1_; have GW406 := n2_; have GE406 := n3_; clear n0_ n1_ n2_ n3_; clear hb hbox hg) | ((with_reducible refine gate_dst (N := 3) rfl ?_); refine bx 3 #[.int .i64 a1_0, .int .i64 a1_1, .int .i64 a1_2] 27 ?_; intro gb407 hg w82 hbox hb; have n0_ := Aside0.mk (blk_below (bm BK406) hb); have n1_ := Aside0.mk (below_step (bw1 HB GE406) hb); have n2_ := Aside0.mk (hbox); have n3_ := Aside0.mk (bz (bw1 HB GE406) hg); have n4_ := Aside0.mk (bz (bw1 HB GE406) hg); have n5_ := Aside0.mk (bl (bm BK406) hg); have n6_ := Aside0.mk (bg (bm BK406) hg); clear BK406; clear HB; have BK406 := n0_; have HB := n1_; have BK407 := n2_; have GW407 := n3_; have GE407 := n4_; have NB406_407 := n5_; have NB407_406 := n6_; clear n0_ n1_ n2_ n3_ n4_ n5_ n6_; clear hb hbox hg; have hnb83 := NB406_407.out; have hnc83 := NB407_406.out; obtain ⟨hcz84_0, hcz84_1, hcz84_2, hfz84_0, hfz84_1, hfz84_2⟩ := b3 BK406) | ((with_reducible refine gate_callee (f := 38) rfl ?_); refine gL (some 14) Tryd.func38 #[.agg #[.slice A0_0 l0_0.length c0_0, .slice A0_1 l0_1.length c0_1, .int .i64 a0_2]] ?_; (with_reducible refine (macadamlaw04_sound.calls k _ _ l0_0 _ _ l0_1 a0_2 true _ ?side1 ?side2 ?side3 ?side4 A3.out).mono ?_); (case side1 => repeat (first | exact (Kd.C_below HR0_0.out HB.out) | (with_reducible refine Kd.C_alloc ?_ _) | (with_reducible refine Kd.C_drewN ?_ _) | (with_reducible refine Kd.C_drew ?_))); (case side2 => exact HC0_0.out); (case side3 => repeat (first | exact (Kd.C_below HR0_1.out HB.out) | (with_reducible refine Kd.C_alloc ?_ _) | (with_reducible refine Kd.C_drewN ?_ _) | (with_reducible refine Kd.C_drew ?_))); (case side4 => exact HC0_1.out); rintro e w85 ⟨rfl, hb⟩; refine ⟨_, rfl, ?_⟩; have n0_ := Aside0.mk (blk_below (bm BK406) hb); have n1_ := Aside0.mk (blk_below (bm BK407) hb); have n2_ := Aside0.mk (below_step (bw2 HB GE406 GE407) hb); clear BK406; clear BK407; clear HB; have BK406 := n0_; have BK407 := n1_; have HB := n2_; clear n0_ n1_ n2_; (try clear hb); (try clear hb2); (try clear hk); (try clear hi)))
          have n0_ := Aside0.mk (blk_drew BK406.out)
          have n1_ := Aside0.mk (blk_drew BK407.out)
          have n2_ := Aside0.mk (below_drew1 HB.out)
          clear BK406
          clear BK407
          clear HB
          have BK406 := n0_
          have BK407 := n1_
          have HB := n2_
          clear n0_ n1_ n2_
          refine start_ (n := 20) (S := fun w' => w'.cell? ⟨gb407, 0, none⟩ = some (.int .i64 a1_0) ∧ w'.cell? ⟨gb407, 1, none⟩ = some (.int .i64 a1_1) ∧ w'.cell? ⟨gb407, 2, none⟩ = some (.int .i64 a1_2) ∧ w'.cell? ⟨gb406, 0, none⟩ = some (.slice A0_0 l0_0.length c0_0) ∧ w'.cell? ⟨gb406, 1, none⟩ = some (.slice A0_1 l0_1.length c0_1) ∧ w'.cell? ⟨gb406, 2, none⟩ = some (.int .i64 a0_2)) (ds := []) (bs 20 0) (by kernel_rfl) rfl rfl ⟨(blk_cell BK407.out 0).trans rfl, (blk_cell BK407.out 1).trans rfl, (blk_cell BK407.out 2).trans rfl, (blk_cell BK406.out 0).trans rfl, (blk_cell BK406.out 1).trans rfl, (blk_cell BK406.out 2).trans rfl⟩ (fun hHeld => ?_); refine with_tabW macadamlaw04_GangReach.tab3 macadamlaw04_GangReach.bits3 (fun HT_ HW_ => ?_)
          generalize w85.drew = w86 at BK406 BK407 HB hHeld ⊢
          refine pu HT_ 0 (some 17) (bs 20 1) ?_
          refine pu HT_ 2 (some 19) (bs 20 5) ?_
          refine pu HT_ 6 (some 23) (bs 20 69) ?_
          refine pu HT_ 8 (some 25) (bs 20 325) ?_
          refine pu HT_ 12 (some 29) (bs 20 4421) ?_
          refine pu HT_ 14 (some 31) (bs 20 20805) ?_
          refine tk6 HT_ HW_ hHeld 1 (some 18) (bs 20 20807) ?_
          refine tk6 HT_ HW_ hHeld 3 (some 20) (bs 20 20815) ?_
          refine pu HT_ 4 (some 21) (bs 20 20831) ?_
          refine tk6 HT_ HW_ hHeld 7 (some 24) (bs 20 20959) ?_
          refine tk6 HT_ HW_ hHeld 9 (some 26) (bs 20 21471) ?_
          refine pu HT_ 10 (some 27) (bs 20 22495) ?_
          refine tk6 HT_ HW_ hHeld 13 (some 30) (bs 20 30687) ?_
          refine tk6 HT_ HW_ hHeld 15 (some 32) (bs 20 63455) ?_
          refine on HT_ 5 (some 22) (bs 20 63487) (fun K hK => ?_)
          refine goes_ Tryd.func39 (by kernel_rfl) rfl #[.int .i64 a1_0, .int .i64 (l0_1.length : Int)] (by rfl) rfl rfl (by (try simp only [List.map_toArray, List.map_cons, List.map_nil]); first | done | rfl | (simp only [List.length_drop, List.length_take]; rfl)) ?_
          with_reducible refine (macadamref00_Wrap.calls a1_0 (l0_1.length : Int) t410 _ A5.out).mono ?_
          rintro e w' ⟨rfl, ⟨nd, rfl⟩⟩
          refine ⟨_, rfl, ?_⟩
          refine hK.out _ _ ⟨(blk_cell BK407.out 0).trans rfl, (blk_cell BK407.out 1).trans rfl, (blk_cell BK407.out 2).trans rfl, (blk_cell BK406.out 0).trans rfl, (blk_cell BK406.out 1).trans rfl, (blk_cell BK406.out 2).trans rfl⟩ (fun hHeld => ?_)
          clear hK K
          refine nm 22 ?_
          refine on HT_ 11 (some 28) (bs 20 65535) (fun K hK => ?_)
          refine goes_ Tryd.func39 (by kernel_rfl) rfl #[.int .i64 a1_1, .int .i64 (l0_0.length : Int)] (by rfl) rfl rfl (by (try simp only [List.map_toArray, List.map_cons, List.map_nil]); first | done | rfl | (simp only [List.length_drop, List.length_take]; rfl)) ?_
          with_reducible refine (macadamref00_Wrap.calls a1_1 (l0_0.length : Int) t411 _ A6.out).mono ?_
          rintro e w' ⟨rfl, ⟨nd, rfl⟩⟩
          refine ⟨_, rfl, ?_⟩
          refine hK.out _ _ ⟨(blk_cell BK407.out 0).trans rfl, (blk_cell BK407.out 1).trans rfl, (blk_cell BK407.out 2).trans rfl, (blk_cell BK406.out 0).trans rfl, (blk_cell BK406.out 1).trans rfl, (blk_cell BK406.out 2).trans rfl⟩ (fun hHeld => ?_)
          clear hK K
          refine nm 28 ?_
          refine on HT_ 16 (some 33) (bs 20 131071) (fun K hK => ?_)
          refine goes_ Tryd.func39 (by kernel_rfl) rfl #[.int .i64 a1_2, .int .i64 a0_2] (by rfl) rfl rfl (by (try simp only [List.map_toArray, List.map_cons, List.map_nil]); first | done | rfl | (simp only [List.length_drop, List.length_take]; rfl)) ?_
          with_reducible refine (macadamref00_Wrap.calls a1_2 a0_2 t412 _ A7.out).mono ?_
          rintro e w' ⟨rfl, ⟨nd, rfl⟩⟩
          refine ⟨_, rfl, ?_⟩
          refine hK.out _ _ ⟨(blk_cell BK407.out 0).trans rfl, (blk_cell BK407.out 1).trans rfl, (blk_cell BK407.out 2).trans rfl, (blk_cell BK406.out 0).trans rfl, (blk_cell BK406.out 1).trans rfl, (blk_cell BK406.out 2).trans rfl⟩ (fun hHeld => ?_)
          clear hK K
          refine nm 33 ?_
          refine pu HT_ 17 (some 5) (bs 20 262143) ?_
          refine pu HT_ 18 (some 6) (bs 20 524287) ?_
          refine pu HT_ 19 (some 7) (bs 20 1048575) ?_
          refine done_ (done_of HT_.out (by kernel_rfl)) ?_
          obtain ⟨hcz87_0, hcz87_1, hcz87_2, hfz87_0, hfz87_1, hfz87_2⟩ := b3 BK406
          try go_wp2_with (first | ((with_reducible refine gate_callee (f := 15) rfl ?_); refine gL (some 38) Tryd.func15 #[.agg #[.slice A0_0 l0_0.length c0_0, .slice A0_1 l0_1.length c0_1, .int .i64 a0_2], .int .i64 t410, .int .i64 t411] ?_; (with_reducible refine (gang_Can.calls _ _ l0_0 _ _ l0_1 a0_2 t410 t411 t413 t416 _ ?side1 ?side2 ?side3 ?side4 ?side5 A8.out).mono ?_); (case side1 => repeat (first | exact (Kd.C_below HR0_0.out (bw2 HB GE406 GE407)) | (with_reducible refine Kd.C_alloc ?_ _) | (with_reducible refine Kd.C_drewN ?_ _) | (with_reducible refine Kd.C_drew ?_))); (case side2 => exact HC0_0.out); (case side3 => repeat (first | exact (Kd.C_below HR0_1.out (bw2 HB GE406 GE407)) | (with_reducible refine Kd.C_alloc ?_ _) | (with_reducible refine Kd.C_drewN ?_ _) | (with_reducible refine Kd.C_drew ?_))); (case side4 => exact HC0_1.out); (case side5 => exact gv_below HG.out (bw2 HB GE406 GE407)); rintro e w88 ⟨v414, rfl, ho0, hb⟩; refine ⟨_, rfl, ?_⟩; have n0_ := Aside0.mk (Kd.V_lower (Kd.V_mono (ok' := fun k_ => k_ ≠ gb406 ∧ k_ ≠ gb407) ho0 (fun k_ hk_ => ⟨(Kd.freshB (g := gb406) (o := .cells #[.slice A0_0 l0_0.length c0_0, .slice A0_1 l0_1.length c0_1, .int .i64 a0_2] 25 (0, 0)) (bm BK406) k_ hk_), (Kd.freshB (g := gb407) (o := .cells #[.int .i64 a1_0, .int .i64 a1_1, .int .i64 a1_2] 27 (0, 0)) (bm BK407) k_ hk_)⟩)) (below_size (bw2 HB GE406 GE407))); have n1_ := Aside0.mk (blk_below (bm BK406) hb); have n2_ := Aside0.mk (blk_below (bm BK407) hb); have n3_ := Aside0.mk (below_step (bw2 HB GE406 GE407) hb); clear BK406; clear BK407; clear HB; have HO415 := n0_; have BK406 := n1_; have BK407 := n2_; have HB := n3_; clear n0_ n1_ n2_ n3_; (try clear hb); (try clear hb2); (try clear hk); (try clear hi); (try clear ho0)))
          have n0_ := Aside0.mk (Kd.V_drew HO415.out)
          have n1_ := Aside0.mk (blk_drew BK406.out)
          have n2_ := Aside0.mk (blk_drew BK407.out)
          have n3_ := Aside0.mk (below_drew1 HB.out)
          clear HO415
          clear BK406
          clear BK407
          clear HB
          have HO415 := n0_
          have BK406 := n1_
          have BK407 := n2_
          have HB := n3_
          clear n0_ n1_ n2_ n3_
          refine start_ (n := 12) (S := fun w' => w'.cell? ⟨gb406, 0, none⟩ = some (.slice A0_0 l0_0.length c0_0) ∧ w'.cell? ⟨gb406, 1, none⟩ = some (.slice A0_1 l0_1.length c0_1) ∧ w'.cell? ⟨gb406, 2, none⟩ = some (.int .i64 a0_2)) (ds := []) (bs 12 0) (by kernel_rfl) rfl rfl ⟨(blk_cell BK406.out 0).trans rfl, (blk_cell BK406.out 1).trans rfl, (blk_cell BK406.out 2).trans rfl⟩ (fun hHeld => ?_); refine with_tabW macadamlaw04_GangReach.tab5 macadamlaw04_GangReach.bits5 (fun HT_ HW_ => ?_)
          generalize w88.drew = w89 at HO415 BK406 BK407 HB hHeld ⊢
          refine pu HT_ 1 (some 43) (bs 12 2) ?_
          refine pu HT_ 2 (some 44) (bs 12 6) ?_
          refine pu HT_ 3 (some 45) (bs 12 14) ?_
          refine tk3 HT_ HW_ hHeld 0 (some 42) (bs 12 15) ?_
          refine on HT_ 4 (some 46) (bs 12 31) (fun K hK => ?_)
          refine goes_ Tryd.func44 (by kernel_rfl) rfl #[.int .i64 t412, .int .i64 t410, .int .i64 t411] (by rfl) rfl rfl (by (try simp only [List.map_toArray, List.map_cons, List.map_nil]); first | done | rfl | (simp only [List.length_drop, List.length_take]; rfl)) ?_
          with_reducible refine (macadamlaw04_work.calls t412 t410 t411 t417 t418 t419 _ A9.out).mono ?_
          rintro e w90 ⟨rfl, hb⟩
          refine ⟨_, rfl, ?_⟩
          have n0_ := Aside0.mk (Kd.V_below (by (with_reducible repeat (first | apply Kd.V_alloc | apply Kd.V_drewN | apply Kd.V_drew)); exact HO415.out) hb)
          have n1_ := Aside0.mk (blk_below (bm BK406) hb)
          have n2_ := Aside0.mk (blk_below (bm BK407) hb)
          have n3_ := Aside0.mk (below_step (bw2 HB GE406 GE407) hb)
          clear HO415
          clear BK406
          clear BK407
          clear HB
          have HO415 := n0_
          have BK406 := n1_
          have BK407 := n2_
          have HB := n3_
          clear n0_ n1_ n2_ n3_
          (try clear hb)
          (try clear hb2)
          (try clear hk)
          (try clear hi)
          refine hK.out _ _ ⟨(blk_cell BK406.out 0).trans rfl, (blk_cell BK406.out 1).trans rfl, (blk_cell BK406.out 2).trans rfl⟩ (fun hHeld => ?_)
          clear hK K
          refine nm 46 ?_
          refine on HT_ 5 (some 47) (bs 12 63) (fun K hK => ?_)
          refine Kd.R_lit_step k59 _ 59 ?hg (N := 47) ?hd (xs := ([(⟨t417, t418, t419⟩ : S59)] : List (S59))) (inner := [.int .i64 t417, .int .i64 t418, .int .i64 t419]) (ok := fun _ => True) (okp := fun _ => True) ?hr ?hp (fun _ hk => hk) trivial (Below.refl _ _) (Nat.le_refl _) (by simp) ?_; (case hd => rfl); (case hg => rfl); (case hr => first | (go_simp; done) | (go_simp; rfl)); (case hp => exact (Reps.c3 (show Kd.M k59 _ _ _ (⟨t417, t418, t419⟩ : S59) [.int .i64 t417, .int .i64 t418, .int .i64 t419] from (k59_mkM _ _ _ (⟨t417, t418, t419⟩ : S59) )) (Reps.none _ _)))
          intro v421 w91 ho92 hb hg_ hnew_
          clear hg_ hnew_
          (first | rw [← Ny420.out] at ho92 | (simp only [Int.reduceToNat] at ho92; rw [← Ny420.out] at ho92))
          have n0_ := Aside0.mk (Kd.V_elder' (by (with_reducible repeat (first | apply Kd.V_alloc | apply Kd.V_drewN | apply Kd.V_drew)); exact HO415.out) (Kd.R_base ho92) hb)
          have n1_ := Aside0.mk (Kd.R_lower ho92 (below_size (bw2 HB GE406 GE407)))
          have n2_ := Aside0.mk (blk_below (bm BK406) hb)
          have n3_ := Aside0.mk (blk_below (bm BK407) hb)
          have n4_ := Aside0.mk (below_step (bw2 HB GE406 GE407) hb)
          clear HO415
          clear BK406
          clear BK407
          clear HB
          have HO415 := n0_
          have HO422 := n1_
          have BK406 := n2_
          have BK407 := n3_
          have HB := n4_
          clear n0_ n1_ n2_ n3_ n4_
          clear hb ho92
          obtain ⟨Ao93, co93, eo93⟩ := Kd.R_slice HO422.out
          (first | subst eo93 | (injection eo93 with f1_ f2_ f3_; have f4_ := f1_.symm; have f5_ := f3_.symm; clear f1_ f2_ f3_; subst f4_; subst f5_))
          refine hK.out _ _ ⟨(blk_cell BK406.out 0).trans rfl, (blk_cell BK406.out 1).trans rfl, (blk_cell BK406.out 2).trans rfl⟩ (fun hHeld => ?_)
          clear hK K
          refine nm 47 ?_
          refine on HT_ 6 (some 48) (bs 12 127) (fun K hK => ?_)
          refine goes_ Tryd.func20 (by kernel_rfl) rfl #[.agg #[.slice A0_0 l0_0.length c0_0, .slice A0_1 l0_1.length c0_1, .int .i64 a0_2], .slice Ao93 y420.length co93] (by rfl) rfl rfl (by (try simp only [List.map_toArray, List.map_cons, List.map_nil]); first | done | rfl | (simp only [List.length_drop, List.length_take]; rfl)) ?_
          with_reducible refine (gang_May.calls _ _ l0_0 _ _ l0_1 a0_2 _ _ y420 t423 t424 _ ?side1 ?side2 ?side3 ?side4 ?side5 ?side6 ?side7 A10.out).mono ?_
          (case side1 => repeat (first | exact (Kd.C_below HR0_0.out HB.out) | (with_reducible refine Kd.C_alloc ?_ _) | (with_reducible refine Kd.C_drewN ?_ _) | (with_reducible refine Kd.C_drew ?_)))
          (case side2 => exact HC0_0.out)
          (case side3 => repeat (first | exact (Kd.C_below HR0_1.out HB.out) | (with_reducible refine Kd.C_alloc ?_ _) | (with_reducible refine Kd.C_drewN ?_ _) | (with_reducible refine Kd.C_drew ?_)))
          (case side4 => exact HC0_1.out)
          (case side5 => repeat (first | exact (Kd.R_reads' HO422.out).2.2 | (with_reducible refine Kd.C_alloc ?_ _) | (with_reducible refine Kd.C_drewN ?_ _) | (with_reducible refine Kd.C_drew ?_)))
          (case side6 => exact (Kd.R_reads' HO422.out).2.1)
          (case side7 => exact gv_below HG.out (bw2 HB GE406 GE407))
          rintro e w94 ⟨rfl, hb⟩
          refine ⟨_, rfl, ?_⟩
          have n0_ := Aside0.mk (Kd.V_below (by (with_reducible repeat (first | apply Kd.V_alloc | apply Kd.V_drewN | apply Kd.V_drew)); exact HO415.out) hb)
          have n1_ := Aside0.mk (Kd.R_below (by (with_reducible repeat (first | apply Kd.R_alloc | apply Kd.R_drewN | apply Kd.R_drew)); exact HO422.out) hb)
          have n2_ := Aside0.mk (blk_below (bm BK406) hb)
          have n3_ := Aside0.mk (blk_below (bm BK407) hb)
          have n4_ := Aside0.mk (below_step (bw2 HB GE406 GE407) hb)
          clear HO415
          clear HO422
          clear BK406
          clear BK407
          clear HB
          have HO415 := n0_
          have HO422 := n1_
          have BK406 := n2_
          have BK407 := n3_
          have HB := n4_
          clear n0_ n1_ n2_ n3_ n4_
          (try clear hb)
          (try clear hb2)
          (try clear hk)
          (try clear hi)
          refine hK.out _ _ ⟨(blk_cell BK406.out 0).trans rfl, (blk_cell BK406.out 1).trans rfl, (blk_cell BK406.out 2).trans rfl⟩ (fun hHeld => ?_)
          clear hK K
          refine nm 48 ?_
          refine pu HT_ 7 (some 41) (bs 12 255) ?_
          refine pu HT_ 8 (some 49) (bs 12 511) ?_
          refine pu HT_ 9 (some 50) (bs 12 1023) ?_
          refine pu HT_ 10 (some 10) (bs 12 2047) ?_
          refine pu HT_ 11 (some 11) (bs 12 4095) ?_
          refine done_ (done_of HT_.out (by kernel_rfl)) ?_
          try go_wp2
          have n0_ := Aside0.mk (Kd.V_drew HO415.out)
          have n1_ := Aside0.mk (Kd.R_drew HO422.out)
          have n2_ := Aside0.mk (blk_drew BK406.out)
          have n3_ := Aside0.mk (blk_drew BK407.out)
          have n4_ := Aside0.mk (below_drew1 HB.out)
          clear HO415
          clear HO422
          clear BK406
          clear BK407
          clear HB
          have HO415 := n0_
          have HO422 := n1_
          have BK406 := n2_
          have BK407 := n3_
          have HB := n4_
          clear n0_ n1_ n2_ n3_ n4_
          have p425 : 0 ≤ (t410 : Int) := of_decide_eq_true (by first | (with_reducible assumption) | assumption)
          have q425 : t410 < (l0_1.length : Int) := of_decide_eq_true (by first | (with_reducible assumption) | assumption)
          obtain ⟨ad425, e425, hx425_0, hx425_1, hx425_2, hx425_3⟩ := at_T63 HR0_1.out t410 p425 q425
          have hw425_3 := hx425_3
          have hw425_2 := hx425_2
          have hw425_1 := hx425_1
          have hw425_0 := hx425_0
          cases e425
          replace hx425_0 := cB HB hx425_0
          replace hx425_1 := cB HB hx425_1
          replace hx425_2 := cB HB hx425_2
          replace hx425_3 := cB HB hx425_3
          replace p425 := eq_true p425
          replace q425 := eq_true q425
          have p426 : 0 ≤ (t410 : Int) := of_decide_eq_true (by first | (with_reducible assumption) | assumption)
          have q426 : t410 < (l0_1.length : Int) := of_decide_eq_true (by first | (with_reducible assumption) | assumption)
          obtain ⟨ad426, e426, hx426_0, hx426_1, hx426_2, hx426_3⟩ := at_T63 HR0_1.out t410 p426 q426
          have hw426_3 := hx426_3
          have hw426_2 := hx426_2
          have hw426_1 := hx426_1
          have hw426_0 := hx426_0
          obtain rfl : ad425 = ad426 := (by injection e426)
          replace hx426_0 := cB HB hx426_0
          replace hx426_1 := cB HB hx426_1
          replace hx426_2 := cB HB hx426_2
          replace hx426_3 := cB HB hx426_3
          replace p426 := eq_true p426
          replace q426 := eq_true q426
          refine start_ (n := 15) (S := fun w' => w'.cell? ⟨gb406, 0, none⟩ = some (.slice A0_0 l0_0.length c0_0) ∧ w'.cell? ⟨gb406, 1, none⟩ = some (.slice (some ad425) l0_1.length c0_1) ∧ w'.cell? ⟨gb406, 2, none⟩ = some (.int .i64 a0_2) ∧ w'.cell? (ad425.add ((t410).toNat * 4)) = some (.int .i64 ((rd_T63 l0_1 t410).f0)) ∧ w'.cell? ⟨(ad425.add ((t410).toNat * 4)).block, (ad425.add ((t410).toNat * 4)).off + 1, none⟩ = some (.int .i64 ((rd_T63 l0_1 t410).f1)) ∧ w'.cell? ⟨(ad425.add ((t410).toNat * 4)).block, (ad425.add ((t410).toNat * 4)).off + 2, none⟩ = some (.int .i64 ((rd_T63 l0_1 t410).f2.f0)) ∧ w'.cell? ⟨(ad425.add ((t410).toNat * 4)).block, (ad425.add ((t410).toNat * 4)).off + 3, none⟩ = some (.int .i64 ((rd_T63 l0_1 t410).f2.f1)) ∧ w'.cell? (ad425.add ((t410).toNat * 4)) = some (.int .i64 ((rd_T63 l0_1 t410).f0)) ∧ w'.cell? ⟨(ad425.add ((t410).toNat * 4)).block, (ad425.add ((t410).toNat * 4)).off + 1, none⟩ = some (.int .i64 ((rd_T63 l0_1 t410).f1)) ∧ w'.cell? ⟨(ad425.add ((t410).toNat * 4)).block, (ad425.add ((t410).toNat * 4)).off + 2, none⟩ = some (.int .i64 ((rd_T63 l0_1 t410).f2.f0)) ∧ w'.cell? ⟨(ad425.add ((t410).toNat * 4)).block, (ad425.add ((t410).toNat * 4)).off + 3, none⟩ = some (.int .i64 ((rd_T63 l0_1 t410).f2.f1))) (ds := []) (bs 15 0) (by kernel_rfl) rfl rfl ⟨(blk_cell BK406.out 0).trans rfl, (blk_cell BK406.out 1).trans rfl, (blk_cell BK406.out 2).trans rfl, (cB HB hw425_0 :), (cB HB hw425_1 :), (cB HB hw425_2 :), (cB HB hw425_3 :), (cB HB hw426_0 :), (cB HB hw426_1 :), (cB HB hw426_2 :), (cB HB hw426_3 :)⟩ (fun hHeld => ?_); refine with_tabW macadamlaw04_GangReach.tab6 macadamlaw04_GangReach.bits6 (fun HT_ HW_ => ?_)
          generalize w94.drew = w95 at HO415 HO422 BK406 BK407 HB hx425_0 hx425_1 hx425_2 hx425_3 hx426_0 hx426_1 hx426_2 hx426_3 hHeld ⊢
          refine pu HT_ 0 (some 51) (bs 15 1) ?_
          refine pu HT_ 1 (some 52) (bs 15 3) ?_
          refine pu HT_ 3 (some 54) (bs 15 11) ?_
          refine pu HT_ 7 (some 58) (bs 15 139) ?_
          refine pu HT_ 9 (some 60) (bs 15 651) ?_
          refine tk11 HT_ HW_ hHeld 2 (some 53) (bs 15 655) ?_
          refine pu HT_ 4 (some 55) (bs 15 671) ?_
          refine pu HT_ 5 (some 56) (bs 15 703) ?_
          refine tk11 HT_ HW_ hHeld 6 (some 57) (bs 15 767) ?_
          refine tk11 HT_ HW_ hHeld 8 (some 59) (bs 15 1023) ?_
          refine pu HT_ 10 (some 61) (bs 15 2047) ?_
          refine pu HT_ 11 (some 62) (bs 15 4095) ?_
          refine tk11 HT_ HW_ hHeld 12 (some 63) (bs 15 8191) ?_
          refine on HT_ 13 (some 64) (bs 15 16383) (fun K hK => ?_)
          refine goes_ Tryd.func45 (by kernel_rfl) rfl #[.int .i64 t411, .int .i64 ((rd_T63 l0_1 t410).f0), .int .i64 ((rd_T63 l0_1 t410).f1)] (by rfl) rfl rfl (by (try simp only [List.map_toArray, List.map_cons, List.map_nil]); first | done | rfl | (simp only [List.length_drop, List.length_take]; rfl)) ?_
          with_reducible refine (macadamref00_Amid.calls t411 ((rd_T63 l0_1 t410).f0) ((rd_T63 l0_1 t410).f1) false _ A13.out).mono ?_
          rintro e w' ⟨rfl, ⟨nd, rfl⟩⟩
          refine ⟨_, rfl, ?_⟩
          refine hK.out _ _ ⟨(blk_cell BK406.out 0).trans rfl, (blk_cell BK406.out 1).trans rfl, (blk_cell BK406.out 2).trans rfl, (cB HB hw425_0 :), (cB HB hw425_1 :), (cB HB hw425_2 :), (cB HB hw425_3 :), (cB HB hw426_0 :), (cB HB hw426_1 :), (cB HB hw426_2 :), (cB HB hw426_3 :)⟩ (fun hHeld => ?_)
          clear hK K
          refine nm 64 ?_
          refine pu HT_ 14 (some 12) (bs 15 32767) ?_
          refine done_ (done_of HT_.out (by kernel_rfl)) ?_
          obtain ⟨hcz96_0, hcz96_1, hcz96_2, hfz96_0, hfz96_1, hfz96_2⟩ := b3 BK406
          obtain ⟨Ao97, co97, eo97⟩ := Kd.V_slice HO415.out
          subst eo97
          try go_wp2_with (first | (go_at_call 42; (with_reducible refine (macadamref00_Rising.calls k _ _ t413 a0_2 true _ ?side1 ?side2 A16.out).mono ?_); (case side1 => repeat (first | exact (Kd.V_reads' HO415.out).2.2 | (with_reducible refine Kd.C_alloc ?_ _) | (with_reducible refine Kd.C_drewN ?_ _) | (with_reducible refine Kd.C_drew ?_))); (case side2 => exact (Kd.V_reads' HO415.out).2.1); rintro e w' ⟨rfl, ⟨nd, rfl⟩⟩) | (go_at_call 43; (with_reducible refine (macadamref00_Place.calls k _ _ t413 t412 t429 _ ?side1 ?side2 A18.out).mono ?_); (case side1 => repeat (first | exact (Kd.V_reads' HO415.out).2.2 | (with_reducible refine Kd.C_alloc ?_ _) | (with_reducible refine Kd.C_drewN ?_ _) | (with_reducible refine Kd.C_drew ?_))); (case side2 => exact (Kd.V_reads' HO415.out).2.1); rintro e w' ⟨rfl, ⟨nd, rfl⟩⟩))
          all_goals (go_ret; exact ⟨by first | rfl | (simp [errW_none, errW_some] <;> rfl) | (simp [*, errW_none, errW_some] <;> rfl), bw2 HB GE406 GE407⟩)
       ·rw [if_neg c19] at H
        have c19b0 : ((decide (t429 ≥ 0)) == t423) = false := by simpa using c19
        (try (have c19b1 : decide ((decide (t429 ≥ 0)) = t423) = false := by simpa using c19))
        (try (have c19b2 : ((decide (t429 ≥ 0)) == t423) = false := by simpa using c19))
        (try (have c19b3 : ¬ ((decide (t429 ≥ 0)) = t423) := by simpa using c19))
        clear c19
        obtain rfl := Option.some.inj H
        go_enter Tryd.func7, Tryd.ntmps7
        try go_wp2_with (first | ((with_reducible refine gate_dst (N := 2) rfl ?_); refine bx 2 #[.slice A0_0 l0_0.length c0_0, .slice A0_1 l0_1.length c0_1, .int .i64 a0_2] 25 ?_; intro gb406 hg w98 hbox hb; have n0_ := Aside0.mk (below_step (bw HB) hb); have n1_ := Aside0.mk (hbox); have n2_ := Aside0.mk (bz (bw HB) hg); have n3_ := Aside0.mk (bz (bw HB) hg); clear HB; have HB := n0_; have BK406 := n1_; have GW406 := n2_; have GE406 := n3_; clear n0_ n1_ n2_ n3_; clear hb hbox hg) | ((with_reducible refine gate_dst (N := 3) rfl ?_); refine bx 3 #[.int .i64 a1_0, .int .i64 a1_1, .int .i64 a1_2] 27 ?_; intro gb407 hg w99 hbox hb; have n0_ := Aside0.mk (blk_below (bm BK406) hb); have n1_ := Aside0.mk (below_step (bw1 HB GE406) hb); have n2_ := Aside0.mk (hbox); have n3_ := Aside0.mk (bz (bw1 HB GE406) hg); have n4_ := Aside0.mk (bz (bw1 HB GE406) hg); have n5_ := Aside0.mk (bl (bm BK406) hg); have n6_ := Aside0.mk (bg (bm BK406) hg); clear BK406; clear HB; have BK406 := n0_; have HB := n1_; have BK407 := n2_; have GW407 := n3_; have GE407 := n4_; have NB406_407 := n5_; have NB407_406 := n6_; clear n0_ n1_ n2_ n3_ n4_ n5_ n6_; clear hb hbox hg; have hnb100 := NB406_407.out; have hnc100 := NB407_406.out; obtain ⟨hcz101_0, hcz101_1, hcz101_2, hfz101_0, hfz101_1, hfz101_2⟩ := b3 BK406) | ((with_reducible refine gate_callee (f := 38) rfl ?_); refine gL (some 14) Tryd.func38 #[.agg #[.slice A0_0 l0_0.length c0_0, .slice A0_1 l0_1.length c0_1, .int .i64 a0_2]] ?_; (with_reducible refine (macadamlaw04_sound.calls k _ _ l0_0 _ _ l0_1 a0_2 true _ ?side1 ?side2 ?side3 ?side4 A3.out).mono ?_); (case side1 => repeat (first | exact (Kd.C_below HR0_0.out HB.out) | (with_reducible refine Kd.C_alloc ?_ _) | (with_reducible refine Kd.C_drewN ?_ _) | (with_reducible refine Kd.C_drew ?_))); (case side2 => exact HC0_0.out); (case side3 => repeat (first | exact (Kd.C_below HR0_1.out HB.out) | (with_reducible refine Kd.C_alloc ?_ _) | (with_reducible refine Kd.C_drewN ?_ _) | (with_reducible refine Kd.C_drew ?_))); (case side4 => exact HC0_1.out); rintro e w102 ⟨rfl, hb⟩; refine ⟨_, rfl, ?_⟩; have n0_ := Aside0.mk (blk_below (bm BK406) hb); have n1_ := Aside0.mk (blk_below (bm BK407) hb); have n2_ := Aside0.mk (below_step (bw2 HB GE406 GE407) hb); clear BK406; clear BK407; clear HB; have BK406 := n0_; have BK407 := n1_; have HB := n2_; clear n0_ n1_ n2_; (try clear hb); (try clear hb2); (try clear hk); (try clear hi)))
        have n0_ := Aside0.mk (blk_drew BK406.out)
        have n1_ := Aside0.mk (blk_drew BK407.out)
        have n2_ := Aside0.mk (below_drew1 HB.out)
        clear BK406
        clear BK407
        clear HB
        have BK406 := n0_
        have BK407 := n1_
        have HB := n2_
        clear n0_ n1_ n2_
        refine start_ (n := 20) (S := fun w' => w'.cell? ⟨gb407, 0, none⟩ = some (.int .i64 a1_0) ∧ w'.cell? ⟨gb407, 1, none⟩ = some (.int .i64 a1_1) ∧ w'.cell? ⟨gb407, 2, none⟩ = some (.int .i64 a1_2) ∧ w'.cell? ⟨gb406, 0, none⟩ = some (.slice A0_0 l0_0.length c0_0) ∧ w'.cell? ⟨gb406, 1, none⟩ = some (.slice A0_1 l0_1.length c0_1) ∧ w'.cell? ⟨gb406, 2, none⟩ = some (.int .i64 a0_2)) (ds := []) (bs 20 0) (by kernel_rfl) rfl rfl ⟨(blk_cell BK407.out 0).trans rfl, (blk_cell BK407.out 1).trans rfl, (blk_cell BK407.out 2).trans rfl, (blk_cell BK406.out 0).trans rfl, (blk_cell BK406.out 1).trans rfl, (blk_cell BK406.out 2).trans rfl⟩ (fun hHeld => ?_); refine with_tabW macadamlaw04_GangReach.tab3 macadamlaw04_GangReach.bits3 (fun HT_ HW_ => ?_)
        generalize w102.drew = w103 at BK406 BK407 HB hHeld ⊢
        refine pu HT_ 0 (some 17) (bs 20 1) ?_
        refine pu HT_ 2 (some 19) (bs 20 5) ?_
        refine pu HT_ 6 (some 23) (bs 20 69) ?_
        refine pu HT_ 8 (some 25) (bs 20 325) ?_
        refine pu HT_ 12 (some 29) (bs 20 4421) ?_
        refine pu HT_ 14 (some 31) (bs 20 20805) ?_
        refine tk6 HT_ HW_ hHeld 1 (some 18) (bs 20 20807) ?_
        refine tk6 HT_ HW_ hHeld 3 (some 20) (bs 20 20815) ?_
        refine pu HT_ 4 (some 21) (bs 20 20831) ?_
        refine tk6 HT_ HW_ hHeld 7 (some 24) (bs 20 20959) ?_
        refine tk6 HT_ HW_ hHeld 9 (some 26) (bs 20 21471) ?_
        refine pu HT_ 10 (some 27) (bs 20 22495) ?_
        refine tk6 HT_ HW_ hHeld 13 (some 30) (bs 20 30687) ?_
        refine tk6 HT_ HW_ hHeld 15 (some 32) (bs 20 63455) ?_
        refine on HT_ 5 (some 22) (bs 20 63487) (fun K hK => ?_)
        refine goes_ Tryd.func39 (by kernel_rfl) rfl #[.int .i64 a1_0, .int .i64 (l0_1.length : Int)] (by rfl) rfl rfl (by (try simp only [List.map_toArray, List.map_cons, List.map_nil]); first | done | rfl | (simp only [List.length_drop, List.length_take]; rfl)) ?_
        with_reducible refine (macadamref00_Wrap.calls a1_0 (l0_1.length : Int) t410 _ A5.out).mono ?_
        rintro e w' ⟨rfl, ⟨nd, rfl⟩⟩
        refine ⟨_, rfl, ?_⟩
        refine hK.out _ _ ⟨(blk_cell BK407.out 0).trans rfl, (blk_cell BK407.out 1).trans rfl, (blk_cell BK407.out 2).trans rfl, (blk_cell BK406.out 0).trans rfl, (blk_cell BK406.out 1).trans rfl, (blk_cell BK406.out 2).trans rfl⟩ (fun hHeld => ?_)
        clear hK K
        refine nm 22 ?_
        refine on HT_ 11 (some 28) (bs 20 65535) (fun K hK => ?_)
        refine goes_ Tryd.func39 (by kernel_rfl) rfl #[.int .i64 a1_1, .int .i64 (l0_0.length : Int)] (by rfl) rfl rfl (by (try simp only [List.map_toArray, List.map_cons, List.map_nil]); first | done | rfl | (simp only [List.length_drop, List.length_take]; rfl)) ?_
        with_reducible refine (macadamref00_Wrap.calls a1_1 (l0_0.length : Int) t411 _ A6.out).mono ?_
        rintro e w' ⟨rfl, ⟨nd, rfl⟩⟩
        refine ⟨_, rfl, ?_⟩
        refine hK.out _ _ ⟨(blk_cell BK407.out 0).trans rfl, (blk_cell BK407.out 1).trans rfl, (blk_cell BK407.out 2).trans rfl, (blk_cell BK406.out 0).trans rfl, (blk_cell BK406.out 1).trans rfl, (blk_cell BK406.out 2).trans rfl⟩ (fun hHeld => ?_)
        clear hK K
        refine nm 28 ?_
        refine on HT_ 16 (some 33) (bs 20 131071) (fun K hK => ?_)
        refine goes_ Tryd.func39 (by kernel_rfl) rfl #[.int .i64 a1_2, .int .i64 a0_2] (by rfl) rfl rfl (by (try simp only [List.map_toArray, List.map_cons, List.map_nil]); first | done | rfl | (simp only [List.length_drop, List.length_take]; rfl)) ?_
        with_reducible refine (macadamref00_Wrap.calls a1_2 a0_2 t412 _ A7.out).mono ?_
        rintro e w' ⟨rfl, ⟨nd, rfl⟩⟩
        refine ⟨_, rfl, ?_⟩
        refine hK.out _ _ ⟨(blk_cell BK407.out 0).trans rfl, (blk_cell BK407.out 1).trans rfl, (blk_cell BK407.out 2).trans rfl, (blk_cell BK406.out 0).trans rfl, (blk_cell BK406.out 1).trans rfl, (blk_cell BK406.out 2).trans rfl⟩ (fun hHeld => ?_)
        clear hK K
        refine nm 33 ?_
        refine pu HT_ 17 (some 5) (bs 20 262143) ?_
        refine pu HT_ 18 (some 6) (bs 20 524287) ?_
        refine pu HT_ 19 (some 7) (bs 20 1048575) ?_
        refine done_ (done_of HT_.out (by kernel_rfl)) ?_
        obtain ⟨hcz104_0, hcz104_1, hcz104_2, hfz104_0, hfz104_1, hfz104_2⟩ := b3 BK406
        try go_wp2_with (first | ((with_reducible refine gate_callee (f := 15) rfl ?_); refine gL (some 38) Tryd.func15 #[.agg #[.slice A0_0 l0_0.length c0_0, .slice A0_1 l0_1.length c0_1, .int .i64 a0_2], .int .i64 t410, .int .i64 t411] ?_; (with_reducible refine (gang_Can.calls _ _ l0_0 _ _ l0_1 a0_2 t410 t411 t413 t416 _ ?side1 ?side2 ?side3 ?side4 ?side5 A8.out).mono ?_); (case side1 => repeat (first | exact (Kd.C_below HR0_0.out (bw2 HB GE406 GE407)) | (with_reducible refine Kd.C_alloc ?_ _) | (with_reducible refine Kd.C_drewN ?_ _) | (with_reducible refine Kd.C_drew ?_))); (case side2 => exact HC0_0.out); (case side3 => repeat (first | exact (Kd.C_below HR0_1.out (bw2 HB GE406 GE407)) | (with_reducible refine Kd.C_alloc ?_ _) | (with_reducible refine Kd.C_drewN ?_ _) | (with_reducible refine Kd.C_drew ?_))); (case side4 => exact HC0_1.out); (case side5 => exact gv_below HG.out (bw2 HB GE406 GE407)); rintro e w105 ⟨v414, rfl, ho0, hb⟩; refine ⟨_, rfl, ?_⟩; have n0_ := Aside0.mk (Kd.V_lower (Kd.V_mono (ok' := fun k_ => k_ ≠ gb406 ∧ k_ ≠ gb407) ho0 (fun k_ hk_ => ⟨(Kd.freshB (g := gb406) (o := .cells #[.slice A0_0 l0_0.length c0_0, .slice A0_1 l0_1.length c0_1, .int .i64 a0_2] 25 (0, 0)) (bm BK406) k_ hk_), (Kd.freshB (g := gb407) (o := .cells #[.int .i64 a1_0, .int .i64 a1_1, .int .i64 a1_2] 27 (0, 0)) (bm BK407) k_ hk_)⟩)) (below_size (bw2 HB GE406 GE407))); have n1_ := Aside0.mk (blk_below (bm BK406) hb); have n2_ := Aside0.mk (blk_below (bm BK407) hb); have n3_ := Aside0.mk (below_step (bw2 HB GE406 GE407) hb); clear BK406; clear BK407; clear HB; have HO415 := n0_; have BK406 := n1_; have BK407 := n2_; have HB := n3_; clear n0_ n1_ n2_ n3_; (try clear hb); (try clear hb2); (try clear hk); (try clear hi); (try clear ho0)))
        have n0_ := Aside0.mk (Kd.V_drew HO415.out)
        have n1_ := Aside0.mk (blk_drew BK406.out)
        have n2_ := Aside0.mk (blk_drew BK407.out)
        have n3_ := Aside0.mk (below_drew1 HB.out)
        clear HO415
        clear BK406
        clear BK407
        clear HB
        have HO415 := n0_
        have BK406 := n1_
        have BK407 := n2_
        have HB := n3_
        clear n0_ n1_ n2_ n3_
        refine start_ (n := 12) (S := fun w' => w'.cell? ⟨gb406, 0, none⟩ = some (.slice A0_0 l0_0.length c0_0) ∧ w'.cell? ⟨gb406, 1, none⟩ = some (.slice A0_1 l0_1.length c0_1) ∧ w'.cell? ⟨gb406, 2, none⟩ = some (.int .i64 a0_2)) (ds := []) (bs 12 0) (by kernel_rfl) rfl rfl ⟨(blk_cell BK406.out 0).trans rfl, (blk_cell BK406.out 1).trans rfl, (blk_cell BK406.out 2).trans rfl⟩ (fun hHeld => ?_); refine with_tabW macadamlaw04_GangReach.tab5 macadamlaw04_GangReach.bits5 (fun HT_ HW_ => ?_)
        generalize w105.drew = w106 at HO415 BK406 BK407 HB hHeld ⊢
        refine pu HT_ 1 (some 43) (bs 12 2) ?_
        refine pu HT_ 2 (some 44) (bs 12 6) ?_
        refine pu HT_ 3 (some 45) (bs 12 14) ?_
        refine tk3 HT_ HW_ hHeld 0 (some 42) (bs 12 15) ?_
        refine on HT_ 4 (some 46) (bs 12 31) (fun K hK => ?_)
        refine goes_ Tryd.func44 (by kernel_rfl) rfl #[.int .i64 t412, .int .i64 t410, .int .i64 t411] (by rfl) rfl rfl (by (try simp only [List.map_toArray, List.map_cons, List.map_nil]); first | done | rfl | (simp only [List.length_drop, List.length_take]; rfl)) ?_
        with_reducible refine (macadamlaw04_work.calls t412 t410 t411 t417 t418 t419 _ A9.out).mono ?_
        rintro e w107 ⟨rfl, hb⟩
        refine ⟨_, rfl, ?_⟩
        have n0_ := Aside0.mk (Kd.V_below (by (with_reducible repeat (first | apply Kd.V_alloc | apply Kd.V_drewN | apply Kd.V_drew)); exact HO415.out) hb)
        have n1_ := Aside0.mk (blk_below (bm BK406) hb)
        have n2_ := Aside0.mk (blk_below (bm BK407) hb)
        have n3_ := Aside0.mk (below_step (bw2 HB GE406 GE407) hb)
        clear HO415
        clear BK406
        clear BK407
        clear HB
        have HO415 := n0_
        have BK406 := n1_
        have BK407 := n2_
        have HB := n3_
        clear n0_ n1_ n2_ n3_
        (try clear hb)
        (try clear hb2)
        (try clear hk)
        (try clear hi)
        refine hK.out _ _ ⟨(blk_cell BK406.out 0).trans rfl, (blk_cell BK406.out 1).trans rfl, (blk_cell BK406.out 2).trans rfl⟩ (fun hHeld => ?_)
        clear hK K
        refine nm 46 ?_
        refine on HT_ 5 (some 47) (bs 12 63) (fun K hK => ?_)
        refine Kd.R_lit_step k59 _ 59 ?hg (N := 47) ?hd (xs := ([(⟨t417, t418, t419⟩ : S59)] : List (S59))) (inner := [.int .i64 t417, .int .i64 t418, .int .i64 t419]) (ok := fun _ => True) (okp := fun _ => True) ?hr ?hp (fun _ hk => hk) trivial (Below.refl _ _) (Nat.le_refl _) (by simp) ?_; (case hd => rfl); (case hg => rfl); (case hr => first | (go_simp; done) | (go_simp; rfl)); (case hp => exact (Reps.c3 (show Kd.M k59 _ _ _ (⟨t417, t418, t419⟩ : S59) [.int .i64 t417, .int .i64 t418, .int .i64 t419] from (k59_mkM _ _ _ (⟨t417, t418, t419⟩ : S59) )) (Reps.none _ _)))
        intro v421 w108 ho109 hb hg_ hnew_
        clear hg_ hnew_
        (first | rw [← Ny420.out] at ho109 | (simp only [Int.reduceToNat] at ho109; rw [← Ny420.out] at ho109))
        have n0_ := Aside0.mk (Kd.V_elder' (by (with_reducible repeat (first | apply Kd.V_alloc | apply Kd.V_drewN | apply Kd.V_drew)); exact HO415.out) (Kd.R_base ho109) hb)
        have n1_ := Aside0.mk (Kd.R_lower ho109 (below_size (bw2 HB GE406 GE407)))
        have n2_ := Aside0.mk (blk_below (bm BK406) hb)
        have n3_ := Aside0.mk (blk_below (bm BK407) hb)
        have n4_ := Aside0.mk (below_step (bw2 HB GE406 GE407) hb)
        clear HO415
        clear BK406
        clear BK407
        clear HB
        have HO415 := n0_
        have HO422 := n1_
        have BK406 := n2_
        have BK407 := n3_
        have HB := n4_
        clear n0_ n1_ n2_ n3_ n4_
        clear hb ho109
        obtain ⟨Ao110, co110, eo110⟩ := Kd.R_slice HO422.out
        (first | subst eo110 | (injection eo110 with f1_ f2_ f3_; have f4_ := f1_.symm; have f5_ := f3_.symm; clear f1_ f2_ f3_; subst f4_; subst f5_))
        refine hK.out _ _ ⟨(blk_cell BK406.out 0).trans rfl, (blk_cell BK406.out 1).trans rfl, (blk_cell BK406.out 2).trans rfl⟩ (fun hHeld => ?_)
        clear hK K
        refine nm 47 ?_
        refine on HT_ 6 (some 48) (bs 12 127) (fun K hK => ?_)
        refine goes_ Tryd.func20 (by kernel_rfl) rfl #[.agg #[.slice A0_0 l0_0.length c0_0, .slice A0_1 l0_1.length c0_1, .int .i64 a0_2], .slice Ao110 y420.length co110] (by rfl) rfl rfl (by (try simp only [List.map_toArray, List.map_cons, List.map_nil]); first | done | rfl | (simp only [List.length_drop, List.length_take]; rfl)) ?_
        with_reducible refine (gang_May.calls _ _ l0_0 _ _ l0_1 a0_2 _ _ y420 t423 t424 _ ?side1 ?side2 ?side3 ?side4 ?side5 ?side6 ?side7 A10.out).mono ?_
        (case side1 => repeat (first | exact (Kd.C_below HR0_0.out HB.out) | (with_reducible refine Kd.C_alloc ?_ _) | (with_reducible refine Kd.C_drewN ?_ _) | (with_reducible refine Kd.C_drew ?_)))
        (case side2 => exact HC0_0.out)
        (case side3 => repeat (first | exact (Kd.C_below HR0_1.out HB.out) | (with_reducible refine Kd.C_alloc ?_ _) | (with_reducible refine Kd.C_drewN ?_ _) | (with_reducible refine Kd.C_drew ?_)))
        (case side4 => exact HC0_1.out)
        (case side5 => repeat (first | exact (Kd.R_reads' HO422.out).2.2 | (with_reducible refine Kd.C_alloc ?_ _) | (with_reducible refine Kd.C_drewN ?_ _) | (with_reducible refine Kd.C_drew ?_)))
        (case side6 => exact (Kd.R_reads' HO422.out).2.1)
        (case side7 => exact gv_below HG.out (bw2 HB GE406 GE407))
        rintro e w111 ⟨rfl, hb⟩
        refine ⟨_, rfl, ?_⟩
        have n0_ := Aside0.mk (Kd.V_below (by (with_reducible repeat (first | apply Kd.V_alloc | apply Kd.V_drewN | apply Kd.V_drew)); exact HO415.out) hb)
        have n1_ := Aside0.mk (Kd.R_below (by (with_reducible repeat (first | apply Kd.R_alloc | apply Kd.R_drewN | apply Kd.R_drew)); exact HO422.out) hb)
        have n2_ := Aside0.mk (blk_below (bm BK406) hb)
        have n3_ := Aside0.mk (blk_below (bm BK407) hb)
        have n4_ := Aside0.mk (below_step (bw2 HB GE406 GE407) hb)
        clear HO415
        clear HO422
        clear BK406
        clear BK407
        clear HB
        have HO415 := n0_
        have HO422 := n1_
        have BK406 := n2_
        have BK407 := n3_
        have HB := n4_
        clear n0_ n1_ n2_ n3_ n4_
        (try clear hb)
        (try clear hb2)
        (try clear hk)
        (try clear hi)
        refine hK.out _ _ ⟨(blk_cell BK406.out 0).trans rfl, (blk_cell BK406.out 1).trans rfl, (blk_cell BK406.out 2).trans rfl⟩ (fun hHeld => ?_)
        clear hK K
        refine nm 48 ?_
        refine pu HT_ 7 (some 41) (bs 12 255) ?_
        refine pu HT_ 8 (some 49) (bs 12 511) ?_
        refine pu HT_ 9 (some 50) (bs 12 1023) ?_
        refine pu HT_ 10 (some 10) (bs 12 2047) ?_
        refine pu HT_ 11 (some 11) (bs 12 4095) ?_
        refine done_ (done_of HT_.out (by kernel_rfl)) ?_
        try go_wp2
        have n0_ := Aside0.mk (Kd.V_drew HO415.out)
        have n1_ := Aside0.mk (Kd.R_drew HO422.out)
        have n2_ := Aside0.mk (blk_drew BK406.out)
        have n3_ := Aside0.mk (blk_drew BK407.out)
        have n4_ := Aside0.mk (below_drew1 HB.out)
        clear HO415
        clear HO422
        clear BK406
        clear BK407
        clear HB
        have HO415 := n0_
        have HO422 := n1_
        have BK406 := n2_
        have BK407 := n3_
        have HB := n4_
        clear n0_ n1_ n2_ n3_ n4_
        have p425 : 0 ≤ (t410 : Int) := of_decide_eq_true (by first | (with_reducible assumption) | assumption)
        have q425 : t410 < (l0_1.length : Int) := of_decide_eq_true (by first | (with_reducible assumption) | assumption)
        obtain ⟨ad425, e425, hx425_0, hx425_1, hx425_2, hx425_3⟩ := at_T63 HR0_1.out t410 p425 q425
        have hw425_3 := hx425_3
        have hw425_2 := hx425_2
        have hw425_1 := hx425_1
        have hw425_0 := hx425_0
        cases e425
        replace hx425_0 := cB HB hx425_0
        replace hx425_1 := cB HB hx425_1
        replace hx425_2 := cB HB hx425_2
        replace hx425_3 := cB HB hx425_3
        replace p425 := eq_true p425
        replace q425 := eq_true q425
        have p426 : 0 ≤ (t410 : Int) := of_decide_eq_true (by first | (with_reducible assumption) | assumption)
        have q426 : t410 < (l0_1.length : Int) := of_decide_eq_true (by first | (with_reducible assumption) | assumption)
        obtain ⟨ad426, e426, hx426_0, hx426_1, hx426_2, hx426_3⟩ := at_T63 HR0_1.out t410 p426 q426
        have hw426_3 := hx426_3
        have hw426_2 := hx426_2
        have hw426_1 := hx426_1
        have hw426_0 := hx426_0
        obtain rfl : ad425 = ad426 := (by injection e426)
        replace hx426_0 := cB HB hx426_0
        replace hx426_1 := cB HB hx426_1
        replace hx426_2 := cB HB hx426_2
        replace hx426_3 := cB HB hx426_3
        replace p426 := eq_true p426
        replace q426 := eq_true q426
        refine start_ (n := 15) (S := fun w' => w'.cell? ⟨gb406, 0, none⟩ = some (.slice A0_0 l0_0.length c0_0) ∧ w'.cell? ⟨gb406, 1, none⟩ = some (.slice (some ad425) l0_1.length c0_1) ∧ w'.cell? ⟨gb406, 2, none⟩ = some (.int .i64 a0_2) ∧ w'.cell? (ad425.add ((t410).toNat * 4)) = some (.int .i64 ((rd_T63 l0_1 t410).f0)) ∧ w'.cell? ⟨(ad425.add ((t410).toNat * 4)).block, (ad425.add ((t410).toNat * 4)).off + 1, none⟩ = some (.int .i64 ((rd_T63 l0_1 t410).f1)) ∧ w'.cell? ⟨(ad425.add ((t410).toNat * 4)).block, (ad425.add ((t410).toNat * 4)).off + 2, none⟩ = some (.int .i64 ((rd_T63 l0_1 t410).f2.f0)) ∧ w'.cell? ⟨(ad425.add ((t410).toNat * 4)).block, (ad425.add ((t410).toNat * 4)).off + 3, none⟩ = some (.int .i64 ((rd_T63 l0_1 t410).f2.f1)) ∧ w'.cell? (ad425.add ((t410).toNat * 4)) = some (.int .i64 ((rd_T63 l0_1 t410).f0)) ∧ w'.cell? ⟨(ad425.add ((t410).toNat * 4)).block, (ad425.add ((t410).toNat * 4)).off + 1, none⟩ = some (.int .i64 ((rd_T63 l0_1 t410).f1)) ∧ w'.cell? ⟨(ad425.add ((t410).toNat * 4)).block, (ad425.add ((t410).toNat * 4)).off + 2, none⟩ = some (.int .i64 ((rd_T63 l0_1 t410).f2.f0)) ∧ w'.cell? ⟨(ad425.add ((t410).toNat * 4)).block, (ad425.add ((t410).toNat * 4)).off + 3, none⟩ = some (.int .i64 ((rd_T63 l0_1 t410).f2.f1))) (ds := []) (bs 15 0) (by kernel_rfl) rfl rfl ⟨(blk_cell BK406.out 0).trans rfl, (blk_cell BK406.out 1).trans rfl, (blk_cell BK406.out 2).trans rfl, (cB HB hw425_0 :), (cB HB hw425_1 :), (cB HB hw425_2 :), (cB HB hw425_3 :), (cB HB hw426_0 :), (cB HB hw426_1 :), (cB HB hw426_2 :), (cB HB hw426_3 :)⟩ (fun hHeld => ?_); refine with_tabW macadamlaw04_GangReach.tab6 macadamlaw04_GangReach.bits6 (fun HT_ HW_ => ?_)
        generalize w111.drew = w112 at HO415 HO422 BK406 BK407 HB hx425_0 hx425_1 hx425_2 hx425_3 hx426_0 hx426_1 hx426_2 hx426_3 hHeld ⊢
        refine pu HT_ 0 (some 51) (bs 15 1) ?_
        refine pu HT_ 1 (some 52) (bs 15 3) ?_
        refine pu HT_ 3 (some 54) (bs 15 11) ?_
        refine pu HT_ 7 (some 58) (bs 15 139) ?_
        refine pu HT_ 9 (some 60) (bs 15 651) ?_
        refine tk11 HT_ HW_ hHeld 2 (some 53) (bs 15 655) ?_
        refine pu HT_ 4 (some 55) (bs 15 671) ?_
        refine pu HT_ 5 (some 56) (bs 15 703) ?_
        refine tk11 HT_ HW_ hHeld 6 (some 57) (bs 15 767) ?_
        refine tk11 HT_ HW_ hHeld 8 (some 59) (bs 15 1023) ?_
        refine pu HT_ 10 (some 61) (bs 15 2047) ?_
        refine pu HT_ 11 (some 62) (bs 15 4095) ?_
        refine tk11 HT_ HW_ hHeld 12 (some 63) (bs 15 8191) ?_
        refine on HT_ 13 (some 64) (bs 15 16383) (fun K hK => ?_)
        refine goes_ Tryd.func45 (by kernel_rfl) rfl #[.int .i64 t411, .int .i64 ((rd_T63 l0_1 t410).f0), .int .i64 ((rd_T63 l0_1 t410).f1)] (by rfl) rfl rfl (by (try simp only [List.map_toArray, List.map_cons, List.map_nil]); first | done | rfl | (simp only [List.length_drop, List.length_take]; rfl)) ?_
        with_reducible refine (macadamref00_Amid.calls t411 ((rd_T63 l0_1 t410).f0) ((rd_T63 l0_1 t410).f1) t427 _ A13.out).mono ?_
        rintro e w' ⟨rfl, ⟨nd, rfl⟩⟩
        refine ⟨_, rfl, ?_⟩
        refine hK.out _ _ ⟨(blk_cell BK406.out 0).trans rfl, (blk_cell BK406.out 1).trans rfl, (blk_cell BK406.out 2).trans rfl, (cB HB hw425_0 :), (cB HB hw425_1 :), (cB HB hw425_2 :), (cB HB hw425_3 :), (cB HB hw426_0 :), (cB HB hw426_1 :), (cB HB hw426_2 :), (cB HB hw426_3 :)⟩ (fun hHeld => ?_)
        clear hK K
        refine nm 64 ?_
        refine pu HT_ 14 (some 12) (bs 15 32767) ?_
        refine done_ (done_of HT_.out (by kernel_rfl)) ?_
        obtain ⟨hcz113_0, hcz113_1, hcz113_2, hfz113_0, hfz113_1, hfz113_2⟩ := b3 BK406
        obtain ⟨Ao114, co114, eo114⟩ := Kd.V_slice HO415.out
        subst eo114
        try go_wp2_with (first | (go_at_call 42; (with_reducible refine (macadamref00_Rising.calls k _ _ t413 a0_2 true _ ?side1 ?side2 A16.out).mono ?_); (case side1 => repeat (first | exact (Kd.V_reads' HO415.out).2.2 | (with_reducible refine Kd.C_alloc ?_ _) | (with_reducible refine Kd.C_drewN ?_ _) | (with_reducible refine Kd.C_drew ?_))); (case side2 => exact (Kd.V_reads' HO415.out).2.1); rintro e w' ⟨rfl, ⟨nd, rfl⟩⟩) | (go_at_call 43; (with_reducible refine (macadamref00_Place.calls k _ _ t413 t412 t429 _ ?side1 ?side2 A18.out).mono ?_); (case side1 => repeat (first | exact (Kd.V_reads' HO415.out).2.2 | (with_reducible refine Kd.C_alloc ?_ _) | (with_reducible refine Kd.C_drewN ?_ _) | (with_reducible refine Kd.C_drew ?_))); (case side2 => exact (Kd.V_reads' HO415.out).2.1); rintro e w' ⟨rfl, ⟨nd, rfl⟩⟩))
        go_ret
        exact ⟨by first | rfl | (simp [errW_none, errW_some] <;> rfl) | (simp [*, errW_none, errW_some] <;> rfl), bw2 HB GE406 GE407⟩
      ·replace c17 := Bool.eq_false_iff.mpr c17
       subst c17
       have H1 : (some false) = some r := by rw [if_neg (show ¬ (false = true) by decide)] at H; exact H
       clear H
       have H := H1
       clear H1
       obtain rfl := Option.some.inj H
       go_enter Tryd.func7, Tryd.ntmps7
       try go_wp2_with (first | ((with_reducible refine gate_dst (N := 2) rfl ?_); refine bx 2 #[.slice A0_0 l0_0.length c0_0, .slice A0_1 l0_1.length c0_1, .int .i64 a0_2] 25 ?_; intro gb406 hg w115 hbox hb; have n0_ := Aside0.mk (below_step (bw HB) hb); have n1_ := Aside0.mk (hbox); have n2_ := Aside0.mk (bz (bw HB) hg); have n3_ := Aside0.mk (bz (bw HB) hg); clear HB; have HB := n0_; have BK406 := n1_; have GW406 := n2_; have GE406 := n3_; clear n0_ n1_ n2_ n3_; clear hb hbox hg) | ((with_reducible refine gate_dst (N := 3) rfl ?_); refine bx 3 #[.int .i64 a1_0, .int .i64 a1_1, .int .i64 a1_2] 27 ?_; intro gb407 hg w116 hbox hb; have n0_ := Aside0.mk (blk_below (bm BK406) hb); have n1_ := Aside0.mk (below_step (bw1 HB GE406) hb); have n2_ := Aside0.mk (hbox); have n3_ := Aside0.mk (bz (bw1 HB GE406) hg); have n4_ := Aside0.mk (bz (bw1 HB GE406) hg); have n5_ := Aside0.mk (bl (bm BK406) hg); have n6_ := Aside0.mk (bg (bm BK406) hg); clear BK406; clear HB; have BK406 := n0_; have HB := n1_; have BK407 := n2_; have GW407 := n3_; have GE407 := n4_; have NB406_407 := n5_; have NB407_406 := n6_; clear n0_ n1_ n2_ n3_ n4_ n5_ n6_; clear hb hbox hg; have hnb117 := NB406_407.out; have hnc117 := NB407_406.out; obtain ⟨hcz118_0, hcz118_1, hcz118_2, hfz118_0, hfz118_1, hfz118_2⟩ := b3 BK406) | ((with_reducible refine gate_callee (f := 38) rfl ?_); refine gL (some 14) Tryd.func38 #[.agg #[.slice A0_0 l0_0.length c0_0, .slice A0_1 l0_1.length c0_1, .int .i64 a0_2]] ?_; (with_reducible refine (macadamlaw04_sound.calls k _ _ l0_0 _ _ l0_1 a0_2 true _ ?side1 ?side2 ?side3 ?side4 A3.out).mono ?_); (case side1 => repeat (first | exact (Kd.C_below HR0_0.out HB.out) | (with_reducible refine Kd.C_alloc ?_ _) | (with_reducible refine Kd.C_drewN ?_ _) | (with_reducible refine Kd.C_drew ?_))); (case side2 => exact HC0_0.out); (case side3 => repeat (first | exact (Kd.C_below HR0_1.out HB.out) | (with_reducible refine Kd.C_alloc ?_ _) | (with_reducible refine Kd.C_drewN ?_ _) | (with_reducible refine Kd.C_drew ?_))); (case side4 => exact HC0_1.out); rintro e w119 ⟨rfl, hb⟩; refine ⟨_, rfl, ?_⟩; have n0_ := Aside0.mk (blk_below (bm BK406) hb); have n1_ := Aside0.mk (blk_below (bm BK407) hb); have n2_ := Aside0.mk (below_step (bw2 HB GE406 GE407) hb); clear BK406; clear BK407; clear HB; have BK406 := n0_; have BK407 := n1_; have HB := n2_; clear n0_ n1_ n2_; (try clear hb); (try clear hb2); (try clear hk); (try clear hi)))
       have n0_ := Aside0.mk (blk_drew BK406.out)
       have n1_ := Aside0.mk (blk_drew BK407.out)
       have n2_ := Aside0.mk (below_drew1 HB.out)
       clear BK406
       clear BK407
       clear HB
       have BK406 := n0_
       have BK407 := n1_
       have HB := n2_
       clear n0_ n1_ n2_
       refine start_ (n := 20) (S := fun w' => w'.cell? ⟨gb407, 0, none⟩ = some (.int .i64 a1_0) ∧ w'.cell? ⟨gb407, 1, none⟩ = some (.int .i64 a1_1) ∧ w'.cell? ⟨gb407, 2, none⟩ = some (.int .i64 a1_2) ∧ w'.cell? ⟨gb406, 0, none⟩ = some (.slice A0_0 l0_0.length c0_0) ∧ w'.cell? ⟨gb406, 1, none⟩ = some (.slice A0_1 l0_1.length c0_1) ∧ w'.cell? ⟨gb406, 2, none⟩ = some (.int .i64 a0_2)) (ds := []) (bs 20 0) (by kernel_rfl) rfl rfl ⟨(blk_cell BK407.out 0).trans rfl, (blk_cell BK407.out 1).trans rfl, (blk_cell BK407.out 2).trans rfl, (blk_cell BK406.out 0).trans rfl, (blk_cell BK406.out 1).trans rfl, (blk_cell BK406.out 2).trans rfl⟩ (fun hHeld => ?_); refine with_tabW macadamlaw04_GangReach.tab3 macadamlaw04_GangReach.bits3 (fun HT_ HW_ => ?_)
       generalize w119.drew = w120 at BK406 BK407 HB hHeld ⊢
       refine pu HT_ 0 (some 17) (bs 20 1) ?_
       refine pu HT_ 2 (some 19) (bs 20 5) ?_
       refine pu HT_ 6 (some 23) (bs 20 69) ?_
       refine pu HT_ 8 (some 25) (bs 20 325) ?_
       refine pu HT_ 12 (some 29) (bs 20 4421) ?_
       refine pu HT_ 14 (some 31) (bs 20 20805) ?_
       refine tk6 HT_ HW_ hHeld 1 (some 18) (bs 20 20807) ?_
       refine tk6 HT_ HW_ hHeld 3 (some 20) (bs 20 20815) ?_
       refine pu HT_ 4 (some 21) (bs 20 20831) ?_
       refine tk6 HT_ HW_ hHeld 7 (some 24) (bs 20 20959) ?_
       refine tk6 HT_ HW_ hHeld 9 (some 26) (bs 20 21471) ?_
       refine pu HT_ 10 (some 27) (bs 20 22495) ?_
       refine tk6 HT_ HW_ hHeld 13 (some 30) (bs 20 30687) ?_
       refine tk6 HT_ HW_ hHeld 15 (some 32) (bs 20 63455) ?_
       refine on HT_ 5 (some 22) (bs 20 63487) (fun K hK => ?_)
       refine goes_ Tryd.func39 (by kernel_rfl) rfl #[.int .i64 a1_0, .int .i64 (l0_1.length : Int)] (by rfl) rfl rfl (by (try simp only [List.map_toArray, List.map_cons, List.map_nil]); first | done | rfl | (simp only [List.length_drop, List.length_take]; rfl)) ?_
       with_reducible refine (macadamref00_Wrap.calls a1_0 (l0_1.length : Int) t410 _ A5.out).mono ?_
       rintro e w' ⟨rfl, ⟨nd, rfl⟩⟩
       refine ⟨_, rfl, ?_⟩
       refine hK.out _ _ ⟨(blk_cell BK407.out 0).trans rfl, (blk_cell BK407.out 1).trans rfl, (blk_cell BK407.out 2).trans rfl, (blk_cell BK406.out 0).trans rfl, (blk_cell BK406.out 1).trans rfl, (blk_cell BK406.out 2).trans rfl⟩ (fun hHeld => ?_)
       clear hK K
       refine nm 22 ?_
       refine on HT_ 11 (some 28) (bs 20 65535) (fun K hK => ?_)
       refine goes_ Tryd.func39 (by kernel_rfl) rfl #[.int .i64 a1_1, .int .i64 (l0_0.length : Int)] (by rfl) rfl rfl (by (try simp only [List.map_toArray, List.map_cons, List.map_nil]); first | done | rfl | (simp only [List.length_drop, List.length_take]; rfl)) ?_
       with_reducible refine (macadamref00_Wrap.calls a1_1 (l0_0.length : Int) t411 _ A6.out).mono ?_
       rintro e w' ⟨rfl, ⟨nd, rfl⟩⟩
       refine ⟨_, rfl, ?_⟩
       refine hK.out _ _ ⟨(blk_cell BK407.out 0).trans rfl, (blk_cell BK407.out 1).trans rfl, (blk_cell BK407.out 2).trans rfl, (blk_cell BK406.out 0).trans rfl, (blk_cell BK406.out 1).trans rfl, (blk_cell BK406.out 2).trans rfl⟩ (fun hHeld => ?_)
       clear hK K
       refine nm 28 ?_
       refine on HT_ 16 (some 33) (bs 20 131071) (fun K hK => ?_)
       refine goes_ Tryd.func39 (by kernel_rfl) rfl #[.int .i64 a1_2, .int .i64 a0_2] (by rfl) rfl rfl (by (try simp only [List.map_toArray, List.map_cons, List.map_nil]); first | done | rfl | (simp only [List.length_drop, List.length_take]; rfl)) ?_
       with_reducible refine (macadamref00_Wrap.calls a1_2 a0_2 t412 _ A7.out).mono ?_
       rintro e w' ⟨rfl, ⟨nd, rfl⟩⟩
       refine ⟨_, rfl, ?_⟩
       refine hK.out _ _ ⟨(blk_cell BK407.out 0).trans rfl, (blk_cell BK407.out 1).trans rfl, (blk_cell BK407.out 2).trans rfl, (blk_cell BK406.out 0).trans rfl, (blk_cell BK406.out 1).trans rfl, (blk_cell BK406.out 2).trans rfl⟩ (fun hHeld => ?_)
       clear hK K
       refine nm 33 ?_
       refine pu HT_ 17 (some 5) (bs 20 262143) ?_
       refine pu HT_ 18 (some 6) (bs 20 524287) ?_
       refine pu HT_ 19 (some 7) (bs 20 1048575) ?_
       refine done_ (done_of HT_.out (by kernel_rfl)) ?_
       obtain ⟨hcz121_0, hcz121_1, hcz121_2, hfz121_0, hfz121_1, hfz121_2⟩ := b3 BK406
       try go_wp2_with (first | ((with_reducible refine gate_callee (f := 15) rfl ?_); refine gL (some 38) Tryd.func15 #[.agg #[.slice A0_0 l0_0.length c0_0, .slice A0_1 l0_1.length c0_1, .int .i64 a0_2], .int .i64 t410, .int .i64 t411] ?_; (with_reducible refine (gang_Can.calls _ _ l0_0 _ _ l0_1 a0_2 t410 t411 t413 t416 _ ?side1 ?side2 ?side3 ?side4 ?side5 A8.out).mono ?_); (case side1 => repeat (first | exact (Kd.C_below HR0_0.out (bw2 HB GE406 GE407)) | (with_reducible refine Kd.C_alloc ?_ _) | (with_reducible refine Kd.C_drewN ?_ _) | (with_reducible refine Kd.C_drew ?_))); (case side2 => exact HC0_0.out); (case side3 => repeat (first | exact (Kd.C_below HR0_1.out (bw2 HB GE406 GE407)) | (with_reducible refine Kd.C_alloc ?_ _) | (with_reducible refine Kd.C_drewN ?_ _) | (with_reducible refine Kd.C_drew ?_))); (case side4 => exact HC0_1.out); (case side5 => exact gv_below HG.out (bw2 HB GE406 GE407)); rintro e w122 ⟨v414, rfl, ho0, hb⟩; refine ⟨_, rfl, ?_⟩; have n0_ := Aside0.mk (Kd.V_lower (Kd.V_mono (ok' := fun k_ => k_ ≠ gb406 ∧ k_ ≠ gb407) ho0 (fun k_ hk_ => ⟨(Kd.freshB (g := gb406) (o := .cells #[.slice A0_0 l0_0.length c0_0, .slice A0_1 l0_1.length c0_1, .int .i64 a0_2] 25 (0, 0)) (bm BK406) k_ hk_), (Kd.freshB (g := gb407) (o := .cells #[.int .i64 a1_0, .int .i64 a1_1, .int .i64 a1_2] 27 (0, 0)) (bm BK407) k_ hk_)⟩)) (below_size (bw2 HB GE406 GE407))); have n1_ := Aside0.mk (blk_below (bm BK406) hb); have n2_ := Aside0.mk (blk_below (bm BK407) hb); have n3_ := Aside0.mk (below_step (bw2 HB GE406 GE407) hb); clear BK406; clear BK407; clear HB; have HO415 := n0_; have BK406 := n1_; have BK407 := n2_; have HB := n3_; clear n0_ n1_ n2_ n3_; (try clear hb); (try clear hb2); (try clear hk); (try clear hi); (try clear ho0)))
       have n0_ := Aside0.mk (Kd.V_drew HO415.out)
       have n1_ := Aside0.mk (blk_drew BK406.out)
       have n2_ := Aside0.mk (blk_drew BK407.out)
       have n3_ := Aside0.mk (below_drew1 HB.out)
       clear HO415
       clear BK406
       clear BK407
       clear HB
       have HO415 := n0_
       have BK406 := n1_
       have BK407 := n2_
       have HB := n3_
       clear n0_ n1_ n2_ n3_
       refine start_ (n := 12) (S := fun w' => w'.cell? ⟨gb406, 0, none⟩ = some (.slice A0_0 l0_0.length c0_0) ∧ w'.cell? ⟨gb406, 1, none⟩ = some (.slice A0_1 l0_1.length c0_1) ∧ w'.cell? ⟨gb406, 2, none⟩ = some (.int .i64 a0_2)) (ds := []) (bs 12 0) (by kernel_rfl) rfl rfl ⟨(blk_cell BK406.out 0).trans rfl, (blk_cell BK406.out 1).trans rfl, (blk_cell BK406.out 2).trans rfl⟩ (fun hHeld => ?_); refine with_tabW macadamlaw04_GangReach.tab5 macadamlaw04_GangReach.bits5 (fun HT_ HW_ => ?_)
       generalize w122.drew = w123 at HO415 BK406 BK407 HB hHeld ⊢
       refine pu HT_ 1 (some 43) (bs 12 2) ?_
       refine pu HT_ 2 (some 44) (bs 12 6) ?_
       refine pu HT_ 3 (some 45) (bs 12 14) ?_
       refine tk3 HT_ HW_ hHeld 0 (some 42) (bs 12 15) ?_
       refine on HT_ 4 (some 46) (bs 12 31) (fun K hK => ?_)
       refine goes_ Tryd.func44 (by kernel_rfl) rfl #[.int .i64 t412, .int .i64 t410, .int .i64 t411] (by rfl) rfl rfl (by (try simp only [List.map_toArray, List.map_cons, List.map_nil]); first | done | rfl | (simp only [List.length_drop, List.length_take]; rfl)) ?_
       with_reducible refine (macadamlaw04_work.calls t412 t410 t411 t417 t418 t419 _ A9.out).mono ?_
       rintro e w124 ⟨rfl, hb⟩
       refine ⟨_, rfl, ?_⟩
       have n0_ := Aside0.mk (Kd.V_below (by (with_reducible repeat (first | apply Kd.V_alloc | apply Kd.V_drewN | apply Kd.V_drew)); exact HO415.out) hb)
       have n1_ := Aside0.mk (blk_below (bm BK406) hb)
       have n2_ := Aside0.mk (blk_below (bm BK407) hb)
       have n3_ := Aside0.mk (below_step (bw2 HB GE406 GE407) hb)
       clear HO415
       clear BK406
       clear BK407
       clear HB
       have HO415 := n0_
       have BK406 := n1_
       have BK407 := n2_
       have HB := n3_
       clear n0_ n1_ n2_ n3_
       (try clear hb)
       (try clear hb2)
       (try clear hk)
       (try clear hi)
       refine hK.out _ _ ⟨(blk_cell BK406.out 0).trans rfl, (blk_cell BK406.out 1).trans rfl, (blk_cell BK406.out 2).trans rfl⟩ (fun hHeld => ?_)
       clear hK K
       refine nm 46 ?_
       refine on HT_ 5 (some 47) (bs 12 63) (fun K hK => ?_)
       refine Kd.R_lit_step k59 _ 59 ?hg (N := 47) ?hd (xs := ([(⟨t417, t418, t419⟩ : S59)] : List (S59))) (inner := [.int .i64 t417, .int .i64 t418, .int .i64 t419]) (ok := fun _ => True) (okp := fun _ => True) ?hr ?hp (fun _ hk => hk) trivial (Below.refl _ _) (Nat.le_refl _) (by simp) ?_; (case hd => rfl); (case hg => rfl); (case hr => first | (go_simp; done) | (go_simp; rfl)); (case hp => exact (Reps.c3 (show Kd.M k59 _ _ _ (⟨t417, t418, t419⟩ : S59) [.int .i64 t417, .int .i64 t418, .int .i64 t419] from (k59_mkM _ _ _ (⟨t417, t418, t419⟩ : S59) )) (Reps.none _ _)))
       intro v421 w125 ho126 hb hg_ hnew_
       clear hg_ hnew_
       (first | rw [← Ny420.out] at ho126 | (simp only [Int.reduceToNat] at ho126; rw [← Ny420.out] at ho126))
       have n0_ := Aside0.mk (Kd.V_elder' (by (with_reducible repeat (first | apply Kd.V_alloc | apply Kd.V_drewN | apply Kd.V_drew)); exact HO415.out) (Kd.R_base ho126) hb)
       have n1_ := Aside0.mk (Kd.R_lower ho126 (below_size (bw2 HB GE406 GE407)))
       have n2_ := Aside0.mk (blk_below (bm BK406) hb)
       have n3_ := Aside0.mk (blk_below (bm BK407) hb)
       have n4_ := Aside0.mk (below_step (bw2 HB GE406 GE407) hb)
       clear HO415
       clear BK406
       clear BK407
       clear HB
       have HO415 := n0_
       have HO422 := n1_
       have BK406 := n2_
       have BK407 := n3_
       have HB := n4_
       clear n0_ n1_ n2_ n3_ n4_
       clear hb ho126
       obtain ⟨Ao127, co127, eo127⟩ := Kd.R_slice HO422.out
       (first | subst eo127 | (injection eo127 with f1_ f2_ f3_; have f4_ := f1_.symm; have f5_ := f3_.symm; clear f1_ f2_ f3_; subst f4_; subst f5_))
       refine hK.out _ _ ⟨(blk_cell BK406.out 0).trans rfl, (blk_cell BK406.out 1).trans rfl, (blk_cell BK406.out 2).trans rfl⟩ (fun hHeld => ?_)
       clear hK K
       refine nm 47 ?_
       refine on HT_ 6 (some 48) (bs 12 127) (fun K hK => ?_)
       refine goes_ Tryd.func20 (by kernel_rfl) rfl #[.agg #[.slice A0_0 l0_0.length c0_0, .slice A0_1 l0_1.length c0_1, .int .i64 a0_2], .slice Ao127 y420.length co127] (by rfl) rfl rfl (by (try simp only [List.map_toArray, List.map_cons, List.map_nil]); first | done | rfl | (simp only [List.length_drop, List.length_take]; rfl)) ?_
       with_reducible refine (gang_May.calls _ _ l0_0 _ _ l0_1 a0_2 _ _ y420 t423 t424 _ ?side1 ?side2 ?side3 ?side4 ?side5 ?side6 ?side7 A10.out).mono ?_
       (case side1 => repeat (first | exact (Kd.C_below HR0_0.out HB.out) | (with_reducible refine Kd.C_alloc ?_ _) | (with_reducible refine Kd.C_drewN ?_ _) | (with_reducible refine Kd.C_drew ?_)))
       (case side2 => exact HC0_0.out)
       (case side3 => repeat (first | exact (Kd.C_below HR0_1.out HB.out) | (with_reducible refine Kd.C_alloc ?_ _) | (with_reducible refine Kd.C_drewN ?_ _) | (with_reducible refine Kd.C_drew ?_)))
       (case side4 => exact HC0_1.out)
       (case side5 => repeat (first | exact (Kd.R_reads' HO422.out).2.2 | (with_reducible refine Kd.C_alloc ?_ _) | (with_reducible refine Kd.C_drewN ?_ _) | (with_reducible refine Kd.C_drew ?_)))
       (case side6 => exact (Kd.R_reads' HO422.out).2.1)
       (case side7 => exact gv_below HG.out (bw2 HB GE406 GE407))
       rintro e w128 ⟨rfl, hb⟩
       refine ⟨_, rfl, ?_⟩
       have n0_ := Aside0.mk (Kd.V_below (by (with_reducible repeat (first | apply Kd.V_alloc | apply Kd.V_drewN | apply Kd.V_drew)); exact HO415.out) hb)
       have n1_ := Aside0.mk (Kd.R_below (by (with_reducible repeat (first | apply Kd.R_alloc | apply Kd.R_drewN | apply Kd.R_drew)); exact HO422.out) hb)
       have n2_ := Aside0.mk (blk_below (bm BK406) hb)
       have n3_ := Aside0.mk (blk_below (bm BK407) hb)
       have n4_ := Aside0.mk (below_step (bw2 HB GE406 GE407) hb)
       clear HO415
       clear HO422
       clear BK406
       clear BK407
       clear HB
       have HO415 := n0_
       have HO422 := n1_
       have BK406 := n2_
       have BK407 := n3_
       have HB := n4_
       clear n0_ n1_ n2_ n3_ n4_
       (try clear hb)
       (try clear hb2)
       (try clear hk)
       (try clear hi)
       refine hK.out _ _ ⟨(blk_cell BK406.out 0).trans rfl, (blk_cell BK406.out 1).trans rfl, (blk_cell BK406.out 2).trans rfl⟩ (fun hHeld => ?_)
       clear hK K
       refine nm 48 ?_
       refine pu HT_ 7 (some 41) (bs 12 255) ?_
       refine pu HT_ 8 (some 49) (bs 12 511) ?_
       refine pu HT_ 9 (some 50) (bs 12 1023) ?_
       refine pu HT_ 10 (some 10) (bs 12 2047) ?_
       refine pu HT_ 11 (some 11) (bs 12 4095) ?_
       refine done_ (done_of HT_.out (by kernel_rfl)) ?_
       try go_wp2
       have n0_ := Aside0.mk (Kd.V_drew HO415.out)
       have n1_ := Aside0.mk (Kd.R_drew HO422.out)
       have n2_ := Aside0.mk (blk_drew BK406.out)
       have n3_ := Aside0.mk (blk_drew BK407.out)
       have n4_ := Aside0.mk (below_drew1 HB.out)
       clear HO415
       clear HO422
       clear BK406
       clear BK407
       clear HB
       have HO415 := n0_
       have HO422 := n1_
       have BK406 := n2_
       have BK407 := n3_
       have HB := n4_
       clear n0_ n1_ n2_ n3_ n4_
       have p425 : 0 ≤ (t410 : Int) := of_decide_eq_true (by first | (with_reducible assumption) | assumption)
       have q425 : t410 < (l0_1.length : Int) := of_decide_eq_true (by first | (with_reducible assumption) | assumption)
       obtain ⟨ad425, e425, hx425_0, hx425_1, hx425_2, hx425_3⟩ := at_T63 HR0_1.out t410 p425 q425
       have hw425_3 := hx425_3
       have hw425_2 := hx425_2
       have hw425_1 := hx425_1
       have hw425_0 := hx425_0
       cases e425
       replace hx425_0 := cB HB hx425_0
       replace hx425_1 := cB HB hx425_1
       replace hx425_2 := cB HB hx425_2
       replace hx425_3 := cB HB hx425_3
       replace p425 := eq_true p425
       replace q425 := eq_true q425
       have p426 : 0 ≤ (t410 : Int) := of_decide_eq_true (by first | (with_reducible assumption) | assumption)
       have q426 : t410 < (l0_1.length : Int) := of_decide_eq_true (by first | (with_reducible assumption) | assumption)
       obtain ⟨ad426, e426, hx426_0, hx426_1, hx426_2, hx426_3⟩ := at_T63 HR0_1.out t410 p426 q426
       have hw426_3 := hx426_3
       have hw426_2 := hx426_2
       have hw426_1 := hx426_1
       have hw426_0 := hx426_0
       obtain rfl : ad425 = ad426 := (by injection e426)
       replace hx426_0 := cB HB hx426_0
       replace hx426_1 := cB HB hx426_1
       replace hx426_2 := cB HB hx426_2
       replace hx426_3 := cB HB hx426_3
       replace p426 := eq_true p426
       replace q426 := eq_true q426
       refine start_ (n := 15) (S := fun w' => w'.cell? ⟨gb406, 0, none⟩ = some (.slice A0_0 l0_0.length c0_0) ∧ w'.cell? ⟨gb406, 1, none⟩ = some (.slice (some ad425) l0_1.length c0_1) ∧ w'.cell? ⟨gb406, 2, none⟩ = some (.int .i64 a0_2) ∧ w'.cell? (ad425.add ((t410).toNat * 4)) = some (.int .i64 ((rd_T63 l0_1 t410).f0)) ∧ w'.cell? ⟨(ad425.add ((t410).toNat * 4)).block, (ad425.add ((t410).toNat * 4)).off + 1, none⟩ = some (.int .i64 ((rd_T63 l0_1 t410).f1)) ∧ w'.cell? ⟨(ad425.add ((t410).toNat * 4)).block, (ad425.add ((t410).toNat * 4)).off + 2, none⟩ = some (.int .i64 ((rd_T63 l0_1 t410).f2.f0)) ∧ w'.cell? ⟨(ad425.add ((t410).toNat * 4)).block, (ad425.add ((t410).toNat * 4)).off + 3, none⟩ = some (.int .i64 ((rd_T63 l0_1 t410).f2.f1)) ∧ w'.cell? (ad425.add ((t410).toNat * 4)) = some (.int .i64 ((rd_T63 l0_1 t410).f0)) ∧ w'.cell? ⟨(ad425.add ((t410).toNat * 4)).block, (ad425.add ((t410).toNat * 4)).off + 1, none⟩ = some (.int .i64 ((rd_T63 l0_1 t410).f1)) ∧ w'.cell? ⟨(ad425.add ((t410).toNat * 4)).block, (ad425.add ((t410).toNat * 4)).off + 2, none⟩ = some (.int .i64 ((rd_T63 l0_1 t410).f2.f0)) ∧ w'.cell? ⟨(ad425.add ((t410).toNat * 4)).block, (ad425.add ((t410).toNat * 4)).off + 3, none⟩ = some (.int .i64 ((rd_T63 l0_1 t410).f2.f1))) (ds := []) (bs 15 0) (by kernel_rfl) rfl rfl ⟨(blk_cell BK406.out 0).trans rfl, (blk_cell BK406.out 1).trans rfl, (blk_cell BK406.out 2).trans rfl, (cB HB hw425_0 :), (cB HB hw425_1 :), (cB HB hw425_2 :), (cB HB hw425_3 :), (cB HB hw426_0 :), (cB HB hw426_1 :), (cB HB hw426_2 :), (cB HB hw426_3 :)⟩ (fun hHeld => ?_); refine with_tabW macadamlaw04_GangReach.tab6 macadamlaw04_GangReach.bits6 (fun HT_ HW_ => ?_)
       generalize w128.drew = w129 at HO415 HO422 BK406 BK407 HB hx425_0 hx425_1 hx425_2 hx425_3 hx426_0 hx426_1 hx426_2 hx426_3 hHeld ⊢
       refine pu HT_ 0 (some 51) (bs 15 1) ?_
       refine pu HT_ 1 (some 52) (bs 15 3) ?_
       refine pu HT_ 3 (some 54) (bs 15 11) ?_
       refine pu HT_ 7 (some 58) (bs 15 139) ?_
       refine pu HT_ 9 (some 60) (bs 15 651) ?_
       refine tk11 HT_ HW_ hHeld 2 (some 53) (bs 15 655) ?_
       refine pu HT_ 4 (some 55) (bs 15 671) ?_
       refine pu HT_ 5 (some 56) (bs 15 703) ?_
       refine tk11 HT_ HW_ hHeld 6 (some 57) (bs 15 767) ?_
       refine tk11 HT_ HW_ hHeld 8 (some 59) (bs 15 1023) ?_
       refine pu HT_ 10 (some 61) (bs 15 2047) ?_
       refine pu HT_ 11 (some 62) (bs 15 4095) ?_
       refine tk11 HT_ HW_ hHeld 12 (some 63) (bs 15 8191) ?_
       refine on HT_ 13 (some 64) (bs 15 16383) (fun K hK => ?_)
       refine goes_ Tryd.func45 (by kernel_rfl) rfl #[.int .i64 t411, .int .i64 ((rd_T63 l0_1 t410).f0), .int .i64 ((rd_T63 l0_1 t410).f1)] (by rfl) rfl rfl (by (try simp only [List.map_toArray, List.map_cons, List.map_nil]); first | done | rfl | (simp only [List.length_drop, List.length_take]; rfl)) ?_
       with_reducible refine (macadamref00_Amid.calls t411 ((rd_T63 l0_1 t410).f0) ((rd_T63 l0_1 t410).f1) t427 _ A13.out).mono ?_
       rintro e w' ⟨rfl, ⟨nd, rfl⟩⟩
       refine ⟨_, rfl, ?_⟩
       refine hK.out _ _ ⟨(blk_cell BK406.out 0).trans rfl, (blk_cell BK406.out 1).trans rfl, (blk_cell BK406.out 2).trans rfl, (cB HB hw425_0 :), (cB HB hw425_1 :), (cB HB hw425_2 :), (cB HB hw425_3 :), (cB HB hw426_0 :), (cB HB hw426_1 :), (cB HB hw426_2 :), (cB HB hw426_3 :)⟩ (fun hHeld => ?_)
       clear hK K
       refine nm 64 ?_
       refine pu HT_ 14 (some 12) (bs 15 32767) ?_
       refine done_ (done_of HT_.out (by kernel_rfl)) ?_
       obtain ⟨hcz130_0, hcz130_1, hcz130_2, hfz130_0, hfz130_1, hfz130_2⟩ := b3 BK406
       obtain ⟨Ao131, co131, eo131⟩ := Kd.V_slice HO415.out
       subst eo131
       try go_wp2_with (first | (go_at_call 42; (with_reducible refine (macadamref00_Rising.calls k _ _ t413 a0_2 false _ ?side1 ?side2 A16.out).mono ?_); (case side1 => repeat (first | exact (Kd.V_reads' HO415.out).2.2 | (with_reducible refine Kd.C_alloc ?_ _) | (with_reducible refine Kd.C_drewN ?_ _) | (with_reducible refine Kd.C_drew ?_))); (case side2 => exact (Kd.V_reads' HO415.out).2.1); rintro e w' ⟨rfl, ⟨nd, rfl⟩⟩))
       go_ret
       exact ⟨by first | rfl | (simp [errW_none, errW_some] <;> rfl) | (simp [*, errW_none, errW_some] <;> rfl), bw2 HB GE406 GE407⟩
     ·rw [if_neg c15] at H
      have c15b0 : (t424 == 0) = false := beq_eq_false_iff_ne.mpr c15
      have c15b1 : (t424 != 0) = true := bne_iff_ne.mpr c15
      obtain rfl := Option.some.inj H
      go_enter Tryd.func7, Tryd.ntmps7
      try go_wp2_with (first | ((with_reducible refine gate_dst (N := 2) rfl ?_); refine bx 2 #[.slice A0_0 l0_0.length c0_0, .slice A0_1 l0_1.length c0_1, .int .i64 a0_2] 25 ?_; intro gb406 hg w132 hbox hb; have n0_ := Aside0.mk (below_step (bw HB) hb); have n1_ := Aside0.mk (hbox); have n2_ := Aside0.mk (bz (bw HB) hg); have n3_ := Aside0.mk (bz (bw HB) hg); clear HB; have HB := n0_; have BK406 := n1_; have GW406 := n2_; have GE406 := n3_; clear n0_ n1_ n2_ n3_; clear hb hbox hg) | ((with_reducible refine gate_dst (N := 3) rfl ?_); refine bx 3 #[.int .i64 a1_0, .int .i64 a1_1, .int .i64 a1_2] 27 ?_; intro gb407 hg w133 hbox hb; have n0_ := Aside0.mk (blk_below (bm BK406) hb); have n1_ := Aside0.mk (below_step (bw1 HB GE406) hb); have n2_ := Aside0.mk (hbox); have n3_ := Aside0.mk (bz (bw1 HB GE406) hg); have n4_ := Aside0.mk (bz (bw1 HB GE406) hg); have n5_ := Aside0.mk (bl (bm BK406) hg); have n6_ := Aside0.mk (bg (bm BK406) hg); clear BK406; clear HB; have BK406 := n0_; have HB := n1_; have BK407 := n2_; have GW407 := n3_; have GE407 := n4_; have NB406_407 := n5_; have NB407_406 := n6_; clear n0_ n1_ n2_ n3_ n4_ n5_ n6_; clear hb hbox hg; have hnb134 := NB406_407.out; have hnc134 := NB407_406.out; obtain ⟨hcz135_0, hcz135_1, hcz135_2, hfz135_0, hfz135_1, hfz135_2⟩ := b3 BK406) | ((with_reducible refine gate_callee (f := 38) rfl ?_); refine gL (some 14) Tryd.func38 #[.agg #[.slice A0_0 l0_0.length c0_0, .slice A0_1 l0_1.length c0_1, .int .i64 a0_2]] ?_; (with_reducible refine (macadamlaw04_sound.calls k _ _ l0_0 _ _ l0_1 a0_2 true _ ?side1 ?side2 ?side3 ?side4 A3.out).mono ?_); (case side1 => repeat (first | exact (Kd.C_below HR0_0.out HB.out) | (with_reducible refine Kd.C_alloc ?_ _) | (with_reducible refine Kd.C_drewN ?_ _) | (with_reducible refine Kd.C_drew ?_))); (case side2 => exact HC0_0.out); (case side3 => repeat (first | exact (Kd.C_below HR0_1.out HB.out) | (with_reducible refine Kd.C_alloc ?_ _) | (with_reducible refine Kd.C_drewN ?_ _) | (with_reducible refine Kd.C_drew ?_))); (case side4 => exact HC0_1.out); rintro e w136 ⟨rfl, hb⟩; refine ⟨_, rfl, ?_⟩; have n0_ := Aside0.mk (blk_below (bm BK406) hb); have n1_ := Aside0.mk (blk_below (bm BK407) hb); have n2_ := Aside0.mk (below_step (bw2 HB GE406 GE407) hb); clear BK406; clear BK407; clear HB; have BK406 := n0_; have BK407 := n1_; have HB := n2_; clear n0_ n1_ n2_; (try clear hb); (try clear hb2); (try clear hk); (try clear hi)))
      have n0_ := Aside0.mk (blk_drew BK406.out)
      have n1_ := Aside0.mk (blk_drew BK407.out)
      have n2_ := Aside0.mk (below_drew1 HB.out)
      clear BK406
      clear BK407
      clear HB
      have BK406 := n0_
      have BK407 := n1_
      have HB := n2_
      clear n0_ n1_ n2_
      refine start_ (n := 20) (S := fun w' => w'.cell? ⟨gb407, 0, none⟩ = some (.int .i64 a1_0) ∧ w'.cell? ⟨gb407, 1, none⟩ = some (.int .i64 a1_1) ∧ w'.cell? ⟨gb407, 2, none⟩ = some (.int .i64 a1_2) ∧ w'.cell? ⟨gb406, 0, none⟩ = some (.slice A0_0 l0_0.length c0_0) ∧ w'.cell? ⟨gb406, 1, none⟩ = some (.slice A0_1 l0_1.length c0_1) ∧ w'.cell? ⟨gb406, 2, none⟩ = some (.int .i64 a0_2)) (ds := []) (bs 20 0) (by kernel_rfl) rfl rfl ⟨(blk_cell BK407.out 0).trans rfl, (blk_cell BK407.out 1).trans rfl, (blk_cell BK407.out 2).trans rfl, (blk_cell BK406.out 0).trans rfl, (blk_cell BK406.out 1).trans rfl, (blk_cell BK406.out 2).trans rfl⟩ (fun hHeld => ?_); refine with_tabW macadamlaw04_GangReach.tab3 macadamlaw04_GangReach.bits3 (fun HT_ HW_ => ?_)
      generalize w136.drew = w137 at BK406 BK407 HB hHeld ⊢
      refine pu HT_ 0 (some 17) (bs 20 1) ?_
      refine pu HT_ 2 (some 19) (bs 20 5) ?_
      refine pu HT_ 6 (some 23) (bs 20 69) ?_
      refine pu HT_ 8 (some 25) (bs 20 325) ?_
      refine pu HT_ 12 (some 29) (bs 20 4421) ?_
      refine pu HT_ 14 (some 31) (bs 20 20805) ?_
      refine tk6 HT_ HW_ hHeld 1 (some 18) (bs 20 20807) ?_
      refine tk6 HT_ HW_ hHeld 3 (some 20) (bs 20 20815) ?_
      refine pu HT_ 4 (some 21) (bs 20 20831) ?_
      refine tk6 HT_ HW_ hHeld 7 (some 24) (bs 20 20959) ?_
      refine tk6 HT_ HW_ hHeld 9 (some 26) (bs 20 21471) ?_
      refine pu HT_ 10 (some 27) (bs 20 22495) ?_
      refine tk6 HT_ HW_ hHeld 13 (some 30) (bs 20 30687) ?_
      refine tk6 HT_ HW_ hHeld 15 (some 32) (bs 20 63455) ?_
      refine on HT_ 5 (some 22) (bs 20 63487) (fun K hK => ?_)
      refine goes_ Tryd.func39 (by kernel_rfl) rfl #[.int .i64 a1_0, .int .i64 (l0_1.length : Int)] (by rfl) rfl rfl (by (try simp only [List.map_toArray, List.map_cons, List.map_nil]); first | done | rfl | (simp only [List.length_drop, List.length_take]; rfl)) ?_
      with_reducible refine (macadamref00_Wrap.calls a1_0 (l0_1.length : Int) t410 _ A5.out).mono ?_
      rintro e w' ⟨rfl, ⟨nd, rfl⟩⟩
      refine ⟨_, rfl, ?_⟩
      refine hK.out _ _ ⟨(blk_cell BK407.out 0).trans rfl, (blk_cell BK407.out 1).trans rfl, (blk_cell BK407.out 2).trans rfl, (blk_cell BK406.out 0).trans rfl, (blk_cell BK406.out 1).trans rfl, (blk_cell BK406.out 2).trans rfl⟩ (fun hHeld => ?_)
      clear hK K
      refine nm 22 ?_
      refine on HT_ 11 (some 28) (bs 20 65535) (fun K hK => ?_)
      refine goes_ Tryd.func39 (by kernel_rfl) rfl #[.int .i64 a1_1, .int .i64 (l0_0.length : Int)] (by rfl) rfl rfl (by (try simp only [List.map_toArray, List.map_cons, List.map_nil]); first | done | rfl | (simp only [List.length_drop, List.length_take]; rfl)) ?_
      with_reducible refine (macadamref00_Wrap.calls a1_1 (l0_0.length : Int) t411 _ A6.out).mono ?_
      rintro e w' ⟨rfl, ⟨nd, rfl⟩⟩
      refine ⟨_, rfl, ?_⟩
      refine hK.out _ _ ⟨(blk_cell BK407.out 0).trans rfl, (blk_cell BK407.out 1).trans rfl, (blk_cell BK407.out 2).trans rfl, (blk_cell BK406.out 0).trans rfl, (blk_cell BK406.out 1).trans rfl, (blk_cell BK406.out 2).trans rfl⟩ (fun hHeld => ?_)
      clear hK K
      refine nm 28 ?_
      refine on HT_ 16 (some 33) (bs 20 131071) (fun K hK => ?_)
      refine goes_ Tryd.func39 (by kernel_rfl) rfl #[.int .i64 a1_2, .int .i64 a0_2] (by rfl) rfl rfl (by (try simp only [List.map_toArray, List.map_cons, List.map_nil]); first | done | rfl | (simp only [List.length_drop, List.length_take]; rfl)) ?_
      with_reducible refine (macadamref00_Wrap.calls a1_2 a0_2 t412 _ A7.out).mono ?_
      rintro e w' ⟨rfl, ⟨nd, rfl⟩⟩
      refine ⟨_, rfl, ?_⟩
      refine hK.out _ _ ⟨(blk_cell BK407.out 0).trans rfl, (blk_cell BK407.out 1).trans rfl, (blk_cell BK407.out 2).trans rfl, (blk_cell BK406.out 0).trans rfl, (blk_cell BK406.out 1).trans rfl, (blk_cell BK406.out 2).trans rfl⟩ (fun hHeld => ?_)
      clear hK K
      refine nm 33 ?_
      refine pu HT_ 17 (some 5) (bs 20 262143) ?_
      refine pu HT_ 18 (some 6) (bs 20 524287) ?_
      refine pu HT_ 19 (some 7) (bs 20 1048575) ?_
      refine done_ (done_of HT_.out (by kernel_rfl)) ?_
      obtain ⟨hcz138_0, hcz138_1, hcz138_2, hfz138_0, hfz138_1, hfz138_2⟩ := b3 BK406
      try go_wp2_with (first | ((with_reducible refine gate_callee (f := 15) rfl ?_); refine gL (some 38) Tryd.func15 #[.agg #[.slice A0_0 l0_0.length c0_0, .slice A0_1 l0_1.length c0_1, .int .i64 a0_2], .int .i64 t410, .int .i64 t411] ?_; (with_reducible refine (gang_Can.calls _ _ l0_0 _ _ l0_1 a0_2 t410 t411 t413 t416 _ ?side1 ?side2 ?side3 ?side4 ?side5 A8.out).mono ?_); (case side1 => repeat (first | exact (Kd.C_below HR0_0.out (bw2 HB GE406 GE407)) | (with_reducible refine Kd.C_alloc ?_ _) | (with_reducible refine Kd.C_drewN ?_ _) | (with_reducible refine Kd.C_drew ?_))); (case side2 => exact HC0_0.out); (case side3 => repeat (first | exact (Kd.C_below HR0_1.out (bw2 HB GE406 GE407)) | (with_reducible refine Kd.C_alloc ?_ _) | (with_reducible refine Kd.C_drewN ?_ _) | (with_reducible refine Kd.C_drew ?_))); (case side4 => exact HC0_1.out); (case side5 => exact gv_below HG.out (bw2 HB GE406 GE407)); rintro e w139 ⟨v414, rfl, ho0, hb⟩; refine ⟨_, rfl, ?_⟩; have n0_ := Aside0.mk (Kd.V_lower (Kd.V_mono (ok' := fun k_ => k_ ≠ gb406 ∧ k_ ≠ gb407) ho0 (fun k_ hk_ => ⟨(Kd.freshB (g := gb406) (o := .cells #[.slice A0_0 l0_0.length c0_0, .slice A0_1 l0_1.length c0_1, .int .i64 a0_2] 25 (0, 0)) (bm BK406) k_ hk_), (Kd.freshB (g := gb407) (o := .cells #[.int .i64 a1_0, .int .i64 a1_1, .int .i64 a1_2] 27 (0, 0)) (bm BK407) k_ hk_)⟩)) (below_size (bw2 HB GE406 GE407))); have n1_ := Aside0.mk (blk_below (bm BK406) hb); have n2_ := Aside0.mk (blk_below (bm BK407) hb); have n3_ := Aside0.mk (below_step (bw2 HB GE406 GE407) hb); clear BK406; clear BK407; clear HB; have HO415 := n0_; have BK406 := n1_; have BK407 := n2_; have HB := n3_; clear n0_ n1_ n2_ n3_; (try clear hb); (try clear hb2); (try clear hk); (try clear hi); (try clear ho0)))
      have n0_ := Aside0.mk (Kd.V_drew HO415.out)
      have n1_ := Aside0.mk (blk_drew BK406.out)
      have n2_ := Aside0.mk (blk_drew BK407.out)
      have n3_ := Aside0.mk (below_drew1 HB.out)
      clear HO415
      clear BK406
      clear BK407
      clear HB
      have HO415 := n0_
      have BK406 := n1_
      have BK407 := n2_
      have HB := n3_
      clear n0_ n1_ n2_ n3_
      refine start_ (n := 12) (S := fun w' => w'.cell? ⟨gb406, 0, none⟩ = some (.slice A0_0 l0_0.length c0_0) ∧ w'.cell? ⟨gb406, 1, none⟩ = some (.slice A0_1 l0_1.length c0_1) ∧ w'.cell? ⟨gb406, 2, none⟩ = some (.int .i64 a0_2)) (ds := []) (bs 12 0) (by kernel_rfl) rfl rfl ⟨(blk_cell BK406.out 0).trans rfl, (blk_cell BK406.out 1).trans rfl, (blk_cell BK406.out 2).trans rfl⟩ (fun hHeld => ?_); refine with_tabW macadamlaw04_GangReach.tab5 macadamlaw04_GangReach.bits5 (fun HT_ HW_ => ?_)
      generalize w139.drew = w140 at HO415 BK406 BK407 HB hHeld ⊢
      refine pu HT_ 1 (some 43) (bs 12 2) ?_
      refine pu HT_ 2 (some 44) (bs 12 6) ?_
      refine pu HT_ 3 (some 45) (bs 12 14) ?_
      refine tk3 HT_ HW_ hHeld 0 (some 42) (bs 12 15) ?_
      refine on HT_ 4 (some 46) (bs 12 31) (fun K hK => ?_)
      refine goes_ Tryd.func44 (by kernel_rfl) rfl #[.int .i64 t412, .int .i64 t410, .int .i64 t411] (by rfl) rfl rfl (by (try simp only [List.map_toArray, List.map_cons, List.map_nil]); first | done | rfl | (simp only [List.length_drop, List.length_take]; rfl)) ?_
      with_reducible refine (macadamlaw04_work.calls t412 t410 t411 t417 t418 t419 _ A9.out).mono ?_
      rintro e w141 ⟨rfl, hb⟩
      refine ⟨_, rfl, ?_⟩
      have n0_ := Aside0.mk (Kd.V_below (by (with_reducible repeat (first | apply Kd.V_alloc | apply Kd.V_drewN | apply Kd.V_drew)); exact HO415.out) hb)
      have n1_ := Aside0.mk (blk_below (bm BK406) hb)
      have n2_ := Aside0.mk (blk_below (bm BK407) hb)
      have n3_ := Aside0.mk (below_step (bw2 HB GE406 GE407) hb)
      clear HO415
      clear BK406
      clear BK407
      clear HB
      have HO415 := n0_
      have BK406 := n1_
      have BK407 := n2_
      have HB := n3_
      clear n0_ n1_ n2_ n3_
      (try clear hb)
      (try clear hb2)
      (try clear hk)
      (try clear hi)
      refine hK.out _ _ ⟨(blk_cell BK406.out 0).trans rfl, (blk_cell BK406.out 1).trans rfl, (blk_cell BK406.out 2).trans rfl⟩ (fun hHeld => ?_)
      clear hK K
      refine nm 46 ?_
      refine on HT_ 5 (some 47) (bs 12 63) (fun K hK => ?_)
      refine Kd.R_lit_step k59 _ 59 ?hg (N := 47) ?hd (xs := ([(⟨t417, t418, t419⟩ : S59)] : List (S59))) (inner := [.int .i64 t417, .int .i64 t418, .int .i64 t419]) (ok := fun _ => True) (okp := fun _ => True) ?hr ?hp (fun _ hk => hk) trivial (Below.refl _ _) (Nat.le_refl _) (by simp) ?_; (case hd => rfl); (case hg => rfl); (case hr => first | (go_simp; done) | (go_simp; rfl)); (case hp => exact (Reps.c3 (show Kd.M k59 _ _ _ (⟨t417, t418, t419⟩ : S59) [.int .i64 t417, .int .i64 t418, .int .i64 t419] from (k59_mkM _ _ _ (⟨t417, t418, t419⟩ : S59) )) (Reps.none _ _)))
      intro v421 w142 ho143 hb hg_ hnew_
      clear hg_ hnew_
      (first | rw [← Ny420.out] at ho143 | (simp only [Int.reduceToNat] at ho143; rw [← Ny420.out] at ho143))
      have n0_ := Aside0.mk (Kd.V_elder' (by (with_reducible repeat (first | apply Kd.V_alloc | apply Kd.V_drewN | apply Kd.V_drew)); exact HO415.out) (Kd.R_base ho143) hb)
      have n1_ := Aside0.mk (Kd.R_lower ho143 (below_size (bw2 HB GE406 GE407)))
      have n2_ := Aside0.mk (blk_below (bm BK406) hb)
      have n3_ := Aside0.mk (blk_below (bm BK407) hb)
      have n4_ := Aside0.mk (below_step (bw2 HB GE406 GE407) hb)
      clear HO415
      clear BK406
      clear BK407
      clear HB
      have HO415 := n0_
      have HO422 := n1_
      have BK406 := n2_
      have BK407 := n3_
      have HB := n4_
      clear n0_ n1_ n2_ n3_ n4_
      clear hb ho143
      obtain ⟨Ao144, co144, eo144⟩ := Kd.R_slice HO422.out
      (first | subst eo144 | (injection eo144 with f1_ f2_ f3_; have f4_ := f1_.symm; have f5_ := f3_.symm; clear f1_ f2_ f3_; subst f4_; subst f5_))
      refine hK.out _ _ ⟨(blk_cell BK406.out 0).trans rfl, (blk_cell BK406.out 1).trans rfl, (blk_cell BK406.out 2).trans rfl⟩ (fun hHeld => ?_)
      clear hK K
      refine nm 47 ?_
      refine on HT_ 6 (some 48) (bs 12 127) (fun K hK => ?_)
      refine goes_ Tryd.func20 (by kernel_rfl) rfl #[.agg #[.slice A0_0 l0_0.length c0_0, .slice A0_1 l0_1.length c0_1, .int .i64 a0_2], .slice Ao144 y420.length co144] (by rfl) rfl rfl (by (try simp only [List.map_toArray, List.map_cons, List.map_nil]); first | done | rfl | (simp only [List.length_drop, List.length_take]; rfl)) ?_
      with_reducible refine (gang_May.calls _ _ l0_0 _ _ l0_1 a0_2 _ _ y420 t423 t424 _ ?side1 ?side2 ?side3 ?side4 ?side5 ?side6 ?side7 A10.out).mono ?_
      (case side1 => repeat (first | exact (Kd.C_below HR0_0.out HB.out) | (with_reducible refine Kd.C_alloc ?_ _) | (with_reducible refine Kd.C_drewN ?_ _) | (with_reducible refine Kd.C_drew ?_)))
      (case side2 => exact HC0_0.out)
      (case side3 => repeat (first | exact (Kd.C_below HR0_1.out HB.out) | (with_reducible refine Kd.C_alloc ?_ _) | (with_reducible refine Kd.C_drewN ?_ _) | (with_reducible refine Kd.C_drew ?_)))
      (case side4 => exact HC0_1.out)
      (case side5 => repeat (first | exact (Kd.R_reads' HO422.out).2.2 | (with_reducible refine Kd.C_alloc ?_ _) | (with_reducible refine Kd.C_drewN ?_ _) | (with_reducible refine Kd.C_drew ?_)))
      (case side6 => exact (Kd.R_reads' HO422.out).2.1)
      (case side7 => exact gv_below HG.out (bw2 HB GE406 GE407))
      rintro e w145 ⟨rfl, hb⟩
      refine ⟨_, rfl, ?_⟩
      have n0_ := Aside0.mk (Kd.V_below (by (with_reducible repeat (first | apply Kd.V_alloc | apply Kd.V_drewN | apply Kd.V_drew)); exact HO415.out) hb)
      have n1_ := Aside0.mk (Kd.R_below (by (with_reducible repeat (first | apply Kd.R_alloc | apply Kd.R_drewN | apply Kd.R_drew)); exact HO422.out) hb)
      have n2_ := Aside0.mk (blk_below (bm BK406) hb)
      have n3_ := Aside0.mk (blk_below (bm BK407) hb)
      have n4_ := Aside0.mk (below_step (bw2 HB GE406 GE407) hb)
      clear HO415
      clear HO422
      clear BK406
      clear BK407
      clear HB
      have HO415 := n0_
      have HO422 := n1_
      have BK406 := n2_
      have BK407 := n3_
      have HB := n4_
      clear n0_ n1_ n2_ n3_ n4_
      (try clear hb)
      (try clear hb2)
      (try clear hk)
      (try clear hi)
      refine hK.out _ _ ⟨(blk_cell BK406.out 0).trans rfl, (blk_cell BK406.out 1).trans rfl, (blk_cell BK406.out 2).trans rfl⟩ (fun hHeld => ?_)
      clear hK K
      refine nm 48 ?_
      refine pu HT_ 7 (some 41) (bs 12 255) ?_
      refine pu HT_ 8 (some 49) (bs 12 511) ?_
      refine pu HT_ 9 (some 50) (bs 12 1023) ?_
      refine pu HT_ 10 (some 10) (bs 12 2047) ?_
      refine pu HT_ 11 (some 11) (bs 12 4095) ?_
      refine done_ (done_of HT_.out (by kernel_rfl)) ?_
      try go_wp2
      have n0_ := Aside0.mk (Kd.V_drew HO415.out)
      have n1_ := Aside0.mk (Kd.R_drew HO422.out)
      have n2_ := Aside0.mk (blk_drew BK406.out)
      have n3_ := Aside0.mk (blk_drew BK407.out)
      have n4_ := Aside0.mk (below_drew1 HB.out)
      clear HO415
      clear HO422
      clear BK406
      clear BK407
      clear HB
      have HO415 := n0_
      have HO422 := n1_
      have BK406 := n2_
      have BK407 := n3_
      have HB := n4_
      clear n0_ n1_ n2_ n3_ n4_
      have p425 : 0 ≤ (t410 : Int) := of_decide_eq_true (by first | (with_reducible assumption) | assumption)
      have q425 : t410 < (l0_1.length : Int) := of_decide_eq_true (by first | (with_reducible assumption) | assumption)
      obtain ⟨ad425, e425, hx425_0, hx425_1, hx425_2, hx425_3⟩ := at_T63 HR0_1.out t410 p425 q425
      have hw425_3 := hx425_3
      have hw425_2 := hx425_2
      have hw425_1 := hx425_1
      have hw425_0 := hx425_0
      cases e425
      replace hx425_0 := cB HB hx425_0
      replace hx425_1 := cB HB hx425_1
      replace hx425_2 := cB HB hx425_2
      replace hx425_3 := cB HB hx425_3
      replace p425 := eq_true p425
      replace q425 := eq_true q425
      have p426 : 0 ≤ (t410 : Int) := of_decide_eq_true (by first | (with_reducible assumption) | assumption)
      have q426 : t410 < (l0_1.length : Int) := of_decide_eq_true (by first | (with_reducible assumption) | assumption)
      obtain ⟨ad426, e426, hx426_0, hx426_1, hx426_2, hx426_3⟩ := at_T63 HR0_1.out t410 p426 q426
      have hw426_3 := hx426_3
      have hw426_2 := hx426_2
      have hw426_1 := hx426_1
      have hw426_0 := hx426_0
      obtain rfl : ad425 = ad426 := (by injection e426)
      replace hx426_0 := cB HB hx426_0
      replace hx426_1 := cB HB hx426_1
      replace hx426_2 := cB HB hx426_2
      replace hx426_3 := cB HB hx426_3
      replace p426 := eq_true p426
      replace q426 := eq_true q426
      refine start_ (n := 15) (S := fun w' => w'.cell? ⟨gb406, 0, none⟩ = some (.slice A0_0 l0_0.length c0_0) ∧ w'.cell? ⟨gb406, 1, none⟩ = some (.slice (some ad425) l0_1.length c0_1) ∧ w'.cell? ⟨gb406, 2, none⟩ = some (.int .i64 a0_2) ∧ w'.cell? (ad425.add ((t410).toNat * 4)) = some (.int .i64 ((rd_T63 l0_1 t410).f0)) ∧ w'.cell? ⟨(ad425.add ((t410).toNat * 4)).block, (ad425.add ((t410).toNat * 4)).off + 1, none⟩ = some (.int .i64 ((rd_T63 l0_1 t410).f1)) ∧ w'.cell? ⟨(ad425.add ((t410).toNat * 4)).block, (ad425.add ((t410).toNat * 4)).off + 2, none⟩ = some (.int .i64 ((rd_T63 l0_1 t410).f2.f0)) ∧ w'.cell? ⟨(ad425.add ((t410).toNat * 4)).block, (ad425.add ((t410).toNat * 4)).off + 3, none⟩ = some (.int .i64 ((rd_T63 l0_1 t410).f2.f1)) ∧ w'.cell? (ad425.add ((t410).toNat * 4)) = some (.int .i64 ((rd_T63 l0_1 t410).f0)) ∧ w'.cell? ⟨(ad425.add ((t410).toNat * 4)).block, (ad425.add ((t410).toNat * 4)).off + 1, none⟩ = some (.int .i64 ((rd_T63 l0_1 t410).f1)) ∧ w'.cell? ⟨(ad425.add ((t410).toNat * 4)).block, (ad425.add ((t410).toNat * 4)).off + 2, none⟩ = some (.int .i64 ((rd_T63 l0_1 t410).f2.f0)) ∧ w'.cell? ⟨(ad425.add ((t410).toNat * 4)).block, (ad425.add ((t410).toNat * 4)).off + 3, none⟩ = some (.int .i64 ((rd_T63 l0_1 t410).f2.f1))) (ds := []) (bs 15 0) (by kernel_rfl) rfl rfl ⟨(blk_cell BK406.out 0).trans rfl, (blk_cell BK406.out 1).trans rfl, (blk_cell BK406.out 2).trans rfl, (cB HB hw425_0 :), (cB HB hw425_1 :), (cB HB hw425_2 :), (cB HB hw425_3 :), (cB HB hw426_0 :), (cB HB hw426_1 :), (cB HB hw426_2 :), (cB HB hw426_3 :)⟩ (fun hHeld => ?_); refine with_tabW macadamlaw04_GangReach.tab6 macadamlaw04_GangReach.bits6 (fun HT_ HW_ => ?_)
      generalize w145.drew = w146 at HO415 HO422 BK406 BK407 HB hx425_0 hx425_1 hx425_2 hx425_3 hx426_0 hx426_1 hx426_2 hx426_3 hHeld ⊢
      refine pu HT_ 0 (some 51) (bs 15 1) ?_
      refine pu HT_ 1 (some 52) (bs 15 3) ?_
      refine pu HT_ 3 (some 54) (bs 15 11) ?_
      refine pu HT_ 7 (some 58) (bs 15 139) ?_
      refine pu HT_ 9 (some 60) (bs 15 651) ?_
      refine tk11 HT_ HW_ hHeld 2 (some 53) (bs 15 655) ?_
      refine pu HT_ 4 (some 55) (bs 15 671) ?_
      refine pu HT_ 5 (some 56) (bs 15 703) ?_
      refine tk11 HT_ HW_ hHeld 6 (some 57) (bs 15 767) ?_
      refine tk11 HT_ HW_ hHeld 8 (some 59) (bs 15 1023) ?_
      refine pu HT_ 10 (some 61) (bs 15 2047) ?_
      refine pu HT_ 11 (some 62) (bs 15 4095) ?_
      refine tk11 HT_ HW_ hHeld 12 (some 63) (bs 15 8191) ?_
      refine on HT_ 13 (some 64) (bs 15 16383) (fun K hK => ?_)
      refine goes_ Tryd.func45 (by kernel_rfl) rfl #[.int .i64 t411, .int .i64 ((rd_T63 l0_1 t410).f0), .int .i64 ((rd_T63 l0_1 t410).f1)] (by rfl) rfl rfl (by (try simp only [List.map_toArray, List.map_cons, List.map_nil]); first | done | rfl | (simp only [List.length_drop, List.length_take]; rfl)) ?_
      with_reducible refine (macadamref00_Amid.calls t411 ((rd_T63 l0_1 t410).f0) ((rd_T63 l0_1 t410).f1) t427 _ A13.out).mono ?_
      rintro e w' ⟨rfl, ⟨nd, rfl⟩⟩
      refine ⟨_, rfl, ?_⟩
      refine hK.out _ _ ⟨(blk_cell BK406.out 0).trans rfl, (blk_cell BK406.out 1).trans rfl, (blk_cell BK406.out 2).trans rfl, (cB HB hw425_0 :), (cB HB hw425_1 :), (cB HB hw425_2 :), (cB HB hw425_3 :), (cB HB hw426_0 :), (cB HB hw426_1 :), (cB HB hw426_2 :), (cB HB hw426_3 :)⟩ (fun hHeld => ?_)
      clear hK K
      refine nm 64 ?_
      refine pu HT_ 14 (some 12) (bs 15 32767) ?_
      refine done_ (done_of HT_.out (by kernel_rfl)) ?_
      try go_wp2
      go_ret
      exact ⟨by first | rfl | (simp [errW_none, errW_some] <;> rfl) | (simp [*, errW_none, errW_some] <;> rfl), bw2 HB GE406 GE407⟩
    ·rw [if_neg c14] at H
     have c14b0 : (t416 == 0) = false := beq_eq_false_iff_ne.mpr c14
     have c14b1 : (t416 != 0) = true := bne_iff_ne.mpr c14
     obtain rfl := Option.some.inj H
     go_enter Tryd.func7, Tryd.ntmps7
     try go_wp2_with (first | ((with_reducible refine gate_dst (N := 2) rfl ?_); refine bx 2 #[.slice A0_0 l0_0.length c0_0, .slice A0_1 l0_1.length c0_1, .int .i64 a0_2] 25 ?_; intro gb406 hg w147 hbox hb; have n0_ := Aside0.mk (below_step (bw HB) hb); have n1_ := Aside0.mk (hbox); have n2_ := Aside0.mk (bz (bw HB) hg); have n3_ := Aside0.mk (bz (bw HB) hg); clear HB; have HB := n0_; have BK406 := n1_; have GW406 := n2_; have GE406 := n3_; clear n0_ n1_ n2_ n3_; clear hb hbox hg) | ((with_reducible refine gate_dst (N := 3) rfl ?_); refine bx 3 #[.int .i64 a1_0, .int .i64 a1_1, .int .i64 a1_2] 27 ?_; intro gb407 hg w148 hbox hb; have n0_ := Aside0.mk (blk_below (bm BK406) hb); have n1_ := Aside0.mk (below_step (bw1 HB GE406) hb); have n2_ := Aside0.mk (hbox); have n3_ := Aside0.mk (bz (bw1 HB GE406) hg); have n4_ := Aside0.mk (bz (bw1 HB GE406) hg); have n5_ := Aside0.mk (bl (bm BK406) hg); have n6_ := Aside0.mk (bg (bm BK406) hg); clear BK406; clear HB; have BK406 := n0_; have HB := n1_; have BK407 := n2_; have GW407 := n3_; have GE407 := n4_; have NB406_407 := n5_; have NB407_406 := n6_; clear n0_ n1_ n2_ n3_ n4_ n5_ n6_; clear hb hbox hg; have hnb149 := NB406_407.out; have hnc149 := NB407_406.out; obtain ⟨hcz150_0, hcz150_1, hcz150_2, hfz150_0, hfz150_1, hfz150_2⟩ := b3 BK406) | ((with_reducible refine gate_callee (f := 38) rfl ?_); refine gL (some 14) Tryd.func38 #[.agg #[.slice A0_0 l0_0.length c0_0, .slice A0_1 l0_1.length c0_1, .int .i64 a0_2]] ?_; (with_reducible refine (macadamlaw04_sound.calls k _ _ l0_0 _ _ l0_1 a0_2 true _ ?side1 ?side2 ?side3 ?side4 A3.out).mono ?_); (case side1 => repeat (first | exact (Kd.C_below HR0_0.out HB.out) | (with_reducible refine Kd.C_alloc ?_ _) | (with_reducible refine Kd.C_drewN ?_ _) | (with_reducible refine Kd.C_drew ?_))); (case side2 => exact HC0_0.out); (case side3 => repeat (first | exact (Kd.C_below HR0_1.out HB.out) | (with_reducible refine Kd.C_alloc ?_ _) | (with_reducible refine Kd.C_drewN ?_ _) | (with_reducible refine Kd.C_drew ?_))); (case side4 => exact HC0_1.out); rintro e w151 ⟨rfl, hb⟩; refine ⟨_, rfl, ?_⟩; have n0_ := Aside0.mk (blk_below (bm BK406) hb); have n1_ := Aside0.mk (blk_below (bm BK407) hb); have n2_ := Aside0.mk (below_step (bw2 HB GE406 GE407) hb); clear BK406; clear BK407; clear HB; have BK406 := n0_; have BK407 := n1_; have HB := n2_; clear n0_ n1_ n2_; (try clear hb); (try clear hb2); (try clear hk); (try clear hi)))
     have n0_ := Aside0.mk (blk_drew BK406.out)
     have n1_ := Aside0.mk (blk_drew BK407.out)
     have n2_ := Aside0.mk (below_drew1 HB.out)
     clear BK406
     clear BK407
     clear HB
     have BK406 := n0_
     have BK407 := n1_
     have HB := n2_
     clear n0_ n1_ n2_
     refine start_ (n := 20) (S := fun w' => w'.cell? ⟨gb407, 0, none⟩ = some (.int .i64 a1_0) ∧ w'.cell? ⟨gb407, 1, none⟩ = some (.int .i64 a1_1) ∧ w'.cell? ⟨gb407, 2, none⟩ = some (.int .i64 a1_2) ∧ w'.cell? ⟨gb406, 0, none⟩ = some (.slice A0_0 l0_0.length c0_0) ∧ w'.cell? ⟨gb406, 1, none⟩ = some (.slice A0_1 l0_1.length c0_1) ∧ w'.cell? ⟨gb406, 2, none⟩ = some (.int .i64 a0_2)) (ds := []) (bs 20 0) (by kernel_rfl) rfl rfl ⟨(blk_cell BK407.out 0).trans rfl, (blk_cell BK407.out 1).trans rfl, (blk_cell BK407.out 2).trans rfl, (blk_cell BK406.out 0).trans rfl, (blk_cell BK406.out 1).trans rfl, (blk_cell BK406.out 2).trans rfl⟩ (fun hHeld => ?_); refine with_tabW macadamlaw04_GangReach.tab3 macadamlaw04_GangReach.bits3 (fun HT_ HW_ => ?_)
     generalize w151.drew = w152 at BK406 BK407 HB hHeld ⊢
     refine pu HT_ 0 (some 17) (bs 20 1) ?_
     refine pu HT_ 2 (some 19) (bs 20 5) ?_
     refine pu HT_ 6 (some 23) (bs 20 69) ?_
     refine pu HT_ 8 (some 25) (bs 20 325) ?_
     refine pu HT_ 12 (some 29) (bs 20 4421) ?_
     refine pu HT_ 14 (some 31) (bs 20 20805) ?_
     refine tk6 HT_ HW_ hHeld 1 (some 18) (bs 20 20807) ?_
     refine tk6 HT_ HW_ hHeld 3 (some 20) (bs 20 20815) ?_
     refine pu HT_ 4 (some 21) (bs 20 20831) ?_
     refine tk6 HT_ HW_ hHeld 7 (some 24) (bs 20 20959) ?_
     refine tk6 HT_ HW_ hHeld 9 (some 26) (bs 20 21471) ?_
     refine pu HT_ 10 (some 27) (bs 20 22495) ?_
     refine tk6 HT_ HW_ hHeld 13 (some 30) (bs 20 30687) ?_
     refine tk6 HT_ HW_ hHeld 15 (some 32) (bs 20 63455) ?_
     refine on HT_ 5 (some 22) (bs 20 63487) (fun K hK => ?_)
     refine goes_ Tryd.func39 (by kernel_rfl) rfl #[.int .i64 a1_0, .int .i64 (l0_1.length : Int)] (by rfl) rfl rfl (by (try simp only [List.map_toArray, List.map_cons, List.map_nil]); first | done | rfl | (simp only [List.length_drop, List.length_take]; rfl)) ?_
     with_reducible refine (macadamref00_Wrap.calls a1_0 (l0_1.length : Int) t410 _ A5.out).mono ?_
     rintro e w' ⟨rfl, ⟨nd, rfl⟩⟩
     refine ⟨_, rfl, ?_⟩
     refine hK.out _ _ ⟨(blk_cell BK407.out 0).trans rfl, (blk_cell BK407.out 1).trans rfl, (blk_cell BK407.out 2).trans rfl, (blk_cell BK406.out 0).trans rfl, (blk_cell BK406.out 1).trans rfl, (blk_cell BK406.out 2).trans rfl⟩ (fun hHeld => ?_)
     clear hK K
     refine nm 22 ?_
     refine on HT_ 11 (some 28) (bs 20 65535) (fun K hK => ?_)
     refine goes_ Tryd.func39 (by kernel_rfl) rfl #[.int .i64 a1_1, .int .i64 (l0_0.length : Int)] (by rfl) rfl rfl (by (try simp only [List.map_toArray, List.map_cons, List.map_nil]); first | done | rfl | (simp only [List.length_drop, List.length_take]; rfl)) ?_
     with_reducible refine (macadamref00_Wrap.calls a1_1 (l0_0.length : Int) t411 _ A6.out).mono ?_
     rintro e w' ⟨rfl, ⟨nd, rfl⟩⟩
     refine ⟨_, rfl, ?_⟩
     refine hK.out _ _ ⟨(blk_cell BK407.out 0).trans rfl, (blk_cell BK407.out 1).trans rfl, (blk_cell BK407.out 2).trans rfl, (blk_cell BK406.out 0).trans rfl, (blk_cell BK406.out 1).trans rfl, (blk_cell BK406.out 2).trans rfl⟩ (fun hHeld => ?_)
     clear hK K
     refine nm 28 ?_
     refine on HT_ 16 (some 33) (bs 20 131071) (fun K hK => ?_)
     refine goes_ Tryd.func39 (by kernel_rfl) rfl #[.int .i64 a1_2, .int .i64 a0_2] (by rfl) rfl rfl (by (try simp only [List.map_toArray, List.map_cons, List.map_nil]); first | done | rfl | (simp only [List.length_drop, List.length_take]; rfl)) ?_
     with_reducible refine (macadamref00_Wrap.calls a1_2 a0_2 t412 _ A7.out).mono ?_
     rintro e w' ⟨rfl, ⟨nd, rfl⟩⟩
     refine ⟨_, rfl, ?_⟩
     refine hK.out _ _ ⟨(blk_cell BK407.out 0).trans rfl, (blk_cell BK407.out 1).trans rfl, (blk_cell BK407.out 2).trans rfl, (blk_cell BK406.out 0).trans rfl, (blk_cell BK406.out 1).trans rfl, (blk_cell BK406.out 2).trans rfl⟩ (fun hHeld => ?_)
     clear hK K
     refine nm 33 ?_
     refine pu HT_ 17 (some 5) (bs 20 262143) ?_
     refine pu HT_ 18 (some 6) (bs 20 524287) ?_
     refine pu HT_ 19 (some 7) (bs 20 1048575) ?_
     refine done_ (done_of HT_.out (by kernel_rfl)) ?_
     obtain ⟨hcz153_0, hcz153_1, hcz153_2, hfz153_0, hfz153_1, hfz153_2⟩ := b3 BK406
     try go_wp2_with (first | ((with_reducible refine gate_callee (f := 15) rfl ?_); refine gL (some 38) Tryd.func15 #[.agg #[.slice A0_0 l0_0.length c0_0, .slice A0_1 l0_1.length c0_1, .int .i64 a0_2], .int .i64 t410, .int .i64 t411] ?_; (with_reducible refine (gang_Can.calls _ _ l0_0 _ _ l0_1 a0_2 t410 t411 t413 t416 _ ?side1 ?side2 ?side3 ?side4 ?side5 A8.out).mono ?_); (case side1 => repeat (first | exact (Kd.C_below HR0_0.out (bw2 HB GE406 GE407)) | (with_reducible refine Kd.C_alloc ?_ _) | (with_reducible refine Kd.C_drewN ?_ _) | (with_reducible refine Kd.C_drew ?_))); (case side2 => exact HC0_0.out); (case side3 => repeat (first | exact (Kd.C_below HR0_1.out (bw2 HB GE406 GE407)) | (with_reducible refine Kd.C_alloc ?_ _) | (with_reducible refine Kd.C_drewN ?_ _) | (with_reducible refine Kd.C_drew ?_))); (case side4 => exact HC0_1.out); (case side5 => exact gv_below HG.out (bw2 HB GE406 GE407)); rintro e w154 ⟨v414, rfl, ho0, hb⟩; refine ⟨_, rfl, ?_⟩; have n0_ := Aside0.mk (Kd.V_lower (Kd.V_mono (ok' := fun k_ => k_ ≠ gb406 ∧ k_ ≠ gb407) ho0 (fun k_ hk_ => ⟨(Kd.freshB (g := gb406) (o := .cells #[.slice A0_0 l0_0.length c0_0, .slice A0_1 l0_1.length c0_1, .int .i64 a0_2] 25 (0, 0)) (bm BK406) k_ hk_), (Kd.freshB (g := gb407) (o := .cells #[.int .i64 a1_0, .int .i64 a1_1, .int .i64 a1_2] 27 (0, 0)) (bm BK407) k_ hk_)⟩)) (below_size (bw2 HB GE406 GE407))); have n1_ := Aside0.mk (blk_below (bm BK406) hb); have n2_ := Aside0.mk (blk_below (bm BK407) hb); have n3_ := Aside0.mk (below_step (bw2 HB GE406 GE407) hb); clear BK406; clear BK407; clear HB; have HO415 := n0_; have BK406 := n1_; have BK407 := n2_; have HB := n3_; clear n0_ n1_ n2_ n3_; (try clear hb); (try clear hb2); (try clear hk); (try clear hi); (try clear ho0)))
     have n0_ := Aside0.mk (Kd.V_drew HO415.out)
     have n1_ := Aside0.mk (blk_drew BK406.out)
     have n2_ := Aside0.mk (blk_drew BK407.out)
     have n3_ := Aside0.mk (below_drew1 HB.out)
     clear HO415
     clear BK406
     clear BK407
     clear HB
     have HO415 := n0_
     have BK406 := n1_
     have BK407 := n2_
     have HB := n3_
     clear n0_ n1_ n2_ n3_
     refine start_ (n := 12) (S := fun w' => w'.cell? ⟨gb406, 0, none⟩ = some (.slice A0_0 l0_0.length c0_0) ∧ w'.cell? ⟨gb406, 1, none⟩ = some (.slice A0_1 l0_1.length c0_1) ∧ w'.cell? ⟨gb406, 2, none⟩ = some (.int .i64 a0_2)) (ds := []) (bs 12 0) (by kernel_rfl) rfl rfl ⟨(blk_cell BK406.out 0).trans rfl, (blk_cell BK406.out 1).trans rfl, (blk_cell BK406.out 2).trans rfl⟩ (fun hHeld => ?_); refine with_tabW macadamlaw04_GangReach.tab5 macadamlaw04_GangReach.bits5 (fun HT_ HW_ => ?_)
     generalize w154.drew = w155 at HO415 BK406 BK407 HB hHeld ⊢
     refine pu HT_ 1 (some 43) (bs 12 2) ?_
     refine pu HT_ 2 (some 44) (bs 12 6) ?_
     refine pu HT_ 3 (some 45) (bs 12 14) ?_
     refine tk3 HT_ HW_ hHeld 0 (some 42) (bs 12 15) ?_
     refine on HT_ 4 (some 46) (bs 12 31) (fun K hK => ?_)
     refine goes_ Tryd.func44 (by kernel_rfl) rfl #[.int .i64 t412, .int .i64 t410, .int .i64 t411] (by rfl) rfl rfl (by (try simp only [List.map_toArray, List.map_cons, List.map_nil]); first | done | rfl | (simp only [List.length_drop, List.length_take]; rfl)) ?_
     with_reducible refine (macadamlaw04_work.calls t412 t410 t411 t417 t418 t419 _ A9.out).mono ?_
     rintro e w156 ⟨rfl, hb⟩
     refine ⟨_, rfl, ?_⟩
     have n0_ := Aside0.mk (Kd.V_below (by (with_reducible repeat (first | apply Kd.V_alloc | apply Kd.V_drewN | apply Kd.V_drew)); exact HO415.out) hb)
     have n1_ := Aside0.mk (blk_below (bm BK406) hb)
     have n2_ := Aside0.mk (blk_below (bm BK407) hb)
     have n3_ := Aside0.mk (below_step (bw2 HB GE406 GE407) hb)
     clear HO415
     clear BK406
     clear BK407
     clear HB
     have HO415 := n0_
     have BK406 := n1_
     have BK407 := n2_
     have HB := n3_
     clear n0_ n1_ n2_ n3_
     (try clear hb)
     (try clear hb2)
     (try clear hk)
     (try clear hi)
     refine hK.out _ _ ⟨(blk_cell BK406.out 0).trans rfl, (blk_cell BK406.out 1).trans rfl, (blk_cell BK406.out 2).trans rfl⟩ (fun hHeld => ?_)
     clear hK K
     refine nm 46 ?_
     refine on HT_ 5 (some 47) (bs 12 63) (fun K hK => ?_)
     refine Kd.R_lit_step k59 _ 59 ?hg (N := 47) ?hd (xs := ([(⟨t417, t418, t419⟩ : S59)] : List (S59))) (inner := [.int .i64 t417, .int .i64 t418, .int .i64 t419]) (ok := fun _ => True) (okp := fun _ => True) ?hr ?hp (fun _ hk => hk) trivial (Below.refl _ _) (Nat.le_refl _) (by simp) ?_; (case hd => rfl); (case hg => rfl); (case hr => first | (go_simp; done) | (go_simp; rfl)); (case hp => exact (Reps.c3 (show Kd.M k59 _ _ _ (⟨t417, t418, t419⟩ : S59) [.int .i64 t417, .int .i64 t418, .int .i64 t419] from (k59_mkM _ _ _ (⟨t417, t418, t419⟩ : S59) )) (Reps.none _ _)))
     intro v421 w157 ho158 hb hg_ hnew_
     clear hg_ hnew_
     (first | rw [← Ny420.out] at ho158 | (simp only [Int.reduceToNat] at ho158; rw [← Ny420.out] at ho158))
     have n0_ := Aside0.mk (Kd.V_elder' (by (with_reducible repeat (first | apply Kd.V_alloc | apply Kd.V_drewN | apply Kd.V_drew)); exact HO415.out) (Kd.R_base ho158) hb)
     have n1_ := Aside0.mk (Kd.R_lower ho158 (below_size (bw2 HB GE406 GE407)))
     have n2_ := Aside0.mk (blk_below (bm BK406) hb)
     have n3_ := Aside0.mk (blk_below (bm BK407) hb)
     have n4_ := Aside0.mk (below_step (bw2 HB GE406 GE407) hb)
     clear HO415
     clear BK406
     clear BK407
     clear HB
     have HO415 := n0_
     have HO422 := n1_
     have BK406 := n2_
     have BK407 := n3_
     have HB := n4_
     clear n0_ n1_ n2_ n3_ n4_
     clear hb ho158
     obtain ⟨Ao159, co159, eo159⟩ := Kd.R_slice HO422.out
     (first | subst eo159 | (injection eo159 with f1_ f2_ f3_; have f4_ := f1_.symm; have f5_ := f3_.symm; clear f1_ f2_ f3_; subst f4_; subst f5_))
     refine hK.out _ _ ⟨(blk_cell BK406.out 0).trans rfl, (blk_cell BK406.out 1).trans rfl, (blk_cell BK406.out 2).trans rfl⟩ (fun hHeld => ?_)
     clear hK K
     refine nm 47 ?_
     refine on HT_ 6 (some 48) (bs 12 127) (fun K hK => ?_)
     refine goes_ Tryd.func20 (by kernel_rfl) rfl #[.agg #[.slice A0_0 l0_0.length c0_0, .slice A0_1 l0_1.length c0_1, .int .i64 a0_2], .slice Ao159 y420.length co159] (by rfl) rfl rfl (by (try simp only [List.map_toArray, List.map_cons, List.map_nil]); first | done | rfl | (simp only [List.length_drop, List.length_take]; rfl)) ?_
     with_reducible refine (gang_May.calls _ _ l0_0 _ _ l0_1 a0_2 _ _ y420 t423 t424 _ ?side1 ?side2 ?side3 ?side4 ?side5 ?side6 ?side7 A10.out).mono ?_
     (case side1 => repeat (first | exact (Kd.C_below HR0_0.out HB.out) | (with_reducible refine Kd.C_alloc ?_ _) | (with_reducible refine Kd.C_drewN ?_ _) | (with_reducible refine Kd.C_drew ?_)))
     (case side2 => exact HC0_0.out)
     (case side3 => repeat (first | exact (Kd.C_below HR0_1.out HB.out) | (with_reducible refine Kd.C_alloc ?_ _) | (with_reducible refine Kd.C_drewN ?_ _) | (with_reducible refine Kd.C_drew ?_)))
     (case side4 => exact HC0_1.out)
     (case side5 => repeat (first | exact (Kd.R_reads' HO422.out).2.2 | (with_reducible refine Kd.C_alloc ?_ _) | (with_reducible refine Kd.C_drewN ?_ _) | (with_reducible refine Kd.C_drew ?_)))
     (case side6 => exact (Kd.R_reads' HO422.out).2.1)
     (case side7 => exact gv_below HG.out (bw2 HB GE406 GE407))
     rintro e w160 ⟨rfl, hb⟩
     refine ⟨_, rfl, ?_⟩
     have n0_ := Aside0.mk (Kd.V_below (by (with_reducible repeat (first | apply Kd.V_alloc | apply Kd.V_drewN | apply Kd.V_drew)); exact HO415.out) hb)
     have n1_ := Aside0.mk (Kd.R_below (by (with_reducible repeat (first | apply Kd.R_alloc | apply Kd.R_drewN | apply Kd.R_drew)); exact HO422.out) hb)
     have n2_ := Aside0.mk (blk_below (bm BK406) hb)
     have n3_ := Aside0.mk (blk_below (bm BK407) hb)
     have n4_ := Aside0.mk (below_step (bw2 HB GE406 GE407) hb)
     clear HO415
     clear HO422
     clear BK406
     clear BK407
     clear HB
     have HO415 := n0_
     have HO422 := n1_
     have BK406 := n2_
     have BK407 := n3_
     have HB := n4_
     clear n0_ n1_ n2_ n3_ n4_
     (try clear hb)
     (try clear hb2)
     (try clear hk)
     (try clear hi)
     refine hK.out _ _ ⟨(blk_cell BK406.out 0).trans rfl, (blk_cell BK406.out 1).trans rfl, (blk_cell BK406.out 2).trans rfl⟩ (fun hHeld => ?_)
     clear hK K
     refine nm 48 ?_
     refine pu HT_ 7 (some 41) (bs 12 255) ?_
     refine pu HT_ 8 (some 49) (bs 12 511) ?_
     refine pu HT_ 9 (some 50) (bs 12 1023) ?_
     refine pu HT_ 10 (some 10) (bs 12 2047) ?_
     refine pu HT_ 11 (some 11) (bs 12 4095) ?_
     refine done_ (done_of HT_.out (by kernel_rfl)) ?_
     try go_wp2
     have n0_ := Aside0.mk (Kd.V_drew HO415.out)
     have n1_ := Aside0.mk (Kd.R_drew HO422.out)
     have n2_ := Aside0.mk (blk_drew BK406.out)
     have n3_ := Aside0.mk (blk_drew BK407.out)
     have n4_ := Aside0.mk (below_drew1 HB.out)
     clear HO415
     clear HO422
     clear BK406
     clear BK407
     clear HB
     have HO415 := n0_
     have HO422 := n1_
     have BK406 := n2_
     have BK407 := n3_
     have HB := n4_
     clear n0_ n1_ n2_ n3_ n4_
     have p425 : 0 ≤ (t410 : Int) := of_decide_eq_true (by first | (with_reducible assumption) | assumption)
     have q425 : t410 < (l0_1.length : Int) := of_decide_eq_true (by first | (with_reducible assumption) | assumption)
     obtain ⟨ad425, e425, hx425_0, hx425_1, hx425_2, hx425_3⟩ := at_T63 HR0_1.out t410 p425 q425
     have hw425_3 := hx425_3
     have hw425_2 := hx425_2
     have hw425_1 := hx425_1
     have hw425_0 := hx425_0
     cases e425
     replace hx425_0 := cB HB hx425_0
     replace hx425_1 := cB HB hx425_1
     replace hx425_2 := cB HB hx425_2
     replace hx425_3 := cB HB hx425_3
     replace p425 := eq_true p425
     replace q425 := eq_true q425
     have p426 : 0 ≤ (t410 : Int) := of_decide_eq_true (by first | (with_reducible assumption) | assumption)
     have q426 : t410 < (l0_1.length : Int) := of_decide_eq_true (by first | (with_reducible assumption) | assumption)
     obtain ⟨ad426, e426, hx426_0, hx426_1, hx426_2, hx426_3⟩ := at_T63 HR0_1.out t410 p426 q426
     have hw426_3 := hx426_3
     have hw426_2 := hx426_2
     have hw426_1 := hx426_1
     have hw426_0 := hx426_0
     obtain rfl : ad425 = ad426 := (by injection e426)
     replace hx426_0 := cB HB hx426_0
     replace hx426_1 := cB HB hx426_1
     replace hx426_2 := cB HB hx426_2
     replace hx426_3 := cB HB hx426_3
     replace p426 := eq_true p426
     replace q426 := eq_true q426
     refine start_ (n := 15) (S := fun w' => w'.cell? ⟨gb406, 0, none⟩ = some (.slice A0_0 l0_0.length c0_0) ∧ w'.cell? ⟨gb406, 1, none⟩ = some (.slice (some ad425) l0_1.length c0_1) ∧ w'.cell? ⟨gb406, 2, none⟩ = some (.int .i64 a0_2) ∧ w'.cell? (ad425.add ((t410).toNat * 4)) = some (.int .i64 ((rd_T63 l0_1 t410).f0)) ∧ w'.cell? ⟨(ad425.add ((t410).toNat * 4)).block, (ad425.add ((t410).toNat * 4)).off + 1, none⟩ = some (.int .i64 ((rd_T63 l0_1 t410).f1)) ∧ w'.cell? ⟨(ad425.add ((t410).toNat * 4)).block, (ad425.add ((t410).toNat * 4)).off + 2, none⟩ = some (.int .i64 ((rd_T63 l0_1 t410).f2.f0)) ∧ w'.cell? ⟨(ad425.add ((t410).toNat * 4)).block, (ad425.add ((t410).toNat * 4)).off + 3, none⟩ = some (.int .i64 ((rd_T63 l0_1 t410).f2.f1)) ∧ w'.cell? (ad425.add ((t410).toNat * 4)) = some (.int .i64 ((rd_T63 l0_1 t410).f0)) ∧ w'.cell? ⟨(ad425.add ((t410).toNat * 4)).block, (ad425.add ((t410).toNat * 4)).off + 1, none⟩ = some (.int .i64 ((rd_T63 l0_1 t410).f1)) ∧ w'.cell? ⟨(ad425.add ((t410).toNat * 4)).block, (ad425.add ((t410).toNat * 4)).off + 2, none⟩ = some (.int .i64 ((rd_T63 l0_1 t410).f2.f0)) ∧ w'.cell? ⟨(ad425.add ((t410).toNat * 4)).block, (ad425.add ((t410).toNat * 4)).off + 3, none⟩ = some (.int .i64 ((rd_T63 l0_1 t410).f2.f1))) (ds := []) (bs 15 0) (by kernel_rfl) rfl rfl ⟨(blk_cell BK406.out 0).trans rfl, (blk_cell BK406.out 1).trans rfl, (blk_cell BK406.out 2).trans rfl, (cB HB hw425_0 :), (cB HB hw425_1 :), (cB HB hw425_2 :), (cB HB hw425_3 :), (cB HB hw426_0 :), (cB HB hw426_1 :), (cB HB hw426_2 :), (cB HB hw426_3 :)⟩ (fun hHeld => ?_); refine with_tabW macadamlaw04_GangReach.tab6 macadamlaw04_GangReach.bits6 (fun HT_ HW_ => ?_)
     generalize w160.drew = w161 at HO415 HO422 BK406 BK407 HB hx425_0 hx425_1 hx425_2 hx425_3 hx426_0 hx426_1 hx426_2 hx426_3 hHeld ⊢
     refine pu HT_ 0 (some 51) (bs 15 1) ?_
     refine pu HT_ 1 (some 52) (bs 15 3) ?_
     refine pu HT_ 3 (some 54) (bs 15 11) ?_
     refine pu HT_ 7 (some 58) (bs 15 139) ?_
     refine pu HT_ 9 (some 60) (bs 15 651) ?_
     refine tk11 HT_ HW_ hHeld 2 (some 53) (bs 15 655) ?_
     refine pu HT_ 4 (some 55) (bs 15 671) ?_
     refine pu HT_ 5 (some 56) (bs 15 703) ?_
     refine tk11 HT_ HW_ hHeld 6 (some 57) (bs 15 767) ?_
     refine tk11 HT_ HW_ hHeld 8 (some 59) (bs 15 1023) ?_
     refine pu HT_ 10 (some 61) (bs 15 2047) ?_
     refine pu HT_ 11 (some 62) (bs 15 4095) ?_
     refine tk11 HT_ HW_ hHeld 12 (some 63) (bs 15 8191) ?_
     refine on HT_ 13 (some 64) (bs 15 16383) (fun K hK => ?_)
     refine goes_ Tryd.func45 (by kernel_rfl) rfl #[.int .i64 t411, .int .i64 ((rd_T63 l0_1 t410).f0), .int .i64 ((rd_T63 l0_1 t410).f1)] (by rfl) rfl rfl (by (try simp only [List.map_toArray, List.map_cons, List.map_nil]); first | done | rfl | (simp only [List.length_drop, List.length_take]; rfl)) ?_
     with_reducible refine (macadamref00_Amid.calls t411 ((rd_T63 l0_1 t410).f0) ((rd_T63 l0_1 t410).f1) t427 _ A13.out).mono ?_
     rintro e w' ⟨rfl, ⟨nd, rfl⟩⟩
     refine ⟨_, rfl, ?_⟩
     refine hK.out _ _ ⟨(blk_cell BK406.out 0).trans rfl, (blk_cell BK406.out 1).trans rfl, (blk_cell BK406.out 2).trans rfl, (cB HB hw425_0 :), (cB HB hw425_1 :), (cB HB hw425_2 :), (cB HB hw425_3 :), (cB HB hw426_0 :), (cB HB hw426_1 :), (cB HB hw426_2 :), (cB HB hw426_3 :)⟩ (fun hHeld => ?_)
     clear hK K
     refine nm 64 ?_
     refine pu HT_ 14 (some 12) (bs 15 32767) ?_
     refine done_ (done_of HT_.out (by kernel_rfl)) ?_
     try go_wp2
     go_ret
     exact ⟨by first | rfl | (simp [errW_none, errW_some] <;> rfl) | (simp [*, errW_none, errW_some] <;> rfl), bw2 HB GE406 GE407⟩
   ·rw [if_neg c12] at H
    exact absurd H (by simp)
  ·rw [if_neg c11] at H
   exact absurd H (by simp)
 ·replace c4 := Bool.eq_false_iff.mpr c4
  subst c4
  have H1 : ((macadamlaw04_shovelled.f).bind fun t409 => (some t409)) = some r := by rw [if_neg (show ¬ (false = true) by decide)] at H; exact H
  clear H
  have H := H1
  clear H1
  replace H := Option.bind_eq_some_iff.mp H
  obtain ⟨t409, A1620, H⟩ := H
  replace H : (some t409) = some r := H
  have A162 := Aside0.mk A1620
  clear A1620
  obtain rfl := Option.some.inj H
  go_enter Tryd.func7, Tryd.ntmps7
  go_wp2_with (first | ((with_reducible refine gate_dst (N := 2) rfl ?_); refine bx 2 #[.slice A0_0 l0_0.length c0_0, .slice A0_1 l0_1.length c0_1, .int .i64 a0_2] 25 ?_; intro gb406 hg w163 hbox hb; have n0_ := Aside0.mk (below_step (bw HB) hb); have n1_ := Aside0.mk (hbox); have n2_ := Aside0.mk (bz (bw HB) hg); have n3_ := Aside0.mk (bz (bw HB) hg); clear HB; have HB := n0_; have BK406 := n1_; have GW406 := n2_; have GE406 := n3_; clear n0_ n1_ n2_ n3_; clear hb hbox hg) | ((with_reducible refine gate_dst (N := 3) rfl ?_); refine bx 3 #[.int .i64 a1_0, .int .i64 a1_1, .int .i64 a1_2] 27 ?_; intro gb407 hg w164 hbox hb; have n0_ := Aside0.mk (blk_below (bm BK406) hb); have n1_ := Aside0.mk (below_step (bw1 HB GE406) hb); have n2_ := Aside0.mk (hbox); have n3_ := Aside0.mk (bz (bw1 HB GE406) hg); have n4_ := Aside0.mk (bz (bw1 HB GE406) hg); have n5_ := Aside0.mk (bl (bm BK406) hg); have n6_ := Aside0.mk (bg (bm BK406) hg); clear BK406; clear HB; have BK406 := n0_; have HB := n1_; have BK407 := n2_; have GW407 := n3_; have GE407 := n4_; have NB406_407 := n5_; have NB407_406 := n6_; clear n0_ n1_ n2_ n3_ n4_ n5_ n6_; clear hb hbox hg; have hnb165 := NB406_407.out; have hnc165 := NB407_406.out; obtain ⟨hcz166_0, hcz166_1, hcz166_2, hfz166_0, hfz166_1, hfz166_2⟩ := b3 BK406) | ((with_reducible refine gate_callee (f := 38) rfl ?_); refine gL (some 14) Tryd.func38 #[.agg #[.slice A0_0 l0_0.length c0_0, .slice A0_1 l0_1.length c0_1, .int .i64 a0_2]] ?_; (with_reducible refine (macadamlaw04_sound.calls k _ _ l0_0 _ _ l0_1 a0_2 false _ ?side1 ?side2 ?side3 ?side4 A3.out).mono ?_); (case side1 => repeat (first | exact (Kd.C_below HR0_0.out HB.out) | (with_reducible refine Kd.C_alloc ?_ _) | (with_reducible refine Kd.C_drewN ?_ _) | (with_reducible refine Kd.C_drew ?_))); (case side2 => exact HC0_0.out); (case side3 => repeat (first | exact (Kd.C_below HR0_1.out HB.out) | (with_reducible refine Kd.C_alloc ?_ _) | (with_reducible refine Kd.C_drewN ?_ _) | (with_reducible refine Kd.C_drew ?_))); (case side4 => exact HC0_1.out); rintro e w167 ⟨rfl, hb⟩; refine ⟨_, rfl, ?_⟩; have n0_ := Aside0.mk (blk_below (bm BK406) hb); have n1_ := Aside0.mk (blk_below (bm BK407) hb); have n2_ := Aside0.mk (below_step (bw2 HB GE406 GE407) hb); clear BK406; clear BK407; clear HB; have BK406 := n0_; have BK407 := n1_; have HB := n2_; clear n0_ n1_ n2_; (try clear hb); (try clear hb2); (try clear hk); (try clear hi)) | ((with_reducible refine gate_callee (f := 24) rfl ?_); refine gL (some 16) Tryd.func24 #[] ?_; (with_reducible refine (macadamlaw04_shovelled.calls  t409 _ ?side1 A162.out).mono ?_); (case side1 => exact gv_below HG.out (bw2 HB GE406 GE407)); rintro e w168 ⟨rfl, hb⟩; refine ⟨_, rfl, ?_⟩; have n0_ := Aside0.mk (blk_below (bm BK406) hb); have n1_ := Aside0.mk (blk_below (bm BK407) hb); have n2_ := Aside0.mk (below_step (bw2 HB GE406 GE407) hb); clear BK406; clear BK407; clear HB; have BK406 := n0_; have BK407 := n1_; have HB := n2_; clear n0_ n1_ n2_; (try clear hb); (try clear hb2); (try clear hk); (try clear hi)))
  go_ret
  exact ⟨by first | rfl | (simp [errW_none, errW_some] <;> rfl) | (simp [*, errW_none, errW_some] <;> rfl), bw2 HB GE406 GE407⟩
end Go.Proofs.YtikfghnkbgdbgaaDoor.Q
end
section
namespace Go.Proofs.YtikfghnkbgdbgaaDoor.Q
set_option linter.unusedSimpArgs false
set_option linter.unusedVariables false
open Go.RowKit Go.Proofs.YtikfghnkbgdbgaaDoorW.PrintWords Go.Proofs.YtikfghnkbgdbgaaDoorW.PrintLast Go.Proofs.YtikfghnkbgdbgaaDoorW.PrintMore
theorem gangReach_pure (ms : List M) (gs : List G) (n : Int) (ok0 : OkBook ms gs n) (a b c : Int) (_ok2 : (Lit.int .i64 a).wf = true ∧ (Lit.int .i64 b).wf = true ∧ (Lit.int .i64 c).wf = true) :
    ∃ k, macadamlaw04_GangReach.f k ms gs n a b c = some true := by
  have hm : ms.length ≤ 9223372036854775807 := ok0.1.1
  have hg : gs.length ≤ 9223372036854775807 := ok0.2.1.1
  refine Ev.rounds ?_
  unfold macadamlaw04_GangReach.f
  refine Ev.bind (sound_ev ms gs n hm hg) ?_
  by_cases ok : okB ms gs n = true
  · rw [ok]
    obtain ⟨⟨hm1, hm2⟩, ⟨hg1, hg2⟩, hn1, hn2⟩ := okB_sizes ok
    obtain ⟨by_, h1, b0, b1⟩ := wrap_f a (show (1 : Int) ≤ (gs.length : Int) by omega) (by omega)
    obtain ⟨at_, h2, a0, a1⟩ := wrap_f b (show (1 : Int) ≤ (ms.length : Int) by omega) (by omega)
    obtain ⟨t, h3, t0, t1⟩ := wrap_f c hn1 (by omega)
    have e1 : gang_Can.f ms gs n by_ at_ = some ((upTo n).filter (fun i => canB ms gs n ⟨i, by_, at_⟩), 0) := by
      unfold gang_Can.f
      rw [if_pos ok, if_pos (by unfold within; simp only [Bool.and_eq_true, decide_eq_true_eq]; omega)]
    have e2 : gang_May.f ms gs n [⟨t, by_, at_⟩] = some (canB ms gs n ⟨t, by_, at_⟩, 0) := by
      unfold gang_May.f
      rw [if_pos ok]
      simp [planB, planFrom]
    refine Ev.pos rfl (Ev.bind (Ev.some h1) (Ev.bind (Ev.some h2) (Ev.bind (Ev.some h3) (Ev.bind (Ev.some e1) (Ev.bind (Ev.some (show macadamlaw04_work.f t by_ at_ = some (t, by_, at_) from rfl)) (Ev.bind (Ev.some e2) (Ev.pos b0 (Ev.pos b1 ?_))))))))
    refine Ev.bind (Ev.some (amid_f _ _ _)) (Ev.pos rfl (Ev.pos rfl ?_))
    have hlen : ((upTo n).filter (fun i => canB ms gs n ⟨i, by_, at_⟩)).length ≤ 9223372036854775807 := by
      have h4 : ((upTo n).filter (fun i => canB ms gs n ⟨i, by_, at_⟩)).length ≤ 4 := can_len e1
      omega
    refine Ev.bind (rising_ev _ _ hlen) ?_
    rw [rise_filter (fun x _ h _ => h)]
    obtain ⟨r, hr, hr2⟩ := place_ev _ t hlen
    have hmem : t ∈ (upTo n).filter (fun i => canB ms gs n ⟨i, by_, at_⟩) ↔ canB ms gs n ⟨t, by_, at_⟩ = true := by
      rw [List.mem_filter, mem_upTo]
      exact ⟨fun h => h.2, fun h => ⟨⟨t0, t1⟩, h⟩⟩
    refine Ev.pos rfl (Ev.bind hr (Ev.pos ?_ ?_))
    · have : decide (r ≥ 0) = canB ms gs n ⟨t, by_, at_⟩ := by
        rw [Bool.eq_iff_iff, decide_eq_true_eq, ← hmem]
        constructor
        · intro h
          exact Classical.byContradiction fun hn => by have := hr2.2 hn; omega
        · intro h
          rcases Int.lt_or_le r 0 with h' | h'
          · exact absurd h (hr2.1 h')
          · exact h'
      rw [this]; simp
    · have hb := (okB_mile ok _ (rd_mem a0 a1)).2
      have hcan : canB ms gs n ⟨t, by_, at_⟩ = (within at_ (rd_T63 gs by_).f0 (rd_T63 gs by_).f1 && !bitB (rd_T66 ms at_).f1 t) := by
        unfold canB openB within
        simp only [t0, t1, a0, a1, b0, b1, decide_true, Bool.true_and, Bool.and_true]
        exact Bool.and_comm _ _
      cases hw : within at_ (rd_T63 gs by_).f0 (rd_T63 gs by_).f1 with
      | true =>
        refine Ev.pos rfl (Ev.pos a0 (Ev.pos a1 (Ev.bind (Ev.some (in_f hb.1 hb.2 t0 (by omega))) (Ev.pos ?_ (Ev.some rfl)))))
        rw [hcan, hw]; simp
      | false =>
        refine Ev.neg (by simp) (Ev.pos ?_ (Ev.some rfl))
        rw [hcan, hw]; simp
  · rw [show okB ms gs n = false by simpa using ok]
    exact Ev.neg (by simp) (Ev.some rfl)
end Go.Proofs.YtikfghnkbgdbgaaDoor.Q
end
section
namespace Go.Proofs.YtikfghnkbgdbgaaDoor.Q
open Go.ChangeShapes Go.WideShapes Go.ChangeAt Go.RowKit
set_option linter.unusedVariables false
set_option maxRecDepth 100000 in
theorem gangReach_lifted (os : Os) (started : os.Started) (H : Type) (enc : TypeId × Value → H) :
    ReturnsInHanded {} Tryd.checked os 7 .any (fun w args => (Rows.gangReachSpec.pre enc Tryd.prog Tryd.f7 [] false w args ∧ laidMetH Tryd.prog laidV w) ∧ sizedMet enc Tryd.prog Tryd.f7 (OpenSpec.ofChange Rows.gangReachSpec) false w args)
      (Rows.gangReachSpec.post enc Tryd.prog Tryd.f7 false true false false) := by
  refine returnsInHanded_of_change_and (C := Tryd.checked) (X := fun w _ => laidMetH Tryd.prog laidV w) (fun _ _ _ hh h => h.of_heap hh) ownK started (by kernel_rfl) Tryd.func7
    (ChangeSpec.witness_shaped (enc := enc) (C := Tryd.checked) (os := os) (X := fun w _ => laidMetH Tryd.prog laidV w) false (World.doorLaid Tryd.prog 19 os) #[.agg #[.slice none 0 0, .slice none 0 0, .int .i64 0], .agg #[.int .i64 0, .int .i64 0, .int .i64 0]] 8 rfl (World.shaped_of_RefB (by kernel_rfl) (by kernel_rfl)) (by kernel_rfl) (by kernel_rfl) (by kernel_rfl) (door_met os _)) ?_
  intro W base args ds gs before hval0 hW _ hsz0 hL _
  have hval : ∀ (j : Nat) t v, Tryd.f7.params[j]? = some t → args[j]? = some v → Value.okWide Tryd.prog W .any base t v := hval0
  have hsz : (DataW.weightsEach Tryd.prog (Tryd.f7.params.toList ++ Rows.gangReachSpec.plain.varTypes Tryd.prog) (ds ++ gs)).all (· ≤ reachBytes) = true := hsz0
  have hW' := hW
  obtain ⟨p, q, hA0, hV, rfl, hfz, hnd⟩ := hW
  have hA : DataW.TrodAll enc Tryd.prog W 0 (fun _ => true) true Tryd.f7.params.toList args.toList ds p := hA0
  rw [Tryd.params7] at hA hval hsz
  obtain ⟨v0, vs0, d0, ds0, p0, q0, hargs, rfl, rfl, h0, r0⟩ := trodAll_cons hA
  obtain ⟨v1, vs1, d1, ds1, p1, q1, rfl, rfl, rfl, h1, r1⟩ := trodAll_cons r0
  obtain ⟨rfl, rfl, rfl⟩ := trodAll_nil r1
  obtain rfl : args = #[v0, v1] := by cases args; simp_all
  obtain ⟨rfl, rfl⟩ := trodVars_none hV
  have lt0 : ∀ x ∈ p0, x.block < W.heap.size := by obtain ⟨m, hm⟩ := h0; exact DataW.trod_lt m _ _ _ hm
  obtain ⟨y0, K0, ok0⟩ := opens_book.arg h0
  obtain ⟨A0_0, c0_0, A0_1, c0_1, e0, hc0_0, hr0_0, hc0_1, hr0_1⟩ := k25_open K0
  obtain rfl := cells_many e0
  have lt1 : ∀ x ∈ p1, x.block < W.heap.size := by obtain ⟨m, hm⟩ := h1; exact DataW.trod_lt m _ _ _ hm
  obtain ⟨y1, K1, ok1⟩ := opens_n3.arg h1
  obtain rfl := cells_many (K_n3 K1)
  have hG := gv_of_laid hL
  obtain ⟨k_, h_⟩ := gangReach_pure y0.f0 y0.f1 y0.f2 ok0 y1.1 y1.2.1 y1.2.2 ok1
  clear hA0 hval0 hsz0 hsz
  refine (macadamlaw04_GangReach.calls k_ A0_0 c0_0 y0.f0 A0_1 c0_1 y0.f1 y0.f2 y1.1 y1.2.1 y1.2.2 true W hr0_0 hc0_0 hr0_1 hc0_1 hG h_).mono fun e W' ⟨he, bel⟩ => ?_
  subst he
  exact ⟨_, rfl, _, _, _, [], _, [], hW', trodAll_mk1 (shut_bool Tryd.underlying4 _), (trodAll_cons_mk (Below.trod laidOut (by kernel_rfl) (of_decide_eq_true (by kernel_rfl)) h0 bel lt0) (trodAll_cons_mk (Below.trod laidOut (by kernel_rfl) (of_decide_eq_true (by kernel_rfl)) h1 bel lt1) trodAll_mk0)), rfl, bel.frame _, fun h => by cases h⟩
theorem gangReach_over : Rows.gangReachRow.holds Tryd.pinned (OpenSpec.ofChange Rows.gangReachSpec) :=
  OpenClaim.holds_of_wide 7 Tryd.f7 rfl rfl rfl rfl rfl rfl rfl ⟨rfl, rfl, rfl, rfl, rfl⟩ rfl rfl rfl rfl rfl (by kernel_rfl) Tryd.func7 (by kernel_rfl)
    (of_decide_eq_true (by kernel_rfl)) (by unfold Func.isWrapper; first | (rw [if_pos (by decide +kernel)]; kernel_rfl) | (rw [if_neg (by decide +kernel)]; exact ⟨rfl, rfl⟩))
    (fun os started H enc _ => gangReach_lifted os started H enc)
end Go.Proofs.YtikfghnkbgdbgaaDoor.Q
namespace Go.Proofs.YtikfghnkbgdbgaaDoor
set_option maxRecDepth 100000 in
/-- THE CARD. -/
theorem gangReach_holds : Rows.GangReachCardSaid :=
  Claim7.holds_tied_plain_at .later [] [.data, .funcs] true (true, "88f50df5e688c53fcba80ffbc790cc1082a54a252ac4bc190e21b1a8f43ba8e5") false
    Q.gangReach_over (fun _ h => by cases h) (by kernel_rfl) (fun _ h => by cases h) gangReach_row_tie rfl ⟨rfl, rfl⟩ (by kernel_rfl) rfl
    (fun f fn hf hfn => by
      obtain rfl : f = 7 := Option.some.inj ((show Tryd.prog.funcNamed "macadam/macadamlaw04.GangReach" = some 7 by kernel_rfl).symm.trans hf) |>.symm
      obtain rfl : fn = Tryd.f7 := (Option.some.inj (Tryd.func7.symm.trans hfn)).symm
      exact ⟨by kernel_rfl, fun j t ht => by
        rw [Tryd.params7] at ht
        have hm : t ∈ [25, 27] := by simpa using Array.mem_of_getElem? ht
        have hall : ([25, 27].all fun u => !Tryd.prog.wantsStandIn u) = true := by kernel_rfl
        exact (show Tryd.prog.wantsStandIn t = false by simpa using List.all_eq_true.1 hall t hm)⟩)
    (by kernel_rfl)
end Go.Proofs.YtikfghnkbgdbgaaDoor
end
