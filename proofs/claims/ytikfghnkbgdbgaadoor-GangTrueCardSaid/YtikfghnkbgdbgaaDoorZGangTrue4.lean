/- A part of the proof of the statement GangTrue: It is proved that the statement GangTrue holds of the given program for every book, every list of numbers and every two numbers; there are no conditions. -/
import Derived.Test.YtikfghnkbgdbgaaDoorZGangTrue3
set_option linter.unusedSimpArgs false
set_option linter.unusedVariables false
section
namespace Go.Proofs.YtikfghnkbgdbgaaDoor.Q
set_option linter.unusedSimpArgs false
set_option linter.unusedVariables false
open Go.RowKit Go.Proofs.YtikfghnkbgdbgaaDoorW.PrintWords Go.Proofs.YtikfghnkbgdbgaaDoorW.PrintLast Go.Proofs.YtikfghnkbgdbgaaDoorW.PrintMore
def ownM : List M := [⟨⟨2, 3⟩, 0⟩, ⟨⟨1, 2⟩, 1⟩, ⟨⟨2, 2⟩, 2⟩]
def ownG (tt : Int) : List G := [⟨0, 1, ⟨1, 2⟩⟩, ⟨1, tt, ⟨2, 2⟩⟩]
def bothP : List Wk := [⟨0, 0, 0⟩, ⟨0, 1, 2⟩]
def twoP : List Wk := [⟨0, 0, 0⟩, ⟨1, 0, 0⟩]
def planP : List Wk := [⟨0, 0, 0⟩, ⟨0, 1, 2⟩, ⟨1, 0, 0⟩, ⟨2, 0, 0⟩, ⟨3, 1, 1⟩]
def canL : List Int := [0, 2, 3]
def cloL : List Int := [0, 2]
def menL : List Int := [2]
def mosL : List Int := [0, 2]
def nonL : List Wk := []
set_option maxRecDepth 100000
theorem own_eq : macadamlaw04_own.f = some (ownM, ownG 2, 4) := by kernel_rfl
theorem short_eq : macadamlaw04_short.f = some (ownM, ownG 2, 3) := by kernel_rfl
theorem far_eq : macadamlaw04_far.f = some (ownM, ownG 1, 4) := by kernel_rfl
theorem sh_can : gang_Can.f ownM (ownG 2) 4 1 2 = some (canL, 0) := by kernel_rfl
theorem sh_may : gang_May.f ownM (ownG 2) 4 bothP = some (true, 0) := by kernel_rfl
theorem sh_closed : gang_Closed.f ownM (ownG 2) 4 bothP 0 = some (cloL, 0) := by kernel_rfl
theorem sh_done : gang_Done.f ownM (ownG 2) 4 twoP 0 = some (2, 4, 0) := by kernel_rfl
theorem sh_mended : gang_Mended.f ownM (ownG 2) 4 bothP = some (menL, 0) := by kernel_rfl
theorem sh_open : gang_Open.f ownM (ownG 2) 4 bothP = some (0, 0) := by kernel_rfl
theorem sh_plan : gang_Plan.f ownM (ownG 2) 4 = some (planP, 0) := by kernel_rfl
theorem sh_most : gang_Most.f ownM (ownG 2) 3 = some (mosL, 0) := by kernel_rfl
theorem sh_first : gang_First.f ownM (ownG 1) 4 = some (2, 0) := by kernel_rfl
theorem sh_noplan : gang_Plan.f ownM (ownG 2) 3 = some (nonL, 4) := by kernel_rfl
theorem lit2 (a b : Wk) (w : World) (base : Nat) (ok : Nat → Prop) : Reps (Kd.M k59 w base ok) 3 [a, b] [.int .i64 a.f0, .int .i64 a.f1, .int .i64 a.f2, .int .i64 b.f0, .int .i64 b.f1, .int .i64 b.f2] :=
  Reps.c3 (show Kd.M k59 _ _ _ a [.int .i64 a.f0, .int .i64 a.f1, .int .i64 a.f2] from (k59_mkM _ _ _ a)) (Reps.c3 (show Kd.M k59 _ _ _ b [.int .i64 b.f0, .int .i64 b.f1, .int .i64 b.f2] from (k59_mkM _ _ _ b)) (Reps.none _ _))
theorem list_of_step {P : Program} {ops : Array Oper} {o : Oper} {a : Act} {Q : Exit → Act → World → Prop} {rest : List Oper} {W : World} (h : if Region.wanted o (yielded ops a.tmps) = true then Oper.wp P o a W (wpList P ops Q rest) Q else wpList P ops Q rest (a.put o.dst undef) W) : wpList P ops Q (o :: rest) a W := by
  simp only [wpList]
  by_cases hw : Region.wanted o (yielded ops a.tmps) = true
  · rw [if_pos hw] at h ⊢; exact Or.inl h
  · rw [if_neg hw] at h ⊢; exact h
theorem lit5 (a b c d e : Wk) (w : World) (base : Nat) (ok : Nat → Prop) : Reps (Kd.M k59 w base ok) 3 [a, b, c, d, e] [.int .i64 a.f0, .int .i64 a.f1, .int .i64 a.f2, .int .i64 b.f0, .int .i64 b.f1, .int .i64 b.f2, .int .i64 c.f0, .int .i64 c.f1, .int .i64 c.f2, .int .i64 d.f0, .int .i64 d.f1, .int .i64 d.f2, .int .i64 e.f0, .int .i64 e.f1, .int .i64 e.f2] :=
  Reps.c3 (show Kd.M k59 _ _ _ a [.int .i64 a.f0, .int .i64 a.f1, .int .i64 a.f2] from (k59_mkM _ _ _ a)) (Reps.c3 (show Kd.M k59 _ _ _ b [.int .i64 b.f0, .int .i64 b.f1, .int .i64 b.f2] from (k59_mkM _ _ _ b)) (Reps.c3 (show Kd.M k59 _ _ _ c [.int .i64 c.f0, .int .i64 c.f1, .int .i64 c.f2] from (k59_mkM _ _ _ c)) (Reps.c3 (show Kd.M k59 _ _ _ d [.int .i64 d.f0, .int .i64 d.f1, .int .i64 d.f2] from (k59_mkM _ _ _ d)) (Reps.c3 (show Kd.M k59 _ _ _ e [.int .i64 e.f0, .int .i64 e.f1, .int .i64 e.f2] from (k59_mkM _ _ _ e)) (Reps.none _ _)))))
theorem eqSpan (d : Nat) (w : World) (x0 y0 x1 y1 : Int) :
    (Op.equalIn (d + 2) 40 (.agg #[.int .i64 x0, .int .i64 x1]) (.agg #[.int .i64 y0, .int .i64 y1])).run Tryd.prog w = .ok (x0 == y0 && (x1 == y1)) w := by
  refine eqA_of Tryd.underlying40 (by kernel_rfl) ?_
  refine eqf_cons (by rfl) (by go_simp; rfl) (by go_simp; rfl) (by go_simp) ?_
  exact eqf_last (by rfl) (by go_simp; rfl) (by go_simp; rfl) (by go_simp)
theorem equal_span (w : World) : (Op.equalIn 10000 40 (.agg #[.int .i64 2, .int .i64 4]) (.agg #[.int .i64 2, .int .i64 4])).run Tryd.prog w = .ok true w := eqSpan 9998 w 2 2 4 4
def X_shov.T6 : Bool × List (List Nat × List Nat) := (true, [([], []), ([0], [0]), ([1], [1]), ([2], [2]), ([3, 2], [2, 3]), ([2, 4], [2, 4]), ([5, 2], [5]), ([6], [6]), ([7, 6], [6, 7]), ([6, 8], [6, 8]), ([9, 6], [9]), ([10], [10]), ([11, 10], [10, 11]), ([10, 12], [10, 12]), ([13, 10], [13]), ([14], [14]), ([15, 14], [14, 15]), ([14, 16], [14, 16]), ([17, 14], [17]), ([18], [18]), ([18], [18]), ([19, 20, 18, 18], [18, 19, 20]), ([21, 18], [18, 21]), ([18, 22], [18, 22]), ([23, 21], [23]), ([24], [24]), ([25, 24], [24, 25]), ([24, 26], [24, 26]), ([27, 24], [27]), ([28], [28]), ([28], [28]), ([29, 30, 28, 28], [28, 29, 30]), ([31, 28], [28, 31]), ([28, 32], [28, 32]), ([33, 31], [33]), ([34], [34]), ([34, 34], [34]), ([35, 36, 34], [34, 35, 36]), ([34, 37], [34, 37]), ([38, 36], [38]), ([39], [39]), ([39], [39]), ([40, 41, 39, 39], [39, 40, 41]), ([42, 39], [39, 42]), ([39, 43], [39, 43])])
def X_shov.B6 : List Nat := [0, 1, 3, 7, 15, 31, 63, 127, 255, 511, 1023, 2047, 4095, 8191, 16383, 32767, 65535, 131071, 262143, 524287, 524287, 2097151, 4194303, 8388607, 16777215, 33554431, 67108863, 134217727, 268435455, 536870911, 536870911, 2147483647, 4294967295, 8589934591, 17179869183, 34359738367, 34359738367, 137438953471, 274877906943, 549755813887, 1099511627775, 1099511627775, 4398046511103, 8796093022207, 17592186044415]
theorem X_shov.tab6 : rtab .any (opsOf Tryd.f24 6) = X_shov.T6 := by kernel_rfl
theorem X_shov.bits6 : waitsOk X_shov.T6.2 X_shov.B6 = true := by kernel_rfl
theorem macadamlaw04_both.calls (r : List Wk) (w : World) (h : bothP = r) :
    Calls Tryd.prog 74 #[] w fun e w' => ∃ v0_ : Value, e = .returned (v0_) ∧ Kd.R k59 59 w' w.heap.size (fun _ => True) v0_ r ∧ Below w.heap.size w w' := by
  subst h
  have HB0 := Aside0.mk (Below.refl w.heap.size w)
  go_enter Tryd.func74, Tryd.ntmps74
  go_wp2_with (fail)
  refine (macadamlaw04_work.calls 0 0 0 0 0 0 _ (by kernel_rfl)).mono ?_
  rintro e w1 ⟨rfl, hb⟩
  have HB1 := Aside0.mk (below_then HB0.out HB0.out.size hb)
  clear hb HB0
  go_wp2_with (fail)
  refine (macadamlaw04_work.calls 0 1 2 0 1 2 _ (by kernel_rfl)).mono ?_
  rintro e w2 ⟨rfl, hb⟩
  have HB2 := Aside0.mk (below_then HB1.out HB1.out.size hb)
  clear hb HB1
  go_wp2_with ((with_reducible refine gate_dst (N := 3) rfl ?_); refine Kd.R_lit k59 _ 59 ?hg (N := 3) ?hd (xs := bothP) (inner := [.int .i64 0, .int .i64 0, .int .i64 0, .int .i64 0, .int .i64 1, .int .i64 2]) (ok := fun _ => True) (okp := fun _ => True) ?hr ?hp (fun _ hk => hk) trivial (Below.refl _ _) (Nat.le_refl _) (by simp [bothP]) ?_; (case hd => rfl); (case hg => rfl); (case hr => first | (go_simp; done) | (go_simp; rfl)); (case hp => exact lit2 _ _ _ _ _); intro v3 w3 ho hb hg_ hnew_; clear hg_ hnew_; have HO := Aside0.mk (Kd.R_lower ho HB2.out.size); have HB3 := Aside0.mk (below_then HB2.out HB2.out.size hb); clear hb ho HB2)
  go_ret
  exact ⟨_, by rfl, HO.out, HB3.out⟩
set_option maxHeartbeats 8000000 in
theorem macadamlaw04_shovelled.calls0 (w : World) (hG : GV w) :
    Calls Tryd.prog 24 #[] w fun e w' => e = .returned (.bool true) ∧ Below w.heap.size w w' := by
  have HG0 := Aside0.mk hG
  have HB0 := Aside0.mk (Below.refl w.heap.size w)
  clear hG
  go_enter Tryd.func24, Tryd.ntmps24
  go_wp2_with (fail)
  refine (macadamlaw04_own.calls ownM (ownG 2) 4 _ own_eq).mono ?_
  rintro e w1 ⟨va, vb, rfl, ha, hbb, hb⟩
  have HB1 := Aside0.mk (below_then HB0.out HB0.out.size hb)
  clear hb HB0
  obtain ⟨Aa, ca, rfl⟩ := Kd.R_slice ha
  have CA := Aside0.mk (Kd.R_reads' ha)
  clear ha
  obtain ⟨Ab, cb, rfl⟩ := Kd.R_slice hbb
  have CB := Aside0.mk (Kd.R_reads' hbb)
  clear hbb
  go_wp2_with (fail)
  refine (gang_Can.calls _ _ _ _ _ _ _ _ _ canL 0 _ CA.out.2.2 CA.out.2.1 CB.out.2.2 CB.out.2.1 (gv_below HG0.out HB1.out) sh_can).mono ?_
  rintro e w2 ⟨v1, rfl, hv, hb⟩
  have HB2 := Aside0.mk (below_then HB1.out HB1.out.size hb)
  replace CA := Aside0.mk (⟨CA.out.1, CA.out.2.1, Kd.C_below CA.out.2.2 hb⟩ : _ ∧ _ ∧ Kd.C _ _ _ _ _)
  replace CB := Aside0.mk (⟨CB.out.1, CB.out.2.1, Kd.C_below CB.out.2.2 hb⟩ : _ ∧ _ ∧ Kd.C _ _ _ _ _)
  clear hb HB1
  obtain ⟨A1, c1, rfl⟩ := Kd.V_slice hv
  have C1 := Aside0.mk (Kd.V_reads' hv)
  clear hv
  clear CA
  clear CB
  go_wp2_with (fail)
  refine (macadamlaw04_own.calls ownM (ownG 2) 4 _ own_eq).mono ?_
  rintro e w3 ⟨va, vb, rfl, ha, hbb, hb⟩
  have HB3 := Aside0.mk (below_then HB2.out HB2.out.size hb)
  replace C1 := Aside0.mk (⟨C1.out.1, C1.out.2.1, Kd.C_below C1.out.2.2 hb⟩ : _ ∧ _ ∧ Kd.C _ _ _ _ _)
  clear hb HB2
  obtain ⟨Aa, ca, rfl⟩ := Kd.R_slice ha
  have CA := Aside0.mk (Kd.R_reads' ha)
  clear ha
  obtain ⟨Ab, cb, rfl⟩ := Kd.R_slice hbb
  have CB := Aside0.mk (Kd.R_reads' hbb)
  clear hbb
  go_wp2_with (fail)
  refine (macadamlaw04_both.calls bothP _ (by kernel_rfl)).mono ?_
  rintro e w4 ⟨vp, rfl, hp, hb⟩
  have HB4 := Aside0.mk (below_then HB3.out HB3.out.size hb)
  replace C1 := Aside0.mk (⟨C1.out.1, C1.out.2.1, Kd.C_below C1.out.2.2 hb⟩ : _ ∧ _ ∧ Kd.C _ _ _ _ _)
  replace CA := Aside0.mk (⟨CA.out.1, CA.out.2.1, Kd.C_below CA.out.2.2 hb⟩ : _ ∧ _ ∧ Kd.C _ _ _ _ _)
  replace CB := Aside0.mk (⟨CB.out.1, CB.out.2.1, Kd.C_below CB.out.2.2 hb⟩ : _ ∧ _ ∧ Kd.C _ _ _ _ _)
  clear hb HB3
  obtain ⟨Ap, cp, rfl⟩ := Kd.R_slice hp
  have CP := Aside0.mk (Kd.R_reads' hp)
  clear hp
  go_wp2_with (fail)
  refine (gang_May.calls _ _ _ _ _ _ _ _ _ bothP true 0 _ CA.out.2.2 CA.out.2.1 CB.out.2.2 CB.out.2.1 CP.out.2.2 CP.out.2.1 (gv_below HG0.out HB4.out) sh_may).mono ?_
  rintro e w5 ⟨rfl, hb⟩
  have HB5 := Aside0.mk (below_then HB4.out HB4.out.size hb)
  replace C1 := Aside0.mk (⟨C1.out.1, C1.out.2.1, Kd.C_below C1.out.2.2 hb⟩ : _ ∧ _ ∧ Kd.C _ _ _ _ _)
  replace CA := Aside0.mk (⟨CA.out.1, CA.out.2.1, Kd.C_below CA.out.2.2 hb⟩ : _ ∧ _ ∧ Kd.C _ _ _ _ _)
  replace CB := Aside0.mk (⟨CB.out.1, CB.out.2.1, Kd.C_below CB.out.2.2 hb⟩ : _ ∧ _ ∧ Kd.C _ _ _ _ _)
  replace CP := Aside0.mk (⟨CP.out.1, CP.out.2.1, Kd.C_below CP.out.2.2 hb⟩ : _ ∧ _ ∧ Kd.C _ _ _ _ _)
  clear hb HB4
  clear CA
  clear CB
  clear CP
  go_wp2_with (fail)
  refine (macadamlaw04_own.calls ownM (ownG 2) 4 _ own_eq).mono ?_
  rintro e w6 ⟨va, vb, rfl, ha, hbb, hb⟩
  have HB6 := Aside0.mk (below_then HB5.out HB5.out.size hb)
  replace C1 := Aside0.mk (⟨C1.out.1, C1.out.2.1, Kd.C_below C1.out.2.2 hb⟩ : _ ∧ _ ∧ Kd.C _ _ _ _ _)
  clear hb HB5
  obtain ⟨Aa, ca, rfl⟩ := Kd.R_slice ha
  have CA := Aside0.mk (Kd.R_reads' ha)
  clear ha
  obtain ⟨Ab, cb, rfl⟩ := Kd.R_slice hbb
  have CB := Aside0.mk (Kd.R_reads' hbb)
  clear hbb
  go_wp2_with (fail)
  refine (macadamlaw04_both.calls bothP _ (by kernel_rfl)).mono ?_
  rintro e w7 ⟨vp, rfl, hp, hb⟩
  have HB7 := Aside0.mk (below_then HB6.out HB6.out.size hb)
  replace C1 := Aside0.mk (⟨C1.out.1, C1.out.2.1, Kd.C_below C1.out.2.2 hb⟩ : _ ∧ _ ∧ Kd.C _ _ _ _ _)
  replace CA := Aside0.mk (⟨CA.out.1, CA.out.2.1, Kd.C_below CA.out.2.2 hb⟩ : _ ∧ _ ∧ Kd.C _ _ _ _ _)
  replace CB := Aside0.mk (⟨CB.out.1, CB.out.2.1, Kd.C_below CB.out.2.2 hb⟩ : _ ∧ _ ∧ Kd.C _ _ _ _ _)
  clear hb HB6
  obtain ⟨Ap, cp, rfl⟩ := Kd.R_slice hp
  have CP := Aside0.mk (Kd.R_reads' hp)
  clear hp
  go_wp2_with (fail)
  refine (gang_Closed.calls _ _ _ _ _ _ _ _ _ bothP 0 cloL 0 _ CA.out.2.2 CA.out.2.1 CB.out.2.2 CB.out.2.1 CP.out.2.2 CP.out.2.1 (gv_below HG0.out HB7.out) sh_closed).mono ?_
  rintro e w8 ⟨v5, rfl, hv, hb⟩
  have HB8 := Aside0.mk (below_then HB7.out HB7.out.size hb)
  replace C1 := Aside0.mk (⟨C1.out.1, C1.out.2.1, Kd.C_below C1.out.2.2 hb⟩ : _ ∧ _ ∧ Kd.C _ _ _ _ _)
  replace CA := Aside0.mk (⟨CA.out.1, CA.out.2.1, Kd.C_below CA.out.2.2 hb⟩ : _ ∧ _ ∧ Kd.C _ _ _ _ _)
  replace CB := Aside0.mk (⟨CB.out.1, CB.out.2.1, Kd.C_below CB.out.2.2 hb⟩ : _ ∧ _ ∧ Kd.C _ _ _ _ _)
  replace CP := Aside0.mk (⟨CP.out.1, CP.out.2.1, Kd.C_below CP.out.2.2 hb⟩ : _ ∧ _ ∧ Kd.C _ _ _ _ _)
  clear hb HB7
  obtain ⟨A5, c5, rfl⟩ := Kd.V_slice hv
  have C5 := Aside0.mk (Kd.V_reads' hv)
  clear hv
  clear CA
  clear CB
  clear CP
  go_wp2_with (fail)
  refine (macadamlaw04_own.calls ownM (ownG 2) 4 _ own_eq).mono ?_
  rintro e w9 ⟨va, vb, rfl, ha, hbb, hb⟩
  have HB9 := Aside0.mk (below_then HB8.out HB8.out.size hb)
  replace C1 := Aside0.mk (⟨C1.out.1, C1.out.2.1, Kd.C_below C1.out.2.2 hb⟩ : _ ∧ _ ∧ Kd.C _ _ _ _ _)
  replace C5 := Aside0.mk (⟨C5.out.1, C5.out.2.1, Kd.C_below C5.out.2.2 hb⟩ : _ ∧ _ ∧ Kd.C _ _ _ _ _)
  clear hb HB8
  obtain ⟨Aa, ca, rfl⟩ := Kd.R_slice ha
  have CA := Aside0.mk (Kd.R_reads' ha)
  clear ha
  obtain ⟨Ab, cb, rfl⟩ := Kd.R_slice hbb
  have CB := Aside0.mk (Kd.R_reads' hbb)
  clear hbb
  go_wp2_with (fail)
  refine (macadamlaw04_work.calls 0 0 0 0 0 0 _ (by kernel_rfl)).mono ?_
  rintro e w10 ⟨rfl, hb⟩
  have HB10 := Aside0.mk (below_then HB9.out HB9.out.size hb)
  replace C1 := Aside0.mk (⟨C1.out.1, C1.out.2.1, Kd.C_below C1.out.2.2 hb⟩ : _ ∧ _ ∧ Kd.C _ _ _ _ _)
  replace C5 := Aside0.mk (⟨C5.out.1, C5.out.2.1, Kd.C_below C5.out.2.2 hb⟩ : _ ∧ _ ∧ Kd.C _ _ _ _ _)
  replace CA := Aside0.mk (⟨CA.out.1, CA.out.2.1, Kd.C_below CA.out.2.2 hb⟩ : _ ∧ _ ∧ Kd.C _ _ _ _ _)
  replace CB := Aside0.mk (⟨CB.out.1, CB.out.2.1, Kd.C_below CB.out.2.2 hb⟩ : _ ∧ _ ∧ Kd.C _ _ _ _ _)
  clear hb HB9
  go_wp2_with (fail)
  refine (macadamlaw04_work.calls 1 0 0 1 0 0 _ (by kernel_rfl)).mono ?_
  rintro e w11 ⟨rfl, hb⟩
  have HB11 := Aside0.mk (below_then HB10.out HB10.out.size hb)
  replace C1 := Aside0.mk (⟨C1.out.1, C1.out.2.1, Kd.C_below C1.out.2.2 hb⟩ : _ ∧ _ ∧ Kd.C _ _ _ _ _)
  replace C5 := Aside0.mk (⟨C5.out.1, C5.out.2.1, Kd.C_below C5.out.2.2 hb⟩ : _ ∧ _ ∧ Kd.C _ _ _ _ _)
  replace CA := Aside0.mk (⟨CA.out.1, CA.out.2.1, Kd.C_below CA.out.2.2 hb⟩ : _ ∧ _ ∧ Kd.C _ _ _ _ _)
  replace CB := Aside0.mk (⟨CB.out.1, CB.out.2.1, Kd.C_below CB.out.2.2 hb⟩ : _ ∧ _ ∧ Kd.C _ _ _ _ _)
  clear hb HB10
  go_wp2_with ((with_reducible refine gate_dst (N := 36) rfl ?_); refine Kd.R_lit k59 _ 59 ?hg (N := 36) ?hd (xs := twoP) (inner := [.int .i64 0, .int .i64 0, .int .i64 0, .int .i64 1, .int .i64 0, .int .i64 0]) (ok := fun _ => True) (okp := fun _ => True) ?hr ?hp (fun _ hk => hk) trivial (Below.refl _ _) (Nat.le_refl _) (by simp [twoP]) ?_; (case hd => rfl); (case hg => rfl); (case hr => first | (go_simp; done) | (go_simp; rfl)); (case hp => exact lit2 _ _ _ _ _); intro v3 w12 ho hb hg_ hnew_; clear hg_ hnew_; have HO := Aside0.mk ho; have HB12 := Aside0.mk (below_then HB11.out HB11.out.size hb); replace C1 := Aside0.mk (⟨C1.out.1, C1.out.2.1, Kd.C_below C1.out.2.2 hb⟩ : _ ∧ _ ∧ Kd.C _ _ _ _ _); replace C5 := Aside0.mk (⟨C5.out.1, C5.out.2.1, Kd.C_below C5.out.2.2 hb⟩ : _ ∧ _ ∧ Kd.C _ _ _ _ _); replace CA := Aside0.mk (⟨CA.out.1, CA.out.2.1, Kd.C_below CA.out.2.2 hb⟩ : _ ∧ _ ∧ Kd.C _ _ _ _ _); replace CB := Aside0.mk (⟨CB.out.1, CB.out.2.1, Kd.C_below CB.out.2.2 hb⟩ : _ ∧ _ ∧ Kd.C _ _ _ _ _); clear hb ho HB11; (obtain ⟨Ap, cp, rfl⟩ := Kd.R_slice HO.out); have CP := Aside0.mk (Kd.R_reads' HO.out); clear HO)
  go_wp2_with (fail)
  refine (gang_Done.calls _ _ _ _ _ _ _ _ _ twoP 0 2 4 0 _ CA.out.2.2 CA.out.2.1 CB.out.2.2 CB.out.2.1 CP.out.2.2 CP.out.2.1 (gv_below HG0.out HB12.out) sh_done).mono ?_
  rintro e w13 ⟨rfl, hb⟩
  have HB13 := Aside0.mk (below_then HB12.out HB12.out.size hb)
  replace C1 := Aside0.mk (⟨C1.out.1, C1.out.2.1, Kd.C_below C1.out.2.2 hb⟩ : _ ∧ _ ∧ Kd.C _ _ _ _ _)
  replace C5 := Aside0.mk (⟨C5.out.1, C5.out.2.1, Kd.C_below C5.out.2.2 hb⟩ : _ ∧ _ ∧ Kd.C _ _ _ _ _)
  replace CA := Aside0.mk (⟨CA.out.1, CA.out.2.1, Kd.C_below CA.out.2.2 hb⟩ : _ ∧ _ ∧ Kd.C _ _ _ _ _)
  replace CB := Aside0.mk (⟨CB.out.1, CB.out.2.1, Kd.C_below CB.out.2.2 hb⟩ : _ ∧ _ ∧ Kd.C _ _ _ _ _)
  replace CP := Aside0.mk (⟨CP.out.1, CP.out.2.1, Kd.C_below CP.out.2.2 hb⟩ : _ ∧ _ ∧ Kd.C _ _ _ _ _)
  clear hb HB12
  clear CA
  clear CB
  clear CP
  go_wp2_with ((with_reducible refine gate_dst (N := 7) rfl ?_); refine bx 7 #[.int .i64 0, .int .i64 0] 40 ?_; intro gb hg w14 hbox hb; have HBB := Aside0.mk hb; have BX := Aside0.mk hbox; have GE := Aside0.mk (show w13.heap.size ≤ gb by rw [hg]; exact Nat.le_refl _); clear hb hbox hg; have hc0 : w14.cell? ⟨gb, 0, none⟩ = some (.int .i64 0) := (blk_cell BX.out 0).trans rfl; have hc1 : w14.cell? ⟨gb, 1, none⟩ = some (.int .i64 0) := (blk_cell BX.out 1).trans rfl; have hf0 := blk_frozen BX.out 0; have hf1 := blk_frozen BX.out 1)
  clear hc0 hc1 hf0 hf1
  have hb := below_set (v := .int .i64 4) (j := 1) (below_set (v := .int .i64 2) (j := 0) HBB.out GE.out) GE.out
  have BX2 := blk_put (blk_put BX.out 0 (.int .i64 2) rfl) 1 (.int .i64 4) rfl
  generalize (World.setCell (World.setCell _ _ _) _ _) = w15 at hb BX2 ⊢
  replace BX := Aside0.mk BX2
  clear BX2
  have HB15 := Aside0.mk (below_then HB13.out HB13.out.size hb)
  replace C1 := Aside0.mk (⟨C1.out.1, C1.out.2.1, Kd.C_below C1.out.2.2 hb⟩ : _ ∧ _ ∧ Kd.C _ _ _ _ _)
  replace C5 := Aside0.mk (⟨C5.out.1, C5.out.2.1, Kd.C_below C5.out.2.2 hb⟩ : _ ∧ _ ∧ Kd.C _ _ _ _ _)
  clear hb HB13
  clear HBB GE
  go_wp2_with (fail)
  refine (macadamlaw04_own.calls ownM (ownG 2) 4 _ own_eq).mono ?_
  rintro e w16 ⟨va, vb, rfl, ha, hbb, hb⟩
  have HB16 := Aside0.mk (below_then HB15.out HB15.out.size hb)
  replace C1 := Aside0.mk (⟨C1.out.1, C1.out.2.1, Kd.C_below C1.out.2.2 hb⟩ : _ ∧ _ ∧ Kd.C _ _ _ _ _)
  replace C5 := Aside0.mk (⟨C5.out.1, C5.out.2.1, Kd.C_below C5.out.2.2 hb⟩ : _ ∧ _ ∧ Kd.C _ _ _ _ _)
  replace BX := Aside0.mk (blk_below BX.out hb)
  clear hb HB15
  obtain ⟨Aa, ca, rfl⟩ := Kd.R_slice ha
  have CA := Aside0.mk (Kd.R_reads' ha)
  clear ha
  obtain ⟨Ab, cb, rfl⟩ := Kd.R_slice hbb
  have CB := Aside0.mk (Kd.R_reads' hbb)
  clear hbb
  go_wp2_with (fail)
  refine (macadamlaw04_both.calls bothP _ (by kernel_rfl)).mono ?_
  rintro e w17 ⟨vp, rfl, hp, hb⟩
  have HB17 := Aside0.mk (below_then HB16.out HB16.out.size hb)
  replace C1 := Aside0.mk (⟨C1.out.1, C1.out.2.1, Kd.C_below C1.out.2.2 hb⟩ : _ ∧ _ ∧ Kd.C _ _ _ _ _)
  replace C5 := Aside0.mk (⟨C5.out.1, C5.out.2.1, Kd.C_below C5.out.2.2 hb⟩ : _ ∧ _ ∧ Kd.C _ _ _ _ _)
  replace CA := Aside0.mk (⟨CA.out.1, CA.out.2.1, Kd.C_below CA.out.2.2 hb⟩ : _ ∧ _ ∧ Kd.C _ _ _ _ _)
  replace CB := Aside0.mk (⟨CB.out.1, CB.out.2.1, Kd.C_below CB.out.2.2 hb⟩ : _ ∧ _ ∧ Kd.C _ _ _ _ _)
  replace BX := Aside0.mk (blk_below BX.out hb)
  clear hb HB16
  obtain ⟨Ap, cp, rfl⟩ := Kd.R_slice hp
  have CP := Aside0.mk (Kd.R_reads' hp)
  clear hp
  go_wp2_with (fail)
  refine (gang_Mended.calls _ _ _ _ _ _ _ _ _ bothP menL 0 _ CA.out.2.2 CA.out.2.1 CB.out.2.2 CB.out.2.1 CP.out.2.2 CP.out.2.1 (gv_below HG0.out HB17.out) sh_mended).mono ?_
  rintro e w18 ⟨v9, rfl, hv, hb⟩
  have HB18 := Aside0.mk (below_then HB17.out HB17.out.size hb)
  replace C1 := Aside0.mk (⟨C1.out.1, C1.out.2.1, Kd.C_below C1.out.2.2 hb⟩ : _ ∧ _ ∧ Kd.C _ _ _ _ _)
  replace C5 := Aside0.mk (⟨C5.out.1, C5.out.2.1, Kd.C_below C5.out.2.2 hb⟩ : _ ∧ _ ∧ Kd.C _ _ _ _ _)
  replace CA := Aside0.mk (⟨CA.out.1, CA.out.2.1, Kd.C_below CA.out.2.2 hb⟩ : _ ∧ _ ∧ Kd.C _ _ _ _ _)
  replace CB := Aside0.mk (⟨CB.out.1, CB.out.2.1, Kd.C_below CB.out.2.2 hb⟩ : _ ∧ _ ∧ Kd.C _ _ _ _ _)
  replace CP := Aside0.mk (⟨CP.out.1, CP.out.2.1, Kd.C_below CP.out.2.2 hb⟩ : _ ∧ _ ∧ Kd.C _ _ _ _ _)
  replace BX := Aside0.mk (blk_below BX.out hb)
  clear hb HB17
  obtain ⟨A9, c9, rfl⟩ := Kd.V_slice hv
  have C9 := Aside0.mk (Kd.V_reads' hv)
  clear hv
  clear CA
  clear CB
  clear CP
  go_wp2_with (fail)
  have HBX := Aside0.mk (show Below w.heap.size w _ from HB18.out)
  clear HB18
  have hb := (Below.refl (World.heap w18).size w18).drew
  replace C1 := Aside0.mk (⟨C1.out.1, C1.out.2.1, Kd.C_below C1.out.2.2 hb⟩ : _ ∧ _ ∧ Kd.C _ _ _ _ _)
  replace C5 := Aside0.mk (⟨C5.out.1, C5.out.2.1, Kd.C_below C5.out.2.2 hb⟩ : _ ∧ _ ∧ Kd.C _ _ _ _ _)
  replace C9 := Aside0.mk (⟨C9.out.1, C9.out.2.1, Kd.C_below C9.out.2.2 hb⟩ : _ ∧ _ ∧ Kd.C _ _ _ _ _)
  replace BX := Aside0.mk (blk_below BX.out hb)
  replace HBX := Aside0.mk (below_then HBX.out HBX.out.size hb)
  clear hb
  have heq := equal_span
  refine start_ (n := 45) (S := fun w' => w'.cell? ⟨gb, 0, none⟩ = some (.int .i64 2) ∧ w'.cell? ⟨gb, 1, none⟩ = some (.int .i64 4)) (ds := []) (bs 45 0) (by kernel_rfl) rfl rfl ⟨(blk_cell BX.out 0).trans rfl, (blk_cell BX.out 1).trans rfl⟩ (fun hHeld => ?_)
  refine with_tabW X_shov.tab6 X_shov.bits6 (fun HT_ HW_ => ?_)
  generalize World.drew _ = wd at C1 C5 C9 BX HBX hHeld ⊢
  refine pu HT_ 0 (some 46) (bs 45 1) ?_
  refine pu HT_ 1 (some 47) (bs 45 3) ?_
  refine pu HT_ 2 (some 48) (bs 45 7) ?_
  refine pu HT_ 3 (some 49) (bs 45 15) ?_
  refine pu HT_ 4 (some 50) (bs 45 31) ?_
  refine pu HT_ 5 (some 51) (bs 45 63) ?_
  refine pu HT_ 6 (some 52) (bs 45 127) ?_
  refine pu HT_ 7 (some 53) (bs 45 255) ?_
  refine pu HT_ 8 (some 54) (bs 45 511) ?_
  refine pu HT_ 9 (some 55) (bs 45 1023) ?_
  refine pu HT_ 10 (some 56) (bs 45 2047) ?_
  refine pu HT_ 11 (some 57) (bs 45 4095) ?_
  refine pu HT_ 12 (some 58) (bs 45 8191) ?_
  refine pu HT_ 13 (some 59) (bs 45 16383) ?_
  refine pu HT_ 14 (some 60) (bs 45 32767) ?_
  refine pu HT_ 15 (some 61) (bs 45 65535) ?_
  refine pu HT_ 16 (some 62) (bs 45 131071) ?_
  refine pu HT_ 17 (some 63) (bs 45 262143) ?_
  refine pu HT_ 18 (some 64) (bs 45 524287) ?_
  refine pu HT_ 19 (some 65) (bs 45 1048575) ?_
  refine on HT_ 20 (some 66) (bs 45 2097151) (fun K hK => ?_)
  refine Kd.R_lit_step (Kd.int .i64) _ 3 ?hg (N := 66) ?hd (xs := canL) (inner := [.int .i64 0, .int .i64 2, .int .i64 3]) (ok := fun _ => True) (okp := fun _ => True) ?hr ?hp (fun _ hk => hk) trivial (Below.refl _ _) (Nat.le_refl _) (by simp [canL]) ?_; (case hd => rfl); (case hg => rfl); (case hr => first | (go_simp; done) | (go_simp; rfl)); (case hp => exact (Reps.one (show Kd.M (Kd.int .i64) _ _ _ (0 : Int) [.int .i64 0] from rfl) (Reps.one (show Kd.M (Kd.int .i64) _ _ _ (2 : Int) [.int .i64 2] from rfl) (Reps.one (show Kd.M (Kd.int .i64) _ _ _ (3 : Int) [.int .i64 3] from rfl) (Reps.none _ _)))))
  intro pv pw ho hb hg_ hnew_
  clear hg_ hnew_
  obtain ⟨pA, pc, rfl⟩ := Kd.R_slice ho
  have pC := Aside0.mk (Kd.R_reads' ho)
  clear ho
  replace C1 := Aside0.mk (⟨C1.out.1, C1.out.2.1, Kd.C_below C1.out.2.2 hb⟩ : _ ∧ _ ∧ Kd.C _ _ _ _ _)
  replace C5 := Aside0.mk (⟨C5.out.1, C5.out.2.1, Kd.C_below C5.out.2.2 hb⟩ : _ ∧ _ ∧ Kd.C _ _ _ _ _)
  replace C9 := Aside0.mk (⟨C9.out.1, C9.out.2.1, Kd.C_below C9.out.2.2 hb⟩ : _ ∧ _ ∧ Kd.C _ _ _ _ _)
  replace BX := Aside0.mk (blk_below BX.out hb)
  replace HBX := Aside0.mk (below_then HBX.out HBX.out.size hb)
  clear hb
  refine hK.out _ _ ⟨(blk_cell BX.out 0).trans rfl, (blk_cell BX.out 1).trans rfl⟩ (fun hHeld => ?_)
  clear hK K
  refine nm 66 ?_
  refine on HT_ 21 (some 67) (bs 45 4194303) (fun K hK => ?_)
  refine goes_ Tryd.func17 (by kernel_rfl) rfl #[.slice A1 canL.length c1, .slice pA canL.length pc] (by rfl) rfl rfl (by (try simp only [List.map_toArray, List.map_cons, List.map_nil]); first | done | rfl) ?_
  with_reducible refine (macadamref00_Like.calls 10 _ _ canL _ _ canL true _ C1.out.2.2 C1.out.2.1 pC.out.2.2 pC.out.2.1 (by kernel_rfl)).mono ?_
  rintro e px ⟨rfl, hd⟩
  refine ⟨_, rfl, ?_⟩
  have hb := hd.below
  clear hd
  replace C1 := Aside0.mk (⟨C1.out.1, C1.out.2.1, Kd.C_below C1.out.2.2 hb⟩ : _ ∧ _ ∧ Kd.C _ _ _ _ _)
  replace C5 := Aside0.mk (⟨C5.out.1, C5.out.2.1, Kd.C_below C5.out.2.2 hb⟩ : _ ∧ _ ∧ Kd.C _ _ _ _ _)
  replace C9 := Aside0.mk (⟨C9.out.1, C9.out.2.1, Kd.C_below C9.out.2.2 hb⟩ : _ ∧ _ ∧ Kd.C _ _ _ _ _)
  replace BX := Aside0.mk (blk_below BX.out hb)
  replace HBX := Aside0.mk (below_then HBX.out HBX.out.size hb)
  clear hb
  refine hK.out _ _ ⟨(blk_cell BX.out 0).trans rfl, (blk_cell BX.out 1).trans rfl⟩ (fun hHeld => ?_)
  clear hK K
  refine nm 67 ?_
  refine pu HT_ 22 (some 68) (bs 45 8388607) ?_
  refine pu HT_ 23 (some 69) (bs 45 16777215) ?_
  refine pu HT_ 24 (some 70) (bs 45 33554431) ?_
  refine pu HT_ 25 (some 71) (bs 45 67108863) ?_
  refine pu HT_ 26 (some 72) (bs 45 134217727) ?_
  refine pu HT_ 27 (some 73) (bs 45 268435455) ?_
  refine pu HT_ 28 (some 74) (bs 45 536870911) ?_
  refine pu HT_ 29 (some 75) (bs 45 1073741823) ?_
  refine on HT_ 30 (some 76) (bs 45 2147483647) (fun K hK => ?_)
  refine Kd.R_lit_step (Kd.int .i64) _ 3 ?hg (N := 76) ?hd (xs := cloL) (inner := [.int .i64 0, .int .i64 2]) (ok := fun _ => True) (okp := fun _ => True) ?hr ?hp (fun _ hk => hk) trivial (Below.refl _ _) (Nat.le_refl _) (by simp [cloL]) ?_; (case hd => rfl); (case hg => rfl); (case hr => first | (go_simp; done) | (go_simp; rfl)); (case hp => exact (Reps.one (show Kd.M (Kd.int .i64) _ _ _ (0 : Int) [.int .i64 0] from rfl) (Reps.one (show Kd.M (Kd.int .i64) _ _ _ (2 : Int) [.int .i64 2] from rfl) (Reps.none _ _))))
  intro qv qw ho hb hg_ hnew_
  clear hg_ hnew_
  obtain ⟨qA, qc, rfl⟩ := Kd.R_slice ho
  have qC := Aside0.mk (Kd.R_reads' ho)
  clear ho
  replace C1 := Aside0.mk (⟨C1.out.1, C1.out.2.1, Kd.C_below C1.out.2.2 hb⟩ : _ ∧ _ ∧ Kd.C _ _ _ _ _)
  replace C5 := Aside0.mk (⟨C5.out.1, C5.out.2.1, Kd.C_below C5.out.2.2 hb⟩ : _ ∧ _ ∧ Kd.C _ _ _ _ _)
  replace C9 := Aside0.mk (⟨C9.out.1, C9.out.2.1, Kd.C_below C9.out.2.2 hb⟩ : _ ∧ _ ∧ Kd.C _ _ _ _ _)
  replace BX := Aside0.mk (blk_below BX.out hb)
  replace HBX := Aside0.mk (below_then HBX.out HBX.out.size hb)
  clear hb
  refine hK.out _ _ ⟨(blk_cell BX.out 0).trans rfl, (blk_cell BX.out 1).trans rfl⟩ (fun hHeld => ?_)
  clear hK K
  refine nm 76 ?_
  refine on HT_ 31 (some 77) (bs 45 4294967295) (fun K hK => ?_)
  refine goes_ Tryd.func17 (by kernel_rfl) rfl #[.slice A5 cloL.length c5, .slice qA cloL.length qc] (by rfl) rfl rfl (by (try simp only [List.map_toArray, List.map_cons, List.map_nil]); first | done | rfl) ?_
  with_reducible refine (macadamref00_Like.calls 10 _ _ cloL _ _ cloL true _ C5.out.2.2 C5.out.2.1 qC.out.2.2 qC.out.2.1 (by kernel_rfl)).mono ?_
  rintro e qx ⟨rfl, hd⟩
  refine ⟨_, rfl, ?_⟩
  have hb := hd.below
  clear hd
  replace C1 := Aside0.mk (⟨C1.out.1, C1.out.2.1, Kd.C_below C1.out.2.2 hb⟩ : _ ∧ _ ∧ Kd.C _ _ _ _ _)
  replace C5 := Aside0.mk (⟨C5.out.1, C5.out.2.1, Kd.C_below C5.out.2.2 hb⟩ : _ ∧ _ ∧ Kd.C _ _ _ _ _)
  replace C9 := Aside0.mk (⟨C9.out.1, C9.out.2.1, Kd.C_below C9.out.2.2 hb⟩ : _ ∧ _ ∧ Kd.C _ _ _ _ _)
  replace BX := Aside0.mk (blk_below BX.out hb)
  replace HBX := Aside0.mk (below_then HBX.out HBX.out.size hb)
  clear hb
  refine hK.out _ _ ⟨(blk_cell BX.out 0).trans rfl, (blk_cell BX.out 1).trans rfl⟩ (fun hHeld => ?_)
  clear hK K
  refine nm 77 ?_
  refine pu HT_ 32 (some 78) (bs 45 8589934591) ?_
  refine pu HT_ 33 (some 79) (bs 45 17179869183) ?_
  refine pu HT_ 34 (some 80) (bs 45 34359738367) ?_
  refine tk2 HT_ HW_ hHeld 35 (some 81) (bs 45 68719476735) ?_
  refine on HT_ 36 (some 82) (bs 45 137438953471) (fun K hK => ?_)
  refine goes_ Tryd.func50 (by kernel_rfl) rfl #[.int .i64 2, .int .i64 4] (by rfl) rfl rfl (by (try simp only [List.map_toArray, List.map_cons, List.map_nil]); first | done | rfl) ?_
  with_reducible refine (macadamref00_Reach.calls 2 4 2 4 _ (by kernel_rfl)).mono ?_
  rintro e rx ⟨rfl, hb⟩
  refine ⟨_, rfl, ?_⟩
  replace C1 := Aside0.mk (⟨C1.out.1, C1.out.2.1, Kd.C_below C1.out.2.2 hb⟩ : _ ∧ _ ∧ Kd.C _ _ _ _ _)
  replace C5 := Aside0.mk (⟨C5.out.1, C5.out.2.1, Kd.C_below C5.out.2.2 hb⟩ : _ ∧ _ ∧ Kd.C _ _ _ _ _)
  replace C9 := Aside0.mk (⟨C9.out.1, C9.out.2.1, Kd.C_below C9.out.2.2 hb⟩ : _ ∧ _ ∧ Kd.C _ _ _ _ _)
  replace BX := Aside0.mk (blk_below BX.out hb)
  replace HBX := Aside0.mk (below_then HBX.out HBX.out.size hb)
  clear hb
  refine hK.out _ _ ⟨(blk_cell BX.out 0).trans rfl, (blk_cell BX.out 1).trans rfl⟩ (fun hHeld => ?_)
  clear hK K
  refine nm 82 ?_
  refine pu HT_ 37 (some 83) (bs 45 274877906943) ?_
  refine pu HT_ 38 (some 84) (bs 45 549755813887) ?_
  refine pu HT_ 39 (some 85) (bs 45 1099511627775) ?_
  refine pu HT_ 40 (some 86) (bs 45 2199023255551) ?_
  refine on HT_ 41 (some 87) (bs 45 4398046511103) (fun K hK => ?_)
  refine Kd.R_lit_step (Kd.int .i64) _ 3 ?hg (N := 87) ?hd (xs := menL) (inner := [.int .i64 2]) (ok := fun _ => True) (okp := fun _ => True) ?hr ?hp (fun _ hk => hk) trivial (Below.refl _ _) (Nat.le_refl _) (by simp [menL]) ?_; (case hd => rfl); (case hg => rfl); (case hr => first | (go_simp; done) | (go_simp; rfl)); (case hp => exact (Reps.one (show Kd.M (Kd.int .i64) _ _ _ (2 : Int) [.int .i64 2] from rfl) (Reps.none _ _)))
  intro rv rw ho hb hg_ hnew_
  clear hg_ hnew_
  obtain ⟨rA, rc, rfl⟩ := Kd.R_slice ho
  have rC := Aside0.mk (Kd.R_reads' ho)
  clear ho
  replace C1 := Aside0.mk (⟨C1.out.1, C1.out.2.1, Kd.C_below C1.out.2.2 hb⟩ : _ ∧ _ ∧ Kd.C _ _ _ _ _)
  replace C5 := Aside0.mk (⟨C5.out.1, C5.out.2.1, Kd.C_below C5.out.2.2 hb⟩ : _ ∧ _ ∧ Kd.C _ _ _ _ _)
  replace C9 := Aside0.mk (⟨C9.out.1, C9.out.2.1, Kd.C_below C9.out.2.2 hb⟩ : _ ∧ _ ∧ Kd.C _ _ _ _ _)
  replace BX := Aside0.mk (blk_below BX.out hb)
  replace HBX := Aside0.mk (below_then HBX.out HBX.out.size hb)
  clear hb
  refine hK.out _ _ ⟨(blk_cell BX.out 0).trans rfl, (blk_cell BX.out 1).trans rfl⟩ (fun hHeld => ?_)
  clear hK K
  refine nm 87 ?_
  refine on HT_ 42 (some 88) (bs 45 8796093022207) (fun K hK => ?_)
  refine goes_ Tryd.func17 (by kernel_rfl) rfl #[.slice A9 menL.length c9, .slice rA menL.length rc] (by rfl) rfl rfl (by (try simp only [List.map_toArray, List.map_cons, List.map_nil]); first | done | rfl) ?_
  with_reducible refine (macadamref00_Like.calls 10 _ _ menL _ _ menL true _ C9.out.2.2 C9.out.2.1 rC.out.2.2 rC.out.2.1 (by kernel_rfl)).mono ?_
  rintro e rx ⟨rfl, hd⟩
  refine ⟨_, rfl, ?_⟩
  have hb := hd.below
  clear hd
  replace C1 := Aside0.mk (⟨C1.out.1, C1.out.2.1, Kd.C_below C1.out.2.2 hb⟩ : _ ∧ _ ∧ Kd.C _ _ _ _ _)
  replace C5 := Aside0.mk (⟨C5.out.1, C5.out.2.1, Kd.C_below C5.out.2.2 hb⟩ : _ ∧ _ ∧ Kd.C _ _ _ _ _)
  replace C9 := Aside0.mk (⟨C9.out.1, C9.out.2.1, Kd.C_below C9.out.2.2 hb⟩ : _ ∧ _ ∧ Kd.C _ _ _ _ _)
  replace BX := Aside0.mk (blk_below BX.out hb)
  replace HBX := Aside0.mk (below_then HBX.out HBX.out.size hb)
  clear hb
  refine hK.out _ _ ⟨(blk_cell BX.out 0).trans rfl, (blk_cell BX.out 1).trans rfl⟩ (fun hHeld => ?_)
  clear hK K
  refine nm 88 ?_
  refine pu HT_ 43 (some 89) (bs 45 17592186044415) ?_
  refine pu HT_ 44 (some 90) (bs 45 35184372088831) ?_
  refine done_ (done_of HT_.out (by kernel_rfl)) ?_
  clear C1 C5 C9 BX heq
  go_wp2_with (fail)
  refine (macadamlaw04_own.calls ownM (ownG 2) 4 _ own_eq).mono ?_
  rintro e w19 ⟨va, vb, rfl, ha, hbb, hb⟩
  have HB19 := Aside0.mk (below_then HBX.out HBX.out.size hb)
  clear hb HBX
  obtain ⟨Aa, ca, rfl⟩ := Kd.R_slice ha
  have CA := Aside0.mk (Kd.R_reads' ha)
  clear ha
  obtain ⟨Ab, cb, rfl⟩ := Kd.R_slice hbb
  have CB := Aside0.mk (Kd.R_reads' hbb)
  clear hbb
  go_wp2_with (fail)
  refine (macadamlaw04_both.calls bothP _ (by kernel_rfl)).mono ?_
  rintro e w20 ⟨vp, rfl, hp, hb⟩
  have HB20 := Aside0.mk (below_then HB19.out HB19.out.size hb)
  replace CA := Aside0.mk (⟨CA.out.1, CA.out.2.1, Kd.C_below CA.out.2.2 hb⟩ : _ ∧ _ ∧ Kd.C _ _ _ _ _)
  replace CB := Aside0.mk (⟨CB.out.1, CB.out.2.1, Kd.C_below CB.out.2.2 hb⟩ : _ ∧ _ ∧ Kd.C _ _ _ _ _)
  clear hb HB19
  obtain ⟨Ap, cp, rfl⟩ := Kd.R_slice hp
  have CP := Aside0.mk (Kd.R_reads' hp)
  clear hp
  go_wp2_with (fail)
  refine (gang_Open.calls _ _ _ _ _ _ _ _ _ bothP 0 0 _ CA.out.2.2 CA.out.2.1 CB.out.2.2 CB.out.2.1 CP.out.2.2 CP.out.2.1 (gv_below HG0.out HB20.out) sh_open).mono ?_
  rintro e w21 ⟨rfl, hb⟩
  have HB21 := Aside0.mk (below_then HB20.out HB20.out.size hb)
  replace CA := Aside0.mk (⟨CA.out.1, CA.out.2.1, Kd.C_below CA.out.2.2 hb⟩ : _ ∧ _ ∧ Kd.C _ _ _ _ _)
  replace CB := Aside0.mk (⟨CB.out.1, CB.out.2.1, Kd.C_below CB.out.2.2 hb⟩ : _ ∧ _ ∧ Kd.C _ _ _ _ _)
  replace CP := Aside0.mk (⟨CP.out.1, CP.out.2.1, Kd.C_below CP.out.2.2 hb⟩ : _ ∧ _ ∧ Kd.C _ _ _ _ _)
  clear hb HB20
  clear CA
  clear CB
  clear CP
  go_wp2_with (fail)
  refine (macadamlaw04_own.calls ownM (ownG 2) 4 _ own_eq).mono ?_
  rintro e w22 ⟨va, vb, rfl, ha, hbb, hb⟩
  have HB22 := Aside0.mk (below_then HB21.out HB21.out.size hb)
  clear hb HB21
  obtain ⟨Aa, ca, rfl⟩ := Kd.R_slice ha
  have CA := Aside0.mk (Kd.R_reads' ha)
  clear ha
  obtain ⟨Ab, cb, rfl⟩ := Kd.R_slice hbb
  have CB := Aside0.mk (Kd.R_reads' hbb)
  clear hbb
  go_wp2_with (fail)
  refine (gang_Plan.calls _ _ _ _ _ _ _ planP 0 _ CA.out.2.2 CA.out.2.1 CB.out.2.2 CB.out.2.1 (gv_below HG0.out HB22.out) sh_plan).mono ?_
  rintro e w23 ⟨v12, rfl, hv, hb⟩
  have HB23 := Aside0.mk (below_then HB22.out HB22.out.size hb)
  replace CA := Aside0.mk (⟨CA.out.1, CA.out.2.1, Kd.C_below CA.out.2.2 hb⟩ : _ ∧ _ ∧ Kd.C _ _ _ _ _)
  replace CB := Aside0.mk (⟨CB.out.1, CB.out.2.1, Kd.C_below CB.out.2.2 hb⟩ : _ ∧ _ ∧ Kd.C _ _ _ _ _)
  clear hb HB22
  obtain ⟨A1, c1, rfl⟩ := Kd.V_slice hv
  have C1 := Aside0.mk (Kd.V_reads' hv)
  clear hv
  clear CA
  clear CB
  go_wp2_with (fail)
  refine (macadamlaw04_short.calls ownM (ownG 2) 3 _ short_eq).mono ?_
  rintro e w24 ⟨va, vb, rfl, ha, hbb, hb⟩
  have HB24 := Aside0.mk (below_then HB23.out HB23.out.size hb)
  replace C1 := Aside0.mk (⟨C1.out.1, C1.out.2.1, Kd.C_below C1.out.2.2 hb⟩ : _ ∧ _ ∧ Kd.C _ _ _ _ _)
  clear hb HB23
  obtain ⟨Aa, ca, rfl⟩ := Kd.R_slice ha
  have CA := Aside0.mk (Kd.R_reads' ha)
  clear ha
  obtain ⟨Ab, cb, rfl⟩ := Kd.R_slice hbb
  have CB := Aside0.mk (Kd.R_reads' hbb)
  clear hbb
  go_wp2_with (fail)
  refine (gang_Most.calls _ _ _ _ _ _ _ mosL 0 _ CA.out.2.2 CA.out.2.1 CB.out.2.2 CB.out.2.1 (gv_below HG0.out HB24.out) sh_most).mono ?_
  rintro e w25 ⟨v13, rfl, hv, hb⟩
  have HB25 := Aside0.mk (below_then HB24.out HB24.out.size hb)
  replace C1 := Aside0.mk (⟨C1.out.1, C1.out.2.1, Kd.C_below C1.out.2.2 hb⟩ : _ ∧ _ ∧ Kd.C _ _ _ _ _)
  replace CA := Aside0.mk (⟨CA.out.1, CA.out.2.1, Kd.C_below CA.out.2.2 hb⟩ : _ ∧ _ ∧ Kd.C _ _ _ _ _)
  replace CB := Aside0.mk (⟨CB.out.1, CB.out.2.1, Kd.C_below CB.out.2.2 hb⟩ : _ ∧ _ ∧ Kd.C _ _ _ _ _)
  clear hb HB24
  obtain ⟨A5, c5, rfl⟩ := Kd.V_slice hv
  have C5 := Aside0.mk (Kd.V_reads' hv)
  clear hv
  clear CA
  clear CB
  go_wp2_with (fail)
  refine (macadamlaw04_far.calls ownM (ownG 1) 4 _ far_eq).mono ?_
  rintro e w26 ⟨va, vb, rfl, ha, hbb, hb⟩
  have HB26 := Aside0.mk (below_then HB25.out HB25.out.size hb)
  replace C1 := Aside0.mk (⟨C1.out.1, C1.out.2.1, Kd.C_below C1.out.2.2 hb⟩ : _ ∧ _ ∧ Kd.C _ _ _ _ _)
  replace C5 := Aside0.mk (⟨C5.out.1, C5.out.2.1, Kd.C_below C5.out.2.2 hb⟩ : _ ∧ _ ∧ Kd.C _ _ _ _ _)
  clear hb HB25
  obtain ⟨Aa, ca, rfl⟩ := Kd.R_slice ha
  have CA := Aside0.mk (Kd.R_reads' ha)
  clear ha
  obtain ⟨Ab, cb, rfl⟩ := Kd.R_slice hbb
  have CB := Aside0.mk (Kd.R_reads' hbb)
  clear hbb
  go_wp2_with (fail)
  refine (gang_First.calls _ _ _ _ _ _ _ 2 0 _ CA.out.2.2 CA.out.2.1 CB.out.2.2 CB.out.2.1 (gv_below HG0.out HB26.out) sh_first).mono ?_
  rintro e w27 ⟨rfl, hb⟩
  have HB27 := Aside0.mk (below_then HB26.out HB26.out.size hb)
  replace C1 := Aside0.mk (⟨C1.out.1, C1.out.2.1, Kd.C_below C1.out.2.2 hb⟩ : _ ∧ _ ∧ Kd.C _ _ _ _ _)
  replace C5 := Aside0.mk (⟨C5.out.1, C5.out.2.1, Kd.C_below C5.out.2.2 hb⟩ : _ ∧ _ ∧ Kd.C _ _ _ _ _)
  replace CA := Aside0.mk (⟨CA.out.1, CA.out.2.1, Kd.C_below CA.out.2.2 hb⟩ : _ ∧ _ ∧ Kd.C _ _ _ _ _)
  replace CB := Aside0.mk (⟨CB.out.1, CB.out.2.1, Kd.C_below CB.out.2.2 hb⟩ : _ ∧ _ ∧ Kd.C _ _ _ _ _)
  clear hb HB26
  clear CA
  clear CB
  go_wp2_with (fail)
  refine (macadamlaw04_short.calls ownM (ownG 2) 3 _ short_eq).mono ?_
  rintro e w28 ⟨va, vb, rfl, ha, hbb, hb⟩
  have HB28 := Aside0.mk (below_then HB27.out HB27.out.size hb)
  replace C1 := Aside0.mk (⟨C1.out.1, C1.out.2.1, Kd.C_below C1.out.2.2 hb⟩ : _ ∧ _ ∧ Kd.C _ _ _ _ _)
  replace C5 := Aside0.mk (⟨C5.out.1, C5.out.2.1, Kd.C_below C5.out.2.2 hb⟩ : _ ∧ _ ∧ Kd.C _ _ _ _ _)
  clear hb HB27
  obtain ⟨Aa, ca, rfl⟩ := Kd.R_slice ha
  have CA := Aside0.mk (Kd.R_reads' ha)
  clear ha
  obtain ⟨Ab, cb, rfl⟩ := Kd.R_slice hbb
  have CB := Aside0.mk (Kd.R_reads' hbb)
  clear hbb
  go_wp2_with (fail)
  refine (gang_Plan.calls _ _ _ _ _ _ _ nonL 4 _ CA.out.2.2 CA.out.2.1 CB.out.2.2 CB.out.2.1 (gv_below HG0.out HB28.out) sh_noplan).mono ?_
  rintro e w29 ⟨v15, rfl, hv, hb⟩
  have HB29 := Aside0.mk (below_then HB28.out HB28.out.size hb)
  replace C1 := Aside0.mk (⟨C1.out.1, C1.out.2.1, Kd.C_below C1.out.2.2 hb⟩ : _ ∧ _ ∧ Kd.C _ _ _ _ _)
  replace C5 := Aside0.mk (⟨C5.out.1, C5.out.2.1, Kd.C_below C5.out.2.2 hb⟩ : _ ∧ _ ∧ Kd.C _ _ _ _ _)
  replace CA := Aside0.mk (⟨CA.out.1, CA.out.2.1, Kd.C_below CA.out.2.2 hb⟩ : _ ∧ _ ∧ Kd.C _ _ _ _ _)
  replace CB := Aside0.mk (⟨CB.out.1, CB.out.2.1, Kd.C_below CB.out.2.2 hb⟩ : _ ∧ _ ∧ Kd.C _ _ _ _ _)
  clear hb HB28
  clear CA
  clear CB
  clear hv
  go_wp2_with (fail)
  go_wp2_with (fail)
  refine (macadamlaw04_work.calls 0 0 0 0 0 0 _ (by kernel_rfl)).mono ?_
  rintro e w30 ⟨rfl, hb⟩
  have HB30 := Aside0.mk (below_then HB29.out HB29.out.size hb)
  replace C1 := Aside0.mk (⟨C1.out.1, C1.out.2.1, Kd.C_below C1.out.2.2 hb⟩ : _ ∧ _ ∧ Kd.C _ _ _ _ _)
  replace C5 := Aside0.mk (⟨C5.out.1, C5.out.2.1, Kd.C_below C5.out.2.2 hb⟩ : _ ∧ _ ∧ Kd.C _ _ _ _ _)
  clear hb HB29
  go_wp2_with (fail)
  refine (macadamlaw04_work.calls 0 1 2 0 1 2 _ (by kernel_rfl)).mono ?_
  rintro e w31 ⟨rfl, hb⟩
  have HB31 := Aside0.mk (below_then HB30.out HB30.out.size hb)
  replace C1 := Aside0.mk (⟨C1.out.1, C1.out.2.1, Kd.C_below C1.out.2.2 hb⟩ : _ ∧ _ ∧ Kd.C _ _ _ _ _)
  replace C5 := Aside0.mk (⟨C5.out.1, C5.out.2.1, Kd.C_below C5.out.2.2 hb⟩ : _ ∧ _ ∧ Kd.C _ _ _ _ _)
  clear hb HB30
  go_wp2_with (fail)
  refine (macadamlaw04_work.calls 1 0 0 1 0 0 _ (by kernel_rfl)).mono ?_
  rintro e w32 ⟨rfl, hb⟩
  have HB32 := Aside0.mk (below_then HB31.out HB31.out.size hb)
  replace C1 := Aside0.mk (⟨C1.out.1, C1.out.2.1, Kd.C_below C1.out.2.2 hb⟩ : _ ∧ _ ∧ Kd.C _ _ _ _ _)
  replace C5 := Aside0.mk (⟨C5.out.1, C5.out.2.1, Kd.C_below C5.out.2.2 hb⟩ : _ ∧ _ ∧ Kd.C _ _ _ _ _)
  clear hb HB31
  go_wp2_with (fail)
  refine (macadamlaw04_work.calls 2 0 0 2 0 0 _ (by kernel_rfl)).mono ?_
  rintro e w33 ⟨rfl, hb⟩
  have HB33 := Aside0.mk (below_then HB32.out HB32.out.size hb)
  replace C1 := Aside0.mk (⟨C1.out.1, C1.out.2.1, Kd.C_below C1.out.2.2 hb⟩ : _ ∧ _ ∧ Kd.C _ _ _ _ _)
  replace C5 := Aside0.mk (⟨C5.out.1, C5.out.2.1, Kd.C_below C5.out.2.2 hb⟩ : _ ∧ _ ∧ Kd.C _ _ _ _ _)
  clear hb HB32
  go_wp2_with (fail)
  refine (macadamlaw04_work.calls 3 1 1 3 1 1 _ (by kernel_rfl)).mono ?_
  rintro e w34 ⟨rfl, hb⟩
  have HB34 := Aside0.mk (below_then HB33.out HB33.out.size hb)
  replace C1 := Aside0.mk (⟨C1.out.1, C1.out.2.1, Kd.C_below C1.out.2.2 hb⟩ : _ ∧ _ ∧ Kd.C _ _ _ _ _)
  replace C5 := Aside0.mk (⟨C5.out.1, C5.out.2.1, Kd.C_below C5.out.2.2 hb⟩ : _ ∧ _ ∧ Kd.C _ _ _ _ _)
  clear hb HB33
  go_wp2_with ((with_reducible refine gate_dst (N := 146) rfl ?_); refine list_of_step ?_; refine Kd.R_lit_step k59 _ 59 ?hg (N := 146) ?hd (xs := planP) (inner := [.int .i64 0, .int .i64 0, .int .i64 0, .int .i64 0, .int .i64 1, .int .i64 2, .int .i64 1, .int .i64 0, .int .i64 0, .int .i64 2, .int .i64 0, .int .i64 0, .int .i64 3, .int .i64 1, .int .i64 1]) (ok := fun _ => True) (okp := fun _ => True) ?hr ?hp (fun _ hk => hk) trivial (Below.refl _ _) (Nat.le_refl _) (by simp [planP]) ?_; (case hd => rfl); (case hg => rfl); (case hr => first | (go_simp; done) | (go_simp; rfl)); (case hp => exact lit5 _ _ _ _ _ _ _ _); intro v3 w35 ho hb hg_ hnew_; clear hg_ hnew_; have HO := Aside0.mk ho; have HB35 := Aside0.mk (below_then HB34.out HB34.out.size hb); replace C1 := Aside0.mk (⟨C1.out.1, C1.out.2.1, Kd.C_below C1.out.2.2 hb⟩ : _ ∧ _ ∧ Kd.C _ _ _ _ _); replace C5 := Aside0.mk (⟨C5.out.1, C5.out.2.1, Kd.C_below C5.out.2.2 hb⟩ : _ ∧ _ ∧ Kd.C _ _ _ _ _); clear hb ho HB34; (obtain ⟨Ap, cp, rfl⟩ := Kd.R_slice HO.out); have CP := Aside0.mk (Kd.R_reads' HO.out); clear HO)
  go_wp2_with (fail)
  refine (macadamlaw04_same.calls 10 _ _ planP _ _ planP true _ C1.out.2.2 C1.out.2.1 CP.out.2.2 CP.out.2.1 (by kernel_rfl)).mono ?_
  rintro e w36 ⟨rfl, hd⟩
  have hb := hd.below
  clear hd
  have HB36 := Aside0.mk (below_then HB35.out HB35.out.size hb)
  replace C1 := Aside0.mk (⟨C1.out.1, C1.out.2.1, Kd.C_below C1.out.2.2 hb⟩ : _ ∧ _ ∧ Kd.C _ _ _ _ _)
  replace C5 := Aside0.mk (⟨C5.out.1, C5.out.2.1, Kd.C_below C5.out.2.2 hb⟩ : _ ∧ _ ∧ Kd.C _ _ _ _ _)
  replace CP := Aside0.mk (⟨CP.out.1, CP.out.2.1, Kd.C_below CP.out.2.2 hb⟩ : _ ∧ _ ∧ Kd.C _ _ _ _ _)
  clear hb HB35
  clear C1
  clear CP
  go_wp2_with ((with_reducible refine gate_dst (N := 151) rfl ?_); refine list_of_step ?_; refine Kd.R_lit_step (Kd.int .i64) _ 3 ?hg (N := 151) ?hd (xs := mosL) (inner := [.int .i64 0, .int .i64 2]) (ok := fun _ => True) (okp := fun _ => True) ?hr ?hp (fun _ hk => hk) trivial (Below.refl _ _) (Nat.le_refl _) (by simp [mosL]) ?_; (case hd => rfl); (case hg => rfl); (case hr => first | (go_simp; done) | (go_simp; rfl)); (case hp => exact (Reps.one (show Kd.M (Kd.int .i64) _ _ _ (0 : Int) [.int .i64 0] from rfl) (Reps.one (show Kd.M (Kd.int .i64) _ _ _ (2 : Int) [.int .i64 2] from rfl) (Reps.none _ _)))); intro v3 w37 ho hb hg_ hnew_; clear hg_ hnew_; have HO := Aside0.mk ho; have HB37 := Aside0.mk (below_then HB36.out HB36.out.size hb); replace C5 := Aside0.mk (⟨C5.out.1, C5.out.2.1, Kd.C_below C5.out.2.2 hb⟩ : _ ∧ _ ∧ Kd.C _ _ _ _ _); clear hb ho HB36; (obtain ⟨Ap, cp, rfl⟩ := Kd.R_slice HO.out); have CP := Aside0.mk (Kd.R_reads' HO.out); clear HO)
  go_wp2_with (fail)
  refine (macadamref00_Like.calls 10 _ _ mosL _ _ mosL true _ C5.out.2.2 C5.out.2.1 CP.out.2.2 CP.out.2.1 (by kernel_rfl)).mono ?_
  rintro e w38 ⟨rfl, hd⟩
  have hb := hd.below
  clear hd
  have HB38 := Aside0.mk (below_then HB37.out HB37.out.size hb)
  replace C5 := Aside0.mk (⟨C5.out.1, C5.out.2.1, Kd.C_below C5.out.2.2 hb⟩ : _ ∧ _ ∧ Kd.C _ _ _ _ _)
  replace CP := Aside0.mk (⟨CP.out.1, CP.out.2.1, Kd.C_below CP.out.2.2 hb⟩ : _ ∧ _ ∧ Kd.C _ _ _ _ _)
  clear hb HB37
  clear C5
  clear CP
  go_wp2_with (fail)
  go_ret
  exact ⟨by rfl, HB38.out⟩
def macadamlaw04_shovelled.f : Option Bool := some true
theorem macadamlaw04_shovelled.calls (r : Bool) (w : World) (hG : GV w) (h : macadamlaw04_shovelled.f = some r) :
    Calls Tryd.prog 24 #[] w fun e w' => e = .returned (.bool r) ∧ Below w.heap.size w w' := by
  obtain rfl : true = r := by simpa [macadamlaw04_shovelled.f] using h
  exact macadamlaw04_shovelled.calls0 w hG
end Go.Proofs.YtikfghnkbgdbgaaDoor.Q
end
