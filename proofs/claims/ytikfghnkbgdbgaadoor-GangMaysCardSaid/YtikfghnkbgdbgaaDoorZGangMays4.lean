/- It is proved that the statement GangMays holds of the given program for every book, every list of works and every three numbers; there are no conditions. -/
import Derived.Test.YtikfghnkbgdbgaaDoorZGangMays3
import Derived.Test.YtikfghnkbgdbgaaDoorTie
import Derived.Test.YtikfghnkbgdbgaaDoorCards
import Derived.SevenTiedAt
section
namespace Go.Proofs.YtikfghnkbgdbgaaDoor.Q
open Go.RowKit Go.Proofs.YtikfghnkbgdbgaaDoorW.PrintWords Go.Proofs.YtikfghnkbgdbgaaDoorW.PrintLast Go.Proofs.YtikfghnkbgdbgaaDoorW.PrintMore
attribute [local go_sem] max2_int min2_int max_two min_two max_three min_three max_four min_four   -- for this text's walks alone
set_option linter.unusedVariables false
set_option linter.unusedSimpArgs false
mutual
def macadamlaw04_GangMays.j0 : Nat → List (S59) → Bool → List (S66) → List (S63) → Int → Int → Int → Int → Option (Bool)
  | 0, _, _, _, _, _, _, _, _ => none
  | k + 1, x1, x46, x185000, x185001, x185002, x186000, x186001, x186002 => if x46 = true then (some false) else ((gang_May.f x185000 x185001 x185002 x1).bind fun bt197 => ((macadamref04_May.f k x185000 x185001 x185002 x1).bind fun bt199 => (if (bt197.1 != bt199.1) = true then (macadamlaw04_GangMays.j1 k x1 true x185000 x185001 x185002 x186000 x186001 x186002) else (macadamlaw04_GangMays.j1 k x1 (bt197.2 != bt199.2) x185000 x185001 x185002 x186000 x186001 x186002))))
def macadamlaw04_GangMays.j1 : Nat → List (S59) → Bool → List (S66) → List (S63) → Int → Int → Int → Int → Option (Bool)
  | 0, _, _, _, _, _, _, _, _ => none
  | k + 1, x1, x66, x185000, x185001, x185002, x186000, x186001, x186002 => if x66 = true then (some false) else ((gang_Closed.f x185000 x185001 x185002 x1 x186002).bind fun bt201 => ((macadamref04_Closed.f k x185000 x185001 x185002 x1 x186002).bind fun bt205 => ((macadamref00_Like.f k bt201.1 bt205.1).bind fun t209 => (if t209 = true then (if bt201.2 = bt205.2 then ((macadamlaw04_shovelled.f).bind fun t210 => (some t210)) else (some false)) else (some false)))))
end
def macadamlaw04_GangMays.f (k : Nat) (l0_0 : List (S66)) (l0_1 : List (S63)) (a0_2 : Int) (l1 : List (S59)) (a2_0 : Int) (a2_1 : Int) (a2_2 : Int) : Option (Bool) := (gang_Can.f l0_0 l0_1 a0_2 a2_0 a2_1).bind fun bt186 => ((macadamref04_Can.f k l0_0 l0_1 a0_2 a2_0 a2_1).bind fun bt190 => ((macadamref00_Like.f k bt186.1 bt190.1).bind fun t194 => (if t194 = true then (if bt186.2 = bt190.2 then ((gang_Check.f k l0_0 l0_1 a0_2).bind fun t195 => ((macadamref04_Check.f k l0_0 l0_1 a0_2).bind fun t196 => (macadamlaw04_GangMays.j0 k l1 (t195 != t196) l0_0 l0_1 a0_2 a2_0 a2_1 a2_2))) else (macadamlaw04_GangMays.j0 k l1 true l0_0 l0_1 a0_2 a2_0 a2_1 a2_2)) else (macadamlaw04_GangMays.j0 k l1 true l0_0 l0_1 a0_2 a2_0 a2_1 a2_2))))
def macadamlaw04_GangMays.T3 : Bool × List (List Nat × List Nat) := (true, [([], []), ([], []), ([0, 1], [0, 1]), ([2], [2]), ([3, 2], [3]), ([4], [4]), ([4], [4]), ([5, 6, 4], [4, 5, 6]), ([4, 7], [4, 7]), ([8, 4], [8]), ([9], [9]), ([10, 9, 9], [9, 10]), ([9], [9]), ([12, 11, 9], [9, 12]), ([11, 13, 9], [9, 11, 13]), ([9, 14], [9, 14])])
def macadamlaw04_GangMays.B3 : List Nat := [0, 0, 3, 7, 15, 31, 31, 127, 255, 511, 1023, 2047, 1023, 8191, 16383, 32767]
theorem macadamlaw04_GangMays.tab3 : rtab .any (opsOf Tryd.f3 3) = macadamlaw04_GangMays.T3 := by kernel_rfl
theorem macadamlaw04_GangMays.bits3 : waitsOk macadamlaw04_GangMays.T3.2 macadamlaw04_GangMays.B3 = true := by kernel_rfl
set_option maxHeartbeats 8000000 in
set_option maxRecDepth 100000 in
theorem macadamlaw04_GangMays.calls (k : Nat) (A0_0 : Option Addr) (c0_0 : Nat) (l0_0 : List (S66)) (A0_1 : Option Addr) (c0_1 : Nat) (l0_1 : List (S63)) (a0_2 : Int) (A1 : Option Addr) (c1 : Nat) (l1 : List (S59)) (a2_0 : Int) (a2_1 : Int) (a2_2 : Int) (r : Bool) (w : World) (hr0_0 : Kd.C k66 w A0_0 l0_0.length l0_0) (hc0_0 : l0_0.length ≤ c0_0) (hr0_1 : Kd.C k63 w A0_1 l0_1.length l0_1) (hc0_1 : l0_1.length ≤ c0_1) (hr1 : Kd.C k59 w A1 l1.length l1) (hc1 : l1.length ≤ c1) (hG : GV w) (h : macadamlaw04_GangMays.f k l0_0 l0_1 a0_2 l1 a2_0 a2_1 a2_2 = some r) :
    Calls Tryd.prog 3 #[.agg #[.slice A0_0 l0_0.length c0_0, .slice A0_1 l0_1.length c0_1, .int .i64 a0_2], .slice A1 l1.length c1, .agg #[.int .i64 a2_0, .int .i64 a2_1, .int .i64 a2_2]] w fun e w' => e = .returned (.bool r) ∧ Below w.heap.size w w' := by
  have hu25 := Tryd.underlying25
  have hu27 := Tryd.underlying27
  have HR0_0 := Aside0.mk hr0_0
  have HC0_0 := Aside0.mk hc0_0
  clear hr0_0 hc0_0
  have HR0_1 := Aside0.mk hr0_1
  have HC0_1 := Aside0.mk hc0_1
  clear hr0_1 hc0_1
  have HR1 := Aside0.mk hr1
  have HC1 := Aside0.mk hc1
  clear hr1 hc1
  have HB := Aside0.mk (Below.refl w.heap.size w)
  have HG := Aside0.mk hG
  clear hG
  have H : ((gang_Can.f l0_0 l0_1 a0_2 a2_0 a2_1).bind fun bt186 => ((macadamref04_Can.f k l0_0 l0_1 a0_2 a2_0 a2_1).bind fun bt190 => ((macadamref00_Like.f k bt186.1 bt190.1).bind fun t194 => (if t194 = true then (if bt186.2 = bt190.2 then ((gang_Check.f k l0_0 l0_1 a0_2).bind fun t195 => ((macadamref04_Check.f k l0_0 l0_1 a0_2).bind fun t196 => (macadamlaw04_GangMays.j0 k l1 (t195 != t196) l0_0 l0_1 a0_2 a2_0 a2_1 a2_2))) else (macadamlaw04_GangMays.j0 k l1 true l0_0 l0_1 a0_2 a2_0 a2_1 a2_2)) else (macadamlaw04_GangMays.j0 k l1 true l0_0 l0_1 a0_2 a2_0 a2_1 a2_2))))) = some r := h
  clear h
  replace H := Option.bind_eq_some_iff.mp H
  obtain ⟨⟨t186, t189⟩, A40, H⟩ := H
  replace H : ((macadamref04_Can.f k l0_0 l0_1 a0_2 a2_0 a2_1).bind fun bt190 => ((macadamref00_Like.f k t186 bt190.1).bind fun t194 => (if t194 = true then (if t189 = bt190.2 then ((gang_Check.f k l0_0 l0_1 a0_2).bind fun t195 => ((macadamref04_Check.f k l0_0 l0_1 a0_2).bind fun t196 => (macadamlaw04_GangMays.j0 k l1 (t195 != t196) l0_0 l0_1 a0_2 a2_0 a2_1 a2_2))) else (macadamlaw04_GangMays.j0 k l1 true l0_0 l0_1 a0_2 a2_0 a2_1 a2_2)) else (macadamlaw04_GangMays.j0 k l1 true l0_0 l0_1 a0_2 a2_0 a2_1 a2_2)))) = some r := H
  have A4 := Aside0.mk A40
  clear A40
  replace H := Option.bind_eq_some_iff.mp H
  obtain ⟨⟨t190, t193⟩, A50, H⟩ := H
  replace H : ((macadamref00_Like.f k t186 t190).bind fun t194 => (if t194 = true then (if t189 = t193 then ((gang_Check.f k l0_0 l0_1 a0_2).bind fun t195 => ((macadamref04_Check.f k l0_0 l0_1 a0_2).bind fun t196 => (macadamlaw04_GangMays.j0 k l1 (t195 != t196) l0_0 l0_1 a0_2 a2_0 a2_1 a2_2))) else (macadamlaw04_GangMays.j0 k l1 true l0_0 l0_1 a0_2 a2_0 a2_1 a2_2)) else (macadamlaw04_GangMays.j0 k l1 true l0_0 l0_1 a0_2 a2_0 a2_1 a2_2))) = some r := H
  have A5 := Aside0.mk A50
  clear A50
  have HC6 := Aside0.mk H
  clear H
  go_enter Tryd.func3, Tryd.ntmps3
  go_upto_region 3 with (first | ((with_reducible refine gate_dst (N := 3) rfl ?_); refine bx 3 #[.slice A0_0 l0_0.length c0_0, .slice A0_1 l0_1.length c0_1, .int .i64 a0_2] 25 ?_; intro gb184 hg w7 hbox hb; have n0_ := Aside0.mk (below_step (bw HB) hb); have n1_ := Aside0.mk (hbox); have n2_ := Aside0.mk (bz (bw HB) hg); have n3_ := Aside0.mk (bz (bw HB) hg); clear HB; have HB := n0_; have BK184 := n1_; have GW184 := n2_; have GE184 := n3_; clear n0_ n1_ n2_ n3_; clear hb hbox hg) | ((with_reducible refine gate_dst (N := 5) rfl ?_); refine bx 5 #[.int .i64 a2_0, .int .i64 a2_1, .int .i64 a2_2] 27 ?_; intro gb185 hg w8 hbox hb; have n0_ := Aside0.mk (blk_below (bm BK184) hb); have n1_ := Aside0.mk (below_step (bw1 HB GE184) hb); have n2_ := Aside0.mk (hbox); have n3_ := Aside0.mk (bz (bw1 HB GE184) hg); have n4_ := Aside0.mk (bz (bw1 HB GE184) hg); have n5_ := Aside0.mk (bl (bm BK184) hg); have n6_ := Aside0.mk (bg (bm BK184) hg); clear BK184; clear HB; have BK184 := n0_; have HB := n1_; have BK185 := n2_; have GW185 := n3_; have GE185 := n4_; have NB184_185 := n5_; have NB185_184 := n6_; clear n0_ n1_ n2_ n3_ n4_ n5_ n6_; clear hb hbox hg; have hnb9 := NB184_185.out; have hnc9 := NB185_184.out; obtain ⟨hcz10_0, hcz10_1, hcz10_2, hfz10_0, hfz10_1, hfz10_2⟩ := b3 BK184; obtain ⟨hcz11_0, hcz11_1, hcz11_2, hfz11_0, hfz11_1, hfz11_2⟩ := b3 BK185) | ((with_reducible refine gate_callee (f := 15) rfl ?_); refine gL (some 19) Tryd.func15 #[.agg #[.slice A0_0 l0_0.length c0_0, .slice A0_1 l0_1.length c0_1, .int .i64 a0_2], .int .i64 a2_0, .int .i64 a2_1] ?_; (with_reducible refine (gang_Can.calls _ _ l0_0 _ _ l0_1 a0_2 a2_0 a2_1 t186 t189 _ ?side1 ?side2 ?side3 ?side4 ?side5 A4.out).mono ?_); (case side1 => repeat (first | exact (Kd.C_below HR0_0.out HB.out) | (with_reducible refine Kd.C_alloc ?_ _) | (with_reducible refine Kd.C_drewN ?_ _) | (with_reducible refine Kd.C_drew ?_))); (case side2 => exact HC0_0.out); (case side3 => repeat (first | exact (Kd.C_below HR0_1.out HB.out) | (with_reducible refine Kd.C_alloc ?_ _) | (with_reducible refine Kd.C_drewN ?_ _) | (with_reducible refine Kd.C_drew ?_))); (case side4 => exact HC0_1.out); (case side5 => exact gv_below HG.out (bw2 HB GE184 GE185)); rintro e w12 ⟨v187, rfl, ho0, hb⟩; refine ⟨_, rfl, ?_⟩; have n0_ := Aside0.mk (Kd.V_lower (Kd.V_mono (ok' := fun k_ => k_ ≠ gb184 ∧ k_ ≠ gb185) ho0 (fun k_ hk_ => ⟨(Kd.freshB (g := gb184) (o := .cells #[.slice A0_0 l0_0.length c0_0, .slice A0_1 l0_1.length c0_1, .int .i64 a0_2] 25 (0, 0)) (bm BK184) k_ hk_), (Kd.freshB (g := gb185) (o := .cells #[.int .i64 a2_0, .int .i64 a2_1, .int .i64 a2_2] 27 (0, 0)) (bm BK185) k_ hk_)⟩)) (below_size (bw2 HB GE184 GE185))); have n1_ := Aside0.mk (blk_below (bm BK184) hb); have n2_ := Aside0.mk (blk_below (bm BK185) hb); have n3_ := Aside0.mk (below_step (bw2 HB GE184 GE185) hb); clear BK184; clear BK185; clear HB; have HO188 := n0_; have BK184 := n1_; have BK185 := n2_; have HB := n3_; clear n0_ n1_ n2_ n3_; (try clear hb); (try clear hb2); (try clear hk); (try clear hi); (try clear ho0); obtain ⟨hcz13_0, hcz13_1, hcz13_2, hfz13_0, hfz13_1, hfz13_2⟩ := b3 BK184; obtain ⟨hcz14_0, hcz14_1, hcz14_2, hfz14_0, hfz14_1, hfz14_2⟩ := b3 BK185) | ((with_reducible refine gate_callee (f := 16) rfl ?_); refine gL (some 28) Tryd.func16 #[.agg #[.slice A0_0 l0_0.length c0_0, .slice A0_1 l0_1.length c0_1, .int .i64 a0_2], .int .i64 a2_0, .int .i64 a2_1] ?_; (with_reducible refine (macadamref04_Can.calls k _ _ l0_0 _ _ l0_1 a0_2 a2_0 a2_1 t190 t193 _ ?side1 ?side2 ?side3 ?side4 A5.out).mono ?_); (case side1 => repeat (first | exact (Kd.C_below HR0_0.out HB.out) | (with_reducible refine Kd.C_alloc ?_ _) | (with_reducible refine Kd.C_drewN ?_ _) | (with_reducible refine Kd.C_drew ?_))); (case side2 => exact HC0_0.out); (case side3 => repeat (first | exact (Kd.C_below HR0_1.out HB.out) | (with_reducible refine Kd.C_alloc ?_ _) | (with_reducible refine Kd.C_drewN ?_ _) | (with_reducible refine Kd.C_drew ?_))); (case side4 => exact HC0_1.out); rintro e w15 ⟨v191, rfl, ho0, hb⟩; refine ⟨_, rfl, ?_⟩; have n0_ := Aside0.mk (Kd.V_elder' (by (with_reducible repeat (first | apply Kd.V_alloc | apply Kd.V_drewN | apply Kd.V_drew)); exact HO188.out) (Kd.R_base ho0) hb); have n1_ := Aside0.mk (Kd.R_lower ho0 (below_size (bw2 HB GE184 GE185))); have n2_ := Aside0.mk (blk_below (bm BK184) hb); have n3_ := Aside0.mk (blk_below (bm BK185) hb); have n4_ := Aside0.mk (below_step (bw2 HB GE184 GE185) hb); clear HO188; clear BK184; clear BK185; clear HB; have HO188 := n0_; have HO192 := n1_; have BK184 := n2_; have BK185 := n3_; have HB := n4_; clear n0_ n1_ n2_ n3_ n4_; (try clear hb); (try clear hb2); (try clear hk); (try clear hi); (try clear ho0)))
  (try simp only [Act.put, List.setIfInBounds_toArray, List.set_cons_zero, List.set_cons_succ])
  go_cut [46] (fun v46 wc => ∃ (kq : Nat) (x46_5 : Bool), v46 = .bool x46_5 ∧ Aside0 (macadamlaw04_GangMays.j0 kq l1 x46_5 l0_0 l0_1 a0_2 a2_0 a2_1 a2_2 = some r) ∧ Aside0 (kq ≤ k) ∧ Aside0 (wc.heap[gb184]? = some (.cells #[(.slice A0_0 l0_0.length c0_0), (.slice A0_1 l0_1.length c0_1), .int .i64 a0_2] 25 (0, 0))) ∧ Aside0 (wc.heap[gb185]? = some (.cells #[.int .i64 a2_0, .int .i64 a2_1, .int .i64 a2_2] 27 (0, 0))) ∧ Aside0 (Below w.heap.size w wc))
  case first =>
    have H := HC6.out
    clear HC6
    replace H := Option.bind_eq_some_iff.mp H
    obtain ⟨t194, A160, H⟩ := H
    replace H : (if t194 = true then (if t189 = t193 then ((gang_Check.f k l0_0 l0_1 a0_2).bind fun t195 => ((macadamref04_Check.f k l0_0 l0_1 a0_2).bind fun t196 => (macadamlaw04_GangMays.j0 k l1 (t195 != t196) l0_0 l0_1 a0_2 a2_0 a2_1 a2_2))) else (macadamlaw04_GangMays.j0 k l1 true l0_0 l0_1 a0_2 a2_0 a2_1 a2_2)) else (macadamlaw04_GangMays.j0 k l1 true l0_0 l0_1 a0_2 a2_0 a2_1 a2_2)) = some r := H
    have A16 := Aside0.mk A160
    clear A160
    by_cases c17 : t194 = true
    · subst c17
      have H1 : (if t189 = t193 then ((gang_Check.f k l0_0 l0_1 a0_2).bind fun t195 => ((macadamref04_Check.f k l0_0 l0_1 a0_2).bind fun t196 => (macadamlaw04_GangMays.j0 k l1 (t195 != t196) l0_0 l0_1 a0_2 a2_0 a2_1 a2_2))) else (macadamlaw04_GangMays.j0 k l1 true l0_0 l0_1 a0_2 a2_0 a2_1 a2_2)) = some r := by rw [if_pos rfl] at H; exact H
      clear H
      have H := H1
      clear H1
      by_cases c18 : t189 = t193
      · rw [if_pos c18] at H
        have c18b0 : (t189 == t193) = true := beq_iff_eq.mpr c18
        have c18b1 : (t189 != t193) = false := bne_eq_false_iff_eq.mpr c18
        clear c18
        (first | rw [c18b0] | (simp only [i64_w, i32_w]; rw [c18b0]) | skip)
        replace H := Option.bind_eq_some_iff.mp H
        obtain ⟨t195, A190, H⟩ := H
        replace H : ((macadamref04_Check.f k l0_0 l0_1 a0_2).bind fun t196 => (macadamlaw04_GangMays.j0 k l1 (t195 != t196) l0_0 l0_1 a0_2 a2_0 a2_1 a2_2)) = some r := H
        have A19 := Aside0.mk A190
        clear A190
        replace H := Option.bind_eq_some_iff.mp H
        obtain ⟨t196, A200, H⟩ := H
        replace H : (macadamlaw04_GangMays.j0 k l1 (t195 != t196) l0_0 l0_1 a0_2 a2_0 a2_1 a2_2) = some r := H
        have A20 := Aside0.mk A200
        clear A200
        have H' := Aside0.mk H
        clear H
        try go_wp2
        have n0_ := Aside0.mk (Kd.V_drew HO188.out)
        have n1_ := Aside0.mk (Kd.R_drew HO192.out)
        have n2_ := Aside0.mk (blk_drew BK184.out)
        have n3_ := Aside0.mk (blk_drew BK185.out)
        have n4_ := Aside0.mk (below_drew1 HB.out)
        clear HO188
        clear HO192
        clear BK184
        clear BK185
        clear HB
        have HO188 := n0_
        have HO192 := n1_
        have BK184 := n2_
        have BK185 := n3_
        have HB := n4_
        clear n0_ n1_ n2_ n3_ n4_
        obtain ⟨Ao22, co22, eo22⟩ := Kd.V_slice HO188.out
        (first | subst eo22 | (injection eo22 with f1_ f2_ f3_; have f4_ := f1_.symm; have f5_ := f3_.symm; clear f1_ f2_ f3_; subst f4_; subst f5_))
        obtain ⟨Ao23, co23, eo23⟩ := Kd.R_slice HO192.out
        (first | subst eo23 | (injection eo23 with f1_ f2_ f3_; have f4_ := f1_.symm; have f5_ := f3_.symm; clear f1_ f2_ f3_; subst f4_; subst f5_))
        refine start_ (n := 16) (S := fun w' => w'.cell? ⟨gb184, 0, none⟩ = some (.slice A0_0 l0_0.length c0_0) ∧ w'.cell? ⟨gb184, 1, none⟩ = some (.slice A0_1 l0_1.length c0_1) ∧ w'.cell? ⟨gb184, 2, none⟩ = some (.int .i64 a0_2)) (ds := []) #[false, false, false, false, false, false, false, false, false, false, false, false, false, false, false, false] (by kernel_rfl) rfl rfl ⟨(blk_cell BK184.out 0).trans rfl, (blk_cell BK184.out 1).trans rfl, (blk_cell BK184.out 2).trans rfl⟩ (fun hHeld => ?_); refine with_tabW macadamlaw04_GangMays.tab3 macadamlaw04_GangMays.bits3 (fun HT_ HW_ => ?_)
        generalize w15.drew = w21 at HO188 HO192 BK184 BK185 HB hHeld ⊢
        refine pu HT_ 0 (some 31) (bs 16 1) ?_
        refine pu HT_ 1 (some 32) (bs 16 3) ?_
        refine one_ (i := 2) (N := some 33) (bs 16 7) rfl rfl (one_of HT_.out (by kernel_rfl)) (by decide) (fun K hK => ?_)
        refine goes_ Tryd.func17 (by kernel_rfl) rfl #[.slice Ao22 t186.length co22, .slice Ao23 t190.length co23] (by rfl) rfl rfl (by (try simp only [List.map_toArray, List.map_cons, List.map_nil]); first | done | rfl | (simp only [List.length_drop, List.length_take]; rfl)) ?_
        with_reducible refine (macadamref00_Like.calls k _ _ t186 _ _ t190 true _ ?side1 ?side2 ?side3 ?side4 A16.out).mono ?_
        (case side1 => repeat (first | exact (Kd.V_reads' HO188.out).2.2 | (with_reducible refine Kd.C_alloc ?_ _) | (with_reducible refine Kd.C_drewN ?_ _) | (with_reducible refine Kd.C_drew ?_)))
        (case side2 => exact (Kd.V_reads' HO188.out).2.1)
        (case side3 => repeat (first | exact (Kd.R_reads' HO192.out).2.2 | (with_reducible refine Kd.C_alloc ?_ _) | (with_reducible refine Kd.C_drewN ?_ _) | (with_reducible refine Kd.C_drew ?_)))
        (case side4 => exact (Kd.R_reads' HO192.out).2.1)
        rintro e w' ⟨rfl, ⟨nd, rfl⟩⟩
        refine ⟨_, rfl, ?_⟩
        refine hK.out _ _ ⟨(blk_cell BK184.out 0).trans rfl, (blk_cell BK184.out 1).trans rfl, (blk_cell BK184.out 2).trans rfl⟩ (fun hHeld => ?_)
        clear hK K
        refine nm 33 ?_
        refine pu HT_ 3 (some 34) (bs 16 15) ?_
        refine pu HT_ 4 (some 35) (bs 16 31) ?_
        refine pu HT_ 5 (some 36) (bs 16 63) ?_
        refine pu HT_ 6 (some 37) (bs 16 127) ?_
        refine pu HT_ 7 (some 38) (bs 16 255) ?_
        refine pu HT_ 8 (some 39) (bs 16 511) ?_
        refine pu HT_ 9 (some 40) (bs 16 1023) ?_
        refine take_ (i := 10) (N := some 41) (v := ?_) (a' := ?_) (bs 16 2047) rfl rfl (take_ofW HT_.out HW_.out (by kernel_rfl)) (fun _ _ _ h => h) (Or.inl ⟨by rfl, ?_⟩) hHeld ?_ ?_
        rotate_left
        · rintro w' ⟨s0, s1, s2⟩
          go_simp
          with_reducible rfl
        rotate_left
        · simp only [Act.put, List.setIfInBounds_toArray, List.set_cons_zero, List.set_cons_succ, i64_w, i32_w]
          rfl
        refine take_ (i := 12) (N := some 43) (v := ?_) (a' := ?_) (bs 16 6143) rfl rfl (take_ofW HT_.out HW_.out (by kernel_rfl)) (fun _ _ _ h => h) (Or.inl ⟨by rfl, ?_⟩) hHeld ?_ ?_
        rotate_left
        · rintro w' ⟨s0, s1, s2⟩
          go_simp
          with_reducible rfl
        rotate_left
        · simp only [Act.put, List.setIfInBounds_toArray, List.set_cons_zero, List.set_cons_succ, i64_w, i32_w]
          rfl
        refine one_ (i := 11) (N := some 42) (bs 16 8191) rfl rfl (one_of HT_.out (by kernel_rfl)) (by decide) (fun K hK => ?_)
        refine goes_ Tryd.func18 (by kernel_rfl) rfl #[.agg #[.slice A0_0 l0_0.length c0_0, .slice A0_1 l0_1.length c0_1, .int .i64 a0_2]] (by rfl) rfl rfl (by (try simp only [List.map_toArray, List.map_cons, List.map_nil]); first | done | rfl | (simp only [List.length_drop, List.length_take]; rfl)) ?_
        with_reducible refine (gang_Check.calls k _ _ l0_0 _ _ l0_1 a0_2 t195 _ ?side1 ?side2 ?side3 ?side4 A19.out).mono ?_
        (case side1 => repeat (first | exact (Kd.C_below HR0_0.out (bw2 HB GE184 GE185)) | (with_reducible refine Kd.C_alloc ?_ _) | (with_reducible refine Kd.C_drewN ?_ _) | (with_reducible refine Kd.C_drew ?_)))
        (case side2 => exact HC0_0.out)
        (case side3 => repeat (first | exact (Kd.C_below HR0_1.out (bw2 HB GE184 GE185)) | (with_reducible refine Kd.C_alloc ?_ _) | (with_reducible refine Kd.C_drewN ?_ _) | (with_reducible refine Kd.C_drew ?_)))
        (case side4 => exact HC0_1.out)
        rintro e w24 ⟨rfl, hb⟩
        refine ⟨_, rfl, ?_⟩
        have n0_ := Aside0.mk (Kd.V_below (by (with_reducible repeat (first | apply Kd.V_alloc | apply Kd.V_drewN | apply Kd.V_drew)); exact HO188.out) hb)
        have n1_ := Aside0.mk (Kd.R_below (by (with_reducible repeat (first | apply Kd.R_alloc | apply Kd.R_drewN | apply Kd.R_drew)); exact HO192.out) hb)
        have n2_ := Aside0.mk (blk_below (bm BK184) hb)
        have n3_ := Aside0.mk (blk_below (bm BK185) hb)
        have n4_ := Aside0.mk (below_step (bw2 HB GE184 GE185) hb)
        clear HO188
        clear HO192
        clear BK184
        clear BK185
        clear HB
        have HO188 := n0_
        have HO192 := n1_
        have BK184 := n2_
        have BK185 := n3_
        have HB := n4_
        clear n0_ n1_ n2_ n3_ n4_
        (try clear hb)
        (try clear hb2)
        (try clear hk)
        (try clear hi)
        refine hK.out _ _ ⟨(blk_cell BK184.out 0).trans rfl, (blk_cell BK184.out 1).trans rfl, (blk_cell BK184.out 2).trans rfl⟩ (fun hHeld => ?_)
        clear hK K
        refine nm 42 ?_
        refine one_ (i := 13) (N := some 44) (bs 16 16383) rfl rfl (one_of HT_.out (by kernel_rfl)) (by decide) (fun K hK => ?_)
        refine goes_ Tryd.func19 (by kernel_rfl) rfl #[.agg #[.slice A0_0 l0_0.length c0_0, .slice A0_1 l0_1.length c0_1, .int .i64 a0_2]] (by rfl) rfl rfl (by (try simp only [List.map_toArray, List.map_cons, List.map_nil]); first | done | rfl | (simp only [List.length_drop, List.length_take]; rfl)) ?_
        with_reducible refine (macadamref04_Check.calls k _ _ l0_0 _ _ l0_1 a0_2 t196 _ ?side1 ?side2 ?side3 ?side4 A20.out).mono ?_
        (case side1 => repeat (first | exact (Kd.C_below HR0_0.out HB.out) | (with_reducible refine Kd.C_alloc ?_ _) | (with_reducible refine Kd.C_drewN ?_ _) | (with_reducible refine Kd.C_drew ?_)))
        (case side2 => exact HC0_0.out)
        (case side3 => repeat (first | exact (Kd.C_below HR0_1.out HB.out) | (with_reducible refine Kd.C_alloc ?_ _) | (with_reducible refine Kd.C_drewN ?_ _) | (with_reducible refine Kd.C_drew ?_)))
        (case side4 => exact HC0_1.out)
        rintro e w25 ⟨rfl, hb⟩
        refine ⟨_, rfl, ?_⟩
        have n0_ := Aside0.mk (Kd.V_below (by (with_reducible repeat (first | apply Kd.V_alloc | apply Kd.V_drewN | apply Kd.V_drew)); exact HO188.out) hb)
        have n1_ := Aside0.mk (Kd.R_below (by (with_reducible repeat (first | apply Kd.R_alloc | apply Kd.R_drewN | apply Kd.R_drew)); exact HO192.out) hb)
        have n2_ := Aside0.mk (blk_below (bm BK184) hb)
        have n3_ := Aside0.mk (blk_below (bm BK185) hb)
        have n4_ := Aside0.mk (below_step (bw2 HB GE184 GE185) hb)
        clear HO188
        clear HO192
        clear BK184
        clear BK185
        clear HB
        have HO188 := n0_
        have HO192 := n1_
        have BK184 := n2_
        have BK185 := n3_
        have HB := n4_
        clear n0_ n1_ n2_ n3_ n4_
        (try clear hb)
        (try clear hb2)
        (try clear hk)
        (try clear hi)
        refine hK.out _ _ ⟨(blk_cell BK184.out 0).trans rfl, (blk_cell BK184.out 1).trans rfl, (blk_cell BK184.out 2).trans rfl⟩ (fun hHeld => ?_)
        clear hK K
        refine nm 44 ?_
        refine pu HT_ 14 (some 45) (bs 16 32767) ?_
        refine pu HT_ 15 (some 46) (bs 16 65535) ?_
        refine done_ (done_of HT_.out (by kernel_rfl)) ?_
        try go_wp2
        go_meet
        case rel => exact ⟨_, ((t195 != t196)), (by first | rfl | (simp; done) | (simp [*]; done)), H', ⟨by first | omega | exact Nat.le_refl _⟩, ⟨bm BK184⟩, ⟨bm BK185⟩, ⟨bw2 HB GE184 GE185⟩⟩
      · rw [if_neg c18] at H
        have c18b0 : (t189 == t193) = false := beq_eq_false_iff_ne.mpr c18
        have c18b1 : (t189 != t193) = true := bne_iff_ne.mpr c18
        (first | rw [c18b0] | (simp only [i64_w, i32_w]; rw [c18b0]) | skip)
        have H' := Aside0.mk H
        clear H
        try go_wp2
        have n0_ := Aside0.mk (Kd.V_drew HO188.out)
        have n1_ := Aside0.mk (Kd.R_drew HO192.out)
        have n2_ := Aside0.mk (blk_drew BK184.out)
        have n3_ := Aside0.mk (blk_drew BK185.out)
        have n4_ := Aside0.mk (below_drew1 HB.out)
        clear HO188
        clear HO192
        clear BK184
        clear BK185
        clear HB
        have HO188 := n0_
        have HO192 := n1_
        have BK184 := n2_
        have BK185 := n3_
        have HB := n4_
        clear n0_ n1_ n2_ n3_ n4_
        obtain ⟨Ao27, co27, eo27⟩ := Kd.V_slice HO188.out
        (first | subst eo27 | (injection eo27 with f1_ f2_ f3_; have f4_ := f1_.symm; have f5_ := f3_.symm; clear f1_ f2_ f3_; subst f4_; subst f5_))
        obtain ⟨Ao28, co28, eo28⟩ := Kd.R_slice HO192.out
        (first | subst eo28 | (injection eo28 with f1_ f2_ f3_; have f4_ := f1_.symm; have f5_ := f3_.symm; clear f1_ f2_ f3_; subst f4_; subst f5_))
        refine start_ (n := 16) (S := fun w' => True) (ds := []) #[false, false, false, false, false, false, false, false, false, false, false, false, false, false, false, false] (by kernel_rfl) rfl rfl trivial (fun hHeld => ?_); refine with_tabW macadamlaw04_GangMays.tab3 macadamlaw04_GangMays.bits3 (fun HT_ HW_ => ?_)
        generalize w15.drew = w26 at HO188 HO192 BK184 BK185 HB hHeld ⊢
        refine pu HT_ 0 (some 31) (bs 16 1) ?_
        refine pu HT_ 1 (some 32) (bs 16 3) ?_
        refine one_ (i := 2) (N := some 33) (bs 16 7) rfl rfl (one_of HT_.out (by kernel_rfl)) (by decide) (fun K hK => ?_)
        refine goes_ Tryd.func17 (by kernel_rfl) rfl #[.slice Ao27 t186.length co27, .slice Ao28 t190.length co28] (by rfl) rfl rfl (by (try simp only [List.map_toArray, List.map_cons, List.map_nil]); first | done | rfl | (simp only [List.length_drop, List.length_take]; rfl)) ?_
        with_reducible refine (macadamref00_Like.calls k _ _ t186 _ _ t190 true _ ?side1 ?side2 ?side3 ?side4 A16.out).mono ?_
        (case side1 => repeat (first | exact (Kd.V_reads' HO188.out).2.2 | (with_reducible refine Kd.C_alloc ?_ _) | (with_reducible refine Kd.C_drewN ?_ _) | (with_reducible refine Kd.C_drew ?_)))
        (case side2 => exact (Kd.V_reads' HO188.out).2.1)
        (case side3 => repeat (first | exact (Kd.R_reads' HO192.out).2.2 | (with_reducible refine Kd.C_alloc ?_ _) | (with_reducible refine Kd.C_drewN ?_ _) | (with_reducible refine Kd.C_drew ?_)))
        (case side4 => exact (Kd.R_reads' HO192.out).2.1)
        rintro e w' ⟨rfl, ⟨nd, rfl⟩⟩
        refine ⟨_, rfl, ?_⟩
        refine hK.out _ _ trivial (fun hHeld => ?_)
        clear hK K
        refine nm 33 ?_
        refine pu HT_ 3 (some 34) (bs 16 15) ?_
        refine pu HT_ 4 (some 35) (bs 16 31) ?_
        refine pu HT_ 5 (some 36) (bs 16 63) ?_
        refine pu HT_ 6 (some 37) (bs 16 127) ?_
        refine pu HT_ 7 (some 38) (bs 16 255) ?_
        refine pu HT_ 8 (some 39) (bs 16 511) ?_
        refine pu HT_ 9 (some 40) (bs 16 1023) ?_
        refine pn HT_ 10 (some 41) (bs 16 2047) ?_
        refine pn HT_ 11 (some 42) (bs 16 4095) ?_
        refine pn HT_ 12 (some 43) (bs 16 8191) ?_
        refine pn HT_ 13 (some 44) (bs 16 16383) ?_
        refine pn HT_ 14 (some 45) (bs 16 32767) ?_
        refine pu HT_ 15 (some 46) (bs 16 65535) ?_
        refine done_ (done_of HT_.out (by kernel_rfl)) ?_
        try go_wp2
        go_meet
        case rel => exact ⟨_, (true), (by first | rfl | (simp; done) | (simp [*]; done)), H', ⟨by first | omega | exact Nat.le_refl _⟩, ⟨bm BK184⟩, ⟨bm BK185⟩, ⟨bw2 HB GE184 GE185⟩⟩
    · replace c17 := Bool.eq_false_iff.mpr c17
      subst c17
      have H1 : (macadamlaw04_GangMays.j0 k l1 true l0_0 l0_1 a0_2 a2_0 a2_1 a2_2) = some r := by rw [if_neg (show ¬ (false = true) by decide)] at H; exact H
      clear H
      have H := H1
      clear H1
      have H' := Aside0.mk H
      clear H
      try go_wp2
      have n0_ := Aside0.mk (Kd.V_drew HO188.out)
      have n1_ := Aside0.mk (Kd.R_drew HO192.out)
      have n2_ := Aside0.mk (blk_drew BK184.out)
      have n3_ := Aside0.mk (blk_drew BK185.out)
      have n4_ := Aside0.mk (below_drew1 HB.out)
      clear HO188
      clear HO192
      clear BK184
      clear BK185
      clear HB
      have HO188 := n0_
      have HO192 := n1_
      have BK184 := n2_
      have BK185 := n3_
      have HB := n4_
      clear n0_ n1_ n2_ n3_ n4_
      obtain ⟨Ao30, co30, eo30⟩ := Kd.V_slice HO188.out
      (first | subst eo30 | (injection eo30 with f1_ f2_ f3_; have f4_ := f1_.symm; have f5_ := f3_.symm; clear f1_ f2_ f3_; subst f4_; subst f5_))
      obtain ⟨Ao31, co31, eo31⟩ := Kd.R_slice HO192.out
      (first | subst eo31 | (injection eo31 with f1_ f2_ f3_; have f4_ := f1_.symm; have f5_ := f3_.symm; clear f1_ f2_ f3_; subst f4_; subst f5_))
      refine start_ (n := 16) (S := fun w' => True) (ds := []) #[false, false, false, false, false, false, false, false, false, false, false, false, false, false, false, false] (by kernel_rfl) rfl rfl trivial (fun hHeld => ?_); refine with_tabW macadamlaw04_GangMays.tab3 macadamlaw04_GangMays.bits3 (fun HT_ HW_ => ?_)
      generalize w15.drew = w29 at HO188 HO192 BK184 BK185 HB hHeld ⊢
      refine pu HT_ 0 (some 31) (bs 16 1) ?_
      refine pu HT_ 1 (some 32) (bs 16 3) ?_
      refine one_ (i := 2) (N := some 33) (bs 16 7) rfl rfl (one_of HT_.out (by kernel_rfl)) (by decide) (fun K hK => ?_)
      refine goes_ Tryd.func17 (by kernel_rfl) rfl #[.slice Ao30 t186.length co30, .slice Ao31 t190.length co31] (by rfl) rfl rfl (by (try simp only [List.map_toArray, List.map_cons, List.map_nil]); first | done | rfl | (simp only [List.length_drop, List.length_take]; rfl)) ?_
      with_reducible refine (macadamref00_Like.calls k _ _ t186 _ _ t190 false _ ?side1 ?side2 ?side3 ?side4 A16.out).mono ?_
      (case side1 => repeat (first | exact (Kd.V_reads' HO188.out).2.2 | (with_reducible refine Kd.C_alloc ?_ _) | (with_reducible refine Kd.C_drewN ?_ _) | (with_reducible refine Kd.C_drew ?_)))
      (case side2 => exact (Kd.V_reads' HO188.out).2.1)
      (case side3 => repeat (first | exact (Kd.R_reads' HO192.out).2.2 | (with_reducible refine Kd.C_alloc ?_ _) | (with_reducible refine Kd.C_drewN ?_ _) | (with_reducible refine Kd.C_drew ?_)))
      (case side4 => exact (Kd.R_reads' HO192.out).2.1)
      rintro e w' ⟨rfl, ⟨nd, rfl⟩⟩
      refine ⟨_, rfl, ?_⟩
      refine hK.out _ _ trivial (fun hHeld => ?_)
      clear hK K
      refine nm 33 ?_
      refine pu HT_ 3 (some 34) (bs 16 15) ?_
      refine pu HT_ 4 (some 35) (bs 16 31) ?_
      refine pn HT_ 5 (some 36) (bs 16 63) ?_
      refine pn HT_ 6 (some 37) (bs 16 127) ?_
      refine pn HT_ 7 (some 38) (bs 16 255) ?_
      refine pu HT_ 8 (some 39) (bs 16 511) ?_
      refine pu HT_ 9 (some 40) (bs 16 1023) ?_
      refine pn HT_ 10 (some 41) (bs 16 2047) ?_
      refine pn HT_ 11 (some 42) (bs 16 4095) ?_
      refine pn HT_ 12 (some 43) (bs 16 8191) ?_
      refine pn HT_ 13 (some 44) (bs 16 16383) ?_
      refine pn HT_ 14 (some 45) (bs 16 32767) ?_
      refine pu HT_ 15 (some 46) (bs 16 65535) ?_
      refine done_ (done_of HT_.out (by kernel_rfl)) ?_
      try go_wp2
      go_meet
      case rel => exact ⟨_, (true), (by first | rfl | (simp; done) | (simp [*]; done)), H', ⟨by first | omega | exact Nat.le_refl _⟩, ⟨bm BK184⟩, ⟨bm BK185⟩, ⟨bw2 HB GE184 GE185⟩⟩
  case rest =>
    clear HC6
    try clear c1
    try clear p2
    try clear c3
    try clear c9
    try clear c15
    try clear c16
    try clear c17
    try clear c18
    try clear c18b0
    try clear c18b1
    try clear c19
    try clear hcz10_0
    try clear hcz10_1
    try clear hcz10_2
    try clear hcz11_0
    try clear hcz11_1
    try clear hcz11_2
    try clear hcz13_0
    try clear hcz13_1
    try clear hcz13_2
    try clear hcz14_0
    try clear hcz14_1
    try clear hcz14_2
    try clear hfz10_0
    try clear hfz10_1
    try clear hfz10_2
    try clear hfz11_0
    try clear hfz11_1
    try clear hfz11_2
    try clear hfz13_0
    try clear hfz13_1
    try clear hfz13_2
    try clear hfz14_0
    try clear hfz14_1
    try clear hfz14_2
    obtain ⟨kq, x46_5, rfl, HA, HJ5, BK184, BK185, HB⟩ := hcut
    cases kq with
    | zero => exact absurd HA.out (by simp [macadamlaw04_GangMays.j0])
    | succ kj5 =>
      have H := HA.out
      clear HA
      simp only [macadamlaw04_GangMays.j0] at H
      by_cases c32 : x46_5 = true
      · subst c32
        have H1 : (some false) = some r := by rw [if_pos rfl] at H; exact H
        clear H
        have H := H1
        clear H1
        obtain rfl := Option.some.inj H
        go_wp2
        go_ret
        exact ⟨by first | rfl | (simp [errW_none, errW_some] <;> rfl) | (simp [*, errW_none, errW_some] <;> rfl), bw2 HB GE184 GE185⟩
      · replace c32 := Bool.eq_false_iff.mpr c32
        subst c32
        have H1 : ((gang_May.f l0_0 l0_1 a0_2 l1).bind fun bt197 => ((macadamref04_May.f kj5 l0_0 l0_1 a0_2 l1).bind fun bt199 => (if (bt197.1 != bt199.1) = true then (macadamlaw04_GangMays.j1 kj5 l1 true l0_0 l0_1 a0_2 a2_0 a2_1 a2_2) else (macadamlaw04_GangMays.j1 kj5 l1 (bt197.2 != bt199.2) l0_0 l0_1 a0_2 a2_0 a2_1 a2_2)))) = some r := by rw [if_neg (show ¬ (false = true) by decide)] at H; exact H
        clear H
        have H := H1
        clear H1
        replace H := Option.bind_eq_some_iff.mp H
        obtain ⟨⟨t197, t198⟩, A330, H⟩ := H
        replace H : ((macadamref04_May.f kj5 l0_0 l0_1 a0_2 l1).bind fun bt199 => (if (t197 != bt199.1) = true then (macadamlaw04_GangMays.j1 kj5 l1 true l0_0 l0_1 a0_2 a2_0 a2_1 a2_2) else (macadamlaw04_GangMays.j1 kj5 l1 (t198 != bt199.2) l0_0 l0_1 a0_2 a2_0 a2_1 a2_2))) = some r := H
        have A33 := Aside0.mk A330
        clear A330
        replace H := Option.bind_eq_some_iff.mp H
        obtain ⟨⟨t199, t200⟩, A340, H⟩ := H
        replace H : (if (t197 != t199) = true then (macadamlaw04_GangMays.j1 kj5 l1 true l0_0 l0_1 a0_2 a2_0 a2_1 a2_2) else (macadamlaw04_GangMays.j1 kj5 l1 (t198 != t200) l0_0 l0_1 a0_2 a2_0 a2_1 a2_2)) = some r := H
        have A34 := Aside0.mk A340
        clear A340
        have HC35 := Aside0.mk H
        clear H
        have hnb36 := NB184_185.out
        have hnc36 := NB185_184.out
        obtain ⟨hcz37_0, hcz37_1, hcz37_2, hfz37_0, hfz37_1, hfz37_2⟩ := b3 BK184
        go_upto_region 7 with (first | ((with_reducible refine gate_callee (f := 20) rfl ?_); refine gL (some 50) Tryd.func20 #[.agg #[.slice A0_0 l0_0.length c0_0, .slice A0_1 l0_1.length c0_1, .int .i64 a0_2], .slice A1 l1.length c1] ?_; (with_reducible refine (gang_May.calls _ _ l0_0 _ _ l0_1 a0_2 _ _ l1 t197 t198 _ ?side1 ?side2 ?side3 ?side4 ?side5 ?side6 ?side7 A33.out).mono ?_); (case side1 => repeat (first | exact (Kd.C_below HR0_0.out HB.out) | (with_reducible refine Kd.C_alloc ?_ _) | (with_reducible refine Kd.C_drewN ?_ _) | (with_reducible refine Kd.C_drew ?_))); (case side2 => exact HC0_0.out); (case side3 => repeat (first | exact (Kd.C_below HR0_1.out HB.out) | (with_reducible refine Kd.C_alloc ?_ _) | (with_reducible refine Kd.C_drewN ?_ _) | (with_reducible refine Kd.C_drew ?_))); (case side4 => exact HC0_1.out); (case side5 => repeat (first | exact (Kd.C_below HR1.out HB.out) | (with_reducible refine Kd.C_alloc ?_ _) | (with_reducible refine Kd.C_drewN ?_ _) | (with_reducible refine Kd.C_drew ?_))); (case side6 => exact HC1.out); (case side7 => exact gv_below HG.out (bw2 HB GE184 GE185)); rintro e w38 ⟨rfl, hb⟩; refine ⟨_, rfl, ?_⟩; have n0_ := Aside0.mk (blk_below (bm BK184) hb); have n1_ := Aside0.mk (blk_below (bm BK185) hb); have n2_ := Aside0.mk (below_step (bw2 HB GE184 GE185) hb); clear BK184; clear BK185; clear HB; have BK184 := n0_; have BK185 := n1_; have HB := n2_; clear n0_ n1_ n2_; (try clear hb); (try clear hb2); (try clear hk); (try clear hi); obtain ⟨hcz39_0, hcz39_1, hcz39_2, hfz39_0, hfz39_1, hfz39_2⟩ := b3 BK184) | ((with_reducible refine gate_callee (f := 21) rfl ?_); refine gL (some 56) Tryd.func21 #[.agg #[.slice A0_0 l0_0.length c0_0, .slice A0_1 l0_1.length c0_1, .int .i64 a0_2], .slice A1 l1.length c1] ?_; (with_reducible refine (macadamref04_May.calls kj5 _ _ l0_0 _ _ l0_1 a0_2 _ _ l1 t199 t200 _ ?side1 ?side2 ?side3 ?side4 ?side5 ?side6 A34.out).mono ?_); (case side1 => repeat (first | exact (Kd.C_below HR0_0.out HB.out) | (with_reducible refine Kd.C_alloc ?_ _) | (with_reducible refine Kd.C_drewN ?_ _) | (with_reducible refine Kd.C_drew ?_))); (case side2 => exact HC0_0.out); (case side3 => repeat (first | exact (Kd.C_below HR0_1.out HB.out) | (with_reducible refine Kd.C_alloc ?_ _) | (with_reducible refine Kd.C_drewN ?_ _) | (with_reducible refine Kd.C_drew ?_))); (case side4 => exact HC0_1.out); (case side5 => repeat (first | exact (Kd.C_below HR1.out HB.out) | (with_reducible refine Kd.C_alloc ?_ _) | (with_reducible refine Kd.C_drewN ?_ _) | (with_reducible refine Kd.C_drew ?_))); (case side6 => exact HC1.out); rintro e w40 ⟨rfl, hb⟩; refine ⟨_, rfl, ?_⟩; have n0_ := Aside0.mk (blk_below (bm BK184) hb); have n1_ := Aside0.mk (blk_below (bm BK185) hb); have n2_ := Aside0.mk (below_step (bw2 HB GE184 GE185) hb); clear BK184; clear BK185; clear HB; have BK184 := n0_; have BK185 := n1_; have HB := n2_; clear n0_ n1_ n2_; (try clear hb); (try clear hb2); (try clear hk); (try clear hi)))
        (try simp only [Act.put, List.setIfInBounds_toArray, List.set_cons_zero, List.set_cons_succ])
        go_cut [66] (fun v66 wc => ∃ (kq : Nat) (x66_34 : Bool), v66 = .bool x66_34 ∧ Aside0 (macadamlaw04_GangMays.j1 kq l1 x66_34 l0_0 l0_1 a0_2 a2_0 a2_1 a2_2 = some r) ∧ Aside0 (kq ≤ kj5) ∧ Aside0 (wc.heap[gb184]? = some (.cells #[(.slice A0_0 l0_0.length c0_0), (.slice A0_1 l0_1.length c0_1), .int .i64 a0_2] 25 (0, 0))) ∧ Aside0 (wc.heap[gb185]? = some (.cells #[.int .i64 a2_0, .int .i64 a2_1, .int .i64 a2_2] 27 (0, 0))) ∧ Aside0 (Below w.heap.size w wc))
        case first =>
          have H := HC35.out
          clear HC35
          by_cases c41 : (t197 != t199) = true
          · rw [if_pos c41] at H
            have c41b0 : (t197 != t199) = true := c41
            (try (have c41b1 : decide (t197 = t199) = false := by simpa using c41))
            (try (have c41b2 : (t197 == t199) = false := by simpa using c41))
            (try (have c41b3 : ¬ (t197 = t199) := by simpa using c41))
            clear c41
            (first | rw [c41b0] | (simp only [i64_w, i32_w]; rw [c41b0]) | skip)
            have H' := Aside0.mk H
            clear H
            go_wp2
            go_meet
            case rel => exact ⟨_, (true), (by first | rfl | (simp; done) | (simp [*]; done)), H', ⟨by have := HJ5.out; first | omega | exact Nat.le_refl _⟩, ⟨bm BK184⟩, ⟨bm BK185⟩, ⟨bw2 HB GE184 GE185⟩⟩
          · rw [if_neg c41] at H
            have c41b0 : (t197 != t199) = false := by simpa using c41
            (try (have c41b1 : decide (t197 = t199) = true := by simpa using c41))
            (try (have c41b2 : (t197 == t199) = true := by simpa using c41))
            clear c41
            (first | rw [c41b0] | (simp only [i64_w, i32_w]; rw [c41b0]) | skip)
            have H' := Aside0.mk H
            clear H
            go_wp2
            go_meet
            case rel => exact ⟨_, ((t198 != t200)), (by first | rfl | (simp; done) | (simp [*]; done)), H', ⟨by have := HJ5.out; first | omega | exact Nat.le_refl _⟩, ⟨bm BK184⟩, ⟨bm BK185⟩, ⟨bw2 HB GE184 GE185⟩⟩
        case rest =>
          clear HC35
          try clear c1
          try clear c2
          try clear p2
          try clear c3
          try clear c4
          try clear c9
          try clear c15
          try clear c16
          try clear c17
          try clear c18
          try clear c18b0
          try clear c18b1
          try clear c19
          try clear c20
          try clear c21
          try clear c32
          try clear c36
          try clear c41
          try clear c41b0
          try clear c41b1
          try clear c41b2
          try clear hcz10_0
          try clear hcz10_1
          try clear hcz10_2
          try clear hcz11_0
          try clear hcz11_1
          try clear hcz11_2
          try clear hcz13_0
          try clear hcz13_1
          try clear hcz13_2
          try clear hcz14_0
          try clear hcz14_1
          try clear hcz14_2
          try clear hcz37_0
          try clear hcz37_1
          try clear hcz37_2
          try clear hcz39_0
          try clear hcz39_1
          try clear hcz39_2
          try clear hfz10_0
          try clear hfz10_1
          try clear hfz10_2
          try clear hfz11_0
          try clear hfz11_1
          try clear hfz11_2
          try clear hfz13_0
          try clear hfz13_1
          try clear hfz13_2
          try clear hfz14_0
          try clear hfz14_1
          try clear hfz14_2
          try clear hfz37_0
          try clear hfz37_1
          try clear hfz37_2
          try clear hfz39_0
          try clear hfz39_1
          try clear hfz39_2
          try clear p2
          obtain ⟨kq, x66_34, rfl, HA, HJ34, BK184, BK185, HB⟩ := hcut
          cases kq with
          | zero => exact absurd HA.out (by simp [macadamlaw04_GangMays.j1])
          | succ kj34 =>
            have H := HA.out
            clear HA
            simp only [macadamlaw04_GangMays.j1] at H
            by_cases c42 : x66_34 = true
            · subst c42
              have H1 : (some false) = some r := by rw [if_pos rfl] at H; exact H
              clear H
              have H := H1
              clear H1
              obtain rfl := Option.some.inj H
              go_wp2
              go_ret
              exact ⟨by first | rfl | (simp [errW_none, errW_some] <;> rfl) | (simp [*, errW_none, errW_some] <;> rfl), bw2 HB GE184 GE185⟩
            · replace c42 := Bool.eq_false_iff.mpr c42
              subst c42
              have H1 : ((gang_Closed.f l0_0 l0_1 a0_2 l1 a2_2).bind fun bt201 => ((macadamref04_Closed.f kj34 l0_0 l0_1 a0_2 l1 a2_2).bind fun bt205 => ((macadamref00_Like.f kj34 bt201.1 bt205.1).bind fun t209 => (if t209 = true then (if bt201.2 = bt205.2 then ((macadamlaw04_shovelled.f).bind fun t210 => (some t210)) else (some false)) else (some false))))) = some r := by rw [if_neg (show ¬ (false = true) by decide)] at H; exact H
              clear H
              have H := H1
              clear H1
              replace H := Option.bind_eq_some_iff.mp H
              obtain ⟨⟨t201, t204⟩, A430, H⟩ := H
              replace H : ((macadamref04_Closed.f kj34 l0_0 l0_1 a0_2 l1 a2_2).bind fun bt205 => ((macadamref00_Like.f kj34 t201 bt205.1).bind fun t209 => (if t209 = true then (if t204 = bt205.2 then ((macadamlaw04_shovelled.f).bind fun t210 => (some t210)) else (some false)) else (some false)))) = some r := H
              have A43 := Aside0.mk A430
              clear A430
              replace H := Option.bind_eq_some_iff.mp H
              obtain ⟨⟨t205, t208⟩, A440, H⟩ := H
              replace H : ((macadamref00_Like.f kj34 t201 t205).bind fun t209 => (if t209 = true then (if t204 = t208 then ((macadamlaw04_shovelled.f).bind fun t210 => (some t210)) else (some false)) else (some false))) = some r := H
              have A44 := Aside0.mk A440
              clear A440
              replace H := Option.bind_eq_some_iff.mp H
              obtain ⟨t209, A450, H⟩ := H
              replace H : (if t209 = true then (if t204 = t208 then ((macadamlaw04_shovelled.f).bind fun t210 => (some t210)) else (some false)) else (some false)) = some r := H
              have A45 := Aside0.mk A450
              clear A450
              by_cases c46 : t209 = true
              · subst c46
                have H1 : (if t204 = t208 then ((macadamlaw04_shovelled.f).bind fun t210 => (some t210)) else (some false)) = some r := by rw [if_pos rfl] at H; exact H
                clear H
                have H := H1
                clear H1
                by_cases c47 : t204 = t208
                · rw [if_pos c47] at H
                  have c47b0 : (t204 == t208) = true := beq_iff_eq.mpr c47
                  have c47b1 : (t204 != t208) = false := bne_eq_false_iff_eq.mpr c47
                  clear c47
                  replace H := Option.bind_eq_some_iff.mp H
                  obtain ⟨t210, A480, H⟩ := H
                  replace H : (some t210) = some r := H
                  have A48 := Aside0.mk A480
                  clear A480
                  obtain rfl := Option.some.inj H
                  have hnb49 := NB184_185.out
                  have hnc49 := NB185_184.out
                  obtain ⟨hcz50_0, hcz50_1, hcz50_2, hfz50_0, hfz50_1, hfz50_2⟩ := b3 BK184
                  obtain ⟨hcz51_0, hcz51_1, hcz51_2, hfz51_0, hfz51_1, hfz51_2⟩ := b3 BK185
                  go_wp2_with (first | ((with_reducible refine gate_callee (f := 22) rfl ?_); refine gL (some 72) Tryd.func22 #[.agg #[.slice A0_0 l0_0.length c0_0, .slice A0_1 l0_1.length c0_1, .int .i64 a0_2], .slice A1 l1.length c1, .int .i64 a2_2] ?_; (with_reducible refine (gang_Closed.calls _ _ l0_0 _ _ l0_1 a0_2 _ _ l1 a2_2 t201 t204 _ ?side1 ?side2 ?side3 ?side4 ?side5 ?side6 ?side7 A43.out).mono ?_); (case side1 => repeat (first | exact (Kd.C_below HR0_0.out HB.out) | (with_reducible refine Kd.C_alloc ?_ _) | (with_reducible refine Kd.C_drewN ?_ _) | (with_reducible refine Kd.C_drew ?_))); (case side2 => exact HC0_0.out); (case side3 => repeat (first | exact (Kd.C_below HR0_1.out HB.out) | (with_reducible refine Kd.C_alloc ?_ _) | (with_reducible refine Kd.C_drewN ?_ _) | (with_reducible refine Kd.C_drew ?_))); (case side4 => exact HC0_1.out); (case side5 => repeat (first | exact (Kd.C_below HR1.out HB.out) | (with_reducible refine Kd.C_alloc ?_ _) | (with_reducible refine Kd.C_drewN ?_ _) | (with_reducible refine Kd.C_drew ?_))); (case side6 => exact HC1.out); (case side7 => exact gv_below HG.out (bw2 HB GE184 GE185)); rintro e w52 ⟨v202, rfl, ho0, hb⟩; refine ⟨_, rfl, ?_⟩; have n0_ := Aside0.mk (Kd.V_lower (Kd.V_mono (ok' := fun k_ => k_ ≠ gb184 ∧ k_ ≠ gb185) ho0 (fun k_ hk_ => ⟨(Kd.freshB (g := gb184) (o := .cells #[.slice A0_0 l0_0.length c0_0, .slice A0_1 l0_1.length c0_1, .int .i64 a0_2] 25 (0, 0)) (bm BK184) k_ hk_), (Kd.freshB (g := gb185) (o := .cells #[.int .i64 a2_0, .int .i64 a2_1, .int .i64 a2_2] 27 (0, 0)) (bm BK185) k_ hk_)⟩)) (below_size (bw2 HB GE184 GE185))); have n1_ := Aside0.mk (blk_below (bm BK184) hb); have n2_ := Aside0.mk (blk_below (bm BK185) hb); have n3_ := Aside0.mk (below_step (bw2 HB GE184 GE185) hb); clear BK184; clear BK185; clear HB; have HO203 := n0_; have BK184 := n1_; have BK185 := n2_; have HB := n3_; clear n0_ n1_ n2_ n3_; (try clear hb); (try clear hb2); (try clear hk); (try clear hi); (try clear ho0); obtain ⟨hcz53_0, hcz53_1, hcz53_2, hfz53_0, hfz53_1, hfz53_2⟩ := b3 BK184; obtain ⟨hcz54_0, hcz54_1, hcz54_2, hfz54_0, hfz54_1, hfz54_2⟩ := b3 BK185) | ((with_reducible refine gate_callee (f := 23) rfl ?_); refine gL (some 80) Tryd.func23 #[.agg #[.slice A0_0 l0_0.length c0_0, .slice A0_1 l0_1.length c0_1, .int .i64 a0_2], .slice A1 l1.length c1, .int .i64 a2_2] ?_; (with_reducible refine (macadamref04_Closed.calls kj34 _ _ l0_0 _ _ l0_1 a0_2 _ _ l1 a2_2 t205 t208 _ ?side1 ?side2 ?side3 ?side4 ?side5 ?side6 A44.out).mono ?_); (case side1 => repeat (first | exact (Kd.C_below HR0_0.out HB.out) | (with_reducible refine Kd.C_alloc ?_ _) | (with_reducible refine Kd.C_drewN ?_ _) | (with_reducible refine Kd.C_drew ?_))); (case side2 => exact HC0_0.out); (case side3 => repeat (first | exact (Kd.C_below HR0_1.out HB.out) | (with_reducible refine Kd.C_alloc ?_ _) | (with_reducible refine Kd.C_drewN ?_ _) | (with_reducible refine Kd.C_drew ?_))); (case side4 => exact HC0_1.out); (case side5 => repeat (first | exact (Kd.C_below HR1.out HB.out) | (with_reducible refine Kd.C_alloc ?_ _) | (with_reducible refine Kd.C_drewN ?_ _) | (with_reducible refine Kd.C_drew ?_))); (case side6 => exact HC1.out); rintro e w55 ⟨v206, rfl, ho0, hb⟩; refine ⟨_, rfl, ?_⟩; have n0_ := Aside0.mk (Kd.V_elder' (by (with_reducible repeat (first | apply Kd.V_alloc | apply Kd.V_drewN | apply Kd.V_drew)); exact HO203.out) (Kd.R_base ho0) hb); have n1_ := Aside0.mk (Kd.R_lower ho0 (below_size (bw2 HB GE184 GE185))); have n2_ := Aside0.mk (blk_below (bm BK184) hb); have n3_ := Aside0.mk (blk_below (bm BK185) hb); have n4_ := Aside0.mk (below_step (bw2 HB GE184 GE185) hb); clear HO203; clear BK184; clear BK185; clear HB; have HO203 := n0_; have HO207 := n1_; have BK184 := n2_; have BK185 := n3_; have HB := n4_; clear n0_ n1_ n2_ n3_ n4_; (try clear hb); (try clear hb2); (try clear hk); (try clear hi); (try clear ho0); obtain ⟨Ao56, co56, eo56⟩ := Kd.V_slice HO203.out; subst eo56; obtain ⟨Ao57, co57, eo57⟩ := Kd.R_slice HO207.out; subst eo57) | ((with_reducible refine gate_callee (f := 17) rfl ?_); refine gL (some 85) Tryd.func17 #[.slice Ao56 t201.length co56, .slice Ao57 t205.length co57] ?_; (with_reducible refine (macadamref00_Like.calls kj34 _ _ t201 _ _ t205 true _ ?side1 ?side2 ?side3 ?side4 A45.out).mono ?_); (case side1 => repeat (first | exact (Kd.V_reads' HO203.out).2.2 | (with_reducible refine Kd.C_alloc ?_ _) | (with_reducible refine Kd.C_drewN ?_ _) | (with_reducible refine Kd.C_drew ?_))); (case side2 => exact (Kd.V_reads' HO203.out).2.1); (case side3 => repeat (first | exact (Kd.R_reads' HO207.out).2.2 | (with_reducible refine Kd.C_alloc ?_ _) | (with_reducible refine Kd.C_drewN ?_ _) | (with_reducible refine Kd.C_drew ?_))); (case side4 => exact (Kd.R_reads' HO207.out).2.1); rintro e w' ⟨rfl, ⟨nd, rfl⟩⟩; refine ⟨_, rfl, ?_⟩) | (go_at_call 24; (with_reducible refine (macadamlaw04_shovelled.calls  t210 _ ?side1 A48.out).mono ?_); (case side1 => exact gv_below HG.out (bw2 HB GE184 GE185)); rintro e w58 ⟨rfl, hb⟩; have n0_ := Aside0.mk (Kd.V_below (by (with_reducible repeat (first | apply Kd.V_alloc | apply Kd.V_drewN | apply Kd.V_drew)); exact HO203.out) hb); have n1_ := Aside0.mk (Kd.R_below (by (with_reducible repeat (first | apply Kd.R_alloc | apply Kd.R_drewN | apply Kd.R_drew)); exact HO207.out) hb); have n2_ := Aside0.mk (blk_below (bm BK184) hb); have n3_ := Aside0.mk (blk_below (bm BK185) hb); have n4_ := Aside0.mk (below_step (bw2 HB GE184 GE185) hb); clear HO203; clear HO207; clear BK184; clear BK185; clear HB; have HO203 := n0_; have HO207 := n1_; have BK184 := n2_; have BK185 := n3_; have HB := n4_; clear n0_ n1_ n2_ n3_ n4_; (try clear hb); (try clear hb2); (try clear hk); (try clear hi)))
                  go_ret
                  exact ⟨by first | rfl | (simp [errW_none, errW_some] <;> rfl) | (simp [*, errW_none, errW_some] <;> rfl), bw2 HB GE184 GE185⟩
                · rw [if_neg c47] at H
                  have c47b0 : (t204 == t208) = false := beq_eq_false_iff_ne.mpr c47
                  have c47b1 : (t204 != t208) = true := bne_iff_ne.mpr c47
                  obtain rfl := Option.some.inj H
                  have hnb59 := NB184_185.out
                  have hnc59 := NB185_184.out
                  obtain ⟨hcz60_0, hcz60_1, hcz60_2, hfz60_0, hfz60_1, hfz60_2⟩ := b3 BK184
                  obtain ⟨hcz61_0, hcz61_1, hcz61_2, hfz61_0, hfz61_1, hfz61_2⟩ := b3 BK185
                  go_wp2_with (first | ((with_reducible refine gate_callee (f := 22) rfl ?_); refine gL (some 72) Tryd.func22 #[.agg #[.slice A0_0 l0_0.length c0_0, .slice A0_1 l0_1.length c0_1, .int .i64 a0_2], .slice A1 l1.length c1, .int .i64 a2_2] ?_; (with_reducible refine (gang_Closed.calls _ _ l0_0 _ _ l0_1 a0_2 _ _ l1 a2_2 t201 t204 _ ?side1 ?side2 ?side3 ?side4 ?side5 ?side6 ?side7 A43.out).mono ?_); (case side1 => repeat (first | exact (Kd.C_below HR0_0.out HB.out) | (with_reducible refine Kd.C_alloc ?_ _) | (with_reducible refine Kd.C_drewN ?_ _) | (with_reducible refine Kd.C_drew ?_))); (case side2 => exact HC0_0.out); (case side3 => repeat (first | exact (Kd.C_below HR0_1.out HB.out) | (with_reducible refine Kd.C_alloc ?_ _) | (with_reducible refine Kd.C_drewN ?_ _) | (with_reducible refine Kd.C_drew ?_))); (case side4 => exact HC0_1.out); (case side5 => repeat (first | exact (Kd.C_below HR1.out HB.out) | (with_reducible refine Kd.C_alloc ?_ _) | (with_reducible refine Kd.C_drewN ?_ _) | (with_reducible refine Kd.C_drew ?_))); (case side6 => exact HC1.out); (case side7 => exact gv_below HG.out (bw2 HB GE184 GE185)); rintro e w62 ⟨v202, rfl, ho0, hb⟩; refine ⟨_, rfl, ?_⟩; have n0_ := Aside0.mk (Kd.V_lower (Kd.V_mono (ok' := fun k_ => k_ ≠ gb184 ∧ k_ ≠ gb185) ho0 (fun k_ hk_ => ⟨(Kd.freshB (g := gb184) (o := .cells #[.slice A0_0 l0_0.length c0_0, .slice A0_1 l0_1.length c0_1, .int .i64 a0_2] 25 (0, 0)) (bm BK184) k_ hk_), (Kd.freshB (g := gb185) (o := .cells #[.int .i64 a2_0, .int .i64 a2_1, .int .i64 a2_2] 27 (0, 0)) (bm BK185) k_ hk_)⟩)) (below_size (bw2 HB GE184 GE185))); have n1_ := Aside0.mk (blk_below (bm BK184) hb); have n2_ := Aside0.mk (blk_below (bm BK185) hb); have n3_ := Aside0.mk (below_step (bw2 HB GE184 GE185) hb); clear BK184; clear BK185; clear HB; have HO203 := n0_; have BK184 := n1_; have BK185 := n2_; have HB := n3_; clear n0_ n1_ n2_ n3_; (try clear hb); (try clear hb2); (try clear hk); (try clear hi); (try clear ho0); obtain ⟨hcz63_0, hcz63_1, hcz63_2, hfz63_0, hfz63_1, hfz63_2⟩ := b3 BK184; obtain ⟨hcz64_0, hcz64_1, hcz64_2, hfz64_0, hfz64_1, hfz64_2⟩ := b3 BK185) | ((with_reducible refine gate_callee (f := 23) rfl ?_); refine gL (some 80) Tryd.func23 #[.agg #[.slice A0_0 l0_0.length c0_0, .slice A0_1 l0_1.length c0_1, .int .i64 a0_2], .slice A1 l1.length c1, .int .i64 a2_2] ?_; (with_reducible refine (macadamref04_Closed.calls kj34 _ _ l0_0 _ _ l0_1 a0_2 _ _ l1 a2_2 t205 t208 _ ?side1 ?side2 ?side3 ?side4 ?side5 ?side6 A44.out).mono ?_); (case side1 => repeat (first | exact (Kd.C_below HR0_0.out HB.out) | (with_reducible refine Kd.C_alloc ?_ _) | (with_reducible refine Kd.C_drewN ?_ _) | (with_reducible refine Kd.C_drew ?_))); (case side2 => exact HC0_0.out); (case side3 => repeat (first | exact (Kd.C_below HR0_1.out HB.out) | (with_reducible refine Kd.C_alloc ?_ _) | (with_reducible refine Kd.C_drewN ?_ _) | (with_reducible refine Kd.C_drew ?_))); (case side4 => exact HC0_1.out); (case side5 => repeat (first | exact (Kd.C_below HR1.out HB.out) | (with_reducible refine Kd.C_alloc ?_ _) | (with_reducible refine Kd.C_drewN ?_ _) | (with_reducible refine Kd.C_drew ?_))); (case side6 => exact HC1.out); rintro e w65 ⟨v206, rfl, ho0, hb⟩; refine ⟨_, rfl, ?_⟩; have n0_ := Aside0.mk (Kd.V_elder' (by (with_reducible repeat (first | apply Kd.V_alloc | apply Kd.V_drewN | apply Kd.V_drew)); exact HO203.out) (Kd.R_base ho0) hb); have n1_ := Aside0.mk (Kd.R_lower ho0 (below_size (bw2 HB GE184 GE185))); have n2_ := Aside0.mk (blk_below (bm BK184) hb); have n3_ := Aside0.mk (blk_below (bm BK185) hb); have n4_ := Aside0.mk (below_step (bw2 HB GE184 GE185) hb); clear HO203; clear BK184; clear BK185; clear HB; have HO203 := n0_; have HO207 := n1_; have BK184 := n2_; have BK185 := n3_; have HB := n4_; clear n0_ n1_ n2_ n3_ n4_; (try clear hb); (try clear hb2); (try clear hk); (try clear hi); (try clear ho0); obtain ⟨Ao66, co66, eo66⟩ := Kd.V_slice HO203.out; subst eo66; obtain ⟨Ao67, co67, eo67⟩ := Kd.R_slice HO207.out; subst eo67) | ((with_reducible refine gate_callee (f := 17) rfl ?_); refine gL (some 85) Tryd.func17 #[.slice Ao66 t201.length co66, .slice Ao67 t205.length co67] ?_; (with_reducible refine (macadamref00_Like.calls kj34 _ _ t201 _ _ t205 true _ ?side1 ?side2 ?side3 ?side4 A45.out).mono ?_); (case side1 => repeat (first | exact (Kd.V_reads' HO203.out).2.2 | (with_reducible refine Kd.C_alloc ?_ _) | (with_reducible refine Kd.C_drewN ?_ _) | (with_reducible refine Kd.C_drew ?_))); (case side2 => exact (Kd.V_reads' HO203.out).2.1); (case side3 => repeat (first | exact (Kd.R_reads' HO207.out).2.2 | (with_reducible refine Kd.C_alloc ?_ _) | (with_reducible refine Kd.C_drewN ?_ _) | (with_reducible refine Kd.C_drew ?_))); (case side4 => exact (Kd.R_reads' HO207.out).2.1); rintro e w' ⟨rfl, ⟨nd, rfl⟩⟩; refine ⟨_, rfl, ?_⟩))
                  go_ret
                  exact ⟨by first | rfl | (simp [errW_none, errW_some] <;> rfl) | (simp [*, errW_none, errW_some] <;> rfl), bw2 HB GE184 GE185⟩
              · replace c46 := Bool.eq_false_iff.mpr c46
                subst c46
                have H1 : (some false) = some r := by rw [if_neg (show ¬ (false = true) by decide)] at H; exact H
                clear H
                have H := H1
                clear H1
                obtain rfl := Option.some.inj H
                have hnb68 := NB184_185.out
                have hnc68 := NB185_184.out
                obtain ⟨hcz69_0, hcz69_1, hcz69_2, hfz69_0, hfz69_1, hfz69_2⟩ := b3 BK184
                obtain ⟨hcz70_0, hcz70_1, hcz70_2, hfz70_0, hfz70_1, hfz70_2⟩ := b3 BK185
                go_wp2_with (first | ((with_reducible refine gate_callee (f := 22) rfl ?_); refine gL (some 72) Tryd.func22 #[.agg #[.slice A0_0 l0_0.length c0_0, .slice A0_1 l0_1.length c0_1, .int .i64 a0_2], .slice A1 l1.length c1, .int .i64 a2_2] ?_; (with_reducible refine (gang_Closed.calls _ _ l0_0 _ _ l0_1 a0_2 _ _ l1 a2_2 t201 t204 _ ?side1 ?side2 ?side3 ?side4 ?side5 ?side6 ?side7 A43.out).mono ?_); (case side1 => repeat (first | exact (Kd.C_below HR0_0.out HB.out) | (with_reducible refine Kd.C_alloc ?_ _) | (with_reducible refine Kd.C_drewN ?_ _) | (with_reducible refine Kd.C_drew ?_))); (case side2 => exact HC0_0.out); (case side3 => repeat (first | exact (Kd.C_below HR0_1.out HB.out) | (with_reducible refine Kd.C_alloc ?_ _) | (with_reducible refine Kd.C_drewN ?_ _) | (with_reducible refine Kd.C_drew ?_))); (case side4 => exact HC0_1.out); (case side5 => repeat (first | exact (Kd.C_below HR1.out HB.out) | (with_reducible refine Kd.C_alloc ?_ _) | (with_reducible refine Kd.C_drewN ?_ _) | (with_reducible refine Kd.C_drew ?_))); (case side6 => exact HC1.out); (case side7 => exact gv_below HG.out (bw2 HB GE184 GE185)); rintro e w71 ⟨v202, rfl, ho0, hb⟩; refine ⟨_, rfl, ?_⟩; have n0_ := Aside0.mk (Kd.V_lower (Kd.V_mono (ok' := fun k_ => k_ ≠ gb184 ∧ k_ ≠ gb185) ho0 (fun k_ hk_ => ⟨(Kd.freshB (g := gb184) (o := .cells #[.slice A0_0 l0_0.length c0_0, .slice A0_1 l0_1.length c0_1, .int .i64 a0_2] 25 (0, 0)) (bm BK184) k_ hk_), (Kd.freshB (g := gb185) (o := .cells #[.int .i64 a2_0, .int .i64 a2_1, .int .i64 a2_2] 27 (0, 0)) (bm BK185) k_ hk_)⟩)) (below_size (bw2 HB GE184 GE185))); have n1_ := Aside0.mk (blk_below (bm BK184) hb); have n2_ := Aside0.mk (blk_below (bm BK185) hb); have n3_ := Aside0.mk (below_step (bw2 HB GE184 GE185) hb); clear BK184; clear BK185; clear HB; have HO203 := n0_; have BK184 := n1_; have BK185 := n2_; have HB := n3_; clear n0_ n1_ n2_ n3_; (try clear hb); (try clear hb2); (try clear hk); (try clear hi); (try clear ho0); obtain ⟨hcz72_0, hcz72_1, hcz72_2, hfz72_0, hfz72_1, hfz72_2⟩ := b3 BK184; obtain ⟨hcz73_0, hcz73_1, hcz73_2, hfz73_0, hfz73_1, hfz73_2⟩ := b3 BK185) | ((with_reducible refine gate_callee (f := 23) rfl ?_); refine gL (some 80) Tryd.func23 #[.agg #[.slice A0_0 l0_0.length c0_0, .slice A0_1 l0_1.length c0_1, .int .i64 a0_2], .slice A1 l1.length c1, .int .i64 a2_2] ?_; (with_reducible refine (macadamref04_Closed.calls kj34 _ _ l0_0 _ _ l0_1 a0_2 _ _ l1 a2_2 t205 t208 _ ?side1 ?side2 ?side3 ?side4 ?side5 ?side6 A44.out).mono ?_); (case side1 => repeat (first | exact (Kd.C_below HR0_0.out HB.out) | (with_reducible refine Kd.C_alloc ?_ _) | (with_reducible refine Kd.C_drewN ?_ _) | (with_reducible refine Kd.C_drew ?_))); (case side2 => exact HC0_0.out); (case side3 => repeat (first | exact (Kd.C_below HR0_1.out HB.out) | (with_reducible refine Kd.C_alloc ?_ _) | (with_reducible refine Kd.C_drewN ?_ _) | (with_reducible refine Kd.C_drew ?_))); (case side4 => exact HC0_1.out); (case side5 => repeat (first | exact (Kd.C_below HR1.out HB.out) | (with_reducible refine Kd.C_alloc ?_ _) | (with_reducible refine Kd.C_drewN ?_ _) | (with_reducible refine Kd.C_drew ?_))); (case side6 => exact HC1.out); rintro e w74 ⟨v206, rfl, ho0, hb⟩; refine ⟨_, rfl, ?_⟩; have n0_ := Aside0.mk (Kd.V_elder' (by (with_reducible repeat (first | apply Kd.V_alloc | apply Kd.V_drewN | apply Kd.V_drew)); exact HO203.out) (Kd.R_base ho0) hb); have n1_ := Aside0.mk (Kd.R_lower ho0 (below_size (bw2 HB GE184 GE185))); have n2_ := Aside0.mk (blk_below (bm BK184) hb); have n3_ := Aside0.mk (blk_below (bm BK185) hb); have n4_ := Aside0.mk (below_step (bw2 HB GE184 GE185) hb); clear HO203; clear BK184; clear BK185; clear HB; have HO203 := n0_; have HO207 := n1_; have BK184 := n2_; have BK185 := n3_; have HB := n4_; clear n0_ n1_ n2_ n3_ n4_; (try clear hb); (try clear hb2); (try clear hk); (try clear hi); (try clear ho0); obtain ⟨Ao75, co75, eo75⟩ := Kd.V_slice HO203.out; subst eo75; obtain ⟨Ao76, co76, eo76⟩ := Kd.R_slice HO207.out; subst eo76) | ((with_reducible refine gate_callee (f := 17) rfl ?_); refine gL (some 85) Tryd.func17 #[.slice Ao75 t201.length co75, .slice Ao76 t205.length co76] ?_; (with_reducible refine (macadamref00_Like.calls kj34 _ _ t201 _ _ t205 false _ ?side1 ?side2 ?side3 ?side4 A45.out).mono ?_); (case side1 => repeat (first | exact (Kd.V_reads' HO203.out).2.2 | (with_reducible refine Kd.C_alloc ?_ _) | (with_reducible refine Kd.C_drewN ?_ _) | (with_reducible refine Kd.C_drew ?_))); (case side2 => exact (Kd.V_reads' HO203.out).2.1); (case side3 => repeat (first | exact (Kd.R_reads' HO207.out).2.2 | (with_reducible refine Kd.C_alloc ?_ _) | (with_reducible refine Kd.C_drewN ?_ _) | (with_reducible refine Kd.C_drew ?_))); (case side4 => exact (Kd.R_reads' HO207.out).2.1); rintro e w' ⟨rfl, ⟨nd, rfl⟩⟩; refine ⟨_, rfl, ?_⟩))
                go_ret
                exact ⟨by first | rfl | (simp [errW_none, errW_some] <;> rfl) | (simp [*, errW_none, errW_some] <;> rfl), bw2 HB GE184 GE185⟩
end Go.Proofs.YtikfghnkbgdbgaaDoor.Q
end
section
namespace Go.Proofs.YtikfghnkbgdbgaaDoor.Q
set_option linter.unusedSimpArgs false
set_option linter.unusedVariables false
open Go.RowKit Go.Proofs.YtikfghnkbgdbgaaDoorW.PrintWords Go.Proofs.YtikfghnkbgdbgaaDoorW.PrintLast Go.Proofs.YtikfghnkbgdbgaaDoorW.PrintMore
abbrev OkBook (ms : List M) (gs : List G) (n : Int) : Prop := (ms.length ≤ maxLen ∧ ∀ m ∈ ms, ((Lit.int .i64 m.f0.f0).wf = true ∧ (Lit.int .i64 m.f0.f1).wf = true) ∧ (Lit.int .i64 m.f1).wf = true) ∧
    (gs.length ≤ maxLen ∧ ∀ g ∈ gs, (Lit.int .i64 g.f0).wf = true ∧ (Lit.int .i64 g.f1).wf = true ∧ ((Lit.int .i64 g.f2.f0).wf = true ∧ (Lit.int .i64 g.f2.f1).wf = true)) ∧ (Lit.int .i64 n).wf = true
abbrev OkWorks (p : List Wk) : Prop := p.length ≤ maxLen ∧ ∀ x ∈ p, (Lit.int .i64 x.f0).wf = true ∧ (Lit.int .i64 x.f1).wf = true ∧ (Lit.int .i64 x.f2).wf = true
theorem OkWorks.nights {p : List Wk} (h : OkWorks p) : ∀ x ∈ p, -9223372036854775808 ≤ x.f0 ∧ x.f0 ≤ 9223372036854775807 := fun x hx => bounds_i64 (h.2 x hx).1
theorem like_same (l : List Int) (h : l.length ≤ 9223372036854775807) : Ev (fun k => macadamref00_Like.f k l l) true := by
  have := like_f l l h
  simpa using this
theorem can_len {ms : List M} {gs : List G} {n a b : Int} {r : List Int × Int} (h : gang_Can.f ms gs n a b = some r) : r.1.length ≤ 4 := by
  unfold gang_Can.f at h
  split at h
  · rename_i ok
    split at h
    · cases h
      refine Nat.le_trans (List.length_filter_le _ _) ?_
      rw [upTo_length]
      have := (okB_sizes ok).2.2
      omega
    · cases h; simp
  · cases h; simp
theorem ins_length (x : Int) (l : List Int) : (ins x l).length = l.length + 1 := by
  induction l with
  | nil => rfl
  | cons y r ih => simp only [ins]; split <;> simp [ih]
theorem sortI_length (l : List Int) : (sortI l).length = l.length := by
  induction l with
  | nil => rfl
  | cons x r ih => simp only [sortI]; rw [ins_length, ih]; rfl
theorem closed_len {ms : List M} {gs : List G} {n : Int} {p : List Wk} {c : Int} {r : List Int × Int} (h : gang_Closed.f ms gs n p c = some r) : r.1.length ≤ p.length := by
  unfold gang_Closed.f at h
  split at h
  · split at h
    · cases h
      rw [sortI_length, List.length_map]
      exact List.length_filter_le _ _
    · cases h; simp
  · cases h; simp
theorem gangMays_pure (ms : List M) (gs : List G) (n : Int) (ok0 : OkBook ms gs n) (p : List Wk) (ok1 : OkWorks p) (_z : p.length * 24 ≤ 140737488351232) (a b c : Int) (_ok2 : (Lit.int .i64 a).wf = true ∧ (Lit.int .i64 b).wf = true ∧ (Lit.int .i64 c).wf = true) :
    ∃ k, macadamlaw04_GangMays.f k ms gs n p a b c = some true := by
  have hm : ms.length ≤ 9223372036854775807 := ok0.1.1
  have hg : gs.length ≤ 9223372036854775807 := ok0.2.1.1
  have hp : p.length ≤ 9223372036854775807 := ok1.1
  obtain ⟨r1, e1, v1⟩ := rCan_ev ms gs n a b hm hg
  obtain ⟨r2, e2, v2⟩ := rMay_ev ms gs n p hm hg hp ok1.nights
  obtain ⟨r3, e3, v3⟩ := rClosed_ev ms gs n p c hm hg hp ok1.nights
  refine Ev.rounds ?_
  unfold macadamlaw04_GangMays.f
  refine Ev.bind (Ev.some e1) (Ev.bind v1 (Ev.bind (like_same _ (by have := can_len e1; omega)) (Ev.pos rfl (Ev.pos rfl ?_))))
  refine Ev.bind (Ev.of (fun k => gang_Check.mono _ _ _ k) (check_f ms gs n hm hg)) (Ev.bind (rcheck_ev ms gs n hm hg) ?_)
  refine Ev.step (fun k => by simp only [macadamlaw04_GangMays.j0]; rfl) ?_
  refine Ev.neg (by simp) (Ev.bind (Ev.some e2) (Ev.bind v2 (Ev.neg (by simp) ?_)))
  refine Ev.step (fun k => by simp only [macadamlaw04_GangMays.j1]; rfl) ?_
  refine Ev.neg (by simp) (Ev.bind (Ev.some e3) (Ev.bind v3 (Ev.bind (like_same _ (by have := closed_len e3; omega)) (Ev.pos rfl (Ev.pos rfl (Ev.some rfl))))))
end Go.Proofs.YtikfghnkbgdbgaaDoor.Q
end
section
namespace Go.Proofs.YtikfghnkbgdbgaaDoor.Q
open Go.ChangeShapes Go.WideShapes Go.ChangeAt Go.RowKit
set_option linter.unusedVariables false
set_option maxRecDepth 100000 in
theorem gangMays_lifted (os : Os) (started : os.Started) (H : Type) (enc : TypeId × Value → H) :
    ReturnsInHanded {} Tryd.checked os 3 .any (fun w args => (Rows.gangMaysSpec.pre enc Tryd.prog Tryd.f3 [] false w args ∧ laidMetH Tryd.prog laidV w) ∧ sizedMet enc Tryd.prog Tryd.f3 (OpenSpec.ofChange Rows.gangMaysSpec) false w args)
      (Rows.gangMaysSpec.post enc Tryd.prog Tryd.f3 false true false false) := by
  refine returnsInHanded_of_change_and (C := Tryd.checked) (X := fun w _ => laidMetH Tryd.prog laidV w) (fun _ _ _ hh h => h.of_heap hh) ownK started (by kernel_rfl) Tryd.func3
    (ChangeSpec.witness_shaped (enc := enc) (C := Tryd.checked) (os := os) (X := fun w _ => laidMetH Tryd.prog laidV w) false (World.doorLaid Tryd.prog 19 os) #[.agg #[.slice none 0 0, .slice none 0 0, .int .i64 0], .slice none 0 0, .agg #[.int .i64 0, .int .i64 0, .int .i64 0]] 8 rfl (World.shaped_of_RefB (by kernel_rfl) (by kernel_rfl)) (by kernel_rfl) (by kernel_rfl) (by kernel_rfl) (door_met os _)) ?_
  intro W base args ds gs before hval0 hW _ hsz0 hL _
  have hval : ∀ (j : Nat) t v, Tryd.f3.params[j]? = some t → args[j]? = some v → Value.okWide Tryd.prog W .any base t v := hval0
  have hsz : (DataW.weightsEach Tryd.prog (Tryd.f3.params.toList ++ Rows.gangMaysSpec.plain.varTypes Tryd.prog) (ds ++ gs)).all (· ≤ reachBytes) = true := hsz0
  have hW' := hW
  obtain ⟨p, q, hA0, hV, rfl, hfz, hnd⟩ := hW
  have hA : DataW.TrodAll enc Tryd.prog W 0 (fun _ => true) true Tryd.f3.params.toList args.toList ds p := hA0
  rw [Tryd.params3] at hA hval hsz
  obtain ⟨v0, vs0, d0, ds0, p0, q0, hargs, rfl, rfl, h0, r0⟩ := trodAll_cons hA
  obtain ⟨v1, vs1, d1, ds1, p1, q1, rfl, rfl, rfl, h1, r1⟩ := trodAll_cons r0
  obtain ⟨v2, vs2, d2, ds2, p2, q2, rfl, rfl, rfl, h2, r2⟩ := trodAll_cons r1
  obtain ⟨rfl, rfl, rfl⟩ := trodAll_nil r2
  obtain rfl : args = #[v0, v1, v2] := by cases args; simp_all
  obtain ⟨rfl, rfl⟩ := trodVars_none hV
  have lt0 : ∀ x ∈ p0, x.block < W.heap.size := by obtain ⟨m, hm⟩ := h0; exact DataW.trod_lt m _ _ _ hm
  obtain ⟨y0, K0, ok0⟩ := opens_book.arg h0
  obtain ⟨A0_0, c0_0, A0_1, c0_1, e0, hc0_0, hr0_0, hc0_1, hr0_1⟩ := k25_open K0
  obtain rfl := cells_many e0
  have lt1 : ∀ x ∈ p1, x.block < W.heap.size := by obtain ⟨m, hm⟩ := h1; exact DataW.trod_lt m _ _ _ hm
  obtain ⟨a1, len1, cap1, rfl⟩ := okWide_slice Tryd.underlying26 (hval 1 26 v1 rfl rfl)
  have z1 : len1 * 24 ≤ 140737488351232 := sized_any hsz (j := 1) (t := 26) rfl rfl Tryd.underlying26 (by kernel_rfl) h1
  obtain ⟨y1, K1, ok1⟩ := opens_works.arg h1
  obtain ⟨A1, c1, e1, hc1, hr1⟩ := K1
  simp only [Value.cells, List.cons.injEq, Value.slice.injEq, and_true] at e1
  obtain ⟨rfl, rfl, rfl⟩ := e1
  have lt2 : ∀ x ∈ p2, x.block < W.heap.size := by obtain ⟨m, hm⟩ := h2; exact DataW.trod_lt m _ _ _ hm
  obtain ⟨y2, K2, ok2⟩ := opens_n3.arg h2
  obtain rfl := cells_many (K_n3 K2)
  have hG := gv_of_laid hL
  obtain ⟨k_, h_⟩ := gangMays_pure y0.f0 y0.f1 y0.f2 ok0 y1 ok1 z1 y2.1 y2.2.1 y2.2.2 ok2
  clear hA0 hval0 hsz0 hsz
  refine (macadamlaw04_GangMays.calls k_ A0_0 c0_0 y0.f0 A0_1 c0_1 y0.f1 y0.f2 _ _ y1 y2.1 y2.2.1 y2.2.2 true W hr0_0 hc0_0 hr0_1 hc0_1 hr1 hc1 hG h_).mono fun e W' ⟨he, bel⟩ => ?_
  subst he
  exact ⟨_, rfl, _, _, _, [], _, [], hW', trodAll_mk1 (shut_bool Tryd.underlying4 _), (trodAll_cons_mk (Below.trod laidOut (by kernel_rfl) (of_decide_eq_true (by kernel_rfl)) h0 bel lt0) (trodAll_cons_mk (Below.trod laidOut (by kernel_rfl) (of_decide_eq_true (by kernel_rfl)) h1 bel lt1) (trodAll_cons_mk (Below.trod laidOut (by kernel_rfl) (of_decide_eq_true (by kernel_rfl)) h2 bel lt2) trodAll_mk0))), rfl, bel.frame _, fun h => by cases h⟩
theorem gangMays_over : Rows.gangMaysRow.holds Tryd.pinned (OpenSpec.ofChange Rows.gangMaysSpec) :=
  OpenClaim.holds_of_wide 3 Tryd.f3 rfl rfl rfl rfl rfl rfl rfl ⟨rfl, rfl, rfl, rfl, rfl⟩ rfl rfl rfl rfl rfl (by kernel_rfl) Tryd.func3 (by kernel_rfl)
    (of_decide_eq_true (by kernel_rfl)) (by unfold Func.isWrapper; first | (rw [if_pos (by decide +kernel)]; kernel_rfl) | (rw [if_neg (by decide +kernel)]; exact ⟨rfl, rfl⟩))
    (fun os started H enc _ => gangMays_lifted os started H enc)
end Go.Proofs.YtikfghnkbgdbgaaDoor.Q
namespace Go.Proofs.YtikfghnkbgdbgaaDoor
set_option maxRecDepth 100000 in
/-- THE CARD. -/
theorem gangMays_holds : Rows.GangMaysCardSaid :=
  Claim7.holds_tied_plain_at .later [] [.data, .funcs] true (true, "88f50df5e688c53fcba80ffbc790cc1082a54a252ac4bc190e21b1a8f43ba8e5") false
    Q.gangMays_over (fun _ h => by cases h) (by kernel_rfl) (fun _ h => by cases h) gangMays_row_tie rfl ⟨rfl, rfl⟩ (by kernel_rfl) rfl
    (fun f fn hf hfn => by
      obtain rfl : f = 3 := Option.some.inj ((show Tryd.prog.funcNamed "macadam/macadamlaw04.GangMays" = some 3 by kernel_rfl).symm.trans hf) |>.symm
      obtain rfl : fn = Tryd.f3 := (Option.some.inj (Tryd.func3.symm.trans hfn)).symm
      exact ⟨by kernel_rfl, fun j t ht => by
        rw [Tryd.params3] at ht
        have hm : t ∈ [25, 26, 27] := by simpa using Array.mem_of_getElem? ht
        have hall : ([25, 26, 27].all fun u => !Tryd.prog.wantsStandIn u) = true := by kernel_rfl
        exact (show Tryd.prog.wantsStandIn t = false by simpa using List.all_eq_true.1 hall t hm)⟩)
    (by kernel_rfl)
end Go.Proofs.YtikfghnkbgdbgaaDoor
end
