/- It is proved that the statement GangDones holds of the given program for every book, every list of works and every mile; there are no conditions. -/
import Derived.Test.YtikfghnkbgdbgaaDoorZGangDones3
import Derived.Test.YtikfghnkbgdbgaaDoorTie
import Derived.Test.YtikfghnkbgdbgaaDoorCards
import Derived.SevenTiedAt
set_option linter.unusedSimpArgs false
set_option linter.unusedVariables false
section
namespace Go.Proofs.YtikfghnkbgdbgaaDoor.Q
open Go.RowKit Go.Proofs.YtikfghnkbgdbgaaDoorW.PrintWords Go.Proofs.YtikfghnkbgdbgaaDoorW.PrintLast Go.Proofs.YtikfghnkbgdbgaaDoorW.PrintMore
attribute [local go_sem] max2_int min2_int max_two min_two max_three min_three max_four min_four   -- for this text's walks alone
set_option linter.unusedVariables false
set_option linter.unusedSimpArgs false
attribute [local go_sem high] eqA40
mutual
def macadamlaw04_GangDones.j0 : Nat → List (S59) → Bool → List (S66) → List (S63) → Int → Option (Bool)
 | 0, _, _, _, _, _ => none
 | k + 1, x1, x36, x251000, x251001, x251002 => if x36 = true then (some false) else ((gang_Mended.f x251000 x251001 x251002 x1).bind fun bt259 => ((macadamref04_Mended.f k x251000 x251001 x251002 x1).bind fun bt263 => ((macadamref00_Like.f k bt259.1 bt263.1).bind fun t267 => (if t267 = true then (macadamlaw04_GangDones.j1 k x1 (bt259.2 != bt263.2) x251000 x251001 x251002) else (macadamlaw04_GangDones.j1 k x1 true x251000 x251001 x251002)))))
def macadamlaw04_GangDones.j1 : Nat → List (S59) → Bool → List (S66) → List (S63) → Int → Option (Bool)
 | 0, _, _, _, _, _ => none
 | k + 1, x1, x57, x251000, x251001, x251002 => if x57 = true then (some false) else ((gang_Open.f x251000 x251001 x251002 x1).bind fun bt268 => ((macadamref04_Open.f k x251000 x251001 x251002 x1).bind fun bt270 => (if bt268.1 = bt270.1 then (if bt268.2 = bt270.2 then ((macadamlaw04_shovelled.f).bind fun t272 => (some t272)) else (some false)) else (some false))))
end
def macadamlaw04_GangDones.f (k : Nat) (l0_0 : List (S66)) (l0_1 : List (S63)) (a0_2 : Int) (l1 : List (S59)) (a2 : Int) : Option (Bool) := (gang_Done.f l0_0 l0_1 a0_2 l1 a2).bind fun bt251 => ((macadamref04_Done.f k l0_0 l0_1 a0_2 l1 a2).bind fun bt255 => (if (!(bt251.1 == bt255.1) || (!(bt251.2.1 == bt255.2.1))) = true then (macadamlaw04_GangDones.j0 k l1 true l0_0 l0_1 a0_2) else (macadamlaw04_GangDones.j0 k l1 (bt251.2.2 != bt255.2.2) l0_0 l0_1 a0_2)))
set_option maxHeartbeats 8000000 in
set_option maxRecDepth 100000 in
theorem macadamlaw04_GangDones.calls (k : Nat) (A0_0 : Option Addr) (c0_0 : Nat) (l0_0 : List (S66)) (A0_1 : Option Addr) (c0_1 : Nat) (l0_1 : List (S63)) (a0_2 : Int) (A1 : Option Addr) (c1 : Nat) (l1 : List (S59)) (a2 : Int) (r : Bool) (w : World) (hr0_0 : Kd.C k66 w A0_0 l0_0.length l0_0) (hc0_0 : l0_0.length ≤ c0_0) (hr0_1 : Kd.C k63 w A0_1 l0_1.length l0_1) (hc0_1 : l0_1.length ≤ c0_1) (hr1 : Kd.C k59 w A1 l1.length l1) (hc1 : l1.length ≤ c1) (hG : GV w) (h : macadamlaw04_GangDones.f k l0_0 l0_1 a0_2 l1 a2 = some r) :
  Calls Tryd.prog 4 #[.agg #[.slice A0_0 l0_0.length c0_0, .slice A0_1 l0_1.length c0_1, .int .i64 a0_2], .slice A1 l1.length c1, .int .i64 a2] w fun e w' => e = .returned (.bool r) ∧ Below w.heap.size w w' := by
 have hu25 := Tryd.underlying25
 have hu40 := Tryd.underlying40
 have HR0_0 := Aside0.mk hr0_0
 have HC0_0 := Aside0.mk hc0_0
 clear hr0_0 hc0_0
 have HR0_1 := Aside0.mk hr0_1
 have HC0_1 := Aside0.mk hc0_1
 clear hr0_1 hc0_1
 have HR1 := Aside0.mk hr1
 have HC1 := Aside0.mk hc1
 clear hr1 hc1
 have HB := Aside0.mk (Below.refl w.heap.size w)
 have HG := Aside0.mk hG
 clear hG
 have H : ((gang_Done.f l0_0 l0_1 a0_2 l1 a2).bind fun bt251 => ((macadamref04_Done.f k l0_0 l0_1 a0_2 l1 a2).bind fun bt255 => (if (!(bt251.1 == bt255.1) || (!(bt251.2.1 == bt255.2.1))) = true then (macadamlaw04_GangDones.j0 k l1 true l0_0 l0_1 a0_2) else (macadamlaw04_GangDones.j0 k l1 (bt251.2.2 != bt255.2.2) l0_0 l0_1 a0_2)))) = some r := h
 clear h
 replace H := Option.bind_eq_some_iff.mp H
 obtain ⟨⟨t251, t252, t253⟩, A40, H⟩ := H
 replace H : ((macadamref04_Done.f k l0_0 l0_1 a0_2 l1 a2).bind fun bt255 => (if (!(t251 == bt255.1) || (!(t252 == bt255.2.1))) = true then (macadamlaw04_GangDones.j0 k l1 true l0_0 l0_1 a0_2) else (macadamlaw04_GangDones.j0 k l1 (t253 != bt255.2.2) l0_0 l0_1 a0_2))) = some r := H
 have A4 := Aside0.mk A40
 clear A40
 replace H := Option.bind_eq_some_iff.mp H
 obtain ⟨⟨t255, t256, t257⟩, A50, H⟩ := H
 replace H : (if (!(t251 == t255) || (!(t252 == t256))) = true then (macadamlaw04_GangDones.j0 k l1 true l0_0 l0_1 a0_2) else (macadamlaw04_GangDones.j0 k l1 (t253 != t257) l0_0 l0_1 a0_2)) = some r := H
 have A5 := Aside0.mk A50
 clear A50
 have HC6 := Aside0.mk H
 clear H
 go_enter Tryd.func4, Tryd.ntmps4
 go_upto_region 3 with (first | ((with_reducible refine gate_dst (N := 3) rfl ?_); refine bx 3 #[.slice A0_0 l0_0.length c0_0, .slice A0_1 l0_1.length c0_1, .int .i64 a0_2] 25 ?_; intro gb250 hg w7 hbox hb; have n0_ := Aside0.mk (below_step (bw HB) hb); have n1_ := Aside0.mk (hbox); have n2_ := Aside0.mk (bz (bw HB) hg); have n3_ := Aside0.mk (bz (bw HB) hg); clear HB; have HB := n0_; have BK250 := n1_; have GW250 := n2_; have GE250 := n3_; clear n0_ n1_ n2_ n3_; clear hb hbox hg; obtain ⟨hcz8_0, hcz8_1, hcz8_2, hfz8_0, hfz8_1, hfz8_2⟩ := b3 BK250) | ((with_reducible refine gate_callee (f := 25) rfl ?_); refine gL (some 19) Tryd.func25 #[.agg #[.slice A0_0 l0_0.length c0_0, .slice A0_1 l0_1.length c0_1, .int .i64 a0_2], .slice A1 l1.length c1, .int .i64 a2] ?_; (with_reducible refine (gang_Done.calls _ _ l0_0 _ _ l0_1 a0_2 _ _ l1 a2 t251 t252 t253 _ ?side1 ?side2 ?side3 ?side4 ?side5 ?side6 ?side7 A4.out).mono ?_); (case side1 => repeat (first | exact (Kd.C_below HR0_0.out HB.out) | (with_reducible refine Kd.C_alloc ?_ _) | (with_reducible refine Kd.C_drewN ?_ _) | (with_reducible refine Kd.C_drew ?_))); (case side2 => exact HC0_0.out); (case side3 => repeat (first | exact (Kd.C_below HR0_1.out HB.out) | (with_reducible refine Kd.C_alloc ?_ _) | (with_reducible refine Kd.C_drewN ?_ _) | (with_reducible refine Kd.C_drew ?_))); (case side4 => exact HC0_1.out); (case side5 => repeat (first | exact (Kd.C_below HR1.out HB.out) | (with_reducible refine Kd.C_alloc ?_ _) | (with_reducible refine Kd.C_drewN ?_ _) | (with_reducible refine Kd.C_drew ?_))); (case side6 => exact HC1.out); (case side7 => exact gv_below HG.out (bw1 HB GE250)); rintro e w9 ⟨rfl, hb⟩; refine ⟨_, rfl, ?_⟩; have n0_ := Aside0.mk (blk_below (bm BK250) hb); have n1_ := Aside0.mk (below_step (bw1 HB GE250) hb); clear BK250; clear HB; have BK250 := n0_; have HB := n1_; clear n0_ n1_; (try clear hb); (try clear hb2); (try clear hk); (try clear hi)) | ((with_reducible refine gate_dst (N := 7) rfl ?_); refine bx 7 #[.int .i64 0, .int .i64 0] 40 ?_; intro gb254 hg w10 hbox hb; have n0_ := Aside0.mk (blk_below (bm BK250) hb); have n1_ := Aside0.mk (below_step (bw1 HB GE250) hb); have n2_ := Aside0.mk (hbox); have n3_ := Aside0.mk (bz (bw1 HB GE250) hg); have n4_ := Aside0.mk (bz (bw1 HB GE250) hg); have n5_ := Aside0.mk (bl (bm BK250) hg); have n6_ := Aside0.mk (bg (bm BK250) hg); clear BK250; clear HB; have BK250 := n0_; have HB := n1_; have BK254 := n2_; have GW254 := n3_; have GE254 := n4_; have NB250_254 := n5_; have NB254_250 := n6_; clear n0_ n1_ n2_ n3_ n4_ n5_ n6_; clear hb hbox hg; have hnb11 := NB254_250.out; have hnc11 := NB250_254.out; obtain ⟨hcz12_0, hcz12_1, hfz12_0, hfz12_1⟩ := b2 BK254; obtain ⟨hcz13_0, hcz13_1, hcz13_2, hfz13_0, hfz13_1, hfz13_2⟩ := b3 BK250) | ((with_reducible refine gate_callee (f := 26) rfl ?_); refine gL (some 26) Tryd.func26 #[.agg #[.slice A0_0 l0_0.length c0_0, .slice A0_1 l0_1.length c0_1, .int .i64 a0_2], .slice A1 l1.length c1, .int .i64 a2] ?_; (with_reducible refine (macadamref04_Done.calls k _ _ l0_0 _ _ l0_1 a0_2 _ _ l1 a2 t255 t256 t257 _ ?side1 ?side2 ?side3 ?side4 ?side5 ?side6 A5.out).mono ?_); (case side1 => exact Kd.C_below HR0_0.out (bw2 HB GE250 GE254)); (case side2 => exact HC0_0.out); (case side3 => exact Kd.C_below HR0_1.out (bw2 HB GE250 GE254)); (case side4 => exact HC0_1.out); (case side5 => exact Kd.C_below HR1.out (bw2 HB GE250 GE254)); (case side6 => exact HC1.out); rintro e w14 ⟨rfl, hb⟩; refine ⟨_, rfl, ?_⟩; have n0_ := Aside0.mk (blk_below (g := gb250) (o := .cells #[.slice A0_0 l0_0.length c0_0, .slice A0_1 l0_1.length c0_1, .int .i64 a0_2] 25 (0, 0)) (by (with_reducible repeat (first | refine blk_drewN ?_ _ | refine blk_drew ?_ | refine blk_alloc ?_ _)); refine blk_far ?_ NB250_254.out _; (with_reducible repeat (first | refine blk_drewN ?_ _ | refine blk_drew ?_ | refine blk_alloc ?_ _)); refine blk_far ?_ NB250_254.out _; (with_reducible repeat (first | refine blk_drewN ?_ _ | refine blk_drew ?_ | refine blk_alloc ?_ _)); exact BK250.out) hb); have n1_ := Aside0.mk (blk_below (g := gb254) (o := .cells #[.int .i64 t251, .int .i64 t252] 40 (0, 0)) (by (with_reducible repeat (first | refine blk_drewN ?_ _ | refine blk_drew ?_ | refine blk_alloc ?_ _)); refine blk_put (cs := #[.int .i64 t251, .int .i64 0]) ?_ 1 _ rfl; (with_reducible repeat (first | refine blk_drewN ?_ _ | refine blk_drew ?_ | refine blk_alloc ?_ _)); refine blk_put (cs := #[.int .i64 0, .int .i64 0]) ?_ 0 _ rfl; (with_reducible repeat (first | refine blk_drewN ?_ _ | refine blk_drew ?_ | refine blk_alloc ?_ _)); exact BK254.out) hb); have n2_ := Aside0.mk (below_step (bw2 HB GE250 GE254) hb); clear BK250; clear BK254; clear HB; have BK250 := n0_; have BK254 := n1_; have HB := n2_; clear n0_ n1_ n2_; (try clear hb); (try clear hb2); (try clear hk); (try clear hi)) | ((with_reducible refine gate_dst (N := 9) rfl ?_); refine bx 9 #[.int .i64 0, .int .i64 0] 40 ?_; intro gb258 hg w15 hbox hb; have n0_ := Aside0.mk (blk_below (bm BK250) hb); have n1_ := Aside0.mk (blk_below (bm BK254) hb); have n2_ := Aside0.mk (below_step (bw2 HB GE250 GE254) hb); have n3_ := Aside0.mk (hbox); have n4_ := Aside0.mk (bz (bw2 HB GE250 GE254) hg); have n5_ := Aside0.mk (bz (bw2 HB GE250 GE254) hg); have n6_ := Aside0.mk (bl (bm BK250) hg); have n7_ := Aside0.mk (bg (bm BK250) hg); have n8_ := Aside0.mk (bl (bm BK254) hg); have n9_ := Aside0.mk (bg (bm BK254) hg); clear BK250; clear BK254; clear HB; have BK250 := n0_; have BK254 := n1_; have HB := n2_; have BK258 := n3_; have GW258 := n4_; have GE258 := n5_; have NB250_258 := n6_; have NB258_250 := n7_; have NB254_258 := n8_; have NB258_254 := n9_; clear n0_ n1_ n2_ n3_ n4_ n5_ n6_ n7_ n8_ n9_; clear hb hbox hg; have hnb16 := NB258_250.out; have hnc16 := NB250_258.out; have hnb17 := NB258_254.out; have hnc17 := NB254_258.out; obtain ⟨hcz18_0, hcz18_1, hfz18_0, hfz18_1⟩ := b2 BK258))
 (try simp only [Act.put, List.setIfInBounds_toArray, List.set_cons_zero, List.set_cons_succ])
 go_cut [36] (fun v36 wc => ∃ (kq : Nat) (x36_5 : Bool), v36 = .bool x36_5 ∧ Aside0 (macadamlaw04_GangDones.j0 kq l1 x36_5 l0_0 l0_1 a0_2 = some r) ∧ Aside0 (kq ≤ k) ∧ Aside0 (wc.heap[gb250]? = some (.cells #[(.slice A0_0 l0_0.length c0_0), (.slice A0_1 l0_1.length c0_1), .int .i64 a0_2] 25 (0, 0))) ∧ Aside0 (wc.heap[gb254]? = some (.cells #[.int .i64 t251, .int .i64 t252] 40 (0, 0))) ∧ Aside0 (wc.heap[gb258]? = some (.cells #[.int .i64 t255, .int .i64 t256] 40 (0, 0))) ∧ Aside0 (Below w.heap.size w wc))
 case first =>
  have H := HC6.out
  clear HC6
  by_cases c19 : (!(t251 == t255) || (!(t252 == t256))) = true
  ·rw [if_pos c19] at H
   have c19b0 : (!(t251 == t255) || (!(t252 == t256))) = true := c19
   clear c19
   (first | rw [c19b0] | (simp only [i64_w, i32_w]; rw [c19b0]) | skip)
   have H' := Aside0.mk H
   clear H
   have hnb20 := NB254_250.out
   have hnc20 := NB250_254.out
   have hnb21 := NB254_258.out
   have hnc21 := NB258_254.out
   obtain ⟨hcz22_0, hcz22_1, hfz22_0, hfz22_1⟩ := b2 BK254
   have hnb23 := NB258_250.out
   have hnc23 := NB250_258.out
   obtain ⟨hcz24_0, hcz24_1, hfz24_0, hfz24_1⟩ := b2 BK258
   go_wp2
   go_meet
   case rel => exact ⟨_, (true), (by first | rfl | (simp; done) | (simp [*]; done)), H', ⟨by first | omega | exact Nat.le_refl _⟩, ⟨by (with_reducible repeat (first | refine blk_drewN ?_ _ | refine blk_drew ?_ | refine blk_alloc ?_ _)); refine blk_far ?_ NB250_258.out _; (with_reducible repeat (first | refine blk_drewN ?_ _ | refine blk_drew ?_ | refine blk_alloc ?_ _)); refine blk_far ?_ NB250_258.out _; (with_reducible repeat (first | refine blk_drewN ?_ _ | refine blk_drew ?_ | refine blk_alloc ?_ _)); exact BK250.out⟩, ⟨by (with_reducible repeat (first | refine blk_drewN ?_ _ | refine blk_drew ?_ | refine blk_alloc ?_ _)); refine blk_far ?_ NB254_258.out _; (with_reducible repeat (first | refine blk_drewN ?_ _ | refine blk_drew ?_ | refine blk_alloc ?_ _)); refine blk_far ?_ NB254_258.out _; (with_reducible repeat (first | refine blk_drewN ?_ _ | refine blk_drew ?_ | refine blk_alloc ?_ _)); exact BK254.out⟩, ⟨by (with_reducible repeat (first | refine blk_drewN ?_ _ | refine blk_drew ?_ | refine blk_alloc ?_ _)); refine blk_put (cs := #[.int .i64 t255, .int .i64 0]) ?_ 1 _ rfl; (with_reducible repeat (first | refine blk_drewN ?_ _ | refine blk_drew ?_ | refine blk_alloc ?_ _)); refine blk_put (cs := #[.int .i64 0, .int .i64 0]) ?_ 0 _ rfl; (with_reducible repeat (first | refine blk_drewN ?_ _ | refine blk_drew ?_ | refine blk_alloc ?_ _)); exact BK258.out⟩, ⟨bw3 HB GE250 GE254 GE258⟩⟩
  ·rw [if_neg c19] at H
   have c19b0 : (!(t251 == t255) || (!(t252 == t256))) = false := by simpa using c19
   clear c19
   (first | rw [c19b0] | (simp only [i64_w, i32_w]; rw [c19b0]) | skip)
   have H' := Aside0.mk H
   clear H
   have hnb25 := NB254_250.out
   have hnc25 := NB250_254.out
   have hnb26 := NB254_258.out
   have hnc26 := NB258_254.out
   obtain ⟨hcz27_0, hcz27_1, hfz27_0, hfz27_1⟩ := b2 BK254
   have hnb28 := NB258_250.out
   have hnc28 := NB250_258.out
   obtain ⟨hcz29_0, hcz29_1, hfz29_0, hfz29_1⟩ := b2 BK258
   go_wp2
   go_meet
   case rel => exact ⟨_, ((t253 != t257)), (by first | rfl | (simp; done) | (simp [*]; done)), H', ⟨by first | omega | exact Nat.le_refl _⟩, ⟨by (with_reducible repeat (first | refine blk_drewN ?_ _ | refine blk_drew ?_ | refine blk_alloc ?_ _)); refine blk_far ?_ NB250_258.out _; (with_reducible repeat (first | refine blk_drewN ?_ _ | refine blk_drew ?_ | refine blk_alloc ?_ _)); refine blk_far ?_ NB250_258.out _; (with_reducible repeat (first | refine blk_drewN ?_ _ | refine blk_drew ?_ | refine blk_alloc ?_ _)); exact BK250.out⟩, ⟨by (with_reducible repeat (first | refine blk_drewN ?_ _ | refine blk_drew ?_ | refine blk_alloc ?_ _)); refine blk_far ?_ NB254_258.out _; (with_reducible repeat (first | refine blk_drewN ?_ _ | refine blk_drew ?_ | refine blk_alloc ?_ _)); refine blk_far ?_ NB254_258.out _; (with_reducible repeat (first | refine blk_drewN ?_ _ | refine blk_drew ?_ | refine blk_alloc ?_ _)); exact BK254.out⟩, ⟨by (with_reducible repeat (first | refine blk_drewN ?_ _ | refine blk_drew ?_ | refine blk_alloc ?_ _)); refine blk_put (cs := #[.int .i64 t255, .int .i64 0]) ?_ 1 _ rfl; (with_reducible repeat (first | refine blk_drewN ?_ _ | refine blk_drew ?_ | refine blk_alloc ?_ _)); refine blk_put (cs := #[.int .i64 0, .int .i64 0]) ?_ 0 _ rfl; (with_reducible repeat (first | refine blk_drewN ?_ _ | refine blk_drew ?_ | refine blk_alloc ?_ _)); exact BK258.out⟩, ⟨bw3 HB GE250 GE254 GE258⟩⟩
 case rest =>
  clear HC6
  try clear c1
  try clear c2
  try clear p2
  try clear c4
  try clear c11
  try clear c16
  try clear c17
  try clear c19
  try clear c19b0
  try clear c20
  try clear c21
  try clear c23
  try clear c25
  try clear c26
  try clear c28
  try clear hcz12_0
  try clear hcz12_1
  try clear hcz13_0
  try clear hcz13_1
  try clear hcz13_2
  try clear hcz18_0
  try clear hcz18_1
  try clear hcz22_0
  try clear hcz22_1
  try clear hcz24_0
  try clear hcz24_1
  try clear hcz27_0
  try clear hcz27_1
  try clear hcz29_0
  try clear hcz29_1
  try clear hcz8_0
  try clear hcz8_1
  try clear hcz8_2
  try clear hfz12_0
  try clear hfz12_1
  try clear hfz13_0
  try clear hfz13_1
  try clear hfz13_2
  try clear hfz18_0
  try clear hfz18_1
  try clear hfz22_0
  try clear hfz22_1
  try clear hfz24_0
  try clear hfz24_1
  try clear hfz27_0
  try clear hfz27_1
  try clear hfz29_0
  try clear hfz29_1
  try clear hfz8_0
  try clear hfz8_1
  try clear hfz8_2
  obtain ⟨kq, x36_5, rfl, HA, HJ5, BK250, BK254, BK258, HB⟩ := hcut
  cases kq with
  | zero => exact absurd HA.out (by simp [macadamlaw04_GangDones.j0])
  | succ kj5 =>
   have H := HA.out
   clear HA
   simp only [macadamlaw04_GangDones.j0] at H
   by_cases c30 : x36_5 = true
   ·subst c30
    have H1 : (some false) = some r := by rw [if_pos rfl] at H; exact H
    clear H
    have H := H1
    clear H1
    obtain rfl := Option.some.inj H
    go_wp2
    go_ret
    exact ⟨by first | rfl | (simp [errW_none, errW_some] <;> rfl) | (simp [*, errW_none, errW_some] <;> rfl), bw3 HB GE250 GE254 GE258⟩
   ·replace c30 := Bool.eq_false_iff.mpr c30
    subst c30
    have H1 : ((gang_Mended.f l0_0 l0_1 a0_2 l1).bind fun bt259 => ((macadamref04_Mended.f kj5 l0_0 l0_1 a0_2 l1).bind fun bt263 => ((macadamref00_Like.f kj5 bt259.1 bt263.1).bind fun t267 => (if t267 = true then (macadamlaw04_GangDones.j1 kj5 l1 (bt259.2 != bt263.2) l0_0 l0_1 a0_2) else (macadamlaw04_GangDones.j1 kj5 l1 true l0_0 l0_1 a0_2))))) = some r := by rw [if_neg (show ¬ (false = true) by decide)] at H; exact H
    clear H
    have H := H1
    clear H1
    replace H := Option.bind_eq_some_iff.mp H
    obtain ⟨⟨t259, t262⟩, A310, H⟩ := H
    replace H : ((macadamref04_Mended.f kj5 l0_0 l0_1 a0_2 l1).bind fun bt263 => ((macadamref00_Like.f kj5 t259 bt263.1).bind fun t267 => (if t267 = true then (macadamlaw04_GangDones.j1 kj5 l1 (t262 != bt263.2) l0_0 l0_1 a0_2) else (macadamlaw04_GangDones.j1 kj5 l1 true l0_0 l0_1 a0_2)))) = some r := H
    have A31 := Aside0.mk A310
    clear A310
    replace H := Option.bind_eq_some_iff.mp H
    obtain ⟨⟨t263, t266⟩, A320, H⟩ := H
    replace H : ((macadamref00_Like.f kj5 t259 t263).bind fun t267 => (if t267 = true then (macadamlaw04_GangDones.j1 kj5 l1 (t262 != t266) l0_0 l0_1 a0_2) else (macadamlaw04_GangDones.j1 kj5 l1 true l0_0 l0_1 a0_2))) = some r := H
    have A32 := Aside0.mk A320
    clear A320
    have HC33 := Aside0.mk H
    clear H
    have hnb34 := NB250_254.out
    have hnc34 := NB254_250.out
    have hnb35 := NB250_258.out
    have hnc35 := NB258_250.out
    obtain ⟨hcz36_0, hcz36_1, hcz36_2, hfz36_0, hfz36_1, hfz36_2⟩ := b3 BK250
    go_upto_region 7 with (first | ((with_reducible refine gate_callee (f := 27) rfl ?_); refine gL (some 40) Tryd.func27 #[.agg #[.slice A0_0 l0_0.length c0_0, .slice A0_1 l0_1.length c0_1, .int .i64 a0_2], .slice A1 l1.length c1] ?_; (with_reducible refine (gang_Mended.calls _ _ l0_0 _ _ l0_1 a0_2 _ _ l1 t259 t262 _ ?side1 ?side2 ?side3 ?side4 ?side5 ?side6 ?side7 A31.out).mono ?_); (case side1 => repeat (first | exact (Kd.C_below HR0_0.out HB.out) | (with_reducible refine Kd.C_alloc ?_ _) | (with_reducible refine Kd.C_drewN ?_ _) | (with_reducible refine Kd.C_drew ?_))); (case side2 => exact HC0_0.out); (case side3 => repeat (first | exact (Kd.C_below HR0_1.out HB.out) | (with_reducible refine Kd.C_alloc ?_ _) | (with_reducible refine Kd.C_drewN ?_ _) | (with_reducible refine Kd.C_drew ?_))); (case side4 => exact HC0_1.out); (case side5 => repeat (first | exact (Kd.C_below HR1.out HB.out) | (with_reducible refine Kd.C_alloc ?_ _) | (with_reducible refine Kd.C_drewN ?_ _) | (with_reducible refine Kd.C_drew ?_))); (case side6 => exact HC1.out); (case side7 => exact gv_below HG.out (bw3 HB GE250 GE254 GE258)); rintro e w37 ⟨v260, rfl, ho0, hb⟩; refine ⟨_, rfl, ?_⟩; have n0_ := Aside0.mk (Kd.V_lower (Kd.V_mono (ok' := fun k_ => k_ ≠ gb250 ∧ k_ ≠ gb254 ∧ k_ ≠ gb258) ho0 (fun k_ hk_ => ⟨(Kd.freshB (g := gb250) (o := .cells #[.slice A0_0 l0_0.length c0_0, .slice A0_1 l0_1.length c0_1, .int .i64 a0_2] 25 (0, 0)) (bm BK250) k_ hk_), (Kd.freshB (g := gb254) (o := .cells #[.int .i64 t251, .int .i64 t252] 40 (0, 0)) (bm BK254) k_ hk_), (Kd.freshB (g := gb258) (o := .cells #[.int .i64 t255, .int .i64 t256] 40 (0, 0)) (bm BK258) k_ hk_)⟩)) (below_size (bw3 HB GE250 GE254 GE258))); have n1_ := Aside0.mk (blk_below (bm BK250) hb); have n2_ := Aside0.mk (blk_below (bm BK254) hb); have n3_ := Aside0.mk (blk_below (bm BK258) hb); have n4_ := Aside0.mk (below_step (bw3 HB GE250 GE254 GE258) hb); clear BK250; clear BK254; clear BK258; clear HB; have HO261 := n0_; have BK250 := n1_; have BK254 := n2_; have BK258 := n3_; have HB := n4_; clear n0_ n1_ n2_ n3_ n4_; (try clear hb); (try clear hb2); (try clear hk); (try clear hi); (try clear ho0); obtain ⟨hcz38_0, hcz38_1, hcz38_2, hfz38_0, hfz38_1, hfz38_2⟩ := b3 BK250) | ((with_reducible refine gate_callee (f := 28) rfl ?_); refine gL (some 46) Tryd.func28 #[.agg #[.slice A0_0 l0_0.length c0_0, .slice A0_1 l0_1.length c0_1, .int .i64 a0_2], .slice A1 l1.length c1] ?_; (with_reducible refine (macadamref04_Mended.calls kj5 _ _ l0_0 _ _ l0_1 a0_2 _ _ l1 t263 t266 _ ?side1 ?side2 ?side3 ?side4 ?side5 ?side6 A32.out).mono ?_); (case side1 => repeat (first | exact (Kd.C_below HR0_0.out HB.out) | (with_reducible refine Kd.C_alloc ?_ _) | (with_reducible refine Kd.C_drewN ?_ _) | (with_reducible refine Kd.C_drew ?_))); (case side2 => exact HC0_0.out); (case side3 => repeat (first | exact (Kd.C_below HR0_1.out HB.out) | (with_reducible refine Kd.C_alloc ?_ _) | (with_reducible refine Kd.C_drewN ?_ _) | (with_reducible refine Kd.C_drew ?_))); (case side4 => exact HC0_1.out); (case side5 => repeat (first | exact (Kd.C_below HR1.out HB.out) | (with_reducible refine Kd.C_alloc ?_ _) | (with_reducible refine Kd.C_drewN ?_ _) | (with_reducible refine Kd.C_drew ?_))); (case side6 => exact HC1.out); rintro e w39 ⟨v264, rfl, ho0, hb⟩; refine ⟨_, rfl, ?_⟩; have n0_ := Aside0.mk (Kd.V_elder' (by (with_reducible repeat (first | apply Kd.V_alloc | apply Kd.V_drewN | apply Kd.V_drew)); exact HO261.out) (Kd.R_base ho0) hb); have n1_ := Aside0.mk (Kd.R_lower ho0 (below_size (bw3 HB GE250 GE254 GE258))); have n2_ := Aside0.mk (blk_below (bm BK250) hb); have n3_ := Aside0.mk (blk_below (bm BK254) hb); have n4_ := Aside0.mk (blk_below (bm BK258) hb); have n5_ := Aside0.mk (below_step (bw3 HB GE250 GE254 GE258) hb); clear HO261; clear BK250; clear BK254; clear BK258; clear HB; have HO261 := n0_; have HO265 := n1_; have BK250 := n2_; have BK254 := n3_; have BK258 := n4_; have HB := n5_; clear n0_ n1_ n2_ n3_ n4_ n5_; (try clear hb); (try clear hb2); (try clear hk); (try clear hi); (try clear ho0)))
    (try simp only [Act.put, List.setIfInBounds_toArray, List.set_cons_zero, List.set_cons_succ])
    go_cut [57] (fun v57 wc => ∃ (kq : Nat) (x57_32 : Bool), v57 = .bool x57_32 ∧ Aside0 (macadamlaw04_GangDones.j1 kq l1 x57_32 l0_0 l0_1 a0_2 = some r) ∧ Aside0 (kq ≤ kj5) ∧ Aside0 (wc.heap[gb250]? = some (.cells #[(.slice A0_0 l0_0.length c0_0), (.slice A0_1 l0_1.length c0_1), .int .i64 a0_2] 25 (0, 0))) ∧ Aside0 (wc.heap[gb254]? = some (.cells #[.int .i64 t251, .int .i64 t252] 40 (0, 0))) ∧ Aside0 (wc.heap[gb258]? = some (.cells #[.int .i64 t255, .int .i64 t256] 40 (0, 0))) ∧ Aside0 (Below w.heap.size w wc))
    case first =>
     have H := HC33.out
     clear HC33
     replace H := Option.bind_eq_some_iff.mp H
     obtain ⟨t267, A400, H⟩ := H
     replace H : (if t267 = true then (macadamlaw04_GangDones.j1 kj5 l1 (t262 != t266) l0_0 l0_1 a0_2) else (macadamlaw04_GangDones.j1 kj5 l1 true l0_0 l0_1 a0_2)) = some r := H
     have A40 := Aside0.mk A400
     clear A400
     by_cases c41 : t267 = true
     ·subst c41
      have H1 : (macadamlaw04_GangDones.j1 kj5 l1 (t262 != t266) l0_0 l0_1 a0_2) = some r := by rw [if_pos rfl] at H; exact H
      clear H
      have H := H1
      clear H1
      have H' := Aside0.mk H
      clear H
      obtain ⟨Ao42, co42, eo42⟩ := Kd.V_slice HO261.out
      subst eo42
      obtain ⟨Ao43, co43, eo43⟩ := Kd.R_slice HO265.out
      subst eo43
      go_wp2_with (first | ((with_reducible refine gate_callee (f := 17) rfl ?_); refine gL (some 51) Tryd.func17 #[.slice Ao42 t259.length co42, .slice Ao43 t263.length co43] ?_; (with_reducible refine (macadamref00_Like.calls kj5 _ _ t259 _ _ t263 true _ ?side1 ?side2 ?side3 ?side4 A40.out).mono ?_); (case side1 => repeat (first | exact (Kd.V_reads' HO261.out).2.2 | (with_reducible refine Kd.C_alloc ?_ _) | (with_reducible refine Kd.C_drewN ?_ _) | (with_reducible refine Kd.C_drew ?_))); (case side2 => exact (Kd.V_reads' HO261.out).2.1); (case side3 => repeat (first | exact (Kd.R_reads' HO265.out).2.2 | (with_reducible refine Kd.C_alloc ?_ _) | (with_reducible refine Kd.C_drewN ?_ _) | (with_reducible refine Kd.C_drew ?_))); (case side4 => exact (Kd.R_reads' HO265.out).2.1); rintro e w' ⟨rfl, ⟨nd, rfl⟩⟩; refine ⟨_, rfl, ?_⟩))
      go_meet
      case rel => exact ⟨_, ((t262 != t266)), (by first | rfl | (simp; done) | (simp [*]; done)), H', ⟨by have := HJ5.out; first | omega | exact Nat.le_refl _⟩, ⟨bm BK250⟩, ⟨bm BK254⟩, ⟨bm BK258⟩, ⟨bw3 HB GE250 GE254 GE258⟩⟩
     ·replace c41 := Bool.eq_false_iff.mpr c41
      subst c41
      have H1 : (macadamlaw04_GangDones.j1 kj5 l1 true l0_0 l0_1 a0_2) = some r := by rw [if_neg (show ¬ (false = true) by decide)] at H; exact H
      clear H
      have H := H1
      clear H1
      have H' := Aside0.mk H
      clear H
      obtain ⟨Ao44, co44, eo44⟩ := Kd.V_slice HO261.out
      subst eo44
      obtain ⟨Ao45, co45, eo45⟩ := Kd.R_slice HO265.out
      subst eo45
      go_wp2_with (first | ((with_reducible refine gate_callee (f := 17) rfl ?_); refine gL (some 51) Tryd.func17 #[.slice Ao44 t259.length co44, .slice Ao45 t263.length co45] ?_; (with_reducible refine (macadamref00_Like.calls kj5 _ _ t259 _ _ t263 false _ ?side1 ?side2 ?side3 ?side4 A40.out).mono ?_); (case side1 => repeat (first | exact (Kd.V_reads' HO261.out).2.2 | (with_reducible refine Kd.C_alloc ?_ _) | (with_reducible refine Kd.C_drewN ?_ _) | (with_reducible refine Kd.C_drew ?_))); (case side2 => exact (Kd.V_reads' HO261.out).2.1); (case side3 => repeat (first | exact (Kd.R_reads' HO265.out).2.2 | (with_reducible refine Kd.C_alloc ?_ _) | (with_reducible refine Kd.C_drewN ?_ _) | (with_reducible refine Kd.C_drew ?_))); (case side4 => exact (Kd.R_reads' HO265.out).2.1); rintro e w' ⟨rfl, ⟨nd, rfl⟩⟩; refine ⟨_, rfl, ?_⟩))
      go_meet
      case rel => exact ⟨_, (true), (by first | rfl | (simp; done) | (simp [*]; done)), H', ⟨by have := HJ5.out; first | omega | exact Nat.le_refl _⟩, ⟨bm BK250⟩, ⟨bm BK254⟩, ⟨bm BK258⟩, ⟨bw3 HB GE250 GE254 GE258⟩⟩
    case rest =>
     clear HC33
     try clear c1
     try clear c2
     try clear p2
     try clear c3
     try clear c4
     try clear c11
     try clear c16
     try clear c17
     try clear c19
     try clear c19b0
     try clear c20
     try clear c21
     try clear c23
     try clear c25
     try clear c26
     try clear c27
     try clear c28
     try clear c30
     try clear c34
     try clear c35
     try clear c41
     try clear hcz12_0
     try clear hcz12_1
     try clear hcz13_0
     try clear hcz13_1
     try clear hcz13_2
     try clear hcz18_0
     try clear hcz18_1
     try clear hcz22_0
     try clear hcz22_1
     try clear hcz24_0
     try clear hcz24_1
     try clear hcz27_0
     try clear hcz27_1
     try clear hcz29_0
     try clear hcz29_1
     try clear hcz36_0
     try clear hcz36_1
     try clear hcz36_2
     try clear hcz38_0
     try clear hcz38_1
     try clear hcz38_2
     try clear hcz8_0
     try clear hcz8_1
     try clear hcz8_2
     try clear hfz12_0
     try clear hfz12_1
     try clear hfz13_0
     try clear hfz13_1
     try clear hfz13_2
     try clear hfz18_0
     try clear hfz18_1
     try clear hfz22_0
     try clear hfz22_1
     try clear hfz24_0
     try clear hfz24_1
     try clear hfz27_0
     try clear hfz27_1
     try clear hfz29_0
     try clear hfz29_1
     try clear hfz36_0
     try clear hfz36_1
     try clear hfz36_2
     try clear hfz38_0
     try clear hfz38_1
     try clear hfz38_2
     try clear hfz8_0
     try clear hfz8_1
     try clear hfz8_2
     try clear p2
     obtain ⟨kq, x57_32, rfl, HA, HJ32, BK250, BK254, BK258, HB⟩ := hcut
     cases kq with
     | zero => exact absurd HA.out (by simp [macadamlaw04_GangDones.j1])
     | succ kj32 =>
      have H := HA.out
      clear HA
      simp only [macadamlaw04_GangDones.j1] at H
      by_cases c46 : x57_32 = true
      ·subst c46
       have H1 : (some false) = some r := by rw [if_pos rfl] at H; exact H
       clear H
       have H := H1
       clear H1
       obtain rfl := Option.some.inj H
       go_wp2
       go_ret
       exact ⟨by first | rfl | (simp [errW_none, errW_some] <;> rfl) | (simp [*, errW_none, errW_some] <;> rfl), bw3 HB GE250 GE254 GE258⟩
      ·replace c46 := Bool.eq_false_iff.mpr c46
       subst c46
       have H1 : ((gang_Open.f l0_0 l0_1 a0_2 l1).bind fun bt268 => ((macadamref04_Open.f kj32 l0_0 l0_1 a0_2 l1).bind fun bt270 => (if bt268.1 = bt270.1 then (if bt268.2 = bt270.2 then ((macadamlaw04_shovelled.f).bind fun t272 => (some t272)) else (some false)) else (some false)))) = some r := by rw [if_neg (show ¬ (false = true) by decide)] at H; exact H
       clear H
       have H := H1
       clear H1
       replace H := Option.bind_eq_some_iff.mp H
       obtain ⟨⟨t268, t269⟩, A470, H⟩ := H
       replace H : ((macadamref04_Open.f kj32 l0_0 l0_1 a0_2 l1).bind fun bt270 => (if t268 = bt270.1 then (if t269 = bt270.2 then ((macadamlaw04_shovelled.f).bind fun t272 => (some t272)) else (some false)) else (some false))) = some r := H
       have A47 := Aside0.mk A470
       clear A470
       replace H := Option.bind_eq_some_iff.mp H
       obtain ⟨⟨t270, t271⟩, A480, H⟩ := H
       replace H : (if t268 = t270 then (if t269 = t271 then ((macadamlaw04_shovelled.f).bind fun t272 => (some t272)) else (some false)) else (some false)) = some r := H
       have A48 := Aside0.mk A480
       clear A480
       by_cases c49 : t268 = t270
       ·rw [if_pos c49] at H
        have c49b0 : (t268 == t270) = true := beq_iff_eq.mpr c49
        have c49b1 : (t268 != t270) = false := bne_eq_false_iff_eq.mpr c49
        clear c49
        by_cases c50 : t269 = t271
        ·rw [if_pos c50] at H
         have c50b0 : (t269 == t271) = true := beq_iff_eq.mpr c50
         have c50b1 : (t269 != t271) = false := bne_eq_false_iff_eq.mpr c50
         clear c50
         replace H := Option.bind_eq_some_iff.mp H
         obtain ⟨t272, A510, H⟩ := H
         replace H : (some t272) = some r := H
         have A51 := Aside0.mk A510
         clear A510
         obtain rfl := Option.some.inj H
         have hnb52 := NB250_254.out
         have hnc52 := NB254_250.out
         have hnb53 := NB250_258.out
         have hnc53 := NB258_250.out
         obtain ⟨hcz54_0, hcz54_1, hcz54_2, hfz54_0, hfz54_1, hfz54_2⟩ := b3 BK250
         go_wp2_with (first | ((with_reducible refine gate_callee (f := 29) rfl ?_); refine gL (some 61) Tryd.func29 #[.agg #[.slice A0_0 l0_0.length c0_0, .slice A0_1 l0_1.length c0_1, .int .i64 a0_2], .slice A1 l1.length c1] ?_; (with_reducible refine (gang_Open.calls _ _ l0_0 _ _ l0_1 a0_2 _ _ l1 t268 t269 _ ?side1 ?side2 ?side3 ?side4 ?side5 ?side6 ?side7 A47.out).mono ?_); (case side1 => repeat (first | exact (Kd.C_below HR0_0.out HB.out) | (with_reducible refine Kd.C_alloc ?_ _) | (with_reducible refine Kd.C_drewN ?_ _) | (with_reducible refine Kd.C_drew ?_))); (case side2 => exact HC0_0.out); (case side3 => repeat (first | exact (Kd.C_below HR0_1.out HB.out) | (with_reducible refine Kd.C_alloc ?_ _) | (with_reducible refine Kd.C_drewN ?_ _) | (with_reducible refine Kd.C_drew ?_))); (case side4 => exact HC0_1.out); (case side5 => repeat (first | exact (Kd.C_below HR1.out HB.out) | (with_reducible refine Kd.C_alloc ?_ _) | (with_reducible refine Kd.C_drewN ?_ _) | (with_reducible refine Kd.C_drew ?_))); (case side6 => exact HC1.out); (case side7 => exact gv_below HG.out (bw3 HB GE250 GE254 GE258)); rintro e w55 ⟨rfl, hb⟩; refine ⟨_, rfl, ?_⟩; have n0_ := Aside0.mk (blk_below (bm BK250) hb); have n1_ := Aside0.mk (blk_below (bm BK254) hb); have n2_ := Aside0.mk (blk_below (bm BK258) hb); have n3_ := Aside0.mk (below_step (bw3 HB GE250 GE254 GE258) hb); clear BK250; clear BK254; clear BK258; clear HB; have BK250 := n0_; have BK254 := n1_; have BK258 := n2_; have HB := n3_; clear n0_ n1_ n2_ n3_; (try clear hb); (try clear hb2); (try clear hk); (try clear hi); obtain ⟨hcz56_0, hcz56_1, hcz56_2, hfz56_0, hfz56_1, hfz56_2⟩ := b3 BK250) | ((with_reducible refine gate_callee (f := 30) rfl ?_); refine gL (some 67) Tryd.func30 #[.agg #[.slice A0_0 l0_0.length c0_0, .slice A0_1 l0_1.length c0_1, .int .i64 a0_2], .slice A1 l1.length c1] ?_; (with_reducible refine (macadamref04_Open.calls kj32 _ _ l0_0 _ _ l0_1 a0_2 _ _ l1 t270 t271 _ ?side1 ?side2 ?side3 ?side4 ?side5 ?side6 A48.out).mono ?_); (case side1 => repeat (first | exact (Kd.C_below HR0_0.out HB.out) | (with_reducible refine Kd.C_alloc ?_ _) | (with_reducible refine Kd.C_drewN ?_ _) | (with_reducible refine Kd.C_drew ?_))); (case side2 => exact HC0_0.out); (case side3 => repeat (first | exact (Kd.C_below HR0_1.out HB.out) | (with_reducible refine Kd.C_alloc ?_ _) | (with_reducible refine Kd.C_drewN ?_ _) | (with_reducible refine Kd.C_drew ?_))); (case side4 => exact HC0_1.out); (case side5 => repeat (first | exact (Kd.C_below HR1.out HB.out) | (with_reducible refine Kd.C_alloc ?_ _) | (with_reducible refine Kd.C_drewN ?_ _) | (with_reducible refine Kd.C_drew ?_))); (case side6 => exact HC1.out); rintro e w57 ⟨rfl, hb⟩; refine ⟨_, rfl, ?_⟩; have n0_ := Aside0.mk (blk_below (bm BK250) hb); have n1_ := Aside0.mk (blk_below (bm BK254) hb); have n2_ := Aside0.mk (blk_below (bm BK258) hb); have n3_ := Aside0.mk (below_step (bw3 HB GE250 GE254 GE258) hb); clear BK250; clear BK254; clear BK258; clear HB; have BK250 := n0_; have BK254 := n1_; have BK258 := n2_; have HB := n3_; clear n0_ n1_ n2_ n3_; (try clear hb); (try clear hb2); (try clear hk); (try clear hi)) | (go_at_call 24; (with_reducible refine (macadamlaw04_shovelled.calls  t272 _ ?side1 A51.out).mono ?_); (case side1 => exact gv_below HG.out (bw3 HB GE250 GE254 GE258)); rintro e w58 ⟨rfl, hb⟩; have n0_ := Aside0.mk (blk_below (bm BK250) hb); have n1_ := Aside0.mk (blk_below (bm BK254) hb); have n2_ := Aside0.mk (blk_below (bm BK258) hb); have n3_ := Aside0.mk (below_step (bw3 HB GE250 GE254 GE258) hb); clear BK250; clear BK254; clear BK258; clear HB; have BK250 := n0_; have BK254 := n1_; have BK258 := n2_; have HB := n3_; clear n0_ n1_ n2_ n3_; (try clear hb); (try clear hb2); (try clear hk); (try clear hi)))
         go_ret
         exact ⟨by first | rfl | (simp [errW_none, errW_some] <;> rfl) | (simp [*, errW_none, errW_some] <;> rfl), bw3 HB GE250 GE254 GE258⟩
        ·rw [if_neg c50] at H
         have c50b0 : (t269 == t271) = false := beq_eq_false_iff_ne.mpr c50
         have c50b1 : (t269 != t271) = true := bne_iff_ne.mpr c50
         obtain rfl := Option.some.inj H
         have hnb59 := NB250_254.out
         have hnc59 := NB254_250.out
         have hnb60 := NB250_258.out
         have hnc60 := NB258_250.out
         obtain ⟨hcz61_0, hcz61_1, hcz61_2, hfz61_0, hfz61_1, hfz61_2⟩ := b3 BK250
         go_wp2_with (first | ((with_reducible refine gate_callee (f := 29) rfl ?_); refine gL (some 61) Tryd.func29 #[.agg #[.slice A0_0 l0_0.length c0_0, .slice A0_1 l0_1.length c0_1, .int .i64 a0_2], .slice A1 l1.length c1] ?_; (with_reducible refine (gang_Open.calls _ _ l0_0 _ _ l0_1 a0_2 _ _ l1 t268 t269 _ ?side1 ?side2 ?side3 ?side4 ?side5 ?side6 ?side7 A47.out).mono ?_); (case side1 => repeat (first | exact (Kd.C_below HR0_0.out HB.out) | (with_reducible refine Kd.C_alloc ?_ _) | (with_reducible refine Kd.C_drewN ?_ _) | (with_reducible refine Kd.C_drew ?_))); (case side2 => exact HC0_0.out); (case side3 => repeat (first | exact (Kd.C_below HR0_1.out HB.out) | (with_reducible refine Kd.C_alloc ?_ _) | (with_reducible refine Kd.C_drewN ?_ _) | (with_reducible refine Kd.C_drew ?_))); (case side4 => exact HC0_1.out); (case side5 => repeat (first | exact (Kd.C_below HR1.out HB.out) | (with_reducible refine Kd.C_alloc ?_ _) | (with_reducible refine Kd.C_drewN ?_ _) | (with_reducible refine Kd.C_drew ?_))); (case side6 => exact HC1.out); (case side7 => exact gv_below HG.out (bw3 HB GE250 GE254 GE258)); rintro e w62 ⟨rfl, hb⟩; refine ⟨_, rfl, ?_⟩; have n0_ := Aside0.mk (blk_below (bm BK250) hb); have n1_ := Aside0.mk (blk_below (bm BK254) hb); have n2_ := Aside0.mk (blk_below (bm BK258) hb); have n3_ := Aside0.mk (below_step (bw3 HB GE250 GE254 GE258) hb); clear BK250; clear BK254; clear BK258; clear HB; have BK250 := n0_; have BK254 := n1_; have BK258 := n2_; have HB := n3_; clear n0_ n1_ n2_ n3_; (try clear hb); (try clear hb2); (try clear hk); (try clear hi); obtain ⟨hcz63_0, hcz63_1, hcz63_2, hfz63_0, hfz63_1, hfz63_2⟩ := b3 BK250) | ((with_reducible refine gate_callee (f := 30) rfl ?_); refine gL (some 67) Tryd.func30 #[.agg #[.slice A0_0 l0_0.length c0_0, .slice A0_1 l0_1.length c0_1, .int .i64 a0_2], .slice A1 l1.length c1] ?_; (with_reducible refine (macadamref04_Open.calls kj32 _ _ l0_0 _ _ l0_1 a0_2 _ _ l1 t270 t271 _ ?side1 ?side2 ?side3 ?side4 ?side5 ?side6 A48.out).mono ?_); (case side1 => repeat (first | exact (Kd.C_below HR0_0.out HB.out) | (with_reducible refine Kd.C_alloc ?_ _) | (with_reducible refine Kd.C_drewN ?_ _) | (with_reducible refine Kd.C_drew ?_))); (case side2 => exact HC0_0.out); (case side3 => repeat (first | exact (Kd.C_below HR0_1.out HB.out) | (with_reducible refine Kd.C_alloc ?_ _) | (with_reducible refine Kd.C_drewN ?_ _) | (with_reducible refine Kd.C_drew ?_))); (case side4 => exact HC0_1.out); (case side5 => repeat (first | exact (Kd.C_below HR1.out HB.out) | (with_reducible refine Kd.C_alloc ?_ _) | (with_reducible refine Kd.C_drewN ?_ _) | (with_reducible refine Kd.C_drew ?_))); (case side6 => exact HC1.out); rintro e w64 ⟨rfl, hb⟩; refine ⟨_, rfl, ?_⟩; have n0_ := Aside0.mk (blk_below (bm BK250) hb); have n1_ := Aside0.mk (blk_below (bm BK254) hb); have n2_ := Aside0.mk (blk_below (bm BK258) hb); have n3_ := Aside0.mk (below_step (bw3 HB GE250 GE254 GE258) hb); clear BK250; clear BK254; clear BK258; clear HB; have BK250 := n0_; have BK254 := n1_; have BK258 := n2_; have HB := n3_; clear n0_ n1_ n2_ n3_; (try clear hb); (try clear hb2); (try clear hk); (try clear hi)))
         go_ret
         exact ⟨by first | rfl | (simp [errW_none, errW_some] <;> rfl) | (simp [*, errW_none, errW_some] <;> rfl), bw3 HB GE250 GE254 GE258⟩
       ·rw [if_neg c49] at H
        have c49b0 : (t268 == t270) = false := beq_eq_false_iff_ne.mpr c49
        have c49b1 : (t268 != t270) = true := bne_iff_ne.mpr c49
        obtain rfl := Option.some.inj H
        have hnb65 := NB250_254.out
        have hnc65 := NB254_250.out
        have hnb66 := NB250_258.out
        have hnc66 := NB258_250.out
        obtain ⟨hcz67_0, hcz67_1, hcz67_2, hfz67_0, hfz67_1, hfz67_2⟩ := b3 BK250
        go_wp2_with (first | ((with_reducible refine gate_callee (f := 29) rfl ?_); refine gL (some 61) Tryd.func29 #[.agg #[.slice A0_0 l0_0.length c0_0, .slice A0_1 l0_1.length c0_1, .int .i64 a0_2], .slice A1 l1.length c1] ?_; (with_reducible refine (gang_Open.calls _ _ l0_0 _ _ l0_1 a0_2 _ _ l1 t268 t269 _ ?side1 ?side2 ?side3 ?side4 ?side5 ?side6 ?side7 A47.out).mono ?_); (case side1 => repeat (first | exact (Kd.C_below HR0_0.out HB.out) | (with_reducible refine Kd.C_alloc ?_ _) | (with_reducible refine Kd.C_drewN ?_ _) | (with_reducible refine Kd.C_drew ?_))); (case side2 => exact HC0_0.out); (case side3 => repeat (first | exact (Kd.C_below HR0_1.out HB.out) | (with_reducible refine Kd.C_alloc ?_ _) | (with_reducible refine Kd.C_drewN ?_ _) | (with_reducible refine Kd.C_drew ?_))); (case side4 => exact HC0_1.out); (case side5 => repeat (first | exact (Kd.C_below HR1.out HB.out) | (with_reducible refine Kd.C_alloc ?_ _) | (with_reducible refine Kd.C_drewN ?_ _) | (with_reducible refine Kd.C_drew ?_))); (case side6 => exact HC1.out); (case side7 => exact gv_below HG.out (bw3 HB GE250 GE254 GE258)); rintro e w68 ⟨rfl, hb⟩; refine ⟨_, rfl, ?_⟩; have n0_ := Aside0.mk (blk_below (bm BK250) hb); have n1_ := Aside0.mk (blk_below (bm BK254) hb); have n2_ := Aside0.mk (blk_below (bm BK258) hb); have n3_ := Aside0.mk (below_step (bw3 HB GE250 GE254 GE258) hb); clear BK250; clear BK254; clear BK258; clear HB; have BK250 := n0_; have BK254 := n1_; have BK258 := n2_; have HB := n3_; clear n0_ n1_ n2_ n3_; (try clear hb); (try clear hb2); (try clear hk); (try clear hi); obtain ⟨hcz69_0, hcz69_1, hcz69_2, hfz69_0, hfz69_1, hfz69_2⟩ := b3 BK250) | ((with_reducible refine gate_callee (f := 30) rfl ?_); refine gL (some 67) Tryd.func30 #[.agg #[.slice A0_0 l0_0.length c0_0, .slice A0_1 l0_1.length c0_1, .int .i64 a0_2], .slice A1 l1.length c1] ?_; (with_reducible refine (macadamref04_Open.calls kj32 _ _ l0_0 _ _ l0_1 a0_2 _ _ l1 t270 t271 _ ?side1 ?side2 ?side3 ?side4 ?side5 ?side6 A48.out).mono ?_); (case side1 => repeat (first | exact (Kd.C_below HR0_0.out HB.out) | (with_reducible refine Kd.C_alloc ?_ _) | (with_reducible refine Kd.C_drewN ?_ _) | (with_reducible refine Kd.C_drew ?_))); (case side2 => exact HC0_0.out); (case side3 => repeat (first | exact (Kd.C_below HR0_1.out HB.out) | (with_reducible refine Kd.C_alloc ?_ _) | (with_reducible refine Kd.C_drewN ?_ _) | (with_reducible refine Kd.C_drew ?_))); (case side4 => exact HC0_1.out); (case side5 => repeat (first | exact (Kd.C_below HR1.out HB.out) | (with_reducible refine Kd.C_alloc ?_ _) | (with_reducible refine Kd.C_drewN ?_ _) | (with_reducible refine Kd.C_drew ?_))); (case side6 => exact HC1.out); rintro e w70 ⟨rfl, hb⟩; refine ⟨_, rfl, ?_⟩; have n0_ := Aside0.mk (blk_below (bm BK250) hb); have n1_ := Aside0.mk (blk_below (bm BK254) hb); have n2_ := Aside0.mk (blk_below (bm BK258) hb); have n3_ := Aside0.mk (below_step (bw3 HB GE250 GE254 GE258) hb); clear BK250; clear BK254; clear BK258; clear HB; have BK250 := n0_; have BK254 := n1_; have BK258 := n2_; have HB := n3_; clear n0_ n1_ n2_ n3_; (try clear hb); (try clear hb2); (try clear hk); (try clear hi)))
        go_ret
        exact ⟨by first | rfl | (simp [errW_none, errW_some] <;> rfl) | (simp [*, errW_none, errW_some] <;> rfl), bw3 HB GE250 GE254 GE258⟩
end Go.Proofs.YtikfghnkbgdbgaaDoor.Q
end
section
namespace Go.Proofs.YtikfghnkbgdbgaaDoor.Q
set_option linter.unusedSimpArgs false
set_option linter.unusedVariables false
open Go.RowKit Go.Proofs.YtikfghnkbgdbgaaDoorW.PrintWords Go.Proofs.YtikfghnkbgdbgaaDoorW.PrintLast Go.Proofs.YtikfghnkbgdbgaaDoorW.PrintMore
theorem gangDones_pure (ms : List M) (gs : List G) (n : Int) (ok0 : OkBook ms gs n) (p : List Wk) (ok1 : OkWorks p) (z : p.length * 24 ≤ 140737488351232) (m : Int) (_ok2 : (Lit.int .i64 m).wf = true) :
    ∃ k, macadamlaw04_GangDones.f k ms gs n p m = some true := by
  have hm : ms.length ≤ 9223372036854775807 := ok0.1.1
  have hg : gs.length ≤ 9223372036854775807 := ok0.2.1.1
  obtain ⟨r1, e1, v1⟩ := rDone_ev ms gs n p m hm hg z ok1.nights
  obtain ⟨r2, e2, l2, v2⟩ := rMended_ev ms gs n p hm hg z ok1.nights
  obtain ⟨r3, e3, v3⟩ := rOpen_ev ms gs n p hm hg z ok1.nights
  refine Ev.rounds ?_
  unfold macadamlaw04_GangDones.f
  refine Ev.bind (Ev.some e1) (Ev.bind v1 (Ev.neg (by simp) ?_))
  refine Ev.step (fun k => by simp only [macadamlaw04_GangDones.j0]; rfl) ?_
  refine Ev.neg (by simp) (Ev.bind (Ev.some e2) (Ev.bind v2 (Ev.bind (like_same _ (by omega)) (Ev.pos rfl ?_))))
  refine Ev.step (fun k => by simp only [macadamlaw04_GangDones.j1]; rfl) ?_
  exact Ev.neg (by simp) (Ev.bind (Ev.some e3) (Ev.bind v3 (Ev.pos rfl (Ev.pos rfl (Ev.some rfl)))))
end Go.Proofs.YtikfghnkbgdbgaaDoor.Q
end
section
namespace Go.Proofs.YtikfghnkbgdbgaaDoor.Q
open Go.ChangeShapes Go.WideShapes Go.ChangeAt Go.RowKit
set_option linter.unusedVariables false
set_option maxRecDepth 100000 in
theorem gangDones_lifted (os : Os) (started : os.Started) (H : Type) (enc : TypeId × Value → H) :
    ReturnsInHanded {} Tryd.checked os 4 .any (fun w args => (Rows.gangDonesSpec.pre enc Tryd.prog Tryd.f4 [] false w args ∧ laidMetH Tryd.prog laidV w) ∧ sizedMet enc Tryd.prog Tryd.f4 (OpenSpec.ofChange Rows.gangDonesSpec) false w args)
      (Rows.gangDonesSpec.post enc Tryd.prog Tryd.f4 false true false false) := by
  refine returnsInHanded_of_change_and (C := Tryd.checked) (X := fun w _ => laidMetH Tryd.prog laidV w) (fun _ _ _ hh h => h.of_heap hh) ownK started (by kernel_rfl) Tryd.func4
    (ChangeSpec.witness_shaped (enc := enc) (C := Tryd.checked) (os := os) (X := fun w _ => laidMetH Tryd.prog laidV w) false (World.doorLaid Tryd.prog 19 os) #[.agg #[.slice none 0 0, .slice none 0 0, .int .i64 0], .slice none 0 0, .int .i64 0] 8 rfl (World.shaped_of_RefB (by kernel_rfl) (by kernel_rfl)) (by kernel_rfl) (by kernel_rfl) (by kernel_rfl) (door_met os _)) ?_
  intro W base args ds gs before hval0 hW _ hsz0 hL _
  have hval : ∀ (j : Nat) t v, Tryd.f4.params[j]? = some t → args[j]? = some v → Value.okWide Tryd.prog W .any base t v := hval0
  have hsz : (DataW.weightsEach Tryd.prog (Tryd.f4.params.toList ++ Rows.gangDonesSpec.plain.varTypes Tryd.prog) (ds ++ gs)).all (· ≤ reachBytes) = true := hsz0
  have hW' := hW
  obtain ⟨p, q, hA0, hV, rfl, hfz, hnd⟩ := hW
  have hA : DataW.TrodAll enc Tryd.prog W 0 (fun _ => true) true Tryd.f4.params.toList args.toList ds p := hA0
  rw [Tryd.params4] at hA hval hsz
  obtain ⟨v0, vs0, d0, ds0, p0, q0, hargs, rfl, rfl, h0, r0⟩ := trodAll_cons hA
  obtain ⟨v1, vs1, d1, ds1, p1, q1, rfl, rfl, rfl, h1, r1⟩ := trodAll_cons r0
  obtain ⟨v2, vs2, d2, ds2, p2, q2, rfl, rfl, rfl, h2, r2⟩ := trodAll_cons r1
  obtain ⟨rfl, rfl, rfl⟩ := trodAll_nil r2
  obtain rfl : args = #[v0, v1, v2] := by cases args; simp_all
  obtain ⟨rfl, rfl⟩ := trodVars_none hV
  have lt0 : ∀ x ∈ p0, x.block < W.heap.size := by obtain ⟨m, hm⟩ := h0; exact DataW.trod_lt m _ _ _ hm
  obtain ⟨y0, K0, ok0⟩ := opens_book.arg h0
  obtain ⟨A0_0, c0_0, A0_1, c0_1, e0, hc0_0, hr0_0, hc0_1, hr0_1⟩ := k25_open K0
  obtain rfl := cells_many e0
  have lt1 : ∀ x ∈ p1, x.block < W.heap.size := by obtain ⟨m, hm⟩ := h1; exact DataW.trod_lt m _ _ _ hm
  obtain ⟨a1, len1, cap1, rfl⟩ := okWide_slice Tryd.underlying26 (hval 1 26 v1 rfl rfl)
  have z1 : len1 * 24 ≤ 140737488351232 := sized_any hsz (j := 1) (t := 26) rfl rfl Tryd.underlying26 (by kernel_rfl) h1
  obtain ⟨y1, K1, ok1⟩ := opens_works.arg h1
  obtain ⟨A1, c1, e1, hc1, hr1⟩ := K1
  simp only [Value.cells, List.cons.injEq, Value.slice.injEq, and_true] at e1
  obtain ⟨rfl, rfl, rfl⟩ := e1
  have lt2 : ∀ x ∈ p2, x.block < W.heap.size := by obtain ⟨m, hm⟩ := h2; exact DataW.trod_lt m _ _ _ hm
  have h2k := h2
  obtain ⟨a2, rfl, rfl, rfl, w2⟩ := open_int Tryd.underlying3 (hval 2 3 v2 rfl rfl) h2
  have hG := gv_of_laid hL
  obtain ⟨k_, h_⟩ := gangDones_pure y0.f0 y0.f1 y0.f2 ok0 y1 ok1 z1 a2 w2
  clear hA0 hval0 hsz0 hsz
  refine (macadamlaw04_GangDones.calls k_ A0_0 c0_0 y0.f0 A0_1 c0_1 y0.f1 y0.f2 _ _ y1 a2 true W hr0_0 hc0_0 hr0_1 hc0_1 hr1 hc1 hG h_).mono fun e W' ⟨he, bel⟩ => ?_
  subst he
  exact ⟨_, rfl, _, _, _, [], _, [], hW', trodAll_mk1 (shut_bool Tryd.underlying4 _), (trodAll_cons_mk (Below.trod laidOut (by kernel_rfl) (of_decide_eq_true (by kernel_rfl)) h0 bel lt0) (trodAll_cons_mk (Below.trod laidOut (by kernel_rfl) (of_decide_eq_true (by kernel_rfl)) h1 bel lt1) (trodAll_cons_mk (shut_int Tryd.underlying3 w2) trodAll_mk0))), rfl, bel.frame _, fun h => by cases h⟩
theorem gangDones_over : Rows.gangDonesRow.holds Tryd.pinned (OpenSpec.ofChange Rows.gangDonesSpec) :=
  OpenClaim.holds_of_wide 4 Tryd.f4 rfl rfl rfl rfl rfl rfl rfl ⟨rfl, rfl, rfl, rfl, rfl⟩ rfl rfl rfl rfl rfl (by kernel_rfl) Tryd.func4 (by kernel_rfl)
    (of_decide_eq_true (by kernel_rfl)) (by unfold Func.isWrapper; first | (rw [if_pos (by decide +kernel)]; kernel_rfl) | (rw [if_neg (by decide +kernel)]; exact ⟨rfl, rfl⟩))
    (fun os started H enc _ => gangDones_lifted os started H enc)
end Go.Proofs.YtikfghnkbgdbgaaDoor.Q
namespace Go.Proofs.YtikfghnkbgdbgaaDoor
set_option maxRecDepth 100000 in
/-- THE CARD. -/
theorem gangDones_holds : Rows.GangDonesCardSaid :=
  Claim7.holds_tied_plain_at .later [] [.data, .funcs] true (true, "88f50df5e688c53fcba80ffbc790cc1082a54a252ac4bc190e21b1a8f43ba8e5") false
    Q.gangDones_over (fun _ h => by cases h) (by kernel_rfl) (fun _ h => by cases h) gangDones_row_tie rfl ⟨rfl, rfl⟩ (by kernel_rfl) rfl
    (fun f fn hf hfn => by
      obtain rfl : f = 4 := Option.some.inj ((show Tryd.prog.funcNamed "macadam/macadamlaw04.GangDones" = some 4 by kernel_rfl).symm.trans hf) |>.symm
      obtain rfl : fn = Tryd.f4 := (Option.some.inj (Tryd.func4.symm.trans hfn)).symm
      exact ⟨by kernel_rfl, fun j t ht => by
        rw [Tryd.params4] at ht
        have hm : t ∈ [25, 26, 3] := by simpa using Array.mem_of_getElem? ht
        have hall : ([25, 26, 3].all fun u => !Tryd.prog.wantsStandIn u) = true := by kernel_rfl
        exact (show Tryd.prog.wantsStandIn t = false by simpa using List.all_eq_true.1 hall t hm)⟩)
    (by kernel_rfl)
end Go.Proofs.YtikfghnkbgdbgaaDoor
end
