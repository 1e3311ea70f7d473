/- A part of the proof of the statement GangPlans: For any book the statement GangPlans holds: Plan, Most and First return what the chapter says. -/
import Derived.Test.YtikfghnkbgdbgaaDoorZGangPlans2
import Derived.Laws.EntriesVeiled
import Derived.Laws.Cover3
set_option linter.unusedSimpArgs false
set_option linter.unusedVariables false
section
namespace Go.Proofs.YtikfghnkbgdbgaaDoor.Q
set_option linter.unusedSimpArgs false
set_option linter.unusedVariables false
open Go.RowKit Go.Proofs.YtikfghnkbgdbgaaDoorW.PrintWords Go.Proofs.YtikfghnkbgdbgaaDoorW.PrintLast Go.Proofs.YtikfghnkbgdbgaaDoorW.PrintMore
section
variable {w : World} {ms : List M} {gs : List G} {n : Int} {b g gm : Nat} {many : Int} {A0 : Option Addr} {c0 : Nat} {A1 : Option Addr} {c1 : Nat} {S : Nat → Prop} {base l yb nx : Nat} {J : List (List Wk) → World → Prop}
structure Ctx (w : World) (ms : List M) (gs : List G) (n : Int) (b g gm : Nat) (many : Int) (A1 : Option Addr) (S : Nat → Prop) (base l yb nx : Nat) (J : List (List Wk) → World → Prop) : Prop where
  hY : Rounds l 0 w.heap.size base S ms gs n J
  hJ : ∀ pre A B, J pre A → Below A.heap.size A B → J pre B
  hS : ∀ k, base ≤ k → ¬ S k
  hg : ¬ S g
  hb : ¬ S b
  hm : ¬ S gm
  hy : base ≤ yb
  hn : base ≤ nx
  hw : w.heap.size ≤ base
  g1 : 1 ≤ gs.length
  g2 : gs.length ≤ 2
  m4 : many ≤ 4
  n0 : 0 ≤ n
  ml : ms.length ≤ 4
  rd : Kd.C k63 w A1 gs.length gs
  gv : GV w
def X_next : Nat := 0
def X_next.T13 : Bool × List (List Nat × List Nat) := (true, [([], []), ([], []), ([], []), ([], []), ([1, 2, 3], [1, 2, 3]), ([], []), ([5], [5]), ([4, 6], [4, 6]), ([], []), ([], []), ([9], [9]), ([0, 7, 8, 10, 7], [0, 7, 8, 10]), ([11], [11])])
def X_next.B13 : List Nat := [0, 0, 0, 0, 14, 0, 32, 126, 0, 0, 512, 2047, 4095]
theorem X_next.tab13 : rtab .any (opsOf Tryd.f101 13) = X_next.T13 := by kernel_rfl
theorem X_next.bits13 : waitsOk X_next.T13.2 X_next.B13 = true := by kernel_rfl
def NextSays (w : World) (ms : List M) (gs : List G) (n : Int) (b g gm : Nat) (many : Int) (A0 : Option Addr) (c0 : Nat) (A1 : Option Addr) (c1 : Nat) (S : Nat → Prop) (base l yb nx : Nat) (J : List (List Wk) → World → Prop) (s : Nat) : Prop :=
  ∀ (pre : List (List Wk)) (x : List Wk) (night gang : Int) (A : Option Addr) (c : Nat) (W : World), J pre W → Src w W ms gs n b g gm many A0 c0 A1 c1 → Mine W l yb nx g gm →
    0 ≤ gang → gang ≤ gs.length → 0 ≤ night → night * gs.length + gang + s = many * gs.length → (x.length : Int) ≤ night * gs.length + gang → Pr8 ms gs n base x (.slice A x.length c) W →
    Calls Tryd.prog 101 #[.slice A x.length c, .int .i64 night, .int .i64 gang, .pointer (some ⟨g, 0, none⟩), .pointer (some ⟨gm, 0, none⟩), .pointer (some ⟨yb, 0, none⟩), .pointer (some ⟨nx, 0, none⟩)] W fun e W' =>
      e = .returned (.bool true) ∧ J (pre ++ enumP ms gs n many s x) W' ∧ Keeps w.heap.size S W W'
set_option maxRecDepth 100000 in
set_option maxHeartbeats 8000000 in
theorem next_succ (C : Ctx w ms gs n b g gm many A1 S base l yb nx J) (s : Nat) (ih : NextSays w ms gs n b g gm many A0 c0 A1 c1 S base l yb nx J s) : NextSays w ms gs n b g gm many A0 c0 A1 c1 S base l yb nx J (s + 1) := by
  intro pre x night gang A c W hj hs hm h0 h1 h2 he hx8 hx
  have HC := Aside0.mk C
  have IH := Aside0.mk ih
  have HJ := Aside0.mk hj
  have HS := Aside0.mk hs
  have HM := Aside0.mk hm
  have HX := Aside0.mk hx
  obtain ⟨A', c', hv, hlc, hnil, hF, hfair⟩ := hx
  injection hv with hv1 hv2 hv3
  subst hv1 hv3
  have HF := Aside0.mk hF
  have HN := Aside0.mk hnil
  have HFA := Aside0.mk hfair
  clear hv2 hnil hF hfair
  have hb1 := (blk_cell hs.box.box 1).trans rfl
  have hgl := (Array.getElem?_eq_some_iff.1 hs.box.box).1
  have g2 := C.g2
  have m4 := C.m4
  have g1 := C.g1
  have hn1 : night ≤ 4 := by
    have : night * (gs.length : Int) ≤ 4 * gs.length := by have := Int.mul_le_mul_of_nonneg_right m4 (show (0 : Int) ≤ gs.length by omega); omega
    exact Int.le_of_mul_le_mul_right this (by omega)
  clear C ih hj hs hm
  go_enter Tryd.func101, Tryd.ntmps101
  go_wp2
  go_step3
  go_step
  go_cut [1, 2] (fun v1 v2 wc => ∃ N G : Int, v1 = .int .i64 N ∧ v2 = .int .i64 G ∧ 0 ≤ G ∧ G < gs.length ∧ 0 ≤ N ∧ N * gs.length + G + (s + 1) = many * gs.length ∧ (x.length : Int) ≤ N * gs.length + G ∧ W = wc)
  case first =>
    by_cases h : gang = gs.length
    · have hq : (gang == (gs.length : Int)) = true := beq_iff_eq.2 h
      go_wp2
      go_meet
      case rel => exact ⟨night + 1, 0, by first | rfl | (congr 1; unfold wrap64; omega), rfl, by omega, by omega, by omega, by rw [Int.add_mul]; omega, by rw [Int.add_mul]; omega, rfl⟩
    · have hq : (gang == (gs.length : Int)) = false := beq_eq_false_iff_ne.2 h
      go_wp2
      go_meet
      case rel => exact ⟨night, gang, rfl, rfl, h0, by omega, h2, he, hx8, rfl⟩
  case rest =>
    obtain ⟨N, G, rfl, rfl, hG0, hG1, hN0, heq, hx9, rfl⟩ := hcut
    have hlt : N < many := Int.lt_of_mul_lt_mul_right (a := (gs.length : Int)) (by omega) (by omega)
    have hne : (N == many) = false := beq_eq_false_iff_ne.2 (by omega)
    have hb2 := (blk_cell HS.out.mn 0).trans rfl
    have hb3 := (blk_cell HM.out.nx 0).trans rfl
    clear hb1 hgl h0 h1 h2 he hx8 hn1
    go_wp2_with (fail)
    refine (IH.out pre x N (G + 1) A c W HJ.out HS.out HM.out (by omega) (by omega) hN0 (by omega) (by omega) HX.out).mono ?_
    rintro e V1 ⟨rfl, hj1, hk1⟩
    have HJ1 := Aside0.mk hj1
    have HK1 := Aside0.mk hk1
    have HS1 := Aside0.mk (HS.out.keeps hk1 HC.out.hg HC.out.hb HC.out.hm)
    have hb0 := (blk_cell HS1.out.box.box 0).trans rfl
    clear hj1 hk1 hb2 hb3 hne HJ
    go_wp2_with (fail)
    go_step3
    go_wp2_with (fail)
    clear hb0
    have HLT := Aside0.mk hlt
    have ml := HC.out.ml
    have hxl : (x.length : Int) ≤ 7 := by
      have : many * (gs.length : Int) ≤ 4 * gs.length := Int.mul_le_mul_of_nonneg_right m4 (by omega)
      omega
    have hN4 : N < 4 := by omega
    clear hlt
    go_loopw [41] (fun v41 wr => ∃ k : Nat, k ≤ ms.length ∧ v41 = .int .i64 k ∧ Aside0 (J (pre ++ (enumP ms gs n many s x ++ ((upTo (k : Int)).filter (fun m => fitsB ms gs n x ⟨N, G, m⟩)).flatMap (fun m => enumP ms gs n many s (x ++ [⟨N, G, m⟩])))) wr) ∧ Aside0 (Keeps w.heap.size S W wr)) (fun v41 _ => ms.length - (intOf v41).toNat)
    case atStart => exact ⟨0, Nat.zero_le _, rfl, ⟨by simpa [upTo] using HJ1.out⟩, HK1⟩
    case round =>
      obtain ⟨k, hk, rfl, HJr, HKr⟩ := hrel
      by_cases hlt : k < ms.length
      · have HSr := Aside0.mk (HS.out.keeps HKr.out HC.out.hg HC.out.hb HC.out.hm)
        have HMr := Aside0.mk (HM.out.keeps HKr.out (HC.out.hS _ HC.out.hy) (HC.out.hS _ HC.out.hn))
        have hbl := (Below.refl wr.heap.size wr).alloc (Nat.le_refl _) (.cells #[.int .i64 N, .int .i64 G, .int .i64 k] 59)
        have HJ2 := Aside0.mk (HC.out.hJ _ _ _ HJr.out hbl)
        have HK2 := Aside0.mk (HKr.out.step hbl HS.out.box.bel.size)
        have HS2 := Aside0.mk (HSr.out.below hbl)
        have HB2 := Aside0.mk (World.alloc_heap_new wr (.cells #[.int .i64 N, .int .i64 G, .int .i64 k] 59))
        have hk4 : (k : Int) < 4 := by omega
        clear hbl
        go_upto_region 12 with (fail)
        go_cut [76] (fun v76 wc => v76 = .bool (!fitsB ms gs n x ⟨N, G, k⟩) ∧ Aside0 (J (pre ++ (enumP ms gs n many s x ++ ((upTo (k : Int)).filter (fun m => fitsB ms gs n x ⟨N, G, m⟩)).flatMap (fun m => enumP ms gs n many s (x ++ [⟨N, G, m⟩])))) wc) ∧ Aside0 (Keeps w.heap.size S W wc) ∧
          Aside0 (wc.heap[wr.heap.size]? = some (.cells #[.int .i64 N, .int .i64 G, .int .i64 k] 59 (0, 0))))
        case first =>
          have q0 := (blk_cell HS2.out.box.box 0).trans rfl
          have q1 := (blk_cell HS2.out.box.box 1).trans rfl
          have q2 := (blk_cell HS2.out.box.box 2).trans rfl
          have q3 := (blk_cell HS2.out.box.box 3).trans rfl
          have q4 := (blk_cell HB2.out 0).trans rfl
          have q5 := (blk_cell HB2.out 1).trans rfl
          have q6 := (blk_cell HB2.out 2).trans rfl
          go_wp2_with (fail)
          refine (can_calls ms gs A0 c0 A1 c1 n b _ _ _ _ ?s1 HC.out.n0 ?s2 ?s3 g2).mono ?_
          case s1 => exact Kd.C_below HC.out.rd HS2.out.box.bel
          case s2 => exact HS2.out.mp
          case s3 => exact gv_below HC.out.gv HS2.out.box.bel
          rintro e V3 ⟨he, hb⟩
          have HJ3 := Aside0.mk (HC.out.hJ _ _ _ HJ2.out hb)
          have HK3 := Aside0.mk (HK2.out.step hb HS.out.box.bel.size)
          have HB3 := Aside0.mk ((hb.block _ (Array.getElem?_eq_some_iff.1 HB2.out).1).trans HB2.out)
          have HP := Aside0.mk (Kd.F_now (Kd.F_kept HF.out HK3.out.kept HC.out.hS))
          clear hb q0 q1 q2 q3 q4 q5 q6
          cases hc : canB ms gs n ⟨N, G, (k : Int)⟩ with
          | false =>
            rw [hc] at he
            subst he
            have HCF := Aside0.mk hc
            clear hc
            go_wp2
            go_meet
            case rel =>
              refine ⟨?_, HJ3, HK3, HB3⟩
              have : fitsB ms gs n x ⟨N, G, k⟩ = false := by
                cases h : fitsB ms gs n x ⟨N, G, k⟩ with
                | false => rfl
                | true => exact absurd (fits_can h) (by rw [HCF.out]; simp)
              rw [this]; rfl
          | true =>
            rw [hc] at he
            subst he
            have HCF := Aside0.mk hc
            clear hc
            by_cases hxe : x = []
            · subst hxe
              go_wp2
              go_meet
              case rel =>
                refine ⟨?_, HJ3, HK3, HB3⟩
                rw [show fitsB ms gs n [] ⟨N, G, k⟩ = true by rw [fits_nil]; exact HCF.out]; rfl
            · have hxp : 0 < x.length := List.length_pos_iff.2 hxe
              have hx1 : decide (0 < (x.length : Int)) = true := decide_eq_true (by omega)
              have HXE := Aside0.mk hxe
              obtain ⟨ad, hA, hy0, hy1, hy2⟩ := at_T59 HP.out ((x.length : Int) - 1) (by omega) (by omega)
              rw [show ((x.length : Int) - 1).toNat = x.length - 1 by omega] at hy0 hy1 hy2
              clear hxe
              by_cases hyn : (rd_T59 x ((x.length : Int) - 1)).f0 = N
              · have hyq : ((rd_T59 x ((x.length : Int) - 1)).f0 == N) = true := beq_iff_eq.2 hyn
                have HYN := Aside0.mk hyn
                clear hyn
                subst hA
                go_wp2_with (fail)
                have hcy := canB_bounds (can_last HFA.out HXE.out)
                have hwr : wrap64 ((k : Int) - (rd_T59 x ((x.length : Int) - 1)).f2) = (k : Int) - (rd_T59 x ((x.length : Int) - 1)).f2 := by unfold wrap64; omega
                refine (within_calls _ _ _ _ rfl _).mono ?_
                rintro e V4 ⟨rfl, hb⟩
                have HJ4 := Aside0.mk (HC.out.hJ _ _ _ HJ3.out hb)
                have HK4 := Aside0.mk (HK3.out.step hb HS.out.box.bel.size)
                have HB4 := Aside0.mk ((hb.block _ (Array.getElem?_eq_some_iff.1 HB3.out).1).trans HB3.out)
                have HFT := Aside0.mk (show fitsB ms gs n x ⟨N, G, k⟩ = !within (wrap64 ((k : Int) - (rd_T59 x ((x.length : Int) - 1)).f2)) (-1) 1 by rw [hwr, fits_last2 ms gs n x _ HXE.out, HCF.out, HYN.out]; simp)
                clear hb hcy hwr
                go_wp2
                go_meet
                case rel => exact ⟨by rw [HFT.out, Bool.not_not], HJ4, HK4, HB4⟩
              · have hyq : ((rd_T59 x ((x.length : Int) - 1)).f0 == N) = false := beq_eq_false_iff_ne.2 hyn
                have HYN := Aside0.mk hyn
                clear hyn
                subst hA
                go_wp2
                go_meet
                case rel =>
                  refine ⟨?_, HJ3, HK3, HB3⟩
                  rw [show fitsB ms gs n x ⟨N, G, k⟩ = true by rw [fits_last2 ms gs n x _ HXE.out, HCF.out]; simp [HYN.out]]; rfl
        case rest =>
          obtain ⟨rfl, HJ3, HK3, HB3⟩ := hcut
          have HT := Aside0.mk (flat_snoc (fun m => fitsB ms gs n x ⟨N, G, m⟩) (fun m => enumP ms gs n many s (x ++ [⟨N, G, m⟩])) k)
          cases hf : fitsB ms gs n x ⟨N, G, (k : Int)⟩ with
          | false =>
            have HFF := Aside0.mk hf
            clear hf
            go_wp2
            go_roundw
            case rel => exact ⟨k + 1, by omega, by go_num, ⟨by rw [HT.out, if_neg (by rw [HFF.out]; simp), List.append_nil]; exact HJ3.out⟩, HK3⟩
            case measure => simp [intOf]; omega
          | true =>
            have HFF := Aside0.mk hf
            clear hf
            go_wp2_with (fail)
            have HM5 := Aside0.mk (show Mine wc.drew l yb nx g gm from ⟨(HM.out.keeps HK3.out (HC.out.hS _ HC.out.hy) (HC.out.hS _ HC.out.hn)).y, (HM.out.keeps HK3.out (HC.out.hS _ HC.out.hy) (HC.out.hS _ HC.out.hn)).nx⟩)
            have HK5 := Aside0.mk (HK3.out.step (Below.refl _ wc).drew HS.out.box.bel.size)
            have HJ5 := Aside0.mk (HC.out.hJ _ _ _ HJ3.out (Below.refl _ wc).drew)
            have HB5 := Aside0.mk (show wc.drew.heap[wr.heap.size]? = _ from HB3.out)
            clear HJ3 HK3 HB3
            refine start_ (n := 13) (S := fun w' => w'.cell? ⟨nx, 0, none⟩ = some (.func (.func 101) #[] #[.pointer (some ⟨g, 0, none⟩), .pointer (some ⟨gm, 0, none⟩), .pointer (some ⟨yb, 0, none⟩), .pointer (some ⟨nx, 0, none⟩)]) ∧ w'.cell? ⟨wr.heap.size, 0, none⟩ = some (.int .i64 N) ∧ w'.cell? ⟨wr.heap.size, 1, none⟩ = some (.int .i64 G) ∧ w'.cell? ⟨wr.heap.size, 2, none⟩ = some (.int .i64 k)) (ds := [11]) (bs 13 0) (by kernel_rfl) rfl rfl ⟨(blk_cell HM5.out.nx 0).trans rfl, (blk_cell HB5.out 0).trans rfl, (blk_cell HB5.out 1).trans rfl, (blk_cell HB5.out 2).trans rfl⟩ (fun hHeld => ?_)
            refine with_tabW X_next.tab13 X_next.bits13 (fun HT_ HW_ => ?_)
            generalize World.drew _ = w5 at HM5 HK5 HJ5 HB5 hHeld ⊢
            refine pu HT_ 1 (some 78) (bs 13 2) ?_
            refine pu HT_ 2 (some 79) (bs 13 6) ?_
            refine pu HT_ 3 (some 80) (bs 13 14) ?_
            refine pu HT_ 4 (some 81) (bs 13 30) ?_
            refine pu HT_ 8 (some 85) (bs 13 286) ?_
            refine pu HT_ 9 (some 86) (bs 13 798) ?_
            refine pu HT_ 10 (some 87) (bs 13 1822) ?_
            refine tk4 HT_ HW_ hHeld 0 (some 77) (bs 13 1823) ?_
            refine tk4 HT_ HW_ hHeld 5 (some 82) (bs 13 1855) ?_
            refine on HT_ 6 (some 83) (bs 13 1919) (fun K hK => ?_)
            refine value_ (w1 := ?_) (v := ?_) (by rfl) rfl ?_ ?_
            rotate_left 2
            · go_simp
              constructor
              · rfl
              · rfl
            refine hK.out _ _ ⟨(blk_cell (blk_alloc HM5.out.nx _) 0).trans rfl, (blk_cell (blk_alloc HB5.out _) 0).trans rfl, (blk_cell (blk_alloc HB5.out _) 1).trans rfl, (blk_cell (blk_alloc HB5.out _) 2).trans rfl⟩ (fun hHeld => ?_)
            clear hK K
            refine nm 83 ?_
            refine on HT_ 7 (some 84) (bs 13 2047) (fun K hK => ?_)
            obtain ⟨A', c', w6, hrun, hR6, hAn, hlc6, hb6⟩ := append_plan w5 A x ⟨N, G, k⟩ (Kd.F_now (Kd.F_kept HF.out HK5.out.kept HC.out.hS)) HN.out (by omega) 26
            refine value_ (w1 := w6) (v := .slice A' (x.length + 1) c') (by rfl) rfl ?_ ?_
            · simp [execOp, resolve, invoke, builtin, Act.eval, hrun, Result.andThen]
            have HR6 := Aside0.mk hR6
            have HA6 := Aside0.mk hAn
            have HL6 := Aside0.mk hlc6
            have HQ6 := Aside0.mk (((Below.refl w5.heap.size w5).alloc (Nat.le_refl _) (.cells #[.int .i64 N, .int .i64 G, .int .i64 k] 59)).trans (hb6.mono (Nat.le_succ _)))
            clear hR6 hAn hlc6 hb6 hrun
            have HM6 := Aside0.mk (show Mine w6 l yb nx g gm from ⟨(HQ6.out.block _ (Array.getElem?_eq_some_iff.1 HM5.out.y).1).trans HM5.out.y, (HQ6.out.block _ (Array.getElem?_eq_some_iff.1 HM5.out.nx).1).trans HM5.out.nx⟩)
            have HK6 := Aside0.mk (HK5.out.step HQ6.out HS.out.box.bel.size)
            have HJ6 := Aside0.mk (HC.out.hJ _ _ _ HJ5.out HQ6.out)
            have HB6 := Aside0.mk ((HQ6.out.block _ (Array.getElem?_eq_some_iff.1 HB5.out).1).trans HB5.out)
            refine hK.out _ _ ⟨(blk_cell HM6.out.nx 0).trans rfl, (blk_cell HB6.out 0).trans rfl, (blk_cell HB6.out 1).trans rfl, (blk_cell HB6.out 2).trans rfl⟩ (fun hHeld => ?_)
            clear hK K
            refine nm 84 ?_
            refine last_ (i := 11) (N := some 88) (bs 13 4095) rfl rfl (one_of HT_.out (by kernel_rfl)) (by decide) (fun K hK => ?_)
            have hwr : wrap64 (G + 1) = G + 1 := by unfold wrap64; omega
            have hlen : (x ++ [(⟨N, G, (k : Int)⟩ : Wk)]).length = x.length + 1 := by simp
            have hbn : base ≤ w5.heap.size := Nat.le_trans HC.out.hn (Nat.le_of_lt (Array.getElem?_eq_some_iff.1 HM5.out.nx).1)
            have hF6 : Kd.F k59 w6 (fun k => base ≤ k) A' (x.length + 1) (x ++ [⟨N, G, (k : Int)⟩]) := Kd.F_mono (Kd.R_F (Kd.R_bound HR6.out)) (fun q hq => by have := hq.2.1; omega)
            have hIH := IH.out _ (x ++ [⟨N, G, (k : Int)⟩]) N (G + 1) A' c' w6 HJ6.out (HS.out.keeps HK6.out HC.out.hg HC.out.hb HC.out.hm) HM6.out (by omega) (by omega) hN0 (by omega) (by rw [hlen]; omega)
              ⟨A', c', rfl, by rw [hlen]; exact HL6.out, fun h => by simp at h, by rw [hlen]; exact hF6, HFA.out.snoc (fits_can HFF.out) (by omega)⟩
            rw [hlen] at hIH
            refine goesC_ Tryd.func101 (by kernel_rfl) rfl #[.slice A' (x.length + 1) c', .int .i64 N, .int .i64 (G + 1), .pointer (some ⟨g, 0, none⟩), .pointer (some ⟨gm, 0, none⟩), .pointer (some ⟨yb, 0, none⟩), .pointer (some ⟨nx, 0, none⟩)] (by rfl) rfl rfl (by rfl) (by simp [Act.eval, i64_w, hwr]) ?_
            refine hIH.mono ?_
            clear hIH hF6 hlen hbn hwr
            rintro e w7 ⟨rfl, hj7, hk7⟩
            refine ⟨_, rfl, ?_⟩
            have HJ7 := Aside0.mk hj7
            have HK7 := Aside0.mk (HK6.out.trans hk7)
            clear hj7 hk7
            refine hK.out _ _ ?_
            clear hK K
            refine nm 88 ?_
            refine pu HT_ 12 (some 89) (bs 13 8191) ?_
            refine done_ (done_of HT_.out (by kernel_rfl)) ?_
            clear hHeld
            go_wp2
            go_roundw
            case rel => exact ⟨k + 1, by omega, by go_num, ⟨by rw [HT.out, if_pos HFF.out]; simpa only [List.append_assoc] using HJ7.out⟩, HK7⟩
            case measure => simp [intOf]; omega
      · obtain rfl : k = ms.length := by omega
        have HE := Aside0.mk (enumP_at ms gs n many s x N G hG0 hG1 heq)
        go_wp2
        simp only [Exit.noGoto_ret]
        refine bodyPost_ret (v := .bool true) (by simp [results, Tryd.results101, go_sem]) rfl ?_
        exact ⟨rfl, by rw [HE.out]; exact HJr.out, HKr.out⟩
end
end Go.Proofs.YtikfghnkbgdbgaaDoor.Q
end
section
namespace Go.Proofs.YtikfghnkbgdbgaaDoor.Q
set_option linter.unusedSimpArgs false
set_option linter.unusedVariables false
open Go.RowKit Go.Proofs.YtikfghnkbgdbgaaDoorW.PrintWords Go.Proofs.YtikfghnkbgdbgaaDoorW.PrintLast Go.Proofs.YtikfghnkbgdbgaaDoorW.PrintMore
section
variable {w : World} {ms : List M} {gs : List G} {n : Int} {b g gm : Nat} {many : Int} {A0 : Option Addr} {c0 : Nat} {A1 : Option Addr} {c1 : Nat}
theorem next_says {S : Nat → Prop} {base l yb nx : Nat} {J : List (List Wk) → World → Prop} (C : Ctx w ms gs n b g gm many A1 S base l yb nx J) : ∀ s, NextSays w ms gs n b g gm many A0 c0 A1 c1 S base l yb nx J s
  | 0 => fun pre x night gang A c W hj hs hm h0 h1 h2 he _ hx => next_zero C.hY pre x night gang A c W hj hs hm C.g1 C.g2 C.m4 h0 h1 h2 (by simpa using he) hx
  | s + 1 => next_succ C s (next_says C s)
set_option maxRecDepth 100000 in
set_option maxHeartbeats 2000000 in
/-- The iterator's contract. -/
theorem plans1_calls (wl : World) (S : Nat → Prop) (hS0 : ∀ k, S k → k < wl.heap.size) (hg : ¬ S g) (hb : ¬ S b) (hgm : ¬ S gm) (hs : Src w wl ms gs n b g gm many A0 c0 A1 c1) (g1 : 1 ≤ gs.length) (g2 : gs.length ≤ 2) (m0 : 0 ≤ many) (m4 : many ≤ 4) (n0 : 0 ≤ n) (ml : ms.length ≤ 4) (rd : Kd.C k63 w A1 gs.length gs) (gv : GV w)
    (l : Nat) (J : List (List Wk) → World → Prop) (W : World) (hl : l = wl.heap.size + 1) (hW : W.heap.size = wl.heap.size + 2) (hbW : Below wl.heap.size wl W) (hJ : ∀ pre A B, J pre A → Below A.heap.size A B → J pre B)
    (hY : ∀ pre x v W1, J pre W1 → Pr8 ms gs n (wl.heap.size + 2) x v W1 → YieldAt Fence.wide 0 Tryd.prog l #[v] W1 fun e W' => e = .returned (.bool true) ∧ J (pre ++ [x]) W' ∧ Keeps w.heap.size (fun k => S k ∨ k = l) W1 W') (h0 : J [] W) :
    Calls Tryd.prog 100 (#[.func (.yield l) #[] #[]] ++ #[.pointer (some ⟨g, 0, none⟩), .pointer (some ⟨gm, 0, none⟩)]) W fun e W' => (∃ v, e = .returned v) ∧ J (plansL ms gs n many) W' ∧ Keeps w.heap.size (fun k => S k ∨ k = l) W W' := by
  have hgl := (Array.getElem?_eq_some_iff.1 hs.box.box).1
  have hbl := hs.mp.lt
  have hml := (Array.getElem?_eq_some_iff.1 hs.mn).1
  have hsW := hs.box.bel.size
  obtain ⟨V, hV⟩ : ∃ V, W.alloc (.cells #[.func (.yield l) #[] #[]] 114) = V := ⟨_, rfl⟩
  have hVs : V.heap.size = W.heap.size + 1 := by rw [← hV]; simp
  have C : Ctx w ms gs n b g gm many A1 (fun k => S k ∨ k = l) (wl.heap.size + 2) l W.heap.size V.heap.size J :=
    ⟨hY, hJ, fun k hk h => h.elim (fun h => by have := hS0 k h; omega) (fun h => by omega), fun h => h.elim hg (fun h => by omega), fun h => h.elim hb (fun h => by omega), fun h => h.elim hgm (fun h => by omega), by omega, by omega, by omega, g1, g2, m4, n0, ml, rd, gv⟩
  have HC := Aside0.mk C
  have hb1 : Below W.heap.size W V := by rw [← hV]; exact (Below.refl W.heap.size W).alloc (Nat.le_refl _) _
  have hB2 : Below W.heap.size W (V.alloc (.cells #[(.func (.func 101) #[] #[.pointer (some ⟨g, 0, none⟩), .pointer (some ⟨gm, 0, none⟩), .pointer (some ⟨W.heap.size, 0, none⟩), .pointer (some ⟨V.heap.size, 0, none⟩)])] 127)) := hb1.alloc (by omega) _
  have hyb : V.heap[W.heap.size]? = some (.cells #[.func (.yield l) #[] #[]] 114 (0, 0)) := by rw [← hV]; exact World.alloc_heap_new W _
  have HB := Aside0.mk hB2
  have HM := Aside0.mk (Mine.mk (l := l) (g := g) (gm := gm) (blk_alloc hyb (.cells #[(.func (.func 101) #[] #[.pointer (some ⟨g, 0, none⟩), .pointer (some ⟨gm, 0, none⟩), .pointer (some ⟨W.heap.size, 0, none⟩), .pointer (some ⟨V.heap.size, 0, none⟩)])] 127)) (World.alloc_heap_new V (.cells #[(.func (.func 101) #[] #[.pointer (some ⟨g, 0, none⟩), .pointer (some ⟨gm, 0, none⟩), .pointer (some ⟨W.heap.size, 0, none⟩), .pointer (some ⟨V.heap.size, 0, none⟩)])] 127)))
  have HS := Aside0.mk ((hs.keeps (S := fun _ => False) ⟨hbW.mono hsW, Kept.of_below hbW _⟩ (fun h => h) (fun h => h) (fun h => h)).below hB2)
  have HJ0 := Aside0.mk (hJ _ _ _ h0 hB2)
  have hHW : w.heap.size ≤ W.heap.size := by omega
  have HV := Aside0.mk hV
  clear hs C hb1 hB2 hyb h0 hY hJ rd gv hS0 hg hb hgm hbW hW hl hgl hbl hml hsW hV hVs
  rw [show (#[Value.func (.yield l) #[] #[]] ++ #[Value.pointer (some ⟨g, 0, none⟩), Value.pointer (some ⟨gm, 0, none⟩)]) = #[Value.func (.yield l) #[] #[], Value.pointer (some ⟨g, 0, none⟩), Value.pointer (some ⟨gm, 0, none⟩)] from rfl]
  go_enter Tryd.func100, Tryd.ntmps100
  go_upto_region 1 with (fail)
  rw [HV.out]
  go_wp2_with (fail)
  refine (next_says HC.out (many.toNat * gs.length) [] [] 0 0 none 0 _ HJ0.out HS.out HM.out (Int.le_refl _) (by omega) (Int.le_refl _) ?he (by simp) ⟨none, 0, rfl, Nat.le_refl _, fun _ => rfl, Kd.F_nil _ _ _, ⟨fun j h => by simp at h, by simp⟩⟩).mono ?_
  case he =>
    rw [Int.natCast_mul, Int.toNat_of_nonneg m0]
    omega
  rintro e W' ⟨rfl, hj, hk⟩
  have HJ1 := Aside0.mk hj
  have HK1 := Aside0.mk hk
  clear hj hk
  go_wp2
  refine bodyPost_end (v := .tuple #[]) (by simp [results, Tryd.results100, go_sem]) rfl ?_
  exact ⟨⟨_, rfl⟩, by simpa [plansL] using HJ1.out, ⟨(HB.out.mono hHW).trans HK1.out.bel, (Kept.of_below HB.out _).then_ HK1.out.kept (fun _ h => .inl h)⟩⟩
set_option maxRecDepth 100000 in
set_option maxHeartbeats 1000000 in
/-- The maker of the iterator. -/
theorem plans_calls (A0 : Option Addr) (n0 c0 : Nat) (A1 : Option Addr) (n1 c1 : Nat) (n : Int) (b : Nat) (many : Int) (w : World) :
    Calls Tryd.prog 81 #[.agg #[.slice A0 n0 c0, .slice A1 n1 c1, .int .i64 n, .map (some b)], .int .i64 many] w fun e w' =>
      e = .returned (.func (.func 100) #[] #[.pointer (some ⟨w.heap.size, 0, none⟩), .pointer (some ⟨w.heap.size + 1, 0, none⟩)]) ∧
      w' = (w.alloc (.cells #[.slice A0 n0 c0, .slice A1 n1 c1, .int .i64 n, .map (some b)] 86)).alloc (.cells #[.int .i64 many] 3) := by
  go_enter Tryd.func81, Tryd.ntmps81
  go_wp2
  go_ret
  exact ⟨rfl, rfl⟩
end
end Go.Proofs.YtikfghnkbgdbgaaDoor.Q
end
section
namespace Go.Proofs.YtikfghnkbgdbgaaDoor.Q
set_option linter.unusedSimpArgs false
set_option linter.unusedVariables false
open Go.RowKit Go.Proofs.YtikfghnkbgdbgaaDoorW.PrintWords Go.Proofs.YtikfghnkbgdbgaaDoorW.PrintLast Go.Proofs.YtikfghnkbgdbgaaDoorW.PrintMore
def markOf (D : Nat) : Deferred := { target := .collected D, args := #[] }
def takeAll (w : World) : List Nat → World
  | [] => w
  | D :: r => takeAll (w.putObj D (.deferred none)) r
theorem leaves_marks {P : Program} {fn : Func} {tmps : Array Value} {R : Ending → World → Prop} {v : Value} : ∀ (Ds : List Nat) (w : World), Ds.Nodup → (∀ D ∈ Ds, w.heap[D]? = some (.deferred (some []))) →
    (results fn tmps).run P (takeAll w Ds) = .ok v (takeAll w Ds) → R (.returned v) (takeAll w Ds) → LeavesInM Fence.wide 0 P fn tmps R (Ds.map markOf) .returning w
  | [], w, _, _, hr, hR => ⟨_, hr, hR⟩
  | D :: r, w, hn, hd, hr, hR => by
    refine ⟨by simp, .inl ⟨D, _, rfl, run_takeDeferred (hd D (by simp)), ?_⟩⟩
    have hn' := List.nodup_cons.1 hn
    refine leaves_marks r _ hn'.2 (fun E hE => ?_) hr hR
    rw [World.putObj_heap_other (k := E) (r := D) (fun e => hn'.1 (by rw [← e]; exact hE))]
    exact hd E (by simp [hE])
theorem postM_ret {P : Program} {fn : Func} {a : Act} {w : World} {R : Ending → World → Prop} {v : Value} (Ds : List Nat) (ha : a.defers = Ds.map markOf) (hn : Ds.Nodup) (hd : ∀ D ∈ Ds, w.heap[D]? = some (.deferred (some [])))
    (hr : (results fn a.tmps).run P (takeAll w Ds) = .ok v (takeAll w Ds)) (hR : R (.returned v) (takeAll w Ds)) : bodyPostM Fence.wide 0 P fn R .ret a w := by
  show LeavesInM Fence.wide 0 P fn a.tmps R a.defers .returning w
  rw [ha]
  exact leaves_marks Ds w hn hd hr hR
theorem takeAll_below (n0 : Nat) : ∀ (Ds : List Nat) (w : World), (∀ D ∈ Ds, n0 ≤ D) → Below n0 w (takeAll w Ds)
  | [], w, _ => Below.refl _ _
  | D :: r, w, h => (below_putObj w D n0 _ (h D (by simp))).trans (takeAll_below n0 r _ (fun E hE => h E (by simp [hE])))
theorem calls_marks {P : Program} {f : FuncId} {fn : Func} {c : Code} {args : Array Value} {w : World} {R : Ending → World → Prop} (hf : P.funcs[f]? = some fn) (hb : fn.body = some c)
    (h : c.wp P (bodyPostM Fence.wide 0 P fn R) { tmps := args ++ Array.replicate (fn.ntmps - args.size) undef, defers := [] } w) : Calls P f args w R :=
  (callsIn_wide (n := 0)).1 (callsIn_of_wp_marks hf hb trivial ((wpIn_wide (n := 0)).2 h) rfl)
end Go.Proofs.YtikfghnkbgdbgaaDoor.Q
end
section
namespace Go.Proofs.YtikfghnkbgdbgaaDoor.Q
set_option linter.unusedSimpArgs false
set_option linter.unusedVariables false
open Go.RowKit Go.Proofs.YtikfghnkbgdbgaaDoorW.PrintWords Go.Proofs.YtikfghnkbgdbgaaDoorW.PrintLast Go.Proofs.YtikfghnkbgdbgaaDoorW.PrintMore
theorem cmp_law (a b : Int) : L.cmp_Compare_int.f a b = some (cmpI a b) := by
  unfold L.cmp_Compare_int.f L.cmp_isNaN_int.f cmpI
  simp
  split
  · rfl
  · split <;> rfl
theorem rd_get (l : List Int) (j : Nat) (h : j < l.length) : rd l (j : Int) = l[j] := by simp [rd, List.getD_eq_getElem?_getD, List.getElem?_eq_getElem h]
theorem compare_law (x y : List Int) (hx : x.length ≤ 64) : ∀ (k j : Nat), x.length - j < k → j ≤ x.length → j ≤ y.length → L.slices_Compare_int_int.l0 k x y x (x.length : Int) (j : Int) = some (cmpIL (x.drop j) (y.drop j))
  | 0, j, h, _, _ => by omega
  | k + 1, j, h, hj, hjy => by
    unfold L.slices_Compare_int_int.l0
    by_cases hlt : j < x.length
    · rw [if_pos (by omega), if_pos (by omega), if_pos (by omega), List.drop_eq_getElem_cons hlt]
      by_cases hy : j < y.length
      · rw [if_neg (by omega), if_pos (by omega), rd_get x j hlt, rd_get y j hy, cmp_law, List.drop_eq_getElem_cons hy]
        simp only [Option.bind_some, cmpIL]
        by_cases hc : cmpI x[j] y[j] = 0
        · rw [if_pos hc, if_neg (by simp [hc]), show wrap64 ((j : Int) + 1) = ((j + 1 : Nat) : Int) by unfold wrap64; omega]
          exact compare_law x y hx k (j + 1) (by omega) (by omega) (by omega)
        · rw [if_neg hc, if_pos hc]
      · rw [if_pos (by omega), show y.drop j = [] from List.drop_eq_nil_of_le (by omega)]
        rfl
    · obtain rfl : j = x.length := by omega
      rw [if_neg (by omega), show x.drop x.length = [] from List.drop_eq_nil_of_le (Nat.le_refl _)]
      by_cases hy : x.length < y.length
      · rw [if_pos (by omega), List.drop_eq_getElem_cons hy]
        rfl
      · rw [if_neg (by omega), show y.drop x.length = [] from List.drop_eq_nil_of_le (by omega)]
        rfl
theorem compare_calls (A0 : Option Addr) (c0 : Nat) (x : List Int) (A1 : Option Addr) (c1 : Nat) (y : List Int) (w : World) (hr0 : Kd.C (Kd.int .i64) w A0 x.length x) (hc0 : x.length ≤ c0) (hr1 : Kd.C (Kd.int .i64) w A1 y.length y) (hc1 : y.length ≤ c1) (hx : x.length ≤ 64) :
    Calls Tryd.prog 85 #[.slice A0 x.length c0, .slice A1 y.length c1] w fun e w' => e = .returned (.int .i64 (cmpIL x y)) ∧ Below w.heap.size w w' :=
  (L.slices_Compare_int_int.calls (x.length + 1) A0 c0 x A1 c1 y (cmpIL x y) w hr0 hc0 hr1 hc1 (compare_law x y hx (x.length + 1) 0 (by omega) (by omega) (by omega))).mono fun e w' ⟨he, hd⟩ => ⟨he, hd.below⟩
theorem greatest_law (a b : Int) : L.gang_greatest_int.f 3 a [b] = some (max a b) := by
  have e : wrap64 1 = 1 := by unfold wrap64; omega
  simp [L.gang_greatest_int.f, L.gang_greatest_int.l0, e, rd]
  unfold mx
  split <;> omega
theorem C_one (W : World) (b : Int) (t : TypeId) (c : Nat) : Kd.C (Kd.int .i64) (W.alloc (.cells #[.int .i64 b] t)) (some ⟨W.heap.size, 0, none⟩) 1 [b] := by
  refine ⟨rfl, by decide, fun _ => ⟨_, rfl, fun j p hj => ?_⟩⟩
  cases j with
  | zero =>
    simp at hj
    subst hj
    refine ⟨[.int .i64 b], rfl, rfl, fun i u hu => ?_⟩
    cases i with
    | zero =>
      simp at hu
      subst hu
      exact (blk_cell (World.alloc_heap_new W _) 0).trans rfl
    | succ i => simp at hu
  | succ j => simp at hj
theorem greatest_calls (a b : Int) (W : World) (t : TypeId) : Calls Tryd.prog 84 #[.int .i64 a, .slice (some ⟨W.heap.size, 0, none⟩) 1 1] (W.alloc (.cells #[.int .i64 b] t)) fun e w' => e = .returned (.int .i64 (max a b)) ∧ Below (W.heap.size + 1) (W.alloc (.cells #[.int .i64 b] t)) w' :=
  (L.gang_greatest_int.calls 3 a (some ⟨W.heap.size, 0, none⟩) 1 [b] (max a b) _ (C_one W b t 1) (Nat.le_refl _) (greatest_law a b)).mono fun e w' ⟨he, hd⟩ => ⟨he, by rwa [World.size_alloc] at hd⟩
end Go.Proofs.YtikfghnkbgdbgaaDoor.Q
end
section
namespace Go.Proofs.YtikfghnkbgdbgaaDoor.Q
set_option linter.unusedSimpArgs false
set_option linter.unusedVariables false
open Go.RowKit Go.Proofs.YtikfghnkbgdbgaaDoorW.PrintWords Go.Proofs.YtikfghnkbgdbgaaDoorW.PrintLast Go.Proofs.YtikfghnkbgdbgaaDoorW.PrintMore
theorem C_three {W : World} {g : Nat} {a b c : Int} {t : TypeId} (h : W.heap[g]? = some (.cells #[.int .i64 a, .int .i64 b, .int .i64 c] t (0, 0))) : Kd.C (Kd.int .i64) W (some ⟨g, 0, none⟩) 3 [a, b, c] := by
  refine ⟨rfl, by decide, fun _ => ⟨_, rfl, fun j p hj => ?_⟩⟩
  have key : ∀ (u : Int) (j : Nat), #[Value.int .i64 a, .int .i64 b, .int .i64 c][j]? = some (.int .i64 u) → ∃ cs : List Value, cs.length = 1 ∧ (Kd.int .i64).K W u cs ∧ ∀ i v, cs[i]? = some v → W.cell? ((⟨g, 0, none⟩ : Addr).add (j * 1 + i)) = some v := by
    intro u j hu
    refine ⟨[.int .i64 u], rfl, rfl, fun i v hv => ?_⟩
    cases i with
    | zero =>
      simp at hv
      subst hv
      rw [Addr.add_lit, blk_cell h]
      simpa using hu
    | succ i => simp at hv
  match j, hj with
  | 0, hj => simp at hj; subst hj; exact key a 0 rfl
  | 1, hj => simp at hj; subst hj; exact key b 1 rfl
  | 2, hj => simp at hj; subst hj; exact key c 2 rfl
  | j + 3, hj => simp at hj
theorem cmpW_list (x y : Wk) : cmpIL [x.f0, x.f1, x.f2] [y.f0, y.f1, y.f2] = cmpW x y := by
  unfold cmpW
  simp only [cmpIL]
  split
  · rfl
  · split
    · rfl
    · split
      · rfl
      · rename_i h; simp at h; exact h.symm
set_option maxRecDepth 100000 in
set_option maxHeartbeats 2000000 in
theorem cmpW_calls (x y : Wk) (w : World) : Calls Tryd.prog 99 #[.agg #[.int .i64 x.f0, .int .i64 x.f1, .int .i64 x.f2], .agg #[.int .i64 y.f0, .int .i64 y.f1, .int .i64 y.f2]] w fun e w' => e = .returned (.int .i64 (cmpW x y)) ∧ Below w.heap.size w w' := by
  obtain ⟨V, hV⟩ : ∃ V, (w.alloc (.cells #[.int .i64 x.f0, .int .i64 x.f1, .int .i64 x.f2] 59)).alloc (.cells #[.int .i64 y.f0, .int .i64 y.f1, .int .i64 y.f2] 59) = V := ⟨_, rfl⟩
  have hb : Below w.heap.size w V := by rw [← hV]; exact ((Below.refl _ w).alloc (Nat.le_refl _) _).alloc (by simp) _
  have h1 : V.heap[w.heap.size]? = some (.cells #[.int .i64 x.f0, .int .i64 x.f1, .int .i64 x.f2] 59 (0, 0)) := by rw [← hV]; exact blk_alloc (World.alloc_heap_new w _) _
  have h2 : V.heap[w.heap.size + 1]? = some (.cells #[.int .i64 y.f0, .int .i64 y.f1, .int .i64 y.f2] 59 (0, 0)) := by rw [← hV]; have := World.alloc_heap_new (w.alloc (.cells #[.int .i64 x.f0, .int .i64 x.f1, .int .i64 x.f2] 59)) (.cells #[.int .i64 y.f0, .int .i64 y.f1, .int .i64 y.f2] 59); rwa [World.size_alloc] at this
  have a0 := (blk_cell h1 0).trans rfl
  have a1 := (blk_cell h1 1).trans rfl
  have a2 := (blk_cell h1 2).trans rfl
  have b0 := (blk_cell h2 0).trans rfl
  have b1 := (blk_cell h2 1).trans rfl
  have b2 := (blk_cell h2 2).trans rfl
  have hv1 := (Array.getElem?_eq_some_iff.1 h1).1
  have hv2 := (Array.getElem?_eq_some_iff.1 h2).1
  have HV := Aside0.mk hV
  have HB := Aside0.mk hb
  clear hV hb h1 h2
  go_enter Tryd.func99, Tryd.ntmps99
  go_upto_region 1 with (fail)
  rw [HV.out]
  go_wp2_with (fail)
  have k1 := C_three (blk_alloc (World.alloc_heap_new V (.cells #[.int .i64 x.f0, .int .i64 x.f1, .int .i64 x.f2] 3)) (.cells #[.int .i64 y.f0, .int .i64 y.f1, .int .i64 y.f2] 3))
  have k2 := C_three (World.alloc_heap_new (V.alloc (.cells #[.int .i64 x.f0, .int .i64 x.f1, .int .i64 x.f2] 3)) (.cells #[.int .i64 y.f0, .int .i64 y.f1, .int .i64 y.f2] 3))
  rw [World.size_alloc] at k2
  refine (compare_calls _ 3 [x.f0, x.f1, x.f2] _ 3 [y.f0, y.f1, y.f2] _ k1 (by simp) k2 (by simp) (by simp)).mono ?_
  rintro e w1 ⟨rfl, hb1⟩
  have HB1 := Aside0.mk (below_then ((HB.out.alloc HB.out.size (.cells #[.int .i64 x.f0, .int .i64 x.f1, .int .i64 x.f2] 3)).alloc (by simp; have := HB.out.size; omega) (.cells #[.int .i64 y.f0, .int .i64 y.f1, .int .i64 y.f2] 3)) (by simp; have := HB.out.size; omega) hb1)
  rw [cmpW_list]
  clear k1 k2 hb1
  go_wp2
  go_ret
  exact ⟨rfl, HB1.out⟩
set_option maxRecDepth 100000 in
set_option maxHeartbeats 2000000 in
theorem compareFunc_calls (A0 : Option Addr) (c0 : Nat) (x : List Wk) (A1 : Option Addr) (c1 : Nat) (y : List Wk) (w : World) (hr0 : Kd.C k59 w A0 x.length x) (hr1 : Kd.C k59 w A1 y.length y) (hx : x.length ≤ 8) (hy : y.length ≤ 8) :
    Calls Tryd.prog 98 #[.slice A0 x.length c0, .slice A1 y.length c1, .func (.func 99) #[] #[]] w fun e w' => e = .returned (.int .i64 (cmpL x y)) ∧ Below w.heap.size w w' := by
  have HR0 := Aside0.mk hr0
  have HR1 := Aside0.mk hr1
  clear hr0 hr1
  go_enter Tryd.func98, Tryd.ntmps98
  go_wp2
  go_loopw [13] (fun v13 wr => ∃ k : Nat, k ≤ x.length ∧ k ≤ y.length ∧ v13 = .int .i64 k ∧ Aside0 (cmpL x y = cmpL (x.drop k) (y.drop k)) ∧ Aside0 (Below w.heap.size w wr)) (fun v13 _ => x.length - (intOf v13).toNat)
  case atStart => exact ⟨0, Nat.zero_le _, Nat.zero_le _, rfl, ⟨rfl⟩, ⟨Below.refl _ _⟩⟩
  case round =>
    obtain ⟨k, hk, hky, rfl, HE, HY⟩ := hrel
    by_cases hlt : k < x.length
    · obtain ⟨ad, hA, hx0, hx1, hx2⟩ := at_T59 (Kd.C_below HR0.out HY.out) (k : Int) (by omega) (by omega)
      rw [Int.toNat_natCast] at hx0 hx1 hx2
      subst hA
      by_cases hlty : k < y.length
      · obtain ⟨ay, hA, hy0, hy1, hy2⟩ := at_T59 (Kd.C_below HR1.out HY.out) (k : Int) (by omega) (by omega)
        rw [Int.toNat_natCast] at hy0 hy1 hy2
        subst hA
        have HS := Aside0.mk (show cmpL (x.drop k) (y.drop k) = if cmpW (rd_T59 x k) (rd_T59 y k) ≠ 0 then cmpW (rd_T59 x k) (rd_T59 y k) else cmpL (x.drop (k + 1)) (y.drop (k + 1)) by
          rw [drop_W3 x k hlt, drop_W3 y k hlty]; rfl)
        have bl := (Below.refl wr.heap.size wr).alloc (Nat.le_refl _) (.cells #[.int .i64 (rd_T59 x k).f0, .int .i64 (rd_T59 x k).f1, .int .i64 (rd_T59 x k).f2] 59)
        have hz0 := (bl.cell (World.block_lt_of_cell? _ _ hy0)).trans hy0
        have hz1 := (bl.cell (World.block_lt_of_cell? _ _ hy1)).trans hy1
        have hz2 := (bl.cell (World.block_lt_of_cell? _ _ hy2)).trans hy2
        have HBL := Aside0.mk ((HY.out.trans (bl.mono HY.out.size)).alloc (by simp; have := HY.out.size; omega) (.cells #[.int .i64 (rd_T59 y k).f0, .int .i64 (rd_T59 y k).f1, .int .i64 (rd_T59 y k).f2] 59))
        clear bl hy0 hy1 hy2
        go_wp2_with (fail)
        refine (cmpW_calls (rd_T59 x k) (rd_T59 y k) _).mono ?_
        rintro e w2 ⟨rfl, hb⟩
        have HB2 := Aside0.mk (below_then HBL.out HBL.out.size hb)
        clear hb hx0 hx1 hx2 hz0 hz1 hz2
        by_cases hc : cmpW (rd_T59 x k) (rd_T59 y k) = 0
        · have hc1 : (cmpW (rd_T59 x k) (rd_T59 y k) == 0) = true := beq_iff_eq.2 hc
          have hc2 : (cmpW (rd_T59 x k) (rd_T59 y k) != 0) = false := by simp [bne, hc1]
          have HC := Aside0.mk hc
          clear hc
          go_wp2
          go_roundw
          case rel => exact ⟨k + 1, by omega, by omega, by go_num, ⟨by rw [HE.out, HS.out, if_neg (by rw [HC.out]; simp)]⟩, HB2⟩
          case measure => simp [intOf]; omega
        · have hc1 : (cmpW (rd_T59 x k) (rd_T59 y k) == 0) = false := beq_eq_false_iff_ne.2 hc
          have hc2 : (cmpW (rd_T59 x k) (rd_T59 y k) != 0) = true := by simp [bne, hc1]
          have HC := Aside0.mk hc
          clear hc
          go_wp2
          go_ret
          exact ⟨by rw [HE.out, HS.out, if_pos HC.out]; rfl, HB2.out⟩
      · have HS := Aside0.mk (show cmpL (x.drop k) (y.drop k) = 1 by
          rw [drop_W3 x k hlt, List.drop_eq_nil_of_le (show y.length ≤ k by omega)]; rfl)
        have HBL := Aside0.mk (HY.out.alloc HY.out.size (.cells #[.int .i64 (rd_T59 x k).f0, .int .i64 (rd_T59 x k).f1, .int .i64 (rd_T59 x k).f2] 59))
        go_wp2
        go_ret
        exact ⟨by rw [HE.out, HS.out]; rfl, HBL.out⟩
    · obtain rfl : k = x.length := by omega
      by_cases hyl : x.length < y.length
      · have HS := Aside0.mk (show cmpL (x.drop x.length) (y.drop x.length) = -1 by
          rw [drop_W3 y _ hyl, List.drop_eq_nil_of_le (Nat.le_refl _)]; rfl)
        go_wp2
        go_ret
        exact ⟨by rw [HE.out, HS.out]; rfl, HY.out⟩
      · have HS := Aside0.mk (show cmpL (x.drop x.length) (y.drop x.length) = 0 by
          rw [List.drop_eq_nil_of_le (show x.length ≤ x.length from Nat.le_refl _), List.drop_eq_nil_of_le (show y.length ≤ x.length by omega)]; rfl)
        go_wp2
        go_ret
        exact ⟨by rw [HE.out, HS.out]; rfl, HY.out⟩
set_option maxRecDepth 100000 in
set_option maxHeartbeats 2000000 in
theorem better_calls (A0 : Option Addr) (c0 : Nat) (x : List Wk) (A1 : Option Addr) (c1 : Nat) (y : List Wk) (w : World) (hr0 : Kd.C k59 w A0 x.length x) (hr1 : Kd.C k59 w A1 y.length y) (hx : x.length ≤ 8) (hy : y.length ≤ 8) :
    Calls Tryd.prog 97 #[.slice A0 x.length c0, .slice A1 y.length c1] w fun e w' => e = .returned (.bool (betterB x y)) ∧ Below w.heap.size w w' := by
  have HR0 := Aside0.mk hr0
  have HR1 := Aside0.mk hr1
  clear hr0 hr1
  go_enter Tryd.func97, Tryd.ntmps97
  by_cases h1 : x.length < y.length
  · have q1 : decide (x.length < y.length) = true := decide_eq_true h1
    have HB := Aside0.mk (show betterB x y = true by simp [betterB, h1])
    go_wp2
    go_ret
    exact ⟨by rw [HB.out]; rfl, Below.refl _ _⟩
  · have q1 : decide (x.length < y.length) = false := decide_eq_false h1
    by_cases h2 : x.length = y.length
    · have q2 : (x.length == y.length) = true := beq_iff_eq.2 h2
      have q3 : ((x.length : Int) == (y.length : Int)) = true := beq_iff_eq.2 (by omega)
      have HB := Aside0.mk (show betterB x y = decide (cmpL x y < 0) by simp [betterB, h1, h2])
      clear h1 h2
      go_wp2_with (fail)
      refine (compareFunc_calls A0 c0 x A1 c1 y _ HR0.out HR1.out hx hy).mono ?_
      rintro e w1 ⟨rfl, hb⟩
      have HB1 := Aside0.mk hb
      clear hb
      go_wp2
      go_ret
      exact ⟨by rw [HB.out]; rfl, HB1.out⟩
    · have q2 : (x.length == y.length) = false := beq_eq_false_iff_ne.2 h2
      have q3 : ((x.length : Int) == (y.length : Int)) = false := beq_eq_false_iff_ne.2 (by omega)
      have HB := Aside0.mk (show betterB x y = false by simp [betterB, h1, h2])
      clear h1 h2
      go_wp2
      go_ret
      exact ⟨by rw [HB.out]; rfl, Below.refl _ _⟩
set_option maxRecDepth 100000 in
theorem fewest_calls (w : World) : Calls Tryd.prog 80 #[] w fun e w' => e = .returned (.agg #[.func (.func 97) #[] #[]]) ∧ Below w.heap.size w w' := by
  go_enter Tryd.func80, Tryd.ntmps80
  go_wp2
  refine bodyPost_ret (v := .agg #[.func (.func 97) #[] #[]]) (by simp [results, Tryd.results80, go_sem]) rfl ⟨rfl, ?_⟩
  exact (Below.refl _ w).alloc (Nat.le_refl _) _
end Go.Proofs.YtikfghnkbgdbgaaDoor.Q
end
section
namespace Go.Proofs.YtikfghnkbgdbgaaDoorW.PrintLast
open Go.RowKit Go.Proofs.YtikfghnkbgdbgaaDoorW.PrintWords Go.Proofs.YtikfghnkbgdbgaaDoorW.PrintMore
section
variable {P : Program} {ops : Array Oper} {Q : Exit → Act → World → Prop}
theorem goesF_ {oi : Oper} {N : Option Tmp} {a : Act} {w : World} {K : Act → World → Prop} {f : FuncId} {fn : Func} {c : Operand} {ags : Array Operand} {ts : Array TypeId} {fst lb : Array Value} (hf : P.funcs[f]? = some fn) (hname : (fn.name == "runtime.NumGoroutine") = false) (hb : fn.body.isSome = true) (args : Array Value)
    (hw : Region.wanted oi (yielded ops a.tmps) = true) (hN : oi.dst = N) (hop : oi.op = .call { callee := .value c, args := ags, argTypes := ts }) (hc : a.eval c = .func (.func f) fst lb) (hargs : fst ++ ags.map a.eval ++ lb = args)
    (h : Calls P f args w fun e w' => ∃ v, e = .returned v ∧ K (a.put N v) w') : if Region.wanted oi (yielded ops a.tmps) = true then Oper.wp P oi a w K Q else K (a.put N undef) w := by
  refine call_ f args hw hN ?_ h
  have he := enters_ hf hname hb args w
  unfold execOp
  simp [hop, resolve, Deferred.ofValue, invoke, hc, ← Array.append_assoc, hargs, he]
end
end Go.Proofs.YtikfghnkbgdbgaaDoorW.PrintLast
namespace Go.Proofs.YtikfghnkbgdbgaaDoor.Q
set_option linter.unusedSimpArgs false
set_option linter.unusedVariables false
open Go.RowKit Go.Proofs.YtikfghnkbgdbgaaDoorW.PrintWords Go.Proofs.YtikfghnkbgdbgaaDoorW.PrintLast Go.Proofs.YtikfghnkbgdbgaaDoorW.PrintMore
def retM (P : Program) (fn : Func) (R : Ending → World → Prop) : Exit → Act → World → Prop
  | .ret, a, w => LeavesInM Fence.wide 0 P fn a.tmps R a.defers .returning w
  | _, _, _ => False
theorem calls_ret {P : Program} {f : FuncId} {fn : Func} {c : Code} {args : Array Value} {w : World} {R : Ending → World → Prop} (hf : P.funcs[f]? = some fn) (hb : fn.body = some c)
    (h : c.wp P (retM P fn R) { tmps := args ++ Array.replicate (fn.ntmps - args.size) undef, defers := [] } w) : Calls P f args w R :=
  calls_marks hf hb (Code.wp_mono (fun e a w q => by cases e <;> first | exact q | exact q.elim) h)
theorem retM_ret {P : Program} {fn : Func} {a : Act} {w : World} {R : Ending → World → Prop} {v : Value} (Ds : List Nat) (ha : a.defers = Ds.map markOf) (hn : Ds.Nodup) (hd : ∀ D ∈ Ds, w.heap[D]? = some (.deferred (some [])))
    (hr : (results fn a.tmps).run P (takeAll w Ds) = .ok v (takeAll w Ds)) (hR : R (.returned v) (takeAll w Ds)) : retM P fn R .ret a w := postM_ret Ds ha hn hd hr hR
theorem takeAll_kept : ∀ (Ds : List Nat) (w : World), Kept w (takeAll w Ds) (fun k => k ∈ Ds)
  | [], w => Kept.refl _ _
  | D :: r, w => by
    have h := takeAll_kept r (w.putObj D (.deferred none))
    refine (Kept.refl w _).then_ (S2 := fun k => k ∈ D :: r) ⟨by show w.heap.size ≤ (takeAll (w.putObj D (.deferred none)) r).heap.size; have := h.1; simpa using this, fun i hi hn => ?_⟩ (fun _ hk => .inl hk)
    have hn1 : i ≠ D := fun e => hn (by simp [e])
    have hn2 : i ∉ r := fun e => hn (by simp [e])
    exact (h.2 i (by simpa using hi) hn2).trans (World.putObj_heap_other hn1)
theorem mended_empty {ms : List M} {gs : List G} {n : Int} (h : okB ms gs n = true) : mendedL ms gs [] = [] := mended_none h rfl rfl rfl rfl
theorem bestOf_snoc (ms : List M) (gs : List G) (pre : List (List Wk)) (x : List Wk) : bestOf ms gs (pre ++ [x]) = bestStep ms gs (bestOf ms gs pre) x := by simp [bestOf]
theorem bestStep_cases (ms : List M) (gs : List G) (b : Option (List Wk)) (x : List Wk) : (bestStep ms gs b x = some x ∧ (mendedL ms gs x).length = ms.length) ∨ bestStep ms gs b x = b := by
  have key : ∀ c : Bool, ((if (c && decide ((mendedL ms gs x).length = ms.length)) = true then some x else b) = some x ∧ (mendedL ms gs x).length = ms.length) ∨ (if (c && decide ((mendedL ms gs x).length = ms.length)) = true then some x else b) = b := by
    intro c
    by_cases hc : (c && decide ((mendedL ms gs x).length = ms.length)) = true
    · rw [if_pos hc]
      rw [Bool.and_eq_true] at hc
      exact .inl ⟨rfl, of_decide_eq_true hc.2⟩
    · rw [if_neg hc]
      exact .inr rfl
  exact key _
theorem bestOf_full (ms : List M) (gs : List G) : ∀ (l : List (List Wk)) (b : Option (List Wk)), (∀ p, b = some p → (mendedL ms gs p).length = ms.length) → ∀ p, l.foldl (bestStep ms gs) b = some p → (mendedL ms gs p).length = ms.length
  | [], b, hb, p, h => hb p h
  | x :: r, b, hb, p, h => by
    refine bestOf_full ms gs r _ ?_ p h
    intro q hq
    rcases bestStep_cases ms gs b x with ⟨e, hl⟩ | e
    · rw [e] at hq
      injection hq with hq
      rw [← hq]
      exact hl
    · rw [e] at hq
      exact hb q hq
theorem bestOf_ne {ms : List M} {gs : List G} {n : Int} (hok : okB ms gs n = true) {pre : List (List Wk)} {p : List Wk} (h : bestOf ms gs pre = some p) : p ≠ [] := by
  intro e
  subst e
  have := bestOf_full ms gs pre none (fun _ h => by cases h) [] h
  rw [mended_empty hok] at this
  have := (okB_bounds hok).1.1
  simp at *
  omega
def BestV (W : World) (ms : List M) (gs : List G) (n : Int) (base : Nat) : Option (List Wk) → Value → Prop
  | none, v => v = .slice none 0 0
  | some p, v => Pr8 ms gs n base p v W
structure PlanI (w W : World) (ms : List M) (gs : List G) (n : Int) (b g gx p6 p7 gb base : Nat) (Ds : List Nat) (A0 : Option Addr) (c0 : Nat) (A1 : Option Addr) (c1 : Nat) (pre : List (List Wk)) : Prop where
  box : BoxAt w W A0 ms.length c0 A1 gs.length c1 n b g
  x : W.heap[gx]? = some (.cells #[.slice A0 ms.length c0, .slice A1 gs.length c1, .int .i64 n] 25 (0, 0))
  mp : MapIs W b (spotsL ms n.toNat)
  h6 : W.heap[p6]? = some (.cells #[.func (.func 97) #[] #[]] 103 (0, 0))
  h7 : W.heap[p7]? = some (.cells #[.func (.func 77) #[.agg #[.slice A0 ms.length c0, .slice A1 gs.length c1, .int .i64 n, .map (some b)]] #[]] 100 (0, 0))
  ds : ∀ D ∈ Ds, W.heap[D]? = some (.deferred (some []))
  best : ∃ v, W.heap[gb]? = some (.cells #[v] 26 (0, 0)) ∧ BestV W ms gs n base (bestOf ms gs pre) v
section
variable {w W W' : World} {ms : List M} {gs : List G} {n : Int} {b g gx p6 p7 gb base : Nat} {Ds : List Nat} {A0 : Option Addr} {c0 : Nat} {A1 : Option Addr} {c1 : Nat} {pre : List (List Wk)}
theorem Pr8.below {x : List Wk} {v : Value} (h : Pr8 ms gs n base x v W) (hb : Below W.heap.size W W') : Pr8 ms gs n base x v W' := by
  obtain ⟨A, c, h1, h2, h3, h4, h5⟩ := h
  exact ⟨A, c, h1, h2, h3, Kd.F_below h4 hb, h5⟩
theorem Pr8.kept {x : List Wk} {v : Value} {S : Nat → Prop} (h : Pr8 ms gs n base x v W) (hb : Kept W W' S) (hS : ∀ k, base ≤ k → ¬ S k) : Pr8 ms gs n base x v W' := by
  obtain ⟨A, c, h1, h2, h3, h4, h5⟩ := h
  exact ⟨A, c, h1, h2, h3, Kd.F_kept h4 hb hS, h5⟩
theorem BestV.below {o : Option (List Wk)} {v : Value} (h : BestV W ms gs n base o v) (hb : Below W.heap.size W W') : BestV W' ms gs n base o v := by
  cases o with
  | none => exact h
  | some p => exact Pr8.below h hb
theorem BestV.kept {o : Option (List Wk)} {v : Value} {S : Nat → Prop} (h : BestV W ms gs n base o v) (hb : Kept W W' S) (hS : ∀ k, base ≤ k → ¬ S k) : BestV W' ms gs n base o v := by
  cases o with
  | none => exact h
  | some p => exact Pr8.kept h hb hS
theorem PlanI.below (h : PlanI w W ms gs n b g gx p6 p7 gb base Ds A0 c0 A1 c1 pre) (hb : Below W.heap.size W W') : PlanI w W' ms gs n b g gx p6 p7 gb base Ds A0 c0 A1 c1 pre := by
  obtain ⟨v, h1, h2⟩ := h.best
  have lift : ∀ {k : Nat} {o : Obj}, W.heap[k]? = some o → W'.heap[k]? = some o := fun hk => (hb.block _ (Array.getElem?_eq_some_iff.1 hk).1).trans hk
  exact ⟨h.box.step hb, lift h.x, h.mp.below hb, lift h.h6, lift h.h7, fun D hD => lift (h.ds D hD), v, lift h1, h2.below hb⟩
theorem PlanI.store {pre' : List (List Wk)} (h : PlanI w W ms gs n b g gx p6 p7 gb base Ds A0 c0 A1 c1 pre) (h1 : g ≠ gb) (h2 : gx ≠ gb) (h3 : b ≠ gb) (h4 : p6 ≠ gb) (h5 : p7 ≠ gb) (h6 : ∀ D ∈ Ds, D ≠ gb) (hw : w.heap.size ≤ gb) (hl : gb < base) (v' : Value) (hv : BestV W ms gs n base (bestOf ms gs pre') v') :
    PlanI w (W.setCell ⟨gb, 0, none⟩ v') ms gs n b g gx p6 p7 gb base Ds A0 c0 A1 c1 pre' := by
  obtain ⟨v, q1, q2⟩ := h.best
  refine ⟨⟨blk_far h.box.box h1 _, h.box.bel.setCell (p := ⟨gb, 0, none⟩) hw _⟩, blk_far h.x h2 _, h.mp.kept (Below.heap_setCell _ _ _ _ h3), blk_far h.h6 h4 _, blk_far h.h7 h5 _, fun D hD => (Below.heap_setCell _ _ _ _ (h6 D hD)).trans (h.ds D hD), v', (blk_set q1 0 _).trans rfl, ?_⟩
  exact hv.kept (S := fun k => k = gb) (Kept.setCell (S := fun k => k = gb) (Kept.refl W _) (p := ⟨gb, 0, none⟩) (.inl rfl) v') (fun k hk e => by omega)
theorem PlanI.same {pre' : List (List Wk)} (h : PlanI w W ms gs n b g gx p6 p7 gb base Ds A0 c0 A1 c1 pre) (he : bestOf ms gs pre' = bestOf ms gs pre) : PlanI w W ms gs n b g gx p6 p7 gb base Ds A0 c0 A1 c1 pre' := by
  obtain ⟨v, q1, q2⟩ := h.best
  exact ⟨h.box, h.x, h.mp, h.h6, h.h7, h.ds, v, q1, by rw [he]; exact q2⟩
theorem PlanI.put (h : PlanI w W ms gs n b g gx p6 p7 gb base Ds A0 c0 A1 c1 pre) (l : Nat) (o : Obj) (hr : ∃ r, W.heap[l]? = some (.loop r)) (hw : w.heap.size ≤ l) (hl : l < base) : PlanI w (W.putObj l o) ms gs n b g gx p6 p7 gb base Ds A0 c0 A1 c1 pre := by
  obtain ⟨r, hr⟩ := hr
  obtain ⟨v, h1, h2⟩ := h.best
  have lift : ∀ {k : Nat} {q : Obj}, W.heap[k]? = some q → (∀ r, q ≠ .loop r) → (W.putObj l o).heap[k]? = some q := fun {k q} hk hne =>
    (World.putObj_heap_other (fun e => by subst e; rw [hr] at hk; injection hk with hk; exact hne r hk.symm)).trans hk
  have hm : MapIs (W.putObj l o) b (spotsL ms n.toNat) := by
    obtain ⟨es, clock, q1, q2⟩ := h.mp
    exact ⟨es, clock, lift q1 (fun r e => by cases e), q2⟩
  exact ⟨⟨lift h.box.box (fun r e => by cases e), h.box.bel.trans (below_putObj W l _ o hw)⟩, lift h.x (fun r e => by cases e), hm, lift h.h6 (fun r e => by cases e), lift h.h7 (fun r e => by cases e), fun D hD => lift (h.ds D hD) (fun r e => by cases e), v, lift h1 (fun r e => by cases e),
    h2.kept (S := fun k => k = l) ⟨by simp, fun i hi hn => World.putObj_heap_other hn⟩ (fun k hk e => by omega)⟩
end
end Go.Proofs.YtikfghnkbgdbgaaDoor.Q
end
section
namespace Go.Proofs.YtikfghnkbgdbgaaDoor.Q
set_option linter.unusedSimpArgs false
set_option linter.unusedVariables false
open Go.RowKit Go.Proofs.YtikfghnkbgdbgaaDoorW.PrintWords Go.Proofs.YtikfghnkbgdbgaaDoorW.PrintLast Go.Proofs.YtikfghnkbgdbgaaDoorW.PrintMore
attribute [local go_sem] Oper.semAt_some wide_fn wide_depth
theorem slice_neq (w : World) (A : Option Addr) (l c : Nat) : (binOp .neq 26 (.slice A l c) (.slice none 0 0)).run Tryd.prog w = .ok (.bool (!A.isNone)) w := run_neq_slice_nil w _ 59 A l c (by kernel_rfl)
theorem slice_eql (w : World) (A : Option Addr) (l c : Nat) : (binOp .eql 26 (.slice A l c) (.slice none 0 0)).run Tryd.prog w = .ok (.bool A.isNone) w := by
  have := run_equal_slice_nil (P := Tryd.prog) w 26 59 A l c (by kernel_rfl)
  simp [binOp, this]
theorem keeps_setCell' {n0 : Nat} {S : Nat → Prop} {X Y : World} (h : Keeps n0 S X Y) {p : Addr} (hS : S p.block) (hp : n0 ≤ p.block) (v : Value) : Keeps n0 S X (Y.setCell p v) :=
  ⟨h.bel.setCell hp v, h.kept.setCell (.inl hS) v⟩
theorem pr8_read {ms : List M} {gs : List G} {n : Int} {base : Nat} {x : List Wk} {A : Option Addr} {c : Nat} {W : World} (h : Pr8 ms gs n base x (.slice A x.length c) W) : Kd.C k59 W A x.length x := by
  obtain ⟨A', c', e, _, _, hF, _⟩ := h
  injection e with e1 e2 e3
  subst e1
  exact Kd.F_now hF
def X_Plan : Nat := 0
def X_Plan.T11 : Bool × List (List Nat × List Nat) := (true, [([], []), ([0], [0]), ([1], [1]), ([2], [2]), ([3, 2], [2, 3]), ([2], [2]), ([2], [2]), ([4, 5, 6, 2, 2], [2, 4, 5, 6]), ([2, 7], [2, 7]), ([8, 7], [8]), ([9], [9]), ([9], [9]), ([10, 11, 9, 9], [9, 10, 11]), ([12, 9], [9, 12]), ([9], [9]), ([14, 9], [9, 14]), ([15, 9], [9, 15]), ([13, 16, 9], [9, 13, 16]), ([9, 17], [9, 17])])
def X_Plan.B11 : List Nat := [0, 1, 3, 7, 15, 7, 7, 127, 255, 511, 1023, 1023, 4095, 8191, 1023, 17407, 50175, 131071, 262143]
theorem X_Plan.tab11 : rtab .any (opsOf Tryd.f31 11) = X_Plan.T11 := by kernel_rfl
theorem X_Plan.bits11 : waitsOk X_Plan.T11.2 X_Plan.B11 = true := by kernel_rfl
structure Ahead (w W : World) (ms : List M) (gs : List G) (n : Int) (b g gx p6 p7 : Nat) (A0 : Option Addr) (c0 : Nat) (A1 : Option Addr) (c1 : Nat) : Prop where
  box : BoxAt w W A0 ms.length c0 A1 gs.length c1 n b g
  x : W.heap[gx]? = some (.cells #[.slice A0 ms.length c0, .slice A1 gs.length c1, .int .i64 n] 25 (0, 0))
  mp : MapIs W b (spotsL ms n.toNat)
  h6 : W.heap[p6]? = some (.cells #[.func (.func 97) #[] #[]] 103 (0, 0))
  h7 : W.heap[p7]? = some (.cells #[.func (.func 77) #[.agg #[.slice A0 ms.length c0, .slice A1 gs.length c1, .int .i64 n, .map (some b)]] #[]] 100 (0, 0))
theorem Ahead.below {w W W' : World} {ms : List M} {gs : List G} {n : Int} {b g gx p6 p7 : Nat} {A0 : Option Addr} {c0 : Nat} {A1 : Option Addr} {c1 : Nat} (h : Ahead w W ms gs n b g gx p6 p7 A0 c0 A1 c1) (hb : Below W.heap.size W W') : Ahead w W' ms gs n b g gx p6 p7 A0 c0 A1 c1 := by
  have lift : ∀ {k : Nat} {o : Obj}, W.heap[k]? = some o → W'.heap[k]? = some o := fun hk => (hb.block _ (Array.getElem?_eq_some_iff.1 hk).1).trans hk
  exact ⟨h.box.step hb, lift h.x, h.mp.below hb, lift h.h6, lift h.h7⟩
set_option maxRecDepth 100000 in
set_option maxHeartbeats 4000000 in
theorem gang_Plan.calls (A0_0 : Option Addr) (c0_0 : Nat) (l0_0 : List (M)) (A0_1 : Option Addr) (c0_1 : Nat) (l0_1 : List (G)) (a0_2 : Int) (r1 : List (Wk)) (r2 : Int) (w : World) (hr0_0 : Kd.C k66 w A0_0 l0_0.length l0_0) (hc0_0 : l0_0.length ≤ c0_0) (hr0_1 : Kd.C k63 w A0_1 l0_1.length l0_1) (hc0_1 : l0_1.length ≤ c0_1) (hG : GV w) (h : gang_Plan.f l0_0 l0_1 a0_2 = some (r1, r2)) :
    Calls Tryd.prog 31 #[.agg #[.slice A0_0 l0_0.length c0_0, .slice A0_1 l0_1.length c0_1, .int .i64 a0_2]] w fun e w' => ∃ v0_ : Value, e = .returned (.tuple #[v0_, .int .i64 r2]) ∧ Kd.V k59 59 w' w.heap.size (fun k_ => (w.heap.size ≤ k_)) v0_ r1 ∧ Below w.heap.size w w' := by
  have HR0 := Aside0.mk hr0_0
  have HR1 := Aside0.mk hr0_1
  have HG0 := Aside0.mk hG
  have H := Aside0.mk h
  have hB := ((Below.refl w.heap.size w).alloc (Nat.le_refl _) (.cells #[.slice A0_0 l0_0.length c0_0, .slice A0_1 l0_1.length c0_1, .int .i64 a0_2] 25))
  have HB := Aside0.mk hB
  have hx := World.alloc_heap_new w (.cells #[.slice A0_0 l0_0.length c0_0, .slice A0_1 l0_1.length c0_1, .int .i64 a0_2] 25)
  have HX := Aside0.mk hx
  clear hr0_0 hr0_1 hG hB h hx
  refine calls_ret Tryd.func31 rfl ?_
  simp only [Tryd.ntmps31, List.size_toArray, List.length_cons, List.length_nil, Nat.reduceAdd, Nat.reduceSub, Array.replicate_succ, Array.replicate_zero, List.push_toArray, List.append_toArray, List.nil_append, List.cons_append]
  go_wp2_with (fail)
  refine (asked_any l0_0 l0_1 A0_0 c0_0 A0_1 c0_1 a0_2 none 0 [] _ (Kd.C_below HR0.out HB.out) hc0_0 (Kd.C_below HR1.out HB.out) hc0_1 ⟨rfl, by simp, fun h => by simp at h⟩ (Nat.le_refl _) (gv_below HG0.out HB.out)).mono ?_
  rintro e w1 ⟨B0, n0, d0, B1, n1, d1, m, bm, E, rfl, hE, hs, hb⟩
  have HB1 := Aside0.mk (below_then HB.out HB.out.size hb)
  have HX1 := Aside0.mk ((hb.block w.heap.size (by simp)).trans HX.out)
  clear hb
  by_cases hE0 : E = 0
  · obtain ⟨b, ⟨rfl, rfl, rfl⟩, ⟨rfl, rfl, rfl⟩, rfl, rfl, hm, hl⟩ := hs hE0
    subst hE0
    have HE := Aside0.mk hE
    have HM := Aside0.mk hm
    have HH : Aside0 ((match planL l0_0 l0_1 a0_2 with | some p => some (p, (0 : Int)) | none => some ([], 4)) = some (r1, r2)) := ⟨by rw [← H.out]; unfold gang_Plan.f; rw [if_pos (askedE_ok hE.symm).1]; rfl⟩
    have hbd := okB_bounds (askedE_ok hE.symm).1
    have hg2 := hbd.2.1.2
    have hg1 := hbd.2.1.1
    have hm4 := hbd.1.2
    have hn4 : a0_2 ≤ 4 := by omega
    have hn0 : 0 ≤ a0_2 := by omega
    have hbl1 := HM.out.lt
    have HBL := Aside0.mk (show b < w1.heap.size from hbl1)
    clear hm hs hE hl H hbd hbl1
    go_upto_region 4 with (fail)
    obtain ⟨V, hV⟩ : ∃ V, w1.alloc (.cells #[.slice A0_0 l0_0.length c0_0, .slice A0_1 l0_1.length c0_1, .int .i64 a0_2, .map (some b)] 86) = V := ⟨_, rfl⟩
    have HA := Aside0.mk (show V.heap[w1.heap.size]? = some (.cells #[.slice A0_0 l0_0.length c0_0, .slice A0_1 l0_1.length c0_1, .int .i64 a0_2, .map (some b)] 86 (0, 0)) by rw [← hV]; exact World.alloc_heap_new w1 _)
    have HBV := Aside0.mk (show Below w.heap.size w V by rw [← hV]; exact HB1.out.alloc HB1.out.size _)
    have HXV := Aside0.mk (show V.heap[w.heap.size]? = some (.cells #[.slice A0_0 l0_0.length c0_0, .slice A0_1 l0_1.length c0_1, .int .i64 a0_2] 25 (0, 0)) by rw [← hV]; exact blk_alloc HX1.out _)
    have HMV := Aside0.mk (show MapIs V b (spotsL l0_0 a0_2.toNat) by rw [← hV]; exact HM.out.below ((Below.refl _ w1).alloc (Nat.le_refl _) _))
    rw [hV]
    clear hV
    go_cut [6, 7] from 19 to 21 (fun v6 v7 wc => ∃ p6 p7 : Nat, v6 = .pointer (some ⟨p6, 0, none⟩) ∧ v7 = .pointer (some ⟨p7, 0, none⟩) ∧ Aside0 (Ahead w wc l0_0 l0_1 a0_2 b w1.heap.size w.heap.size p6 p7 A0_0 c0_0 A0_1 c0_1))
    case first =>
      have q0 := (blk_cell HA.out 0).trans rfl
      have q1 := (blk_cell HA.out 1).trans rfl
      have q2 := (blk_cell HA.out 2).trans rfl
      have q3 := (blk_cell HA.out 3).trans rfl
      have hlt := (Array.getElem?_eq_some_iff.1 HA.out).1
      refine start_ (n := 7) (S := fun w' => w'.cell? ⟨w1.heap.size, 0, none⟩ = some (.slice A0_0 l0_0.length c0_0) ∧ w'.cell? ⟨w1.heap.size, 1, none⟩ = some (.slice A0_1 l0_1.length c0_1) ∧ w'.cell? ⟨w1.heap.size, 2, none⟩ = some (.int .i64 a0_2) ∧ w'.cell? ⟨w1.heap.size, 3, none⟩ = some (.map (some b))) (ds := []) (bs 7 0) (by kernel_rfl) rfl rfl ⟨q0, q1, q2, q3⟩ (fun hHeld => ?_)
      have HB0 := Aside0.mk ((Below.refl V.heap.size V).drew)
      generalize World.drew _ = w5 at HB0 hHeld ⊢
      refine take_ (i := 1) (N := some 20) (v := ?_) (a' := ?_) (bs 7 2) rfl rfl (by kernel_rfl) (fun _ _ _ h => h) (Or.inl ⟨by rfl, ?_⟩) hHeld ?_ ?_
      rotate_left
      · rintro w' ⟨s0, s1, s2, s3⟩
        go_simp
        with_reducible rfl
      rotate_left
      · simp only [Act.put, List.setIfInBounds_toArray, List.set_cons_zero, List.set_cons_succ, i64_w, i32_w]
        rfl
      refine pv 2 (some 21) (bs 7 6) ?_
      refine join_ (σ := Nat × Nat) 2 (bs 7 31) (fun s => [(19, .agg #[.func (.func 97) #[] #[]]), (6, .pointer (some ⟨s.1, 0, none⟩)), (7, .pointer (some ⟨s.2, 0, none⟩))]) (fun s w' => w'.heap[s.1]? = some (.cells #[.nilFunc] 103 (0, 0)) ∧ w'.heap[s.2]? = some (.cells #[.nilFunc] 100 (0, 0)) ∧ Below V.heap.size V w' ∧ V.heap.size ≤ s.1 ∧ V.heap.size ≤ s.2) ?_ ?_
      rotate_left
      · intro hCont
        refine three_ (i := 0) (j := 3) (k := 4) (Ni := some 19) (Nj := some 6) (Nk := some 7) (bs 7 7) (bs 7 14) (bs 7 22) rfl rfl rfl rfl rfl rfl (by kernel_rfl) (by decide) (by decide) (by decide) (fun K hK => ?_) (fun K hK => ?_) (fun K hK => ?_)
        · skip
          refine goes_ Tryd.func80 (by kernel_rfl) rfl #[] (by rfl) rfl rfl (by simp) ?_
          refine (fewest_calls _).mono ?_
          rintro e w5_0 ⟨rfl, hbn⟩
          refine ⟨_, rfl, ?_⟩
          replace HB0 := Aside0.mk (HB0.out.trans (hbn.mono HB0.out.size))
          clear hbn
          refine hK.out _ _ ⟨(blk_cell ((HB0.out.block w1.heap.size hlt).trans HA.out) 0).trans rfl, (blk_cell ((HB0.out.block w1.heap.size hlt).trans HA.out) 1).trans rfl, (blk_cell ((HB0.out.block w1.heap.size hlt).trans HA.out) 2).trans rfl, (blk_cell ((HB0.out.block w1.heap.size hlt).trans HA.out) 3).trans rfl⟩ (fun hHeld => ?_)
          clear hK K
          refine nm 19 ?_
          refine two_ (i := 3) (j := 4) (Ni := some 6) (Nj := some 7) (bs 7 15) (bs 7 23) rfl rfl rfl rfl (by kernel_rfl) (by decide) (by decide) (fun K hK => ?_) (fun K hK => ?_)
          · skip
            refine value_ (w1 := w5_0.alloc (.cells #[.nilFunc] 103)) (v := .pointer (some ⟨w5_0.heap.size, 0, none⟩)) (by rfl) rfl (by go_simp) ?_
            have hbn : Below w5_0.heap.size w5_0 (w5_0.alloc (.cells #[.nilFunc] 103)) := (Below.refl _ _).alloc (Nat.le_refl _) _
            have hnn := World.alloc_heap_new w5_0 (.cells #[.nilFunc] 103)
            generalize w5_0.alloc (.cells #[.nilFunc] 103) = w5_0_3 at hbn hnn ⊢
            have HZ3 := Aside0.mk HB0.out.size
            replace HB0 := Aside0.mk (HB0.out.trans (hbn.mono HB0.out.size))
            have HN3 := Aside0.mk hnn
            clear hnn
            clear hbn
            refine hK.out _ _ ⟨(blk_cell ((HB0.out.block w1.heap.size hlt).trans HA.out) 0).trans rfl, (blk_cell ((HB0.out.block w1.heap.size hlt).trans HA.out) 1).trans rfl, (blk_cell ((HB0.out.block w1.heap.size hlt).trans HA.out) 2).trans rfl, (blk_cell ((HB0.out.block w1.heap.size hlt).trans HA.out) 3).trans rfl⟩ (fun hHeld => ?_)
            clear hK K
            refine nm 6 ?_
            refine one_ (i := 4) (N := some 7) (bs 7 31) rfl rfl (by kernel_rfl) (by decide) (fun K hK => ?_)
            refine value_ (w1 := w5_0_3.alloc (.cells #[.nilFunc] 100)) (v := .pointer (some ⟨w5_0_3.heap.size, 0, none⟩)) (by rfl) rfl (by go_simp) ?_
            have hbn : Below w5_0_3.heap.size w5_0_3 (w5_0_3.alloc (.cells #[.nilFunc] 100)) := (Below.refl _ _).alloc (Nat.le_refl _) _
            have hnn := World.alloc_heap_new w5_0_3 (.cells #[.nilFunc] 100)
            generalize w5_0_3.alloc (.cells #[.nilFunc] 100) = w5_0_3_4 at hbn hnn ⊢
            have HZ4 := Aside0.mk HB0.out.size
            replace HB0 := Aside0.mk (HB0.out.trans (hbn.mono HB0.out.size))
            replace HN3 := Aside0.mk ((hbn.block _ (Array.getElem?_eq_some_iff.1 HN3.out).1).trans HN3.out)
            have HN4 := Aside0.mk hnn
            clear hnn
            clear hbn
            refine hK.out _ _ ⟨(blk_cell ((HB0.out.block w1.heap.size hlt).trans HA.out) 0).trans rfl, (blk_cell ((HB0.out.block w1.heap.size hlt).trans HA.out) 1).trans rfl, (blk_cell ((HB0.out.block w1.heap.size hlt).trans HA.out) 2).trans rfl, (blk_cell ((HB0.out.block w1.heap.size hlt).trans HA.out) 3).trans rfl⟩ (fun hHeld => ?_)
            clear hK K
            refine nm 7 ?_
            exact norm_ (by simp only [putAll, Act.put, List.setIfInBounds_toArray, List.set_cons_zero, List.set_cons_succ]) (hCont ⟨w5_0.heap.size, w5_0_3.heap.size⟩ _ ⟨HN3.out, HN4.out, HB0.out, HZ3.out, HZ4.out⟩)
          · skip
            refine value_ (w1 := w5_0.alloc (.cells #[.nilFunc] 100)) (v := .pointer (some ⟨w5_0.heap.size, 0, none⟩)) (by rfl) rfl (by go_simp) ?_
            have hbn : Below w5_0.heap.size w5_0 (w5_0.alloc (.cells #[.nilFunc] 100)) := (Below.refl _ _).alloc (Nat.le_refl _) _
            have hnn := World.alloc_heap_new w5_0 (.cells #[.nilFunc] 100)
            generalize w5_0.alloc (.cells #[.nilFunc] 100) = w5_0_4 at hbn hnn ⊢
            have HZ4 := Aside0.mk HB0.out.size
            replace HB0 := Aside0.mk (HB0.out.trans (hbn.mono HB0.out.size))
            have HN4 := Aside0.mk hnn
            clear hnn
            clear hbn
            refine hK.out _ _ ⟨(blk_cell ((HB0.out.block w1.heap.size hlt).trans HA.out) 0).trans rfl, (blk_cell ((HB0.out.block w1.heap.size hlt).trans HA.out) 1).trans rfl, (blk_cell ((HB0.out.block w1.heap.size hlt).trans HA.out) 2).trans rfl, (blk_cell ((HB0.out.block w1.heap.size hlt).trans HA.out) 3).trans rfl⟩ (fun hHeld => ?_)
            clear hK K
            refine nm 7 ?_
            refine one_ (i := 3) (N := some 6) (bs 7 31) rfl rfl (by kernel_rfl) (by decide) (fun K hK => ?_)
            refine value_ (w1 := w5_0_4.alloc (.cells #[.nilFunc] 103)) (v := .pointer (some ⟨w5_0_4.heap.size, 0, none⟩)) (by rfl) rfl (by go_simp) ?_
            have hbn : Below w5_0_4.heap.size w5_0_4 (w5_0_4.alloc (.cells #[.nilFunc] 103)) := (Below.refl _ _).alloc (Nat.le_refl _) _
            have hnn := World.alloc_heap_new w5_0_4 (.cells #[.nilFunc] 103)
            generalize w5_0_4.alloc (.cells #[.nilFunc] 103) = w5_0_4_3 at hbn hnn ⊢
            have HZ3 := Aside0.mk HB0.out.size
            replace HB0 := Aside0.mk (HB0.out.trans (hbn.mono HB0.out.size))
            replace HN4 := Aside0.mk ((hbn.block _ (Array.getElem?_eq_some_iff.1 HN4.out).1).trans HN4.out)
            have HN3 := Aside0.mk hnn
            clear hnn
            clear hbn
            refine hK.out _ _ ⟨(blk_cell ((HB0.out.block w1.heap.size hlt).trans HA.out) 0).trans rfl, (blk_cell ((HB0.out.block w1.heap.size hlt).trans HA.out) 1).trans rfl, (blk_cell ((HB0.out.block w1.heap.size hlt).trans HA.out) 2).trans rfl, (blk_cell ((HB0.out.block w1.heap.size hlt).trans HA.out) 3).trans rfl⟩ (fun hHeld => ?_)
            clear hK K
            refine nm 6 ?_
            exact norm_ (by simp only [putAll, Act.put, List.setIfInBounds_toArray, List.set_cons_zero, List.set_cons_succ]) (hCont ⟨w5_0_4.heap.size, w5_0.heap.size⟩ _ ⟨HN3.out, HN4.out, HB0.out, HZ3.out, HZ4.out⟩)
        · skip
          refine value_ (w1 := w5.alloc (.cells #[.nilFunc] 103)) (v := .pointer (some ⟨w5.heap.size, 0, none⟩)) (by rfl) rfl (by go_simp) ?_
          have hbn : Below w5.heap.size w5 (w5.alloc (.cells #[.nilFunc] 103)) := (Below.refl _ _).alloc (Nat.le_refl _) _
          have hnn := World.alloc_heap_new w5 (.cells #[.nilFunc] 103)
          generalize w5.alloc (.cells #[.nilFunc] 103) = w5_3 at hbn hnn ⊢
          have HZ3 := Aside0.mk HB0.out.size
          replace HB0 := Aside0.mk (HB0.out.trans (hbn.mono HB0.out.size))
          have HN3 := Aside0.mk hnn
          clear hnn
          clear hbn
          refine hK.out _ _ ⟨(blk_cell ((HB0.out.block w1.heap.size hlt).trans HA.out) 0).trans rfl, (blk_cell ((HB0.out.block w1.heap.size hlt).trans HA.out) 1).trans rfl, (blk_cell ((HB0.out.block w1.heap.size hlt).trans HA.out) 2).trans rfl, (blk_cell ((HB0.out.block w1.heap.size hlt).trans HA.out) 3).trans rfl⟩ (fun hHeld => ?_)
          clear hK K
          refine nm 6 ?_
          refine two_ (i := 0) (j := 4) (Ni := some 19) (Nj := some 7) (bs 7 15) (bs 7 30) rfl rfl rfl rfl (by kernel_rfl) (by decide) (by decide) (fun K hK => ?_) (fun K hK => ?_)
          · skip
            refine goes_ Tryd.func80 (by kernel_rfl) rfl #[] (by rfl) rfl rfl (by simp) ?_
            refine (fewest_calls _).mono ?_
            rintro e w5_3_0 ⟨rfl, hbn⟩
            refine ⟨_, rfl, ?_⟩
            replace HB0 := Aside0.mk (HB0.out.trans (hbn.mono HB0.out.size))
            replace HN3 := Aside0.mk ((hbn.block _ (Array.getElem?_eq_some_iff.1 HN3.out).1).trans HN3.out)
            clear hbn
            refine hK.out _ _ ⟨(blk_cell ((HB0.out.block w1.heap.size hlt).trans HA.out) 0).trans rfl, (blk_cell ((HB0.out.block w1.heap.size hlt).trans HA.out) 1).trans rfl, (blk_cell ((HB0.out.block w1.heap.size hlt).trans HA.out) 2).trans rfl, (blk_cell ((HB0.out.block w1.heap.size hlt).trans HA.out) 3).trans rfl⟩ (fun hHeld => ?_)
            clear hK K
            refine nm 19 ?_
            refine one_ (i := 4) (N := some 7) (bs 7 31) rfl rfl (by kernel_rfl) (by decide) (fun K hK => ?_)
            refine value_ (w1 := w5_3_0.alloc (.cells #[.nilFunc] 100)) (v := .pointer (some ⟨w5_3_0.heap.size, 0, none⟩)) (by rfl) rfl (by go_simp) ?_
            have hbn : Below w5_3_0.heap.size w5_3_0 (w5_3_0.alloc (.cells #[.nilFunc] 100)) := (Below.refl _ _).alloc (Nat.le_refl _) _
            have hnn := World.alloc_heap_new w5_3_0 (.cells #[.nilFunc] 100)
            generalize w5_3_0.alloc (.cells #[.nilFunc] 100) = w5_3_0_4 at hbn hnn ⊢
            have HZ4 := Aside0.mk HB0.out.size
            replace HB0 := Aside0.mk (HB0.out.trans (hbn.mono HB0.out.size))
            replace HN3 := Aside0.mk ((hbn.block _ (Array.getElem?_eq_some_iff.1 HN3.out).1).trans HN3.out)
            have HN4 := Aside0.mk hnn
            clear hnn
            clear hbn
            refine hK.out _ _ ⟨(blk_cell ((HB0.out.block w1.heap.size hlt).trans HA.out) 0).trans rfl, (blk_cell ((HB0.out.block w1.heap.size hlt).trans HA.out) 1).trans rfl, (blk_cell ((HB0.out.block w1.heap.size hlt).trans HA.out) 2).trans rfl, (blk_cell ((HB0.out.block w1.heap.size hlt).trans HA.out) 3).trans rfl⟩ (fun hHeld => ?_)
            clear hK K
            refine nm 7 ?_
            exact norm_ (by simp only [putAll, Act.put, List.setIfInBounds_toArray, List.set_cons_zero, List.set_cons_succ]) (hCont ⟨w5.heap.size, w5_3_0.heap.size⟩ _ ⟨HN3.out, HN4.out, HB0.out, HZ3.out, HZ4.out⟩)
          · skip
            refine value_ (w1 := w5_3.alloc (.cells #[.nilFunc] 100)) (v := .pointer (some ⟨w5_3.heap.size, 0, none⟩)) (by rfl) rfl (by go_simp) ?_
            have hbn : Below w5_3.heap.size w5_3 (w5_3.alloc (.cells #[.nilFunc] 100)) := (Below.refl _ _).alloc (Nat.le_refl _) _
            have hnn := World.alloc_heap_new w5_3 (.cells #[.nilFunc] 100)
            generalize w5_3.alloc (.cells #[.nilFunc] 100) = w5_3_4 at hbn hnn ⊢
            have HZ4 := Aside0.mk HB0.out.size
            replace HB0 := Aside0.mk (HB0.out.trans (hbn.mono HB0.out.size))
            replace HN3 := Aside0.mk ((hbn.block _ (Array.getElem?_eq_some_iff.1 HN3.out).1).trans HN3.out)
            have HN4 := Aside0.mk hnn
            clear hnn
            clear hbn
            refine hK.out _ _ ⟨(blk_cell ((HB0.out.block w1.heap.size hlt).trans HA.out) 0).trans rfl, (blk_cell ((HB0.out.block w1.heap.size hlt).trans HA.out) 1).trans rfl, (blk_cell ((HB0.out.block w1.heap.size hlt).trans HA.out) 2).trans rfl, (blk_cell ((HB0.out.block w1.heap.size hlt).trans HA.out) 3).trans rfl⟩ (fun hHeld => ?_)
            clear hK K
            refine nm 7 ?_
            refine one_ (i := 0) (N := some 19) (bs 7 31) rfl rfl (by kernel_rfl) (by decide) (fun K hK => ?_)
            refine goes_ Tryd.func80 (by kernel_rfl) rfl #[] (by rfl) rfl rfl (by simp) ?_
            refine (fewest_calls _).mono ?_
            rintro e w5_3_4_0 ⟨rfl, hbn⟩
            refine ⟨_, rfl, ?_⟩
            replace HB0 := Aside0.mk (HB0.out.trans (hbn.mono HB0.out.size))
            replace HN3 := Aside0.mk ((hbn.block _ (Array.getElem?_eq_some_iff.1 HN3.out).1).trans HN3.out)
            replace HN4 := Aside0.mk ((hbn.block _ (Array.getElem?_eq_some_iff.1 HN4.out).1).trans HN4.out)
            clear hbn
            refine hK.out _ _ ⟨(blk_cell ((HB0.out.block w1.heap.size hlt).trans HA.out) 0).trans rfl, (blk_cell ((HB0.out.block w1.heap.size hlt).trans HA.out) 1).trans rfl, (blk_cell ((HB0.out.block w1.heap.size hlt).trans HA.out) 2).trans rfl, (blk_cell ((HB0.out.block w1.heap.size hlt).trans HA.out) 3).trans rfl⟩ (fun hHeld => ?_)
            clear hK K
            refine nm 19 ?_
            exact norm_ (by simp only [putAll, Act.put, List.setIfInBounds_toArray, List.set_cons_zero, List.set_cons_succ]) (hCont ⟨w5.heap.size, w5_3.heap.size⟩ _ ⟨HN3.out, HN4.out, HB0.out, HZ3.out, HZ4.out⟩)
        · skip
          refine value_ (w1 := w5.alloc (.cells #[.nilFunc] 100)) (v := .pointer (some ⟨w5.heap.size, 0, none⟩)) (by rfl) rfl (by go_simp) ?_
          have hbn : Below w5.heap.size w5 (w5.alloc (.cells #[.nilFunc] 100)) := (Below.refl _ _).alloc (Nat.le_refl _) _
          have hnn := World.alloc_heap_new w5 (.cells #[.nilFunc] 100)
          generalize w5.alloc (.cells #[.nilFunc] 100) = w5_4 at hbn hnn ⊢
          have HZ4 := Aside0.mk HB0.out.size
          replace HB0 := Aside0.mk (HB0.out.trans (hbn.mono HB0.out.size))
          have HN4 := Aside0.mk hnn
          clear hnn
          clear hbn
          refine hK.out _ _ ⟨(blk_cell ((HB0.out.block w1.heap.size hlt).trans HA.out) 0).trans rfl, (blk_cell ((HB0.out.block w1.heap.size hlt).trans HA.out) 1).trans rfl, (blk_cell ((HB0.out.block w1.heap.size hlt).trans HA.out) 2).trans rfl, (blk_cell ((HB0.out.block w1.heap.size hlt).trans HA.out) 3).trans rfl⟩ (fun hHeld => ?_)
          clear hK K
          refine nm 7 ?_
          refine two_ (i := 0) (j := 3) (Ni := some 19) (Nj := some 6) (bs 7 23) (bs 7 30) rfl rfl rfl rfl (by kernel_rfl) (by decide) (by decide) (fun K hK => ?_) (fun K hK => ?_)
          · skip
            refine goes_ Tryd.func80 (by kernel_rfl) rfl #[] (by rfl) rfl rfl (by simp) ?_
            refine (fewest_calls _).mono ?_
            rintro e w5_4_0 ⟨rfl, hbn⟩
            refine ⟨_, rfl, ?_⟩
            replace HB0 := Aside0.mk (HB0.out.trans (hbn.mono HB0.out.size))
            replace HN4 := Aside0.mk ((hbn.block _ (Array.getElem?_eq_some_iff.1 HN4.out).1).trans HN4.out)
            clear hbn
            refine hK.out _ _ ⟨(blk_cell ((HB0.out.block w1.heap.size hlt).trans HA.out) 0).trans rfl, (blk_cell ((HB0.out.block w1.heap.size hlt).trans HA.out) 1).trans rfl, (blk_cell ((HB0.out.block w1.heap.size hlt).trans HA.out) 2).trans rfl, (blk_cell ((HB0.out.block w1.heap.size hlt).trans HA.out) 3).trans rfl⟩ (fun hHeld => ?_)
            clear hK K
            refine nm 19 ?_
            refine one_ (i := 3) (N := some 6) (bs 7 31) rfl rfl (by kernel_rfl) (by decide) (fun K hK => ?_)
            refine value_ (w1 := w5_4_0.alloc (.cells #[.nilFunc] 103)) (v := .pointer (some ⟨w5_4_0.heap.size, 0, none⟩)) (by rfl) rfl (by go_simp) ?_
            have hbn : Below w5_4_0.heap.size w5_4_0 (w5_4_0.alloc (.cells #[.nilFunc] 103)) := (Below.refl _ _).alloc (Nat.le_refl _) _
            have hnn := World.alloc_heap_new w5_4_0 (.cells #[.nilFunc] 103)
            generalize w5_4_0.alloc (.cells #[.nilFunc] 103) = w5_4_0_3 at hbn hnn ⊢
            have HZ3 := Aside0.mk HB0.out.size
            replace HB0 := Aside0.mk (HB0.out.trans (hbn.mono HB0.out.size))
            replace HN4 := Aside0.mk ((hbn.block _ (Array.getElem?_eq_some_iff.1 HN4.out).1).trans HN4.out)
            have HN3 := Aside0.mk hnn
            clear hnn
            clear hbn
            refine hK.out _ _ ⟨(blk_cell ((HB0.out.block w1.heap.size hlt).trans HA.out) 0).trans rfl, (blk_cell ((HB0.out.block w1.heap.size hlt).trans HA.out) 1).trans rfl, (blk_cell ((HB0.out.block w1.heap.size hlt).trans HA.out) 2).trans rfl, (blk_cell ((HB0.out.block w1.heap.size hlt).trans HA.out) 3).trans rfl⟩ (fun hHeld => ?_)
            clear hK K
            refine nm 6 ?_
            exact norm_ (by simp only [putAll, Act.put, List.setIfInBounds_toArray, List.set_cons_zero, List.set_cons_succ]) (hCont ⟨w5_4_0.heap.size, w5.heap.size⟩ _ ⟨HN3.out, HN4.out, HB0.out, HZ3.out, HZ4.out⟩)
          · skip
            refine value_ (w1 := w5_4.alloc (.cells #[.nilFunc] 103)) (v := .pointer (some ⟨w5_4.heap.size, 0, none⟩)) (by rfl) rfl (by go_simp) ?_
            have hbn : Below w5_4.heap.size w5_4 (w5_4.alloc (.cells #[.nilFunc] 103)) := (Below.refl _ _).alloc (Nat.le_refl _) _
            have hnn := World.alloc_heap_new w5_4 (.cells #[.nilFunc] 103)
            generalize w5_4.alloc (.cells #[.nilFunc] 103) = w5_4_3 at hbn hnn ⊢
            have HZ3 := Aside0.mk HB0.out.size
            replace HB0 := Aside0.mk (HB0.out.trans (hbn.mono HB0.out.size))
            replace HN4 := Aside0.mk ((hbn.block _ (Array.getElem?_eq_some_iff.1 HN4.out).1).trans HN4.out)
            have HN3 := Aside0.mk hnn
            clear hnn
            clear hbn
            refine hK.out _ _ ⟨(blk_cell ((HB0.out.block w1.heap.size hlt).trans HA.out) 0).trans rfl, (blk_cell ((HB0.out.block w1.heap.size hlt).trans HA.out) 1).trans rfl, (blk_cell ((HB0.out.block w1.heap.size hlt).trans HA.out) 2).trans rfl, (blk_cell ((HB0.out.block w1.heap.size hlt).trans HA.out) 3).trans rfl⟩ (fun hHeld => ?_)
            clear hK K
            refine nm 6 ?_
            refine one_ (i := 0) (N := some 19) (bs 7 31) rfl rfl (by kernel_rfl) (by decide) (fun K hK => ?_)
            refine goes_ Tryd.func80 (by kernel_rfl) rfl #[] (by rfl) rfl rfl (by simp) ?_
            refine (fewest_calls _).mono ?_
            rintro e w5_4_3_0 ⟨rfl, hbn⟩
            refine ⟨_, rfl, ?_⟩
            replace HB0 := Aside0.mk (HB0.out.trans (hbn.mono HB0.out.size))
            replace HN4 := Aside0.mk ((hbn.block _ (Array.getElem?_eq_some_iff.1 HN4.out).1).trans HN4.out)
            replace HN3 := Aside0.mk ((hbn.block _ (Array.getElem?_eq_some_iff.1 HN3.out).1).trans HN3.out)
            clear hbn
            refine hK.out _ _ ⟨(blk_cell ((HB0.out.block w1.heap.size hlt).trans HA.out) 0).trans rfl, (blk_cell ((HB0.out.block w1.heap.size hlt).trans HA.out) 1).trans rfl, (blk_cell ((HB0.out.block w1.heap.size hlt).trans HA.out) 2).trans rfl, (blk_cell ((HB0.out.block w1.heap.size hlt).trans HA.out) 3).trans rfl⟩ (fun hHeld => ?_)
            clear hK K
            refine nm 19 ?_
            exact norm_ (by simp only [putAll, Act.put, List.setIfInBounds_toArray, List.set_cons_zero, List.set_cons_succ]) (hCont ⟨w5_4.heap.size, w5.heap.size⟩ _ ⟨HN3.out, HN4.out, HB0.out, HZ3.out, HZ4.out⟩)
      rintro ⟨p6, p7⟩ w6 ⟨h6, h7, hB6, hz6, hz7⟩
      dsimp only at h6 h7 hz6 hz7 ⊢
      have hBK := (hB6.block w1.heap.size hlt).trans HA.out
      have hne6 : w1.heap.size ≠ p6 := fun e => by rw [← e, hBK] at h6; cases h6
      have hne7 : w1.heap.size ≠ p7 := fun e => by rw [← e, hBK] at h7; cases h7
      have hne67 : p6 ≠ p7 := fun e => by rw [← e, h6] at h7; cases h7
      have hHeld : w6.cell? ⟨w1.heap.size, 0, none⟩ = some (.slice A0_0 l0_0.length c0_0) ∧ w6.cell? ⟨w1.heap.size, 1, none⟩ = some (.slice A0_1 l0_1.length c0_1) ∧ w6.cell? ⟨w1.heap.size, 2, none⟩ = some (.int .i64 a0_2) ∧ w6.cell? ⟨w1.heap.size, 3, none⟩ = some (.map (some b)) := ⟨(blk_cell hBK 0).trans rfl, (blk_cell hBK 1).trans rfl, (blk_cell hBK 2).trans rfl, (blk_cell hBK 3).trans rfl⟩
      refine norm_ (a' := ?_) ?_ ?_
      rotate_left
      · simp only [putAll, Act.put, List.setIfInBounds_toArray, List.set_cons_zero, List.set_cons_succ]
        rfl
      refine one_ (i := 5) (N := none) (bs 7 63) rfl rfl (by kernel_rfl) (by decide) (fun K hK => ?_)
      have hs0 := (blk_cell h6 0).trans rfl
      have hs1 := blk_frozen h6 0
      refine skip_ (w1 := ?_) (by rfl) rfl ?_ ?_
      rotate_left
      · go_simp
        rfl
      refine hK.out _ _ ⟨(blk_cell (blk_far hBK hne6 _) 0).trans rfl, (blk_cell (blk_far hBK hne6 _) 1).trans rfl, (blk_cell (blk_far hBK hne6 _) 2).trans rfl, (blk_cell (blk_far hBK hne6 _) 3).trans rfl⟩ (fun hHeld => ?_)
      clear hK K
      refine one_ (i := 6) (N := none) (bs 7 127) rfl rfl (by kernel_rfl) (by decide) (fun K hK => ?_)
      have hs2 := (blk_cell (blk_far h7 (p := ⟨p6, 0, none⟩) (Ne.symm hne67) (.func (.func 97) #[] #[])) 0).trans rfl
      have hs3 := blk_frozen (blk_far h7 (p := ⟨p6, 0, none⟩) (Ne.symm hne67) (.func (.func 97) #[] #[])) 0
      refine skip_ (w1 := ?_) (by rfl) rfl ?_ ?_
      rotate_left
      · go_simp
        rfl
      refine hK.out _ _ ⟨(blk_cell (blk_far (blk_far hBK hne6 _) hne7 _) 0).trans rfl, (blk_cell (blk_far (blk_far hBK hne6 _) hne7 _) 1).trans rfl, (blk_cell (blk_far (blk_far hBK hne6 _) hne7 _) 2).trans rfl, (blk_cell (blk_far (blk_far hBK hne6 _) hne7 _) 3).trans rfl⟩ (fun hHeld => ?_)
      clear hK K
      refine done_ (by kernel_rfl) ?_
      have HB6 := Aside0.mk hB6
      have HZ := Aside0.mk (And.intro hz6 hz7)
      have HHH := Aside0.mk (And.intro h6 h7)
      have HBK := Aside0.mk hBK
      have HNE := Aside0.mk (And.intro hne6 (And.intro hne7 hne67))
      have HLT := Aside0.mk hlt
      clear hHeld hs0 hs1 hs2 hs3 hB6 hz6 hz7 h6 h7 hBK hne6 hne7 hne67 q0 q1 q2 q3 hlt
      go_wp2
      go_meet
      case rel =>
        have hxl := (Array.getElem?_eq_some_iff.1 HXV.out).1
        have hz := HZ.out
        have hbl := HBL.out
        have hlt := HLT.out
        have hsz := HBV.out.size
        refine ⟨p6, p7, rfl, rfl, ⟨⟨⟨blk_far (blk_far HBK.out HNE.out.1 _) HNE.out.2.1 _, ?_⟩, ?_, ?_, ?_, ?_⟩⟩⟩
        · exact ((HBV.out.trans (HB6.out.mono hsz)).setCell (p := ⟨p6, 0, none⟩) (by show w.heap.size ≤ p6; omega) _).setCell (p := ⟨p7, 0, none⟩) (by show w.heap.size ≤ p7; omega) _
        · exact blk_far (blk_far ((HB6.out.block _ hxl).trans HXV.out) (show w.heap.size ≠ p6 by omega) _) (show w.heap.size ≠ p7 by omega) _
        · exact (HMV.out.below HB6.out).kept ((Below.heap_setCell _ _ _ _ (show b ≠ p7 by omega)).trans (Below.heap_setCell _ _ _ _ (show b ≠ p6 by omega)))
        · exact blk_far ((blk_set HHH.out.1 0 _).trans rfl) HNE.out.2.2 _
        · exact (blk_set (blk_far HHH.out.2 (show p7 ≠ p6 from Ne.symm HNE.out.2.2) _) 0 _).trans rfl
    case rest =>
      obtain ⟨p6, p7, rfl, rfl, HAH⟩ := hcut
      have hx2 := (blk_cell HAH.out.x 2).trans rfl
      go_wp2_with (fail)
      clear hx2
      refine wp_loop (fun a W => ∃ (u8 u9 u10 u25 u26 u27 u28 u29 u30 u31 u32 u33 u34 u35 u36 u37 u38 u39 u40 u41 u42 u43 u44 u45 u46 u47 u48 u49 u50 u51 u52 u53 u54 u55 u56 u57 u58 u59 u60 : Value) (k : Nat) (Ds : List Nat), a = { tmps := #[.agg #[.slice A0_0 l0_0.length c0_0, .slice A0_1 l0_1.length c0_1, .int .i64 a0_2], .pointer (some ⟨w.heap.size, 0, none⟩), .slice none 0 0, .int .i64 0, .pointer (some ⟨w1.heap.size, 0, none⟩), .int .i64 0, .pointer (some ⟨p6, 0, none⟩), .pointer (some ⟨p7, 0, none⟩), u8, u9, u10, .tuple #[.agg #[.slice A0_0 l0_0.length c0_0, .slice A0_1 l0_1.length c0_1, .int .i64 a0_2, .map (some b)], .int .i64 0], .agg #[.slice A0_0 l0_0.length c0_0, .slice A0_1 l0_1.length c0_1, .int .i64 a0_2], .tuple #[.agg #[.slice A0_0 l0_0.length c0_0, .slice A0_1 l0_1.length c0_1, .int .i64 a0_2, .map (some b)], .int .i64 0], .agg #[.slice A0_0 l0_0.length c0_0, .slice A0_1 l0_1.length c0_1, .int .i64 a0_2, .map (some b)], .int .i64 0, .int .i64 0, .bool false, undef, u19, u20, u21, .pointer (some ⟨w.heap.size, 2, none⟩), .int .i64 a0_2, .int .i64 k, u25, u26, u27, u28, u29, u30, u31, u32, u33, u34, u35, u36, u37, u38, u39, u40, u41, u42, u43, u44, u45, u46, u47, u48, u49, u50, u51, u52, u53, u54, u55, u56, u57, u58, u59, u60], defers := Ds.map markOf } ∧ (k : Int) ≤ a0_2 ∧ Ahead w W l0_0 l0_1 a0_2 b w1.heap.size w.heap.size p6 p7 A0_0 c0_0 A0_1 c0_1 ∧
        (∀ D ∈ Ds, W.heap[D]? = some (.deferred (some [])) ∧ w.heap.size ≤ D) ∧ Ds.Nodup ∧ planL l0_0 l0_1 a0_2 = planAt l0_0 l0_1 a0_2 (a0_2.toNat - k) k) (fun a W => a0_2.toNat - (intOf (a.tmps.getD 24 undef)).toNat) ?start ?round
      case start =>
        refine ⟨_, _, _, _, _, _, _, _, _, _, _, _, _, _, _, _, _, _, _, _, _, _, _, _, _, _, _, _, _, _, _, _, _, _, _, _, _, _, _, 0, [], rfl, by simpa using hn0, HAH.out, fun D h => by simp at h, List.nodup_nil, rfl⟩
      case round =>
        rintro a W ⟨u8, u9, u10, u25, u26, u27, u28, u29, u30, u31, u32, u33, u34, u35, u36, u37, u38, u39, u40, u41, u42, u43, u44, u45, u46, u47, u48, u49, u50, u51, u52, u53, u54, u55, u56, u57, u58, u59, u60, k, Ds, rfl, hk, hA, hD, hnd, hsp⟩
        have HA2 := Aside0.mk hA
        have HD := Aside0.mk hD
        have HND := Aside0.mk hnd
        have HSP := Aside0.mk hsp
        clear hA hD hnd hsp HAH
        by_cases hlt : (k : Int) < a0_2
        · have q0 := (blk_cell HA2.out.box.box 0).trans rfl
          have q1 := (blk_cell HA2.out.box.box 1).trans rfl
          have q2 := (blk_cell HA2.out.box.box 2).trans rfl
          have q3 := (blk_cell HA2.out.box.box 3).trans rfl
          have hgl := (Array.getElem?_eq_some_iff.1 HA2.out.box.box).1
          go_wp2_with (fail)
          refine (plans_calls A0_0 l0_0.length c0_0 A0_1 l0_1.length c0_1 a0_2 b (k + 1) _).mono ?_
          obtain ⟨V, hV⟩ : ∃ V, W.alloc (.cells #[.slice none 0 0] 26) = V := ⟨_, rfl⟩
          have HVW := Aside0.mk (show Below W.heap.size W V by rw [← hV]; exact (Below.refl _ W).alloc (Nat.le_refl _) _)
          have HVB := Aside0.mk (show V.heap[W.heap.size]? = some (.cells #[.slice none 0 0] 26 (0, 0)) by rw [← hV]; exact World.alloc_heap_new W _)
          have HVS := Aside0.mk (show V.heap.size = W.heap.size + 1 by rw [← hV]; simp)
          rw [hV]
          clear hV
          rintro e wl ⟨rfl, hwl⟩
          have hbl : Below V.heap.size V wl := by rw [hwl]; exact ((Below.refl _ V).alloc (Nat.le_refl _) _).alloc (by simp) _
          have hsl : wl.heap.size = V.heap.size + 2 := by rw [hwl]; simp
          have hWl : Below W.heap.size W wl := HVW.out.trans (hbl.mono HVW.out.size)
          have HAl := Aside0.mk (HA2.out.below hWl)
          have HPI := Aside0.mk (show PlanI w wl l0_0 l0_1 a0_2 b w1.heap.size w.heap.size p6 p7 W.heap.size (wl.heap.size + 2) Ds A0_0 c0_0 A0_1 c0_1 [] from
            ⟨HAl.out.box, HAl.out.x, HAl.out.mp, HAl.out.h6, HAl.out.h7, fun D hD' => (hWl.block _ (Array.getElem?_eq_some_iff.1 (HD.out D hD').1).1).trans (HD.out D hD').1, .slice none 0 0, (hbl.block _ (Array.getElem?_eq_some_iff.1 HVB.out).1).trans HVB.out, rfl⟩)
          have HSr := Aside0.mk (Src.mk (w := w) (W := wl) (ms := l0_0) (gs := l0_1) (n := a0_2) (b := b) (g := V.heap.size) (gm := V.heap.size + 1) (many := (k : Int) + 1) (A0 := A0_0) (c0 := c0_0) (A1 := A0_1) (c1 := c0_1)
            ⟨by rw [hwl]; exact blk_alloc (World.alloc_heap_new V _) _, HAl.out.box.bel⟩ HAl.out.mp (by rw [hwl]; have q := World.alloc_heap_new (V.alloc (.cells #[.slice A0_0 l0_0.length c0_0, .slice A0_1 l0_1.length c0_1, .int .i64 a0_2, .map (some b)] 86)) (.cells #[.int .i64 ((k : Int) + 1)] 3); rwa [World.size_alloc] at q))
          have HSL := Aside0.mk hsl
          have HGL := Aside0.mk hgl
          clear hbl hwl hsl hWl q0 q1 q2 q3 hgl
          go_wp2_with (fail)
          refine wpIn_range_all (P := Tryd.prog) (w := wl) (n := 0) rfl (enters_ Tryd.func100 (by kernel_rfl) rfl) w.heap.size HAl.out.box.bel.size (fun q => q = W.heap.size) (fun q hq => by have h1 := HVS.out; have h2 := HSL.out; have h3 := HA2.out.box.bel.size; omega) (plansL l0_0 l0_1 a0_2 (k + 1)) (fun x v Z => Pr8 l0_0 l0_1 a0_2 (wl.heap.size + 2) x v Z) w HAl.out.box.bel ?hit ?hPr
            (fun pre Z => PlanI w Z l0_0 l0_1 a0_2 b w1.heap.size w.heap.size p6 p7 W.heap.size (wl.heap.size + 2) Ds A0_0 c0_0 A0_1 c0_1 pre) ?hI1 ?hI2 HPI.out ?a1 ?assign ?body ?done
          case hit =>
            have h1 := HVS.out
            have h2 := HSL.out
            have hb := HBL.out
            have hg := HGL.out
            intro l J Z hl hZ hbZ hJ hY h0
            exact plans1_calls wl (fun q => q = W.heap.size) (fun q hq => by omega) (by omega) (by omega) (by omega) HSr.out hg1 hg2 (by omega) (by omega) hn0 hm4 HR1.out HG0.out l J Z hl hZ hbZ hJ hY h0
          case hPr =>
            rintro x v Z o hp _
            exact hp.kept (S := fun q => q = wl.heap.size + 1) ⟨by simp, fun i hi hn => World.putObj_heap_other hn⟩ (fun q hq e => by omega)
          case hI1 => exact fun pre X Y h hb => h.below hb
          case hI2 => exact fun pre X o h hr => h.put _ o hr (by have := HAl.out.box.bel.size; omega) (by omega)
          case assign =>
            intro x v Z K hK
            gi_wp2
            exact hK
          case body =>
            rintro pre x v Z hZ hI hp
            obtain ⟨A, c, rfl, hlc, hnil, hF, hfa⟩ := id hp
            obtain ⟨vb, hcell, hbv⟩ := hI.best
            have HFA := Aside0.mk hfa
            have HAZ := Aside0.mk hI.box.bel.size
            have HLTS := Aside0.mk (show w1.heap.size < W.heap.size ∧ w.heap.size < W.heap.size ∧ b < W.heap.size ∧ p6 < W.heap.size ∧ p7 < W.heap.size from
              ⟨HGL.out, (Array.getElem?_eq_some_iff.1 HA2.out.x).1, HA2.out.mp.lt, (Array.getElem?_eq_some_iff.1 HA2.out.h6).1, (Array.getElem?_eq_some_iff.1 HA2.out.h7).1⟩)
            have HDL := Aside0.mk (fun D (h : D ∈ Ds) => (Array.getElem?_eq_some_iff.1 (HD.out D h).1).1)
            have HBC := Aside0.mk (show Z.drew.heap[W.heap.size]? = _ from hcell)
            have HI5 := Aside0.mk (hI.below (Below.refl _ Z).drew)
            have HP5 := Aside0.mk (hp.below (Below.refl _ Z).drew)
            have HK5 := Aside0.mk ((Keeps.refl w.heap.size (fun q => q = W.heap.size) Z).step (Below.refl _ Z).drew hI.box.bel.size)
            have hse := slice_eql
            have hml := mended_len l0_0 l0_1 x
            clear hnil hF hfa hcell hp hZ
            cases hbo : bestOf l0_0 l0_1 pre with
            | none =>
              rw [hbo] at hbv
              obtain rfl : vb = .slice none 0 0 := hbv
              clear hI
              by_cases hfull : (mendedL l0_0 l0_1 x).length = l0_0.length
              · have hf1 : ((mendedL l0_0 l0_1 x).length == l0_0.length) = true := beq_iff_eq.2 hfull
                have hf2 : (((mendedL l0_0 l0_1 x).length : Int) == (l0_0.length : Int)) = true := beq_iff_eq.2 (by omega)
                have HBS := Aside0.mk (show bestOf l0_0 l0_1 (pre ++ [x]) = some x by rw [bestOf_snoc, hbo]; unfold bestStep; rw [if_pos (by simp [hfull])])
                clear hbo hfull
                gi_wp2
                refine startIn_ (n := 19) (S := fun w' => w'.cell? ⟨W.heap.size, 0, none⟩ = some (.slice none 0 0) ∧ w'.cell? ⟨p6, 0, none⟩ = some (.func (.func 97) #[] #[]) ∧ w'.cell? ⟨p7, 0, none⟩ = some (.func (.func 77) #[.agg #[.slice A0_0 l0_0.length c0_0, .slice A0_1 l0_1.length c0_1, .int .i64 a0_2, .map (some b)]] #[]) ∧ w'.cell? ⟨w.heap.size, 0, none⟩ = some (.slice A0_0 l0_0.length c0_0)) (ds := []) (by kernel_rfl) (fun h => by obtain ⟨_, _, h⟩ := h; exact Exit.noConfusion (And.left h)) (bs 19 0) (by kernel_rfl) rfl rfl ⟨(blk_cell HBC.out 0).trans rfl, (blk_cell HI5.out.h6 0).trans rfl, (blk_cell HI5.out.h7 0).trans rfl, (blk_cell HI5.out.x 0).trans rfl⟩ (fun hHeld => ?_)
                refine with_tabW X_Plan.tab11 X_Plan.bits11 (fun HT_ HW_ => ?_)
                generalize World.drew _ = w5 at HBC HI5 HP5 HK5 hHeld ⊢
                refine tk4 HT_ HW_ hHeld 0 (some 32) (bs 19 1) ?_
                refine pu HT_ 1 (some 33) (bs 19 3) ?_
                refine pu HT_ 2 (some 34) (bs 19 7) ?_
                refine pn HT_ 3 (some 35) (bs 19 15) ?_
                refine pn HT_ 4 (some 36) (bs 19 31) ?_
                refine pn HT_ 5 (some 37) (bs 19 63) ?_
                refine pn HT_ 6 (some 38) (bs 19 127) ?_
                refine pn HT_ 7 (some 39) (bs 19 255) ?_
                refine pu HT_ 8 (some 40) (bs 19 511) ?_
                refine pu HT_ 9 (some 41) (bs 19 1023) ?_
                refine pu HT_ 11 (some 43) (bs 19 3071) ?_
                refine pu HT_ 14 (some 46) (bs 19 19455) ?_
                refine tk4 HT_ HW_ hHeld 10 (some 42) (bs 19 20479) ?_
                refine tk4 HT_ HW_ hHeld 15 (some 47) (bs 19 53247) ?_
                refine pu HT_ 16 (some 48) (bs 19 118783) ?_
                refine on HT_ 12 (some 44) (bs 19 122879) (fun K hK => ?_)
                refine goesF_ Tryd.func77 (by kernel_rfl) rfl #[.agg #[.slice A0_0 l0_0.length c0_0, .slice A0_1 l0_1.length c0_1, .int .i64 a0_2, .map (some b)], .slice A x.length c] (by rfl) rfl rfl (by rfl) (by simp [Act.eval]) ?_
                refine (mended_calls l0_0 l0_1 A0_0 c0_0 A0_1 c0_1 a0_2 b A c x _ (Kd.C_below HR0.out HI5.out.box.bel) (Kd.C_below HR1.out HI5.out.box.bel) (pr8_read HP5.out) (gv_below HG0.out HI5.out.box.bel) (askedE_ok HE.out.symm).1 HFA.out).mono ?_
                rintro e w6 ⟨v2, rfl, hR, hb⟩
                obtain ⟨A2, c2, rfl⟩ := Kd.R_slice hR
                refine ⟨_, rfl, ?_⟩
                clear hR
                replace HBC := Aside0.mk ((hb.block _ (Array.getElem?_eq_some_iff.1 HBC.out).1).trans HBC.out)
                replace HI5 := Aside0.mk (HI5.out.below hb)
                replace HP5 := Aside0.mk (HP5.out.below hb)
                replace HK5 := Aside0.mk (HK5.out.step hb HAZ.out)
                clear hb
                refine hK.out _ _ ⟨(blk_cell HBC.out 0).trans rfl, (blk_cell HI5.out.h6 0).trans rfl, (blk_cell HI5.out.h7 0).trans rfl, (blk_cell HI5.out.x 0).trans rfl⟩ (fun hHeld => ?_)
                clear hK K
                refine nm 44 ?_
                refine pu HT_ 13 (some 45) (bs 19 131071) ?_
                refine pu HT_ 17 (some 49) (bs 19 262143) ?_
                refine pu HT_ 18 (some 50) (bs 19 524287) ?_
                refine done_ (done_of HT_.out (by kernel_rfl)) ?_
                clear hHeld
                have hs0 := (blk_cell HBC.out 0).trans rfl
                have hs1 := blk_frozen HBC.out 0
                gi_wp2
                have hl := HLTS.out
                exact ⟨HI5.out.store (by omega) (by omega) (by omega) (by omega) (by omega) (fun D h => by have := HDL.out D h; omega) (by have := HA2.out.box.bel.size; omega) (by have := HSL.out; have := HVS.out; omega) _ (by rw [HBS.out]; exact HP5.out), keeps_setCell' HK5.out (p := ⟨W.heap.size, 0, none⟩) rfl HA2.out.box.bel.size _⟩
              · have hf1 : ((mendedL l0_0 l0_1 x).length == l0_0.length) = false := beq_eq_false_iff_ne.2 hfull
                have hf2 : (((mendedL l0_0 l0_1 x).length : Int) == (l0_0.length : Int)) = false := beq_eq_false_iff_ne.2 (by omega)
                have HBS := Aside0.mk (show bestOf l0_0 l0_1 (pre ++ [x]) = bestOf l0_0 l0_1 pre by rw [bestOf_snoc, hbo]; unfold bestStep; rw [if_neg (by simp [hfull])])
                clear hbo hfull
                gi_wp2
                refine startIn_ (n := 19) (S := fun w' => w'.cell? ⟨W.heap.size, 0, none⟩ = some (.slice none 0 0) ∧ w'.cell? ⟨p6, 0, none⟩ = some (.func (.func 97) #[] #[]) ∧ w'.cell? ⟨p7, 0, none⟩ = some (.func (.func 77) #[.agg #[.slice A0_0 l0_0.length c0_0, .slice A0_1 l0_1.length c0_1, .int .i64 a0_2, .map (some b)]] #[]) ∧ w'.cell? ⟨w.heap.size, 0, none⟩ = some (.slice A0_0 l0_0.length c0_0)) (ds := []) (by kernel_rfl) (fun h => by obtain ⟨_, _, h⟩ := h; exact Exit.noConfusion (And.left h)) (bs 19 0) (by kernel_rfl) rfl rfl ⟨(blk_cell HBC.out 0).trans rfl, (blk_cell HI5.out.h6 0).trans rfl, (blk_cell HI5.out.h7 0).trans rfl, (blk_cell HI5.out.x 0).trans rfl⟩ (fun hHeld => ?_)
                refine with_tabW X_Plan.tab11 X_Plan.bits11 (fun HT_ HW_ => ?_)
                generalize World.drew _ = w5 at HBC HI5 HP5 HK5 hHeld ⊢
                refine tk4 HT_ HW_ hHeld 0 (some 32) (bs 19 1) ?_
                refine pu HT_ 1 (some 33) (bs 19 3) ?_
                refine pu HT_ 2 (some 34) (bs 19 7) ?_
                refine pn HT_ 3 (some 35) (bs 19 15) ?_
                refine pn HT_ 4 (some 36) (bs 19 31) ?_
                refine pn HT_ 5 (some 37) (bs 19 63) ?_
                refine pn HT_ 6 (some 38) (bs 19 127) ?_
                refine pn HT_ 7 (some 39) (bs 19 255) ?_
                refine pu HT_ 8 (some 40) (bs 19 511) ?_
                refine pu HT_ 9 (some 41) (bs 19 1023) ?_
                refine pu HT_ 11 (some 43) (bs 19 3071) ?_
                refine pu HT_ 14 (some 46) (bs 19 19455) ?_
                refine tk4 HT_ HW_ hHeld 10 (some 42) (bs 19 20479) ?_
                refine tk4 HT_ HW_ hHeld 15 (some 47) (bs 19 53247) ?_
                refine pu HT_ 16 (some 48) (bs 19 118783) ?_
                refine on HT_ 12 (some 44) (bs 19 122879) (fun K hK => ?_)
                refine goesF_ Tryd.func77 (by kernel_rfl) rfl #[.agg #[.slice A0_0 l0_0.length c0_0, .slice A0_1 l0_1.length c0_1, .int .i64 a0_2, .map (some b)], .slice A x.length c] (by rfl) rfl rfl (by rfl) (by simp [Act.eval]) ?_
                refine (mended_calls l0_0 l0_1 A0_0 c0_0 A0_1 c0_1 a0_2 b A c x _ (Kd.C_below HR0.out HI5.out.box.bel) (Kd.C_below HR1.out HI5.out.box.bel) (pr8_read HP5.out) (gv_below HG0.out HI5.out.box.bel) (askedE_ok HE.out.symm).1 HFA.out).mono ?_
                rintro e w6 ⟨v2, rfl, hR, hb⟩
                obtain ⟨A2, c2, rfl⟩ := Kd.R_slice hR
                refine ⟨_, rfl, ?_⟩
                clear hR
                replace HBC := Aside0.mk ((hb.block _ (Array.getElem?_eq_some_iff.1 HBC.out).1).trans HBC.out)
                replace HI5 := Aside0.mk (HI5.out.below hb)
                replace HP5 := Aside0.mk (HP5.out.below hb)
                replace HK5 := Aside0.mk (HK5.out.step hb HAZ.out)
                clear hb
                refine hK.out _ _ ⟨(blk_cell HBC.out 0).trans rfl, (blk_cell HI5.out.h6 0).trans rfl, (blk_cell HI5.out.h7 0).trans rfl, (blk_cell HI5.out.x 0).trans rfl⟩ (fun hHeld => ?_)
                clear hK K
                refine nm 44 ?_
                refine pu HT_ 13 (some 45) (bs 19 131071) ?_
                refine pu HT_ 17 (some 49) (bs 19 262143) ?_
                refine pu HT_ 18 (some 50) (bs 19 524287) ?_
                refine done_ (done_of HT_.out (by kernel_rfl)) ?_
                clear hHeld
                gi_wp2
                exact ⟨HI5.out.same HBS.out, HK5.out⟩
            | some pb =>
              rw [hbo] at hbv
              have hb5 := Pr8.below (show Pr8 l0_0 l0_1 a0_2 (wl.heap.size + 2) pb vb Z from hbv) (Below.refl _ Z).drew
              obtain ⟨Ab, cb, rfl, _, _, hFb, hfb⟩ := id hbv
              have hpne := bestOf_ne (askedE_ok HE.out.symm).1 hbo
              obtain ⟨adb, rfl⟩ : ∃ ad, Ab = some ad := by
                obtain ⟨ad, e, _⟩ := (Kd.F_now hFb).2.2 (List.length_pos_iff.2 hpne)
                exact ⟨ad, e⟩
              have HB5 := Aside0.mk hb5
              have HFB := Aside0.mk hfb
              clear hI hbv hb5 hFb hfb hpne
              cases hbe : betterB x pb with
              | false =>
                have HBE := Aside0.mk hbe
                have HBS := Aside0.mk (show bestOf l0_0 l0_1 (pre ++ [x]) = bestOf l0_0 l0_1 pre by rw [bestOf_snoc, hbo]; unfold bestStep; rw [if_neg (by simp [hbe])])
                clear hbo hbe
                gi_wp2
                refine startIn_ (n := 19) (S := fun w' => w'.cell? ⟨W.heap.size, 0, none⟩ = some (.slice (some adb) pb.length cb) ∧ w'.cell? ⟨p6, 0, none⟩ = some (.func (.func 97) #[] #[]) ∧ w'.cell? ⟨p7, 0, none⟩ = some (.func (.func 77) #[.agg #[.slice A0_0 l0_0.length c0_0, .slice A0_1 l0_1.length c0_1, .int .i64 a0_2, .map (some b)]] #[]) ∧ w'.cell? ⟨w.heap.size, 0, none⟩ = some (.slice A0_0 l0_0.length c0_0)) (ds := []) (by kernel_rfl) (fun h => by obtain ⟨_, _, h⟩ := h; exact Exit.noConfusion (And.left h)) (bs 19 0) (by kernel_rfl) rfl rfl ⟨(blk_cell HBC.out 0).trans rfl, (blk_cell HI5.out.h6 0).trans rfl, (blk_cell HI5.out.h7 0).trans rfl, (blk_cell HI5.out.x 0).trans rfl⟩ (fun hHeld => ?_)
                refine with_tabW X_Plan.tab11 X_Plan.bits11 (fun HT_ HW_ => ?_)
                generalize World.drew _ = w5 at HBC HI5 HP5 HK5 HB5 hHeld ⊢
                refine tk4 HT_ HW_ hHeld 0 (some 32) (bs 19 1) ?_
                refine pu HT_ 1 (some 33) (bs 19 3) ?_
                refine pu HT_ 2 (some 34) (bs 19 7) ?_
                refine pu HT_ 3 (some 35) (bs 19 15) ?_
                refine pu HT_ 5 (some 37) (bs 19 47) ?_
                refine tk4 HT_ HW_ hHeld 4 (some 36) (bs 19 63) ?_
                refine tk4 HT_ HW_ hHeld 6 (some 38) (bs 19 127) ?_
                refine on HT_ 7 (some 39) (bs 19 255) (fun K hK => ?_)
                refine goesT_ Tryd.func97 (by kernel_rfl) rfl #[.slice A x.length c, .slice (some adb) pb.length cb] (by rfl) rfl rfl (by rfl) (by (try simp only [List.map_toArray, List.map_cons, List.map_nil]); rfl) ?_
                refine (better_calls A c x (some adb) cb pb _ (pr8_read HP5.out) (pr8_read HB5.out) HFA.out.len HFB.out.len).mono ?_
                rw [HBE.out]
                rintro e w6 ⟨rfl, hb⟩
                refine ⟨_, rfl, ?_⟩
                replace HB5 := Aside0.mk (HB5.out.below hb)
                replace HBC := Aside0.mk ((hb.block _ (Array.getElem?_eq_some_iff.1 HBC.out).1).trans HBC.out)
                replace HI5 := Aside0.mk (HI5.out.below hb)
                replace HP5 := Aside0.mk (HP5.out.below hb)
                replace HK5 := Aside0.mk (HK5.out.step hb HAZ.out)
                clear hb
                refine hK.out _ _ ⟨(blk_cell HBC.out 0).trans rfl, (blk_cell HI5.out.h6 0).trans rfl, (blk_cell HI5.out.h7 0).trans rfl, (blk_cell HI5.out.x 0).trans rfl⟩ (fun hHeld => ?_)
                clear hK K
                refine nm 39 ?_
                refine pu HT_ 8 (some 40) (bs 19 511) ?_
                refine pu HT_ 9 (some 41) (bs 19 1023) ?_
                refine pn HT_ 10 (some 42) (bs 19 2047) ?_
                refine pn HT_ 11 (some 43) (bs 19 4095) ?_
                refine pn HT_ 12 (some 44) (bs 19 8191) ?_
                refine pn HT_ 13 (some 45) (bs 19 16383) ?_
                refine pn HT_ 14 (some 46) (bs 19 32767) ?_
                refine pn HT_ 15 (some 47) (bs 19 65535) ?_
                refine pn HT_ 16 (some 48) (bs 19 131071) ?_
                refine pn HT_ 17 (some 49) (bs 19 262143) ?_
                refine pu HT_ 18 (some 50) (bs 19 524287) ?_
                refine done_ (done_of HT_.out (by kernel_rfl)) ?_
                clear hHeld
                gi_wp2
                exact ⟨HI5.out.same HBS.out, HK5.out⟩
              | true =>
                have HBE := Aside0.mk hbe
                by_cases hfull : (mendedL l0_0 l0_1 x).length = l0_0.length
                · have hf1 : ((mendedL l0_0 l0_1 x).length == l0_0.length) = true := beq_iff_eq.2 hfull
                  have hf2 : (((mendedL l0_0 l0_1 x).length : Int) == (l0_0.length : Int)) = true := beq_iff_eq.2 (by omega)
                  have HBS := Aside0.mk (show bestOf l0_0 l0_1 (pre ++ [x]) = some x by rw [bestOf_snoc, hbo]; unfold bestStep; rw [if_pos (by simp [hbe, hfull])])
                  clear hbo hfull hbe
                  gi_wp2
                  refine startIn_ (n := 19) (S := fun w' => w'.cell? ⟨W.heap.size, 0, none⟩ = some (.slice (some adb) pb.length cb) ∧ w'.cell? ⟨p6, 0, none⟩ = some (.func (.func 97) #[] #[]) ∧ w'.cell? ⟨p7, 0, none⟩ = some (.func (.func 77) #[.agg #[.slice A0_0 l0_0.length c0_0, .slice A0_1 l0_1.length c0_1, .int .i64 a0_2, .map (some b)]] #[]) ∧ w'.cell? ⟨w.heap.size, 0, none⟩ = some (.slice A0_0 l0_0.length c0_0)) (ds := []) (by kernel_rfl) (fun h => by obtain ⟨_, _, h⟩ := h; exact Exit.noConfusion (And.left h)) (bs 19 0) (by kernel_rfl) rfl rfl ⟨(blk_cell HBC.out 0).trans rfl, (blk_cell HI5.out.h6 0).trans rfl, (blk_cell HI5.out.h7 0).trans rfl, (blk_cell HI5.out.x 0).trans rfl⟩ (fun hHeld => ?_)
                  refine with_tabW X_Plan.tab11 X_Plan.bits11 (fun HT_ HW_ => ?_)
                  generalize World.drew _ = w5 at HBC HI5 HP5 HK5 HB5 hHeld ⊢
                  refine tk4 HT_ HW_ hHeld 0 (some 32) (bs 19 1) ?_
                  refine pu HT_ 1 (some 33) (bs 19 3) ?_
                  refine pu HT_ 2 (some 34) (bs 19 7) ?_
                  refine pu HT_ 3 (some 35) (bs 19 15) ?_
                  refine pu HT_ 5 (some 37) (bs 19 47) ?_
                  refine tk4 HT_ HW_ hHeld 4 (some 36) (bs 19 63) ?_
                  refine tk4 HT_ HW_ hHeld 6 (some 38) (bs 19 127) ?_
                  refine on HT_ 7 (some 39) (bs 19 255) (fun K hK => ?_)
                  refine goesT_ Tryd.func97 (by kernel_rfl) rfl #[.slice A x.length c, .slice (some adb) pb.length cb] (by rfl) rfl rfl (by rfl) (by (try simp only [List.map_toArray, List.map_cons, List.map_nil]); rfl) ?_
                  refine (better_calls A c x (some adb) cb pb _ (pr8_read HP5.out) (pr8_read HB5.out) HFA.out.len HFB.out.len).mono ?_
                  rw [HBE.out]
                  rintro e w6 ⟨rfl, hb⟩
                  refine ⟨_, rfl, ?_⟩
                  replace HB5 := Aside0.mk (HB5.out.below hb)
                  replace HBC := Aside0.mk ((hb.block _ (Array.getElem?_eq_some_iff.1 HBC.out).1).trans HBC.out)
                  replace HI5 := Aside0.mk (HI5.out.below hb)
                  replace HP5 := Aside0.mk (HP5.out.below hb)
                  replace HK5 := Aside0.mk (HK5.out.step hb HAZ.out)
                  clear hb
                  refine hK.out _ _ ⟨(blk_cell HBC.out 0).trans rfl, (blk_cell HI5.out.h6 0).trans rfl, (blk_cell HI5.out.h7 0).trans rfl, (blk_cell HI5.out.x 0).trans rfl⟩ (fun hHeld => ?_)
                  clear hK K
                  refine nm 39 ?_
                  refine pu HT_ 8 (some 40) (bs 19 511) ?_
                  refine pu HT_ 9 (some 41) (bs 19 1023) ?_
                  refine pu HT_ 11 (some 43) (bs 19 3071) ?_
                  refine pu HT_ 14 (some 46) (bs 19 19455) ?_
                  refine tk4 HT_ HW_ hHeld 10 (some 42) (bs 19 20479) ?_
                  refine tk4 HT_ HW_ hHeld 15 (some 47) (bs 19 53247) ?_
                  refine pu HT_ 16 (some 48) (bs 19 118783) ?_
                  refine on HT_ 12 (some 44) (bs 19 122879) (fun K hK => ?_)
                  refine goesF_ Tryd.func77 (by kernel_rfl) rfl #[.agg #[.slice A0_0 l0_0.length c0_0, .slice A0_1 l0_1.length c0_1, .int .i64 a0_2, .map (some b)], .slice A x.length c] (by rfl) rfl rfl (by rfl) (by simp [Act.eval]) ?_
                  refine (mended_calls l0_0 l0_1 A0_0 c0_0 A0_1 c0_1 a0_2 b A c x _ (Kd.C_below HR0.out HI5.out.box.bel) (Kd.C_below HR1.out HI5.out.box.bel) (pr8_read HP5.out) (gv_below HG0.out HI5.out.box.bel) (askedE_ok HE.out.symm).1 HFA.out).mono ?_
                  rintro e w6 ⟨v2, rfl, hR, hb⟩
                  obtain ⟨A2, c2, rfl⟩ := Kd.R_slice hR
                  refine ⟨_, rfl, ?_⟩
                  clear hR
                  replace HB5 := Aside0.mk (HB5.out.below hb)
                  replace HBC := Aside0.mk ((hb.block _ (Array.getElem?_eq_some_iff.1 HBC.out).1).trans HBC.out)
                  replace HI5 := Aside0.mk (HI5.out.below hb)
                  replace HP5 := Aside0.mk (HP5.out.below hb)
                  replace HK5 := Aside0.mk (HK5.out.step hb HAZ.out)
                  clear hb
                  refine hK.out _ _ ⟨(blk_cell HBC.out 0).trans rfl, (blk_cell HI5.out.h6 0).trans rfl, (blk_cell HI5.out.h7 0).trans rfl, (blk_cell HI5.out.x 0).trans rfl⟩ (fun hHeld => ?_)
                  clear hK K
                  refine nm 44 ?_
                  refine pu HT_ 13 (some 45) (bs 19 131071) ?_
                  refine pu HT_ 17 (some 49) (bs 19 262143) ?_
                  refine pu HT_ 18 (some 50) (bs 19 524287) ?_
                  refine done_ (done_of HT_.out (by kernel_rfl)) ?_
                  clear hHeld
                  have hs0 := (blk_cell HBC.out 0).trans rfl
                  have hs1 := blk_frozen HBC.out 0
                  gi_wp2
                  have hl := HLTS.out
                  exact ⟨HI5.out.store (by omega) (by omega) (by omega) (by omega) (by omega) (fun D h => by have := HDL.out D h; omega) (by have := HA2.out.box.bel.size; omega) (by have := HSL.out; have := HVS.out; omega) _ (by rw [HBS.out]; exact HP5.out), keeps_setCell' HK5.out (p := ⟨W.heap.size, 0, none⟩) rfl HA2.out.box.bel.size _⟩
                · have hf1 : ((mendedL l0_0 l0_1 x).length == l0_0.length) = false := beq_eq_false_iff_ne.2 hfull
                  have hf2 : (((mendedL l0_0 l0_1 x).length : Int) == (l0_0.length : Int)) = false := beq_eq_false_iff_ne.2 (by omega)
                  have HBS := Aside0.mk (show bestOf l0_0 l0_1 (pre ++ [x]) = bestOf l0_0 l0_1 pre by rw [bestOf_snoc, hbo]; unfold bestStep; rw [if_neg (by simp [hfull])])
                  clear hbo hfull hbe
                  gi_wp2
                  refine startIn_ (n := 19) (S := fun w' => w'.cell? ⟨W.heap.size, 0, none⟩ = some (.slice (some adb) pb.length cb) ∧ w'.cell? ⟨p6, 0, none⟩ = some (.func (.func 97) #[] #[]) ∧ w'.cell? ⟨p7, 0, none⟩ = some (.func (.func 77) #[.agg #[.slice A0_0 l0_0.length c0_0, .slice A0_1 l0_1.length c0_1, .int .i64 a0_2, .map (some b)]] #[]) ∧ w'.cell? ⟨w.heap.size, 0, none⟩ = some (.slice A0_0 l0_0.length c0_0)) (ds := []) (by kernel_rfl) (fun h => by obtain ⟨_, _, h⟩ := h; exact Exit.noConfusion (And.left h)) (bs 19 0) (by kernel_rfl) rfl rfl ⟨(blk_cell HBC.out 0).trans rfl, (blk_cell HI5.out.h6 0).trans rfl, (blk_cell HI5.out.h7 0).trans rfl, (blk_cell HI5.out.x 0).trans rfl⟩ (fun hHeld => ?_)
                  refine with_tabW X_Plan.tab11 X_Plan.bits11 (fun HT_ HW_ => ?_)
                  generalize World.drew _ = w5 at HBC HI5 HP5 HK5 HB5 hHeld ⊢
                  refine tk4 HT_ HW_ hHeld 0 (some 32) (bs 19 1) ?_
                  refine pu HT_ 1 (some 33) (bs 19 3) ?_
                  refine pu HT_ 2 (some 34) (bs 19 7) ?_
                  refine pu HT_ 3 (some 35) (bs 19 15) ?_
                  refine pu HT_ 5 (some 37) (bs 19 47) ?_
                  refine tk4 HT_ HW_ hHeld 4 (some 36) (bs 19 63) ?_
                  refine tk4 HT_ HW_ hHeld 6 (some 38) (bs 19 127) ?_
                  refine on HT_ 7 (some 39) (bs 19 255) (fun K hK => ?_)
                  refine goesT_ Tryd.func97 (by kernel_rfl) rfl #[.slice A x.length c, .slice (some adb) pb.length cb] (by rfl) rfl rfl (by rfl) (by (try simp only [List.map_toArray, List.map_cons, List.map_nil]); rfl) ?_
                  refine (better_calls A c x (some adb) cb pb _ (pr8_read HP5.out) (pr8_read HB5.out) HFA.out.len HFB.out.len).mono ?_
                  rw [HBE.out]
                  rintro e w6 ⟨rfl, hb⟩
                  refine ⟨_, rfl, ?_⟩
                  replace HB5 := Aside0.mk (HB5.out.below hb)
                  replace HBC := Aside0.mk ((hb.block _ (Array.getElem?_eq_some_iff.1 HBC.out).1).trans HBC.out)
                  replace HI5 := Aside0.mk (HI5.out.below hb)
                  replace HP5 := Aside0.mk (HP5.out.below hb)
                  replace HK5 := Aside0.mk (HK5.out.step hb HAZ.out)
                  clear hb
                  refine hK.out _ _ ⟨(blk_cell HBC.out 0).trans rfl, (blk_cell HI5.out.h6 0).trans rfl, (blk_cell HI5.out.h7 0).trans rfl, (blk_cell HI5.out.x 0).trans rfl⟩ (fun hHeld => ?_)
                  clear hK K
                  refine nm 39 ?_
                  refine pu HT_ 8 (some 40) (bs 19 511) ?_
                  refine pu HT_ 9 (some 41) (bs 19 1023) ?_
                  refine pu HT_ 11 (some 43) (bs 19 3071) ?_
                  refine pu HT_ 14 (some 46) (bs 19 19455) ?_
                  refine tk4 HT_ HW_ hHeld 10 (some 42) (bs 19 20479) ?_
                  refine tk4 HT_ HW_ hHeld 15 (some 47) (bs 19 53247) ?_
                  refine pu HT_ 16 (some 48) (bs 19 118783) ?_
                  refine on HT_ 12 (some 44) (bs 19 122879) (fun K hK => ?_)
                  refine goesF_ Tryd.func77 (by kernel_rfl) rfl #[.agg #[.slice A0_0 l0_0.length c0_0, .slice A0_1 l0_1.length c0_1, .int .i64 a0_2, .map (some b)], .slice A x.length c] (by rfl) rfl rfl (by rfl) (by simp [Act.eval]) ?_
                  refine (mended_calls l0_0 l0_1 A0_0 c0_0 A0_1 c0_1 a0_2 b A c x _ (Kd.C_below HR0.out HI5.out.box.bel) (Kd.C_below HR1.out HI5.out.box.bel) (pr8_read HP5.out) (gv_below HG0.out HI5.out.box.bel) (askedE_ok HE.out.symm).1 HFA.out).mono ?_
                  rintro e w6 ⟨v2, rfl, hR, hb⟩
                  obtain ⟨A2, c2, rfl⟩ := Kd.R_slice hR
                  refine ⟨_, rfl, ?_⟩
                  clear hR
                  replace HB5 := Aside0.mk (HB5.out.below hb)
                  replace HBC := Aside0.mk ((hb.block _ (Array.getElem?_eq_some_iff.1 HBC.out).1).trans HBC.out)
                  replace HI5 := Aside0.mk (HI5.out.below hb)
                  replace HP5 := Aside0.mk (HP5.out.below hb)
                  replace HK5 := Aside0.mk (HK5.out.step hb HAZ.out)
                  clear hb
                  refine hK.out _ _ ⟨(blk_cell HBC.out 0).trans rfl, (blk_cell HI5.out.h6 0).trans rfl, (blk_cell HI5.out.h7 0).trans rfl, (blk_cell HI5.out.x 0).trans rfl⟩ (fun hHeld => ?_)
                  clear hK K
                  refine nm 44 ?_
                  refine pu HT_ 13 (some 45) (bs 19 131071) ?_
                  refine pu HT_ 17 (some 49) (bs 19 262143) ?_
                  refine pu HT_ 18 (some 50) (bs 19 524287) ?_
                  refine done_ (done_of HT_.out (by kernel_rfl)) ?_
                  clear hHeld
                  gi_wp2
                  exact ⟨HI5.out.same HBS.out, HK5.out⟩
          case done =>
            intro Z hDz hI hK hdef
            have HI := Aside0.mk hI
            have HDF := Aside0.mk hdef
            have HK := Aside0.mk hK
            obtain ⟨vb, hcell, hbv⟩ := hI.best
            have hc0 := (blk_cell hcell 0).trans rfl
            have HDS : Aside0 (∀ D ∈ wl.heap.size :: Ds, Z.heap[D]? = some (.deferred (some [])) ∧ w.heap.size ≤ D) := ⟨fun D h => by
              rcases List.mem_cons.1 h with rfl | h
              · exact ⟨hdef, HAl.out.box.bel.size⟩
              · exact ⟨hI.ds D h, (HD.out D h).2⟩⟩
            have HNN : Aside0 ((wl.heap.size :: Ds).Nodup) := ⟨List.nodup_cons.2 ⟨fun h => by
              have h1 := (Array.getElem?_eq_some_iff.1 (HD.out _ h).1).1
              have h2 := HVS.out
              have h3 := HSL.out
              omega, HND.out⟩⟩
            have HPS := Aside0.mk (show planAt l0_0 l0_1 a0_2 (a0_2.toNat - k) k = match bestOf l0_0 l0_1 (plansL l0_0 l0_1 a0_2 (k + 1)) with | some p => some p | none => planAt l0_0 l0_1 a0_2 (a0_2.toNat - (k + 1)) ((k + 1 : Nat) : Int) by
              rw [show a0_2.toNat - k = (a0_2.toNat - (k + 1)) + 1 by omega]; rfl)
            clear hI hdef hK hDz hcell
            cases hbo : bestOf l0_0 l0_1 (plansL l0_0 l0_1 a0_2 (k + 1)) with
            | none =>
              rw [hbo] at hbv
              obtain rfl : vb = .slice none 0 0 := hbv
              have hsn := slice_neq
              have HPN := Aside0.mk (show planL l0_0 l0_1 a0_2 = planAt l0_0 l0_1 a0_2 (a0_2.toNat - (k + 1)) ((k + 1 : Nat) : Int) by rw [HSP.out, HPS.out, hbo])
              clear hbo
              go_wp2
              refine ⟨⟨_, _, _, _, _, _, _, _, _, _, _, _, _, _, _, _, _, _, _, _, _, _, _, _, _, _, _, _, _, _, _, _, _, _, _, _, _, _, _, k + 1, wl.heap.size :: Ds, by rfl, by omega, ⟨HI.out.box, HI.out.x, HI.out.mp, HI.out.h6, HI.out.h7⟩, HDS.out, HNN.out, HPN.out⟩, ?_⟩
              show a0_2.toNat - ((k : Int) + 1).toNat < a0_2.toNat - (k : Int).toNat
              omega
            | some p =>
              rw [hbo] at hbv
              obtain ⟨A, c, rfl, hlc, hnil, hF, hfa⟩ := hbv
              have hsn := slice_neq
              have hq : some (p, (0 : Int)) = some (r1, r2) := by rw [← HH.out, HSP.out, HPS.out, hbo]
              have hpne := bestOf_ne (askedE_ok HE.out.symm).1 hbo
              obtain ⟨rfl, rfl⟩ : p = r1 ∧ 0 = r2 := by simpa using hq
              obtain ⟨ad, rfl⟩ : ∃ ad, A = some ad := by
                obtain ⟨ad, e, _⟩ := (Kd.F_now hF).2.2 (List.length_pos_iff.2 hpne)
                exact ⟨ad, e⟩
              have HFF := Aside0.mk hF
              clear hbo hq hpne hnil hF hfa
              go_wp2
              refine retM_ret (wl.heap.size :: Ds) rfl HNN.out (fun D h => (HDS.out D h).1) (results_tmp2 rfl _ _ _) ⟨_, rfl, ?_, HI.out.box.bel.trans (takeAll_below w.heap.size _ _ (fun D h => (HDS.out D h).2))⟩
              refine Kd.V_mk (Nat.le_refl _) (Kd.F_mono (Kd.F_kept HFF.out (takeAll_kept (wl.heap.size :: Ds) Z) (fun q hq hm => ?_)) (fun q hq => by have := HAl.out.box.bel.size; omega))
              rcases List.mem_cons.1 hm with rfl | hm
              · omega
              · have h1 := (Array.getElem?_eq_some_iff.1 (HD.out _ hm).1).1
                have h2 := HVS.out
                have h3 := HSL.out
                omega
        · have hke : (k : Int) = a0_2 := by omega
          have HPN := Aside0.mk (show planL l0_0 l0_1 a0_2 = none by rw [HSP.out, show a0_2.toNat - k = 0 by omega]; rfl)
          have hq : some (([] : List Wk), (4 : Int)) = some (r1, r2) := by rw [← HH.out, HPN.out]
          obtain ⟨rfl, rfl⟩ : [] = r1 ∧ 4 = r2 := by simpa using hq
          have HBE := Aside0.mk HA2.out.box.bel
          clear hq
          go_wp2
          exact retM_ret Ds rfl HND.out (fun D h => (HD.out D h).1) (results_tmp2 rfl _ _ _) ⟨_, rfl, Kd.V_nil _ _ _ _ _, HBE.out.trans (takeAll_below w.heap.size Ds _ (fun D h => (HD.out D h).2))⟩
  · have HE := Aside0.mk hE
    have hE1 : (E == 0) = false := beq_eq_false_iff_ne.2 hE0
    have hE2 : (E != 0) = true := bne_iff_ne.2 hE0
    have h41 : some (([] : List Wk), E) = some (r1, r2) := by
      rw [← H.out]
      unfold gang_Plan.f
      unfold askedE at hE
      split at hE
      · rename_i q
        exact absurd (by rw [hE]; rfl) hE0
      · rename_i q
        rw [if_neg q, hE]
    obtain ⟨rfl, rfl⟩ : [] = r1 ∧ E = r2 := by simpa using h41
    clear hE hs hE0 h41
    go_wp2
    exact retM_ret [] rfl List.nodup_nil (fun _ h => by simp at h) (results_tmp2 rfl _ _ _) ⟨_, rfl, Kd.V_nil _ _ _ _ _, HB1.out.alloc HB1.out.size _⟩
end Go.Proofs.YtikfghnkbgdbgaaDoor.Q
end
section
namespace Go.Proofs.YtikfghnkbgdbgaaDoor.Q
set_option linter.unusedSimpArgs false
set_option linter.unusedVariables false
open Go.RowKit Go.Proofs.YtikfghnkbgdbgaaDoorW.PrintWords Go.Proofs.YtikfghnkbgdbgaaDoorW.PrintLast Go.Proofs.YtikfghnkbgdbgaaDoorW.PrintMore
theorem keeps_setCell2 {n0 : Nat} {S : Nat → Prop} {X Y : World} (h : Keeps n0 S X Y) {p : Addr} (hS : S p.block) (hp : n0 ≤ p.block) (v : Value) : Keeps n0 S X (Y.setCell p v) :=
  ⟨h.bel.setCell hp v, h.kept.setCell (.inl hS) v⟩
attribute [local go_sem] Oper.semAt_some wide_fn wide_depth
def bestOfMost (ms : List M) (gs : List G) (pre : List (List Wk)) : List Int := pre.foldl (mostStep ms gs) []
theorem best_snoc (ms : List M) (gs : List G) (pre : List (List Wk)) (x : List Wk) : bestOfMost ms gs (pre ++ [x]) = mostStep ms gs (bestOfMost ms gs pre) x := by simp [bestOfMost]
theorem best_len (ms : List M) (gs : List G) : ∀ (pre : List (List Wk)) (b : List Int), b.length ≤ ms.length → (pre.foldl (mostStep ms gs) b).length ≤ ms.length
  | [], b, h => h
  | x :: r, b, h => by
    refine best_len ms gs r _ ?_
    unfold mostStep
    split
    · exact mended_len ms gs x
    · exact h
structure MostI (w W : World) (ms : List M) (gs : List G) (n : Int) (b g gx gh l : Nat) (A0 : Option Addr) (c0 : Nat) (A1 : Option Addr) (c1 : Nat) (pre : List (List Wk)) : Prop where
  box : BoxAt w W A0 ms.length c0 A1 gs.length c1 n b g
  x : W.heap[gx]? = some (.cells #[.slice A0 ms.length c0, .slice A1 gs.length c1, .int .i64 n] 25 (0, 0))
  best : ∃ A c, W.heap[gh]? = some (.cells #[.slice A (bestOfMost ms gs pre).length c] 28 (0, 0)) ∧ (bestOfMost ms gs pre).length ≤ c ∧ Kd.F (Kd.int .i64) W (fun k => w.heap.size ≤ k ∧ k ≠ gh ∧ k ≠ l ∧ k + 1 ≠ l) A (bestOfMost ms gs pre).length (bestOfMost ms gs pre)
def X_Most : Nat := 0
def X_Most.T8 : Bool × List (List Nat × List Nat) := (true, [([], []), ([0], [0]), ([], []), ([2], [2]), ([3], [3]), ([1, 4], [1, 4]), ([], []), ([6], [6]), ([5, 7], [5, 7]), ([8, 5], [8]), ([9], [9]), ([10, 9], [9, 10]), ([9], [9]), ([12, 9], [9, 12]), ([11, 13, 9], [9, 11, 13]), ([14, 9, 9], [9, 14]), ([15], [15]), ([15], [15]), ([16, 17, 15, 15], [15, 16, 17]), ([18, 15], [15, 18]), ([15, 19, 9], [9, 15, 19]), ([9, 20], [9, 20])])
def X_Most.B8 : List Nat := [0, 1, 0, 4, 12, 31, 0, 64, 255, 511, 1023, 2047, 1023, 5119, 16383, 32767, 65535, 65535, 262143, 524287, 1048575, 2097151]
theorem X_Most.tab8 : rtab .any (opsOf Tryd.f34 8) = X_Most.T8 := by kernel_rfl
theorem X_Most.bits8 : waitsOk X_Most.T8.2 X_Most.B8 = true := by kernel_rfl
set_option maxRecDepth 100000 in
set_option maxHeartbeats 4000000 in
theorem gang_Most.calls (A0_0 : Option Addr) (c0_0 : Nat) (l0_0 : List (M)) (A0_1 : Option Addr) (c0_1 : Nat) (l0_1 : List (G)) (a0_2 : Int) (r1 : List Int) (r2 : Int) (w : World) (hr0_0 : Kd.C k66 w A0_0 l0_0.length l0_0) (hc0_0 : l0_0.length ≤ c0_0) (hr0_1 : Kd.C k63 w A0_1 l0_1.length l0_1) (hc0_1 : l0_1.length ≤ c0_1) (hG : GV w) (h : gang_Most.f l0_0 l0_1 a0_2 = some (r1, r2)) :
    Calls Tryd.prog 34 #[.agg #[.slice A0_0 l0_0.length c0_0, .slice A0_1 l0_1.length c0_1, .int .i64 a0_2]] w fun e w' => ∃ v0_ : Value, e = .returned (.tuple #[v0_, .int .i64 r2]) ∧ Kd.V (Kd.int .i64) 3 w' w.heap.size (fun k_ => (w.heap.size ≤ k_)) v0_ r1 ∧ Below w.heap.size w w' := by
  have HR0 := Aside0.mk hr0_0
  have HR1 := Aside0.mk hr0_1
  have HG0 := Aside0.mk hG
  have H := Aside0.mk h
  have hB := ((Below.refl w.heap.size w).alloc (Nat.le_refl _) (.cells #[.slice A0_0 l0_0.length c0_0, .slice A0_1 l0_1.length c0_1, .int .i64 a0_2] 25))
  have HB := Aside0.mk hB
  have hx := World.alloc_heap_new w (.cells #[.slice A0_0 l0_0.length c0_0, .slice A0_1 l0_1.length c0_1, .int .i64 a0_2] 25)
  have HX := Aside0.mk hx
  clear hr0_0 hr0_1 hG hB h hx
  refine calls_marks Tryd.func34 rfl ?_
  simp only [Tryd.ntmps34, List.size_toArray, List.length_cons, List.length_nil, Nat.reduceAdd, Nat.reduceSub, Array.replicate_succ, Array.replicate_zero, List.push_toArray, List.append_toArray, List.nil_append, List.cons_append]
  go_wp2_with (fail)
  refine (asked_any l0_0 l0_1 A0_0 c0_0 A0_1 c0_1 a0_2 none 0 [] _ (Kd.C_below HR0.out HB.out) hc0_0 (Kd.C_below HR1.out HB.out) hc0_1 ⟨rfl, by simp, fun h => by simp at h⟩ (Nat.le_refl _) (gv_below HG0.out HB.out)).mono ?_
  rintro e w1 ⟨B0, n0, d0, B1, n1, d1, m, bm, E, rfl, hE, hs, hb⟩
  have HB1 := Aside0.mk (below_then HB.out HB.out.size hb)
  have HX1 := Aside0.mk ((hb.block w.heap.size (by simp)).trans HX.out)
  clear hb
  by_cases hE0 : E = 0
  · obtain ⟨b, ⟨rfl, rfl, rfl⟩, ⟨rfl, rfl, rfl⟩, rfl, rfl, hm, hl⟩ := hs hE0
    subst hE0
    have HE := Aside0.mk hE
    have HM := Aside0.mk hm
    have HH : Aside0 (some (mostL l0_0 l0_1 a0_2, (0 : Int)) = some (r1, r2)) := ⟨by rw [← H.out]; unfold gang_Most.f; rw [if_pos (askedE_ok hE.symm).1]⟩
    have hx2 := (blk_cell HX1.out 2).trans rfl
    have hxl := (Array.getElem?_eq_some_iff.1 HX1.out).1
    have hbd := okB_bounds (askedE_ok hE.symm).1
    have hg2 := hbd.2.1.2
    have hg1 := hbd.2.1.1
    have hm4 := hbd.1.2
    have hn4 : a0_2 ≤ 4 := by omega
    have hn0 : 0 ≤ a0_2 := by omega
    have HBV := Aside0.mk ((HB1.out.alloc HB1.out.size (.cells #[.slice A0_0 l0_0.length c0_0, .slice A0_1 l0_1.length c0_1, .int .i64 a0_2, .map (some b)] 86)).alloc (by simp; have := HB1.out.size; omega) (.cells #[.slice none 0 0] 28))
    have HV1 := Aside0.mk (blk_alloc (World.alloc_heap_new w1 (.cells #[.slice A0_0 l0_0.length c0_0, .slice A0_1 l0_1.length c0_1, .int .i64 a0_2, .map (some b)] 86)) (.cells #[.slice none 0 0] 28))
    have HV2 := Aside0.mk (World.alloc_heap_new (w1.alloc (.cells #[.slice A0_0 l0_0.length c0_0, .slice A0_1 l0_1.length c0_1, .int .i64 a0_2, .map (some b)] 86)) (.cells #[.slice none 0 0] 28))
    have HV3 := Aside0.mk (blk_alloc (blk_alloc HX1.out (.cells #[.slice A0_0 l0_0.length c0_0, .slice A0_1 l0_1.length c0_1, .int .i64 a0_2, .map (some b)] 86)) (.cells #[.slice none 0 0] 28))
    have HV4 := Aside0.mk ((HM.out.below ((Below.refl _ w1).alloc (Nat.le_refl _) (.cells #[.slice A0_0 l0_0.length c0_0, .slice A0_1 l0_1.length c0_1, .int .i64 a0_2, .map (some b)] 86))).below ((Below.refl _ _).alloc (Nat.le_refl _) (.cells #[.slice none 0 0] 28)))
    have hVs : ((w1.alloc (.cells #[.slice A0_0 l0_0.length c0_0, .slice A0_1 l0_1.length c0_1, .int .i64 a0_2, .map (some b)] 86)).alloc (.cells #[.slice none 0 0] 28)).heap.size = w1.heap.size + 2 := by simp
    have HVS := Aside0.mk hVs
    have hbl1 := HM.out.lt
    have HBL := Aside0.mk (show b < w1.heap.size from hbl1)
    clear hm hs hE hl H hbd hVs hbl1
    go_wp2_with (fail)
    refine (plans_calls A0_0 l0_0.length c0_0 A0_1 l0_1.length c0_1 a0_2 b a0_2 _).mono ?_
    generalize (w1.alloc (.cells #[.slice A0_0 l0_0.length c0_0, .slice A0_1 l0_1.length c0_1, .int .i64 a0_2, .map (some b)] 86)).alloc (.cells #[.slice none 0 0] 28) = V at HBV HV1 HV2 HV3 HV4 HVS ⊢
    rintro e wl ⟨rfl, hwl⟩
    have hbl : Below V.heap.size V wl := by rw [hwl]; exact ((Below.refl _ V).alloc (Nat.le_refl _) _).alloc (by simp) _
    have hsl : wl.heap.size = V.heap.size + 2 := by rw [hwl]; simp
    have HBl := Aside0.mk (HBV.out.trans (hbl.mono HBV.out.size))
    have HI := Aside0.mk (show MostI w wl l0_0 l0_1 a0_2 b w1.heap.size w.heap.size (w1.heap.size + 1) (wl.heap.size + 1) A0_0 c0_0 A0_1 c0_1 [] from
      ⟨⟨(hbl.block _ (Array.getElem?_eq_some_iff.1 HV1.out).1).trans HV1.out, HBl.out⟩, (hbl.block _ (Array.getElem?_eq_some_iff.1 HV3.out).1).trans HV3.out,
       none, 0, by have q := HV2.out; rw [World.size_alloc] at q; exact (hbl.block _ (Array.getElem?_eq_some_iff.1 q).1).trans q, Nat.le_refl _, Kd.F_nil _ _ _⟩)
    have HSr := Aside0.mk (Src.mk (w := w) (W := wl) (ms := l0_0) (gs := l0_1) (n := a0_2) (b := b) (g := V.heap.size) (gm := V.heap.size + 1) (many := a0_2) (A0 := A0_0) (c0 := c0_0) (A1 := A0_1) (c1 := c0_1)
      ⟨by rw [hwl]; exact blk_alloc (World.alloc_heap_new V _) _, HBl.out⟩ (HV4.out.below hbl) (by rw [hwl]; have q := World.alloc_heap_new (V.alloc (.cells #[.slice A0_0 l0_0.length c0_0, .slice A0_1 l0_1.length c0_1, .int .i64 a0_2, .map (some b)] 86)) (.cells #[.int .i64 a0_2] 3); rwa [World.size_alloc] at q))
    have HSL := Aside0.mk hsl
    clear hbl hwl hsl hx2 hxl
    go_wp2_with (fail)
    refine wpIn_range_all (P := Tryd.prog) (w := wl) (n := 0) rfl (enters_ Tryd.func100 (by kernel_rfl) rfl) w.heap.size HBl.out.size (fun k => k = w1.heap.size + 1) (fun k hk => by have hw1 := HB1.out.size; have hVS := HVS.out; have hSL := HSL.out; omega) (plansL l0_0 l0_1 a0_2 a0_2) (fun x v W => Pr8 l0_0 l0_1 a0_2 (wl.heap.size + 2) x v W) w HBl.out ?hit ?hPr
      (fun pre W => MostI w W l0_0 l0_1 a0_2 b w1.heap.size w.heap.size (w1.heap.size + 1) (wl.heap.size + 1) A0_0 c0_0 A0_1 c0_1 pre) ?hI1 ?hI2 HI.out ?a1 ?assign ?body ?done
    case hit =>
      have hw1 := HB1.out.size
      have hVS := HVS.out
      have hSL := HSL.out
      intro l J W hl hW hb hJ hY h0
      exact plans1_calls wl (fun k => k = w1.heap.size + 1) (fun k hk => by omega) (by omega) (by have := HBL.out; omega) (by omega) HSr.out hg1 hg2 hn0 hn4 hn0 hm4 HR1.out HG0.out l J W hl hW hb hJ hY h0
    case hPr =>
      have hSL := HSL.out
      rintro x v W o ⟨A, c, rfl, h1, h2, h3, h4⟩ _
      exact ⟨A, c, rfl, h1, h2, Kd.F_grown h3 (grownBy_putObj' W _ o) (fun k hk e => by injection e with e; omega), h4⟩
    case hI1 =>
      rintro pre X Y ⟨h1, h2, A, c, h3, h4, h5⟩ hb
      exact ⟨h1.step hb, (hb.block _ (Array.getElem?_eq_some_iff.1 h2).1).trans h2, A, c, (hb.block _ (Array.getElem?_eq_some_iff.1 h3).1).trans h3, h4, Kd.F_below h5 hb⟩
    case hI2 =>
      have hw1 := HB1.out.size
      have hVS := HVS.out
      have hSL := HSL.out
      have hxl := (Array.getElem?_eq_some_iff.1 HX1.out).1
      rintro pre X o ⟨h1, h2, A, c, h3, h4, h5⟩ _
      refine ⟨⟨(World.putObj_heap_other (by omega)).trans h1.box, h1.bel.trans (below_putObj X _ _ o (by omega))⟩, (World.putObj_heap_other (by omega)).trans h2, A, c, (World.putObj_heap_other (by omega)).trans h3, h4, Kd.F_grown h5 (grownBy_putObj' X _ o) (fun k hk e => by injection e with e; exact hk.2.2.1 e)⟩
    case assign =>
      intro x v W K hK
      gi_wp2
      exact hK
    case body =>
      rintro pre x v W hWs hI ⟨A, c, rfl, hlc, _, hF, hfair⟩
      have hgW : w1.heap.size + 1 < W.heap.size := by have hVS := HVS.out; have hSL := HSL.out; omega
      have HG3 := Aside0.mk hWs
      clear hWs
      have q0 := (blk_cell hI.box.box 0).trans rfl
      have q1 := (blk_cell hI.box.box 1).trans rfl
      have q2 := (blk_cell hI.box.box 2).trans rfl
      have q3 := (blk_cell hI.box.box 3).trans rfl
      have HII := Aside0.mk hI
      have HF := Aside0.mk hF
      have HFA := Aside0.mk hfair
      clear hI hF hfair
      gi_wp2
      refine (CallsIn.inRound (wl.heap.size + 1) (callsIn_wide.2 (mended_calls l0_0 l0_1 A0_0 c0_0 A0_1 c0_1 a0_2 b A c x W (Kd.C_below HR0.out HII.out.box.bel) (Kd.C_below HR1.out HII.out.box.bel) (Kd.F_now HF.out) (gv_below HG0.out HII.out.box.bel) (askedE_ok HE.out.symm).1 HFA.out))).mono ?_
      rintro e W2 ⟨v2, rfl, hR, hb⟩
      obtain ⟨A2, c2, rfl⟩ := Kd.R_slice hR
      have hlen := mended_len l0_0 l0_1 x
      have HB2 := Aside0.mk (HII.out.box.step hb)
      have HX2 := Aside0.mk ((hb.block _ (Array.getElem?_eq_some_iff.1 HII.out.x).1).trans HII.out.x)
      have HK2 := Aside0.mk ((Keeps.refl w.heap.size (fun k => k = w1.heap.size + 1) W).step hb HII.out.box.bel.size)
      have HL2 := Aside0.mk (Kd.R_F (Kd.R_bound hR))
      have HC2 := Aside0.mk (Kd.R_reads' hR).2.1
      have HG2 := Aside0.mk hgW
      obtain ⟨A3, c3, hbst, hc3, hF3⟩ := HII.out.best
      have HBS := Aside0.mk ((hb.block _ (Array.getElem?_eq_some_iff.1 hbst).1).trans hbst)
      have HF3 := Aside0.mk (Kd.F_below hF3 hb)
      have HC3 := Aside0.mk hc3
      have hbl := best_len l0_0 l0_1 pre [] (Nat.zero_le _)
      have hbl4 : (bestOfMost l0_0 l0_1 pre).length ≤ 4 := Nat.le_trans hbl hm4
      have hll4 : (mendedL l0_0 l0_1 x).length ≤ 4 := Nat.le_trans hlen hm4
      obtain ⟨R, hRR⟩ : ∃ R : Int, max ((mendedL l0_0 l0_1 x).length : Int) ((bestOfMost l0_0 l0_1 pre).length : Int) = R := ⟨_, rfl⟩
      have HRR := Aside0.mk hRR
      replace HBS := Aside0.mk (show W2.drew.heap[w1.heap.size + 1]? = _ from HBS.out)
      replace HB2 := Aside0.mk (HB2.out.step (Below.refl _ W2).drew)
      replace HX2 := Aside0.mk (show W2.drew.heap[w.heap.size]? = _ from HX2.out)
      replace HK2 := Aside0.mk (HK2.out.step (Below.refl _ W2).drew HII.out.box.bel.size)
      replace HL2 := Aside0.mk (Kd.F_below HL2.out (Below.refl _ W2).drew)
      replace HF3 := Aside0.mk (Kd.F_below HF3.out (Below.refl _ W2).drew)
      clear hR hb q0 q1 q2 q3 hgW hbst hc3 hF3 hbl hlen
      by_cases hgt : ((bestOfMost l0_0 l0_1 pre).length : Int) < R
      · have hc1 : decide (((bestOfMost l0_0 l0_1 pre).length : Int) < R) = true := decide_eq_true hgt
        have HMS := Aside0.mk (show bestOfMost l0_0 l0_1 (pre ++ [x]) = (mendedL l0_0 l0_1 x) by rw [best_snoc]; unfold mostStep; rw [if_pos (.inl (by omega))])
        clear hgt hRR
        gi_wp2
        refine startIn_ (n := 22) (S := fun w' => w'.cell? ⟨w1.heap.size + 1, 0, none⟩ = some (.slice A3 (bestOfMost l0_0 l0_1 pre).length c3)) (ds := []) (by kernel_rfl) (fun h => by obtain ⟨_, _, h⟩ := h; exact Exit.noConfusion (And.left h)) (bs 22 0) (by kernel_rfl) rfl rfl ((blk_cell HBS.out 0).trans rfl) (fun hHeld => ?_)
        refine with_tabW X_Most.tab8 X_Most.bits8 (fun HT_ HW_ => ?_)
        generalize World.drew _ = w5 at HBS HB2 HX2 HK2 HL2 HF3 hHeld ⊢
        refine pu HT_ 0 (some 25) (bs 22 1) ?_
        refine pu HT_ 1 (some 26) (bs 22 3) ?_
        refine take_ (i := 2) (N := some 27) (v := ?_) (a' := ?_) (bs 22 7) rfl rfl (take_ofW HT_.out HW_.out (by kernel_rfl)) (fun _ _ _ h => h) (Or.inl ⟨by rfl, ?_⟩) hHeld ?_ ?_
        rotate_left
        · intro w' s0
          go_simp
          with_reducible rfl
        rotate_left
        · simp only [Act.put, List.setIfInBounds_toArray, List.set_cons_zero, List.set_cons_succ, i64_w, i32_w]
          rfl
        refine pu HT_ 3 (some 28) (bs 22 15) ?_
        refine take_ (i := 6) (N := some 31) (v := ?_) (a' := ?_) (bs 22 79) rfl rfl (take_ofW HT_.out HW_.out (by kernel_rfl)) (fun _ _ _ h => h) (Or.inl ⟨by rfl, ?_⟩) hHeld ?_ ?_
        rotate_left
        · intro w' s0
          go_simp
          with_reducible rfl
        rotate_left
        · simp only [Act.put, List.setIfInBounds_toArray, List.set_cons_zero, List.set_cons_succ, i64_w, i32_w]
          rfl
        refine pu HT_ 7 (some 32) (bs 22 207) ?_
        refine on HT_ 4 (some 29) (bs 22 223) (fun K hK => ?_)
        refine value_ (w1 := ?_) (v := ?_) (by rfl) rfl ?_ ?_
        rotate_left 2
        · go_simp
          constructor
          · rfl
          · rfl
        refine hK.out _ _ ((blk_cell (blk_alloc HBS.out _) 0).trans rfl) (fun hHeld => ?_)
        clear hK K
        refine nm 29 ?_
        refine on HT_ 5 (some 30) (bs 22 255) (fun K hK => ?_)
        have hgr := greatest_calls (mendedL l0_0 l0_1 x).length (bestOfMost l0_0 l0_1 pre).length w5 3
        rw [HRR.out] at hgr
        refine goes_ Tryd.func84 (by kernel_rfl) rfl #[.int .i64 (mendedL l0_0 l0_1 x).length, .slice (some ⟨w5.heap.size, 0, none⟩) 1 1] (by rfl) rfl rfl (by simp only [List.map_toArray, List.map_cons, List.map_nil]; rfl) ?_
        refine hgr.mono ?_
        clear hgr
        rintro e w6 ⟨rfl, hb⟩
        refine ⟨_, rfl, ?_⟩
        have hb6 : Below w5.heap.size w5 w6 := ((Below.refl w5.heap.size w5).alloc (Nat.le_refl _) _).trans (hb.mono (Nat.le_succ _))
        replace HBS := Aside0.mk ((hb6.block _ (Array.getElem?_eq_some_iff.1 HBS.out).1).trans HBS.out)
        replace HK2 := Aside0.mk (HK2.out.step hb6 HII.out.box.bel.size)
        replace HB2 := Aside0.mk (HB2.out.step hb6)
        replace HX2 := Aside0.mk ((hb6.block _ (Array.getElem?_eq_some_iff.1 HX2.out).1).trans HX2.out)
        replace HL2 := Aside0.mk (Kd.F_below HL2.out hb6)
        replace HF3 := Aside0.mk (Kd.F_below HF3.out hb6)
        clear hb hb6
        refine hK.out _ _ ((blk_cell HBS.out 0).trans rfl) (fun hHeld => ?_)
        clear hK K
        refine nm 30 ?_
        refine pu HT_ 8 (some 33) (bs 22 511) ?_
        refine pu HT_ 9 (some 34) (bs 22 1023) ?_
        refine pn HT_ 10 (some 35) (bs 22 2047) ?_
        refine pn HT_ 11 (some 36) (bs 22 4095) ?_
        refine pn HT_ 12 (some 37) (bs 22 8191) ?_
        refine pn HT_ 13 (some 38) (bs 22 16383) ?_
        refine pn HT_ 14 (some 39) (bs 22 32767) ?_
        refine pn HT_ 15 (some 40) (bs 22 65535) ?_
        refine pn HT_ 16 (some 41) (bs 22 131071) ?_
        refine pn HT_ 17 (some 42) (bs 22 262143) ?_
        refine pn HT_ 18 (some 43) (bs 22 524287) ?_
        refine pn HT_ 19 (some 44) (bs 22 1048575) ?_
        refine pn HT_ 20 (some 45) (bs 22 2097151) ?_
        refine pu HT_ 21 (some 46) (bs 22 4194303) ?_
        refine done_ (done_of HT_.out (by kernel_rfl)) ?_
        clear hHeld
        have hs0 := (blk_cell HBS.out 0).trans rfl
        have hs1 := blk_frozen HBS.out 0
        gi_wp2
        refine ⟨⟨⟨blk_far HB2.out.box (show w1.heap.size ≠ w1.heap.size + 1 by omega) _, HB2.out.bel.setCell (by have := HB1.out.size; show w.heap.size ≤ w1.heap.size + 1; omega) _⟩, blk_far HX2.out ?_ _, A2, c2, ?_, ?_, ?_⟩, keeps_setCell2 HK2.out (p := ⟨w1.heap.size + 1, 0, none⟩) rfl (by have := HB1.out.size; show w.heap.size ≤ w1.heap.size + 1; omega) _⟩
        · have hxl := (Array.getElem?_eq_some_iff.1 HX1.out).1
          show w.heap.size ≠ w1.heap.size + 1
          omega
        · rw [HMS.out]
          exact (blk_set HBS.out 0 _).trans rfl
        · rw [HMS.out]; exact HC2.out
        · rw [HMS.out]
          exact Kd.F_far (Kd.F_mono HL2.out (fun q hq => by have h1 := hq.2.1; have h2 := HG2.out; have h3 := HG3.out; have h4 := HII.out.box.bel.size; omega)) (fun q hq => hq.2.1) _
      · have hc1 : decide (((bestOfMost l0_0 l0_1 pre).length : Int) < R) = false := decide_eq_false hgt
        by_cases heq : (mendedL l0_0 l0_1 x).length = (bestOfMost l0_0 l0_1 pre).length
        · have hc2 : (((mendedL l0_0 l0_1 x).length : Int) == ((bestOfMost l0_0 l0_1 pre).length : Int)) = true := beq_iff_eq.2 (by omega)
          have hc3' : ((mendedL l0_0 l0_1 x).length == (bestOfMost l0_0 l0_1 pre).length) = true := beq_iff_eq.2 heq
          by_cases hcm : cmpIL (mendedL l0_0 l0_1 x) (bestOfMost l0_0 l0_1 pre) < 0
          · have hc4 : decide (cmpIL (mendedL l0_0 l0_1 x) (bestOfMost l0_0 l0_1 pre) < 0) = true := decide_eq_true hcm
            have HMS := Aside0.mk (show bestOfMost l0_0 l0_1 (pre ++ [x]) = (mendedL l0_0 l0_1 x) by rw [best_snoc]; unfold mostStep; rw [if_pos (.inr ⟨heq, hcm⟩)])
            clear hgt hRR heq hcm
            gi_wp2
            refine startIn_ (n := 22) (S := fun w' => w'.cell? ⟨w1.heap.size + 1, 0, none⟩ = some (.slice A3 (bestOfMost l0_0 l0_1 pre).length c3)) (ds := []) (by kernel_rfl) (fun h => by obtain ⟨_, _, h⟩ := h; exact Exit.noConfusion (And.left h)) (bs 22 0) (by kernel_rfl) rfl rfl ((blk_cell HBS.out 0).trans rfl) (fun hHeld => ?_)
            refine with_tabW X_Most.tab8 X_Most.bits8 (fun HT_ HW_ => ?_)
            generalize World.drew _ = w5 at HBS HB2 HX2 HK2 HL2 HF3 hHeld ⊢
            refine pu HT_ 0 (some 25) (bs 22 1) ?_
            refine pu HT_ 1 (some 26) (bs 22 3) ?_
            refine take_ (i := 2) (N := some 27) (v := ?_) (a' := ?_) (bs 22 7) rfl rfl (take_ofW HT_.out HW_.out (by kernel_rfl)) (fun _ _ _ h => h) (Or.inl ⟨by rfl, ?_⟩) hHeld ?_ ?_
            rotate_left
            · intro w' s0
              go_simp
              with_reducible rfl
            rotate_left
            · simp only [Act.put, List.setIfInBounds_toArray, List.set_cons_zero, List.set_cons_succ, i64_w, i32_w]
              rfl
            refine pu HT_ 3 (some 28) (bs 22 15) ?_
            refine take_ (i := 6) (N := some 31) (v := ?_) (a' := ?_) (bs 22 79) rfl rfl (take_ofW HT_.out HW_.out (by kernel_rfl)) (fun _ _ _ h => h) (Or.inl ⟨by rfl, ?_⟩) hHeld ?_ ?_
            rotate_left
            · intro w' s0
              go_simp
              with_reducible rfl
            rotate_left
            · simp only [Act.put, List.setIfInBounds_toArray, List.set_cons_zero, List.set_cons_succ, i64_w, i32_w]
              rfl
            refine pu HT_ 7 (some 32) (bs 22 207) ?_
            refine on HT_ 4 (some 29) (bs 22 223) (fun K hK => ?_)
            refine value_ (w1 := ?_) (v := ?_) (by rfl) rfl ?_ ?_
            rotate_left 2
            · go_simp
              constructor
              · rfl
              · rfl
            refine hK.out _ _ ((blk_cell (blk_alloc HBS.out _) 0).trans rfl) (fun hHeld => ?_)
            clear hK K
            refine nm 29 ?_
            refine on HT_ 5 (some 30) (bs 22 255) (fun K hK => ?_)
            have hgr := greatest_calls (mendedL l0_0 l0_1 x).length (bestOfMost l0_0 l0_1 pre).length w5 3
            rw [HRR.out] at hgr
            refine goes_ Tryd.func84 (by kernel_rfl) rfl #[.int .i64 (mendedL l0_0 l0_1 x).length, .slice (some ⟨w5.heap.size, 0, none⟩) 1 1] (by rfl) rfl rfl (by simp only [List.map_toArray, List.map_cons, List.map_nil]; rfl) ?_
            refine hgr.mono ?_
            clear hgr
            rintro e w6 ⟨rfl, hb⟩
            refine ⟨_, rfl, ?_⟩
            have hb6 : Below w5.heap.size w5 w6 := ((Below.refl w5.heap.size w5).alloc (Nat.le_refl _) _).trans (hb.mono (Nat.le_succ _))
            replace HBS := Aside0.mk ((hb6.block _ (Array.getElem?_eq_some_iff.1 HBS.out).1).trans HBS.out)
            replace HK2 := Aside0.mk (HK2.out.step hb6 HII.out.box.bel.size)
            replace HB2 := Aside0.mk (HB2.out.step hb6)
            replace HX2 := Aside0.mk ((hb6.block _ (Array.getElem?_eq_some_iff.1 HX2.out).1).trans HX2.out)
            replace HL2 := Aside0.mk (Kd.F_below HL2.out hb6)
            replace HF3 := Aside0.mk (Kd.F_below HF3.out hb6)
            clear hb hb6
            refine hK.out _ _ ((blk_cell HBS.out 0).trans rfl) (fun hHeld => ?_)
            clear hK K
            refine nm 30 ?_
            refine pu HT_ 8 (some 33) (bs 22 511) ?_
            refine pu HT_ 9 (some 34) (bs 22 1023) ?_
            refine pu HT_ 10 (some 35) (bs 22 2047) ?_
            refine pu HT_ 11 (some 36) (bs 22 4095) ?_
            refine take_ (i := 12) (N := some 37) (v := ?_) (a' := ?_) (bs 22 8191) rfl rfl (take_ofW HT_.out HW_.out (by kernel_rfl)) (fun _ _ _ h => h) (Or.inl ⟨by rfl, ?_⟩) hHeld ?_ ?_
            rotate_left
            · intro w' s0
              go_simp
              with_reducible rfl
            rotate_left
            · simp only [Act.put, List.setIfInBounds_toArray, List.set_cons_zero, List.set_cons_succ, i64_w, i32_w]
              rfl
            refine pu HT_ 13 (some 38) (bs 22 16383) ?_
            refine pu HT_ 14 (some 39) (bs 22 32767) ?_
            refine pu HT_ 15 (some 40) (bs 22 65535) ?_
            refine pu HT_ 16 (some 41) (bs 22 131071) ?_
            refine take_ (i := 17) (N := some 42) (v := ?_) (a' := ?_) (bs 22 262143) rfl rfl (take_ofW HT_.out HW_.out (by kernel_rfl)) (fun _ _ _ h => h) (Or.inl ⟨by rfl, ?_⟩) hHeld ?_ ?_
            rotate_left
            · intro w' s0
              go_simp
              with_reducible rfl
            rotate_left
            · simp only [Act.put, List.setIfInBounds_toArray, List.set_cons_zero, List.set_cons_succ, i64_w, i32_w]
              rfl
            refine on HT_ 18 (some 43) (bs 22 524287) (fun K hK => ?_)
            refine goes_ Tryd.func85 (by kernel_rfl) rfl #[.slice A2 (mendedL l0_0 l0_1 x).length c2, .slice A3 (bestOfMost l0_0 l0_1 pre).length c3] (by rfl) rfl rfl (by simp only [List.map_toArray, List.map_cons, List.map_nil]; rfl) ?_
            refine (compare_calls A2 c2 (mendedL l0_0 l0_1 x) A3 c3 (bestOfMost l0_0 l0_1 pre) _ (Kd.F_now HL2.out) HC2.out (Kd.F_now HF3.out) HC3.out (by omega)).mono ?_
            rintro e w7 ⟨rfl, hb⟩
            refine ⟨_, rfl, ?_⟩
            replace HBS := Aside0.mk ((hb.block _ (Array.getElem?_eq_some_iff.1 HBS.out).1).trans HBS.out)
            replace HK2 := Aside0.mk (HK2.out.step hb HII.out.box.bel.size)
            replace HB2 := Aside0.mk (HB2.out.step hb)
            replace HX2 := Aside0.mk ((hb.block _ (Array.getElem?_eq_some_iff.1 HX2.out).1).trans HX2.out)
            replace HL2 := Aside0.mk (Kd.F_below HL2.out hb)
            replace HF3 := Aside0.mk (Kd.F_below HF3.out hb)
            clear hb
            refine hK.out _ _ ((blk_cell HBS.out 0).trans rfl) (fun hHeld => ?_)
            clear hK K
            refine nm 43 ?_
            refine pu HT_ 19 (some 44) (bs 22 1048575) ?_
            refine pu HT_ 20 (some 45) (bs 22 2097151) ?_
            refine pu HT_ 21 (some 46) (bs 22 4194303) ?_
            refine done_ (done_of HT_.out (by kernel_rfl)) ?_
            clear hHeld
            have hs0 := (blk_cell HBS.out 0).trans rfl
            have hs1 := blk_frozen HBS.out 0
            gi_wp2
            refine ⟨⟨⟨blk_far HB2.out.box (show w1.heap.size ≠ w1.heap.size + 1 by omega) _, HB2.out.bel.setCell (by have := HB1.out.size; show w.heap.size ≤ w1.heap.size + 1; omega) _⟩, blk_far HX2.out ?_ _, A2, c2, ?_, ?_, ?_⟩, keeps_setCell2 HK2.out (p := ⟨w1.heap.size + 1, 0, none⟩) rfl (by have := HB1.out.size; show w.heap.size ≤ w1.heap.size + 1; omega) _⟩
            · have hxl := (Array.getElem?_eq_some_iff.1 HX1.out).1
              show w.heap.size ≠ w1.heap.size + 1
              omega
            · rw [HMS.out]
              exact (blk_set HBS.out 0 _).trans rfl
            · rw [HMS.out]; exact HC2.out
            · rw [HMS.out]
              exact Kd.F_far (Kd.F_mono HL2.out (fun q hq => by have h1 := hq.2.1; have h2 := HG2.out; have h3 := HG3.out; have h4 := HII.out.box.bel.size; omega)) (fun q hq => hq.2.1) _
          · have hc4 : decide (cmpIL (mendedL l0_0 l0_1 x) (bestOfMost l0_0 l0_1 pre) < 0) = false := decide_eq_false hcm
            have HMS := Aside0.mk (show bestOfMost l0_0 l0_1 (pre ++ [x]) = (bestOfMost l0_0 l0_1 pre) by rw [best_snoc]; unfold mostStep; rw [if_neg (by rintro (q | q); omega; exact hcm q.2)])
            clear hgt hRR heq hcm
            gi_wp2
            refine startIn_ (n := 22) (S := fun w' => w'.cell? ⟨w1.heap.size + 1, 0, none⟩ = some (.slice A3 (bestOfMost l0_0 l0_1 pre).length c3)) (ds := []) (by kernel_rfl) (fun h => by obtain ⟨_, _, h⟩ := h; exact Exit.noConfusion (And.left h)) (bs 22 0) (by kernel_rfl) rfl rfl ((blk_cell HBS.out 0).trans rfl) (fun hHeld => ?_)
            refine with_tabW X_Most.tab8 X_Most.bits8 (fun HT_ HW_ => ?_)
            generalize World.drew _ = w5 at HBS HB2 HX2 HK2 HL2 HF3 hHeld ⊢
            refine pu HT_ 0 (some 25) (bs 22 1) ?_
            refine pu HT_ 1 (some 26) (bs 22 3) ?_
            refine take_ (i := 2) (N := some 27) (v := ?_) (a' := ?_) (bs 22 7) rfl rfl (take_ofW HT_.out HW_.out (by kernel_rfl)) (fun _ _ _ h => h) (Or.inl ⟨by rfl, ?_⟩) hHeld ?_ ?_
            rotate_left
            · intro w' s0
              go_simp
              with_reducible rfl
            rotate_left
            · simp only [Act.put, List.setIfInBounds_toArray, List.set_cons_zero, List.set_cons_succ, i64_w, i32_w]
              rfl
            refine pu HT_ 3 (some 28) (bs 22 15) ?_
            refine take_ (i := 6) (N := some 31) (v := ?_) (a' := ?_) (bs 22 79) rfl rfl (take_ofW HT_.out HW_.out (by kernel_rfl)) (fun _ _ _ h => h) (Or.inl ⟨by rfl, ?_⟩) hHeld ?_ ?_
            rotate_left
            · intro w' s0
              go_simp
              with_reducible rfl
            rotate_left
            · simp only [Act.put, List.setIfInBounds_toArray, List.set_cons_zero, List.set_cons_succ, i64_w, i32_w]
              rfl
            refine pu HT_ 7 (some 32) (bs 22 207) ?_
            refine on HT_ 4 (some 29) (bs 22 223) (fun K hK => ?_)
            refine value_ (w1 := ?_) (v := ?_) (by rfl) rfl ?_ ?_
            rotate_left 2
            · go_simp
              constructor
              · rfl
              · rfl
            refine hK.out _ _ ((blk_cell (blk_alloc HBS.out _) 0).trans rfl) (fun hHeld => ?_)
            clear hK K
            refine nm 29 ?_
            refine on HT_ 5 (some 30) (bs 22 255) (fun K hK => ?_)
            have hgr := greatest_calls (mendedL l0_0 l0_1 x).length (bestOfMost l0_0 l0_1 pre).length w5 3
            rw [HRR.out] at hgr
            refine goes_ Tryd.func84 (by kernel_rfl) rfl #[.int .i64 (mendedL l0_0 l0_1 x).length, .slice (some ⟨w5.heap.size, 0, none⟩) 1 1] (by rfl) rfl rfl (by simp only [List.map_toArray, List.map_cons, List.map_nil]; rfl) ?_
            refine hgr.mono ?_
            clear hgr
            rintro e w6 ⟨rfl, hb⟩
            refine ⟨_, rfl, ?_⟩
            have hb6 : Below w5.heap.size w5 w6 := ((Below.refl w5.heap.size w5).alloc (Nat.le_refl _) _).trans (hb.mono (Nat.le_succ _))
            replace HBS := Aside0.mk ((hb6.block _ (Array.getElem?_eq_some_iff.1 HBS.out).1).trans HBS.out)
            replace HK2 := Aside0.mk (HK2.out.step hb6 HII.out.box.bel.size)
            replace HB2 := Aside0.mk (HB2.out.step hb6)
            replace HX2 := Aside0.mk ((hb6.block _ (Array.getElem?_eq_some_iff.1 HX2.out).1).trans HX2.out)
            replace HL2 := Aside0.mk (Kd.F_below HL2.out hb6)
            replace HF3 := Aside0.mk (Kd.F_below HF3.out hb6)
            clear hb hb6
            refine hK.out _ _ ((blk_cell HBS.out 0).trans rfl) (fun hHeld => ?_)
            clear hK K
            refine nm 30 ?_
            refine pu HT_ 8 (some 33) (bs 22 511) ?_
            refine pu HT_ 9 (some 34) (bs 22 1023) ?_
            refine pu HT_ 10 (some 35) (bs 22 2047) ?_
            refine pu HT_ 11 (some 36) (bs 22 4095) ?_
            refine take_ (i := 12) (N := some 37) (v := ?_) (a' := ?_) (bs 22 8191) rfl rfl (take_ofW HT_.out HW_.out (by kernel_rfl)) (fun _ _ _ h => h) (Or.inl ⟨by rfl, ?_⟩) hHeld ?_ ?_
            rotate_left
            · intro w' s0
              go_simp
              with_reducible rfl
            rotate_left
            · simp only [Act.put, List.setIfInBounds_toArray, List.set_cons_zero, List.set_cons_succ, i64_w, i32_w]
              rfl
            refine pu HT_ 13 (some 38) (bs 22 16383) ?_
            refine pu HT_ 14 (some 39) (bs 22 32767) ?_
            refine pu HT_ 15 (some 40) (bs 22 65535) ?_
            refine pu HT_ 16 (some 41) (bs 22 131071) ?_
            refine take_ (i := 17) (N := some 42) (v := ?_) (a' := ?_) (bs 22 262143) rfl rfl (take_ofW HT_.out HW_.out (by kernel_rfl)) (fun _ _ _ h => h) (Or.inl ⟨by rfl, ?_⟩) hHeld ?_ ?_
            rotate_left
            · intro w' s0
              go_simp
              with_reducible rfl
            rotate_left
            · simp only [Act.put, List.setIfInBounds_toArray, List.set_cons_zero, List.set_cons_succ, i64_w, i32_w]
              rfl
            refine on HT_ 18 (some 43) (bs 22 524287) (fun K hK => ?_)
            refine goes_ Tryd.func85 (by kernel_rfl) rfl #[.slice A2 (mendedL l0_0 l0_1 x).length c2, .slice A3 (bestOfMost l0_0 l0_1 pre).length c3] (by rfl) rfl rfl (by simp only [List.map_toArray, List.map_cons, List.map_nil]; rfl) ?_
            refine (compare_calls A2 c2 (mendedL l0_0 l0_1 x) A3 c3 (bestOfMost l0_0 l0_1 pre) _ (Kd.F_now HL2.out) HC2.out (Kd.F_now HF3.out) HC3.out (by omega)).mono ?_
            rintro e w7 ⟨rfl, hb⟩
            refine ⟨_, rfl, ?_⟩
            replace HBS := Aside0.mk ((hb.block _ (Array.getElem?_eq_some_iff.1 HBS.out).1).trans HBS.out)
            replace HK2 := Aside0.mk (HK2.out.step hb HII.out.box.bel.size)
            replace HB2 := Aside0.mk (HB2.out.step hb)
            replace HX2 := Aside0.mk ((hb.block _ (Array.getElem?_eq_some_iff.1 HX2.out).1).trans HX2.out)
            replace HL2 := Aside0.mk (Kd.F_below HL2.out hb)
            replace HF3 := Aside0.mk (Kd.F_below HF3.out hb)
            clear hb
            refine hK.out _ _ ((blk_cell HBS.out 0).trans rfl) (fun hHeld => ?_)
            clear hK K
            refine nm 43 ?_
            refine pu HT_ 19 (some 44) (bs 22 1048575) ?_
            refine pu HT_ 20 (some 45) (bs 22 2097151) ?_
            refine pu HT_ 21 (some 46) (bs 22 4194303) ?_
            refine done_ (done_of HT_.out (by kernel_rfl)) ?_
            clear hHeld
            gi_wp2
            exact ⟨⟨HB2.out, HX2.out, A3, c3, by rw [HMS.out]; exact HBS.out, by rw [HMS.out]; exact HC3.out, by rw [HMS.out]; exact HF3.out⟩, HK2.out⟩
        · have hc2 : (((mendedL l0_0 l0_1 x).length : Int) == ((bestOfMost l0_0 l0_1 pre).length : Int)) = false := beq_eq_false_iff_ne.2 (by omega)
          have hc3' : ((mendedL l0_0 l0_1 x).length == (bestOfMost l0_0 l0_1 pre).length) = false := beq_eq_false_iff_ne.2 heq
          have HMS := Aside0.mk (show bestOfMost l0_0 l0_1 (pre ++ [x]) = (bestOfMost l0_0 l0_1 pre) by rw [best_snoc]; unfold mostStep; rw [if_neg (by rintro (q | q); omega; exact heq q.1)])
          clear hgt hRR heq
          gi_wp2
          refine startIn_ (n := 22) (S := fun w' => w'.cell? ⟨w1.heap.size + 1, 0, none⟩ = some (.slice A3 (bestOfMost l0_0 l0_1 pre).length c3)) (ds := []) (by kernel_rfl) (fun h => by obtain ⟨_, _, h⟩ := h; exact Exit.noConfusion (And.left h)) (bs 22 0) (by kernel_rfl) rfl rfl ((blk_cell HBS.out 0).trans rfl) (fun hHeld => ?_)
          refine with_tabW X_Most.tab8 X_Most.bits8 (fun HT_ HW_ => ?_)
          generalize World.drew _ = w5 at HBS HB2 HX2 HK2 HL2 HF3 hHeld ⊢
          refine pu HT_ 0 (some 25) (bs 22 1) ?_
          refine pu HT_ 1 (some 26) (bs 22 3) ?_
          refine take_ (i := 2) (N := some 27) (v := ?_) (a' := ?_) (bs 22 7) rfl rfl (take_ofW HT_.out HW_.out (by kernel_rfl)) (fun _ _ _ h => h) (Or.inl ⟨by rfl, ?_⟩) hHeld ?_ ?_
          rotate_left
          · intro w' s0
            go_simp
            with_reducible rfl
          rotate_left
          · simp only [Act.put, List.setIfInBounds_toArray, List.set_cons_zero, List.set_cons_succ, i64_w, i32_w]
            rfl
          refine pu HT_ 3 (some 28) (bs 22 15) ?_
          refine take_ (i := 6) (N := some 31) (v := ?_) (a' := ?_) (bs 22 79) rfl rfl (take_ofW HT_.out HW_.out (by kernel_rfl)) (fun _ _ _ h => h) (Or.inl ⟨by rfl, ?_⟩) hHeld ?_ ?_
          rotate_left
          · intro w' s0
            go_simp
            with_reducible rfl
          rotate_left
          · simp only [Act.put, List.setIfInBounds_toArray, List.set_cons_zero, List.set_cons_succ, i64_w, i32_w]
            rfl
          refine pu HT_ 7 (some 32) (bs 22 207) ?_
          refine on HT_ 4 (some 29) (bs 22 223) (fun K hK => ?_)
          refine value_ (w1 := ?_) (v := ?_) (by rfl) rfl ?_ ?_
          rotate_left 2
          · go_simp
            constructor
            · rfl
            · rfl
          refine hK.out _ _ ((blk_cell (blk_alloc HBS.out _) 0).trans rfl) (fun hHeld => ?_)
          clear hK K
          refine nm 29 ?_
          refine on HT_ 5 (some 30) (bs 22 255) (fun K hK => ?_)
          have hgr := greatest_calls (mendedL l0_0 l0_1 x).length (bestOfMost l0_0 l0_1 pre).length w5 3
          rw [HRR.out] at hgr
          refine goes_ Tryd.func84 (by kernel_rfl) rfl #[.int .i64 (mendedL l0_0 l0_1 x).length, .slice (some ⟨w5.heap.size, 0, none⟩) 1 1] (by rfl) rfl rfl (by simp only [List.map_toArray, List.map_cons, List.map_nil]; rfl) ?_
          refine hgr.mono ?_
          clear hgr
          rintro e w6 ⟨rfl, hb⟩
          refine ⟨_, rfl, ?_⟩
          have hb6 : Below w5.heap.size w5 w6 := ((Below.refl w5.heap.size w5).alloc (Nat.le_refl _) _).trans (hb.mono (Nat.le_succ _))
          replace HBS := Aside0.mk ((hb6.block _ (Array.getElem?_eq_some_iff.1 HBS.out).1).trans HBS.out)
          replace HK2 := Aside0.mk (HK2.out.step hb6 HII.out.box.bel.size)
          replace HB2 := Aside0.mk (HB2.out.step hb6)
          replace HX2 := Aside0.mk ((hb6.block _ (Array.getElem?_eq_some_iff.1 HX2.out).1).trans HX2.out)
          replace HL2 := Aside0.mk (Kd.F_below HL2.out hb6)
          replace HF3 := Aside0.mk (Kd.F_below HF3.out hb6)
          clear hb hb6
          refine hK.out _ _ ((blk_cell HBS.out 0).trans rfl) (fun hHeld => ?_)
          clear hK K
          refine nm 30 ?_
          refine pu HT_ 8 (some 33) (bs 22 511) ?_
          refine pu HT_ 9 (some 34) (bs 22 1023) ?_
          refine pu HT_ 10 (some 35) (bs 22 2047) ?_
          refine pu HT_ 11 (some 36) (bs 22 4095) ?_
          refine take_ (i := 12) (N := some 37) (v := ?_) (a' := ?_) (bs 22 8191) rfl rfl (take_ofW HT_.out HW_.out (by kernel_rfl)) (fun _ _ _ h => h) (Or.inl ⟨by rfl, ?_⟩) hHeld ?_ ?_
          rotate_left
          · intro w' s0
            go_simp
            with_reducible rfl
          rotate_left
          · simp only [Act.put, List.setIfInBounds_toArray, List.set_cons_zero, List.set_cons_succ, i64_w, i32_w]
            rfl
          refine pu HT_ 13 (some 38) (bs 22 16383) ?_
          refine pu HT_ 14 (some 39) (bs 22 32767) ?_
          refine pu HT_ 15 (some 40) (bs 22 65535) ?_
          refine pn HT_ 16 (some 41) (bs 22 131071) ?_
          refine pn HT_ 17 (some 42) (bs 22 262143) ?_
          refine pn HT_ 18 (some 43) (bs 22 524287) ?_
          refine pn HT_ 19 (some 44) (bs 22 1048575) ?_
          refine pu HT_ 20 (some 45) (bs 22 2097151) ?_
          refine pu HT_ 21 (some 46) (bs 22 4194303) ?_
          refine done_ (done_of HT_.out (by kernel_rfl)) ?_
          clear hHeld
          gi_wp2
          exact ⟨⟨HB2.out, HX2.out, A3, c3, by rw [HMS.out]; exact HBS.out, by rw [HMS.out]; exact HC3.out, by rw [HMS.out]; exact HF3.out⟩, HK2.out⟩
    case done =>
      intro W hD hI hK hdef
      obtain ⟨hbx, hxx, A3, c3, hbst, hc3, hF3⟩ := hI
      have hx0 := (blk_cell hbst 0).trans rfl
      have HDF := Aside0.mk hdef
      have HBD := Aside0.mk hbx.bel
      have HF3 := Aside0.mk hF3
      have hq : some (bestOfMost l0_0 l0_1 (plansL l0_0 l0_1 a0_2 a0_2), (0 : Int)) = some (r1, r2) := HH.out
      obtain ⟨rfl, rfl⟩ : bestOfMost l0_0 l0_1 (plansL l0_0 l0_1 a0_2 a0_2) = r1 ∧ 0 = r2 := by simpa using hq
      clear hK hdef hD hbx hxx hbst hF3 hq
      go_wp2
      refine postM_ret [wl.heap.size] rfl (by simp) (fun _ h => by simp at h; rw [h]; exact HDF.out) (results_tmp2 rfl _ _ _) ⟨_, rfl, ?_, HBD.out.trans (takeAll_below w.heap.size _ _ (fun D h => by simp at h; rw [h]; exact HBl.out.size))⟩
      refine Kd.V_mk (Nat.le_refl _) (Kd.F_mono (Kd.F_grown HF3.out (grownBy_putObj' W wl.heap.size _) (fun k hk e => by injection e with e; omega)) (fun k hk => hk.1))
  · have HE := Aside0.mk hE
    have hE1 : (E == 0) = false := beq_eq_false_iff_ne.2 hE0
    have hE2 : (E != 0) = true := bne_iff_ne.2 hE0
    have h41 : some (([] : List Int), E) = some (r1, r2) := by
      rw [← H.out]
      unfold gang_Most.f
      unfold askedE at hE
      split at hE
      · rename_i q
        exact absurd (by rw [hE]; rfl) hE0
      · rename_i q
        rw [if_neg q, hE]
    obtain ⟨rfl, rfl⟩ : [] = r1 ∧ E = r2 := by simpa using h41
    clear hE hs hE0 h41
    go_wp2
    exact postM_ret [] rfl List.nodup_nil (fun _ h => by simp at h) (results_tmp2 rfl _ _ _) ⟨_, rfl, Kd.V_nil _ _ _ _ _, HB1.out.alloc HB1.out.size _⟩
end Go.Proofs.YtikfghnkbgdbgaaDoor.Q
end
section
namespace Go.Proofs.YtikfghnkbgdbgaaDoor.Q
set_option linter.unusedSimpArgs false
set_option linter.unusedVariables false
open Go.RowKit Go.Proofs.YtikfghnkbgdbgaaDoorW.PrintWords Go.Proofs.YtikfghnkbgdbgaaDoorW.PrintLast Go.Proofs.YtikfghnkbgdbgaaDoorW.PrintMore
theorem keeps_setCell1 {n0 : Nat} {S : Nat → Prop} {X Y : World} (h : Keeps n0 S X Y) {p : Addr} (hS : S p.block) (hp : n0 ≤ p.block) (v : Value) : Keeps n0 S X (Y.setCell p v) :=
  ⟨h.bel.setCell hp v, h.kept.setCell (.inl hS) v⟩
attribute [local go_sem] Oper.semAt_some wide_fn wide_depth
def hv (ms : List M) (gs : List G) (pre : List (List Wk)) (m : Int) : Int := if pre.any (fun p => (mendedL ms gs p).contains m) = true then 1 else 0
theorem pick_hv (ms : List M) (gs : List G) (pre : List (List Wk)) (m : Int) (h0 : 0 ≤ m) (h4 : m < 4) : pick4 (hv ms gs pre 0) (hv ms gs pre 1) (hv ms gs pre 2) (hv ms gs pre 3) m = hv ms gs pre m := by
  obtain rfl | rfl | rfl | rfl : m = 0 ∨ m = 1 ∨ m = 2 ∨ m = 3 := by omega
  all_goals rfl
structure FirstI (w W : World) (ms : List M) (gs : List G) (n : Int) (b g gx gh : Nat) (A0 : Option Addr) (c0 : Nat) (A1 : Option Addr) (c1 : Nat) (pre : List (List Wk)) : Prop where
  box : BoxAt w W A0 ms.length c0 A1 gs.length c1 n b g
  x : W.heap[gx]? = some (.cells #[.slice A0 ms.length c0, .slice A1 gs.length c1, .int .i64 n] 25 (0, 0))
  had : DoneIs W gh (hv ms gs pre 0) (hv ms gs pre 1) (hv ms gs pre 2) (hv ms gs pre 3)
def hk (pre : List (List Wk)) (ms : List M) (gs : List G) (L : List Int) (k : Nat) (m : Int) : Int := if (pre.any (fun p => (mendedL ms gs p).contains m) || (L.take k).contains m) = true then 1 else 0
theorem hk_zero (pre : List (List Wk)) (ms : List M) (gs : List G) (L : List Int) (m : Int) : hk pre ms gs L 0 m = hv ms gs pre m := by simp [hk, hv]
theorem hk_full (pre : List (List Wk)) (ms : List M) (gs : List G) (x : List Wk) (m : Int) : hk pre ms gs (mendedL ms gs x) (mendedL ms gs x).length m = hv ms gs (pre ++ [x]) m := by
  simp [hk, hv, List.any_append]
theorem hk_succ (pre : List (List Wk)) (ms : List M) (gs : List G) (L : List Int) (k : Nat) (hk' : k < L.length) (m : Int) : hk pre ms gs L (k + 1) m = if rd L (k : Int) = m then 1 else hk pre ms gs L k m := by
  have hr : rd L (k : Int) = L[k] := by simp [rd, List.getD_eq_getElem?_getD, List.getElem?_eq_getElem hk']
  have e : (L.take (k + 1)).contains m = ((L.take k).contains m || (m == L[k])) := by
    rw [List.take_succ_eq_append_getElem hk']
    rw [Bool.eq_iff_iff]
    simp only [Bool.or_eq_true, List.contains_iff_mem, beq_iff_eq, List.mem_append, List.mem_singleton]
  unfold hk
  rw [e, hr]
  by_cases h : L[k] = m
  · simp [h]
  · have h2 : (m == L[k]) = false := beq_eq_false_iff_ne.2 (fun q => h q.symm)
    rw [if_neg h, h2, Bool.or_false]
theorem mended_mem {ms : List M} {gs : List G} {p : List Wk} {k : Nat} (h : k < (mendedL ms gs p).length) : 0 ≤ rd (mendedL ms gs p) (k : Int) ∧ rd (mendedL ms gs p) (k : Int) < ms.length := by
  have hr : rd (mendedL ms gs p) (k : Int) = (mendedL ms gs p)[k] := by simp [rd, List.getD_eq_getElem?_getD, List.getElem?_eq_getElem h]
  rw [hr]
  have hm := List.getElem_mem h
  unfold mendedL at hm
  have := (List.mem_filter.1 hm).1
  simp only [upTo, List.mem_map, List.mem_range] at this
  obtain ⟨j, hj, e⟩ := this
  have e2 : (mendedL ms gs p)[k] = Int.ofNat j := e.symm
  have hj2 : j < ms.length := by simpa using hj
  rw [e2]
  constructor
  · exact Int.natCast_nonneg j
  · exact Int.ofNat_lt.2 hj2
set_option maxRecDepth 100000 in
set_option maxHeartbeats 4000000 in
theorem gang_First.calls (A0_0 : Option Addr) (c0_0 : Nat) (l0_0 : List (M)) (A0_1 : Option Addr) (c0_1 : Nat) (l0_1 : List (G)) (a0_2 : Int) (r1 : Int) (r2 : Int) (w : World) (hr0_0 : Kd.C k66 w A0_0 l0_0.length l0_0) (hc0_0 : l0_0.length ≤ c0_0) (hr0_1 : Kd.C k63 w A0_1 l0_1.length l0_1) (hc0_1 : l0_1.length ≤ c0_1) (hG : GV w) (h : gang_First.f l0_0 l0_1 a0_2 = some (r1, r2)) :
    Calls Tryd.prog 36 #[.agg #[.slice A0_0 l0_0.length c0_0, .slice A0_1 l0_1.length c0_1, .int .i64 a0_2]] w fun e w' => e = .returned (.tuple #[.int .i64 r1, .int .i64 r2]) ∧ Below w.heap.size w w' := by
  have HR0 := Aside0.mk hr0_0
  have HR1 := Aside0.mk hr0_1
  have HG0 := Aside0.mk hG
  have H := Aside0.mk h
  have hB := ((Below.refl w.heap.size w).alloc (Nat.le_refl _) (.cells #[.slice A0_0 l0_0.length c0_0, .slice A0_1 l0_1.length c0_1, .int .i64 a0_2] 25))
  have HB := Aside0.mk hB
  have hx := World.alloc_heap_new w (.cells #[.slice A0_0 l0_0.length c0_0, .slice A0_1 l0_1.length c0_1, .int .i64 a0_2] 25)
  have HX := Aside0.mk hx
  clear hr0_0 hr0_1 hG hB h hx
  refine calls_marks Tryd.func36 rfl ?_
  simp only [Tryd.ntmps36, List.size_toArray, List.length_cons, List.length_nil, Nat.reduceAdd, Nat.reduceSub, Array.replicate_succ, Array.replicate_zero, List.push_toArray, List.append_toArray, List.nil_append, List.cons_append]
  go_wp2_with (fail)
  refine (asked_any l0_0 l0_1 A0_0 c0_0 A0_1 c0_1 a0_2 none 0 [] _ (Kd.C_below HR0.out HB.out) hc0_0 (Kd.C_below HR1.out HB.out) hc0_1 ⟨rfl, by simp, fun h => by simp at h⟩ (Nat.le_refl _) (gv_below HG0.out HB.out)).mono ?_
  rintro e w1 ⟨B0, n0, d0, B1, n1, d1, m, bm, E, rfl, hE, hs, hb⟩
  have HB1 := Aside0.mk (below_then HB.out HB.out.size hb)
  have HX1 := Aside0.mk ((hb.block w.heap.size (by simp)).trans HX.out)
  clear hb
  by_cases hE0 : E = 0
  · obtain ⟨b, ⟨rfl, rfl, rfl⟩, ⟨rfl, rfl, rfl⟩, rfl, rfl, hm, hl⟩ := hs hE0
    subst hE0
    have HE := Aside0.mk hE
    have HM := Aside0.mk hm
    have HH : Aside0 ((match (upTo l0_0.length).find? (fun i => !hadAny l0_0 l0_1 a0_2 i) with | some i => some (i, (0 : Int)) | none => some (0, 4)) = some (r1, r2)) := ⟨by rw [← H.out]; unfold gang_First.f; rw [if_pos (askedE_ok hE.symm).1]; rfl⟩
    have hx2 := (blk_cell HX1.out 2).trans rfl
    have hxl := (Array.getElem?_eq_some_iff.1 HX1.out).1
    have hbd := okB_bounds (askedE_ok hE.symm).1
    have hg2 := hbd.2.1.2
    have hg1 := hbd.2.1.1
    have hm4 := hbd.1.2
    have hn4 : a0_2 ≤ 4 := by omega
    have hn0 : 0 ≤ a0_2 := by omega
    have HBV := Aside0.mk ((HB1.out.alloc HB1.out.size (.cells #[.slice A0_0 l0_0.length c0_0, .slice A0_1 l0_1.length c0_1, .int .i64 a0_2, .map (some b)] 86)).alloc (by simp; have := HB1.out.size; omega) (.cells #[.int .i64 0, .int .i64 0, .int .i64 0, .int .i64 0] 97))
    have HV1 := Aside0.mk (blk_alloc (World.alloc_heap_new w1 (.cells #[.slice A0_0 l0_0.length c0_0, .slice A0_1 l0_1.length c0_1, .int .i64 a0_2, .map (some b)] 86)) (.cells #[.int .i64 0, .int .i64 0, .int .i64 0, .int .i64 0] 97))
    have HV2 := Aside0.mk (World.alloc_heap_new (w1.alloc (.cells #[.slice A0_0 l0_0.length c0_0, .slice A0_1 l0_1.length c0_1, .int .i64 a0_2, .map (some b)] 86)) (.cells #[.int .i64 0, .int .i64 0, .int .i64 0, .int .i64 0] 97))
    have HV3 := Aside0.mk (blk_alloc (blk_alloc HX1.out (.cells #[.slice A0_0 l0_0.length c0_0, .slice A0_1 l0_1.length c0_1, .int .i64 a0_2, .map (some b)] 86)) (.cells #[.int .i64 0, .int .i64 0, .int .i64 0, .int .i64 0] 97))
    have HV4 := Aside0.mk ((HM.out.below ((Below.refl _ w1).alloc (Nat.le_refl _) (.cells #[.slice A0_0 l0_0.length c0_0, .slice A0_1 l0_1.length c0_1, .int .i64 a0_2, .map (some b)] 86))).below ((Below.refl _ _).alloc (Nat.le_refl _) (.cells #[.int .i64 0, .int .i64 0, .int .i64 0, .int .i64 0] 97)))
    have hVs : ((w1.alloc (.cells #[.slice A0_0 l0_0.length c0_0, .slice A0_1 l0_1.length c0_1, .int .i64 a0_2, .map (some b)] 86)).alloc (.cells #[.int .i64 0, .int .i64 0, .int .i64 0, .int .i64 0] 97)).heap.size = w1.heap.size + 2 := by simp
    have HVS := Aside0.mk hVs
    have hbl1 := HM.out.lt
    have HBL := Aside0.mk (show b < w1.heap.size from hbl1)
    clear hm hs hE hl H hbd hVs hbl1
    go_wp2_with (fail)
    refine (plans_calls A0_0 l0_0.length c0_0 A0_1 l0_1.length c0_1 a0_2 b a0_2 _).mono ?_
    generalize (w1.alloc (.cells #[.slice A0_0 l0_0.length c0_0, .slice A0_1 l0_1.length c0_1, .int .i64 a0_2, .map (some b)] 86)).alloc (.cells #[.int .i64 0, .int .i64 0, .int .i64 0, .int .i64 0] 97) = V at HBV HV1 HV2 HV3 HV4 HVS ⊢
    rintro e wl ⟨rfl, hwl⟩
    have hbl : Below V.heap.size V wl := by rw [hwl]; exact ((Below.refl _ V).alloc (Nat.le_refl _) _).alloc (by simp) _
    have hsl : wl.heap.size = V.heap.size + 2 := by rw [hwl]; simp
    have HBl := Aside0.mk (HBV.out.trans (hbl.mono HBV.out.size))
    have HI := Aside0.mk (FirstI.mk (w := w) (W := wl) (ms := l0_0) (gs := l0_1) (n := a0_2) (b := b) (g := w1.heap.size) (gx := w.heap.size) (gh := w1.heap.size + 1) (A0 := A0_0) (c0 := c0_0) (A1 := A0_1) (c1 := c0_1) (pre := [])
      ⟨(hbl.block _ (Array.getElem?_eq_some_iff.1 HV1.out).1).trans HV1.out, HBl.out⟩ ((hbl.block _ (Array.getElem?_eq_some_iff.1 HV3.out).1).trans HV3.out)
      (show DoneIs wl (w1.heap.size + 1) 0 0 0 0 from by have q := HV2.out; rw [World.size_alloc] at q; exact (hbl.block _ (Array.getElem?_eq_some_iff.1 q).1).trans q))
    have HSr := Aside0.mk (Src.mk (w := w) (W := wl) (ms := l0_0) (gs := l0_1) (n := a0_2) (b := b) (g := V.heap.size) (gm := V.heap.size + 1) (many := a0_2) (A0 := A0_0) (c0 := c0_0) (A1 := A0_1) (c1 := c0_1)
      ⟨by rw [hwl]; exact blk_alloc (World.alloc_heap_new V _) _, HBl.out⟩ (HV4.out.below hbl) (by rw [hwl]; have q := World.alloc_heap_new (V.alloc (.cells #[.slice A0_0 l0_0.length c0_0, .slice A0_1 l0_1.length c0_1, .int .i64 a0_2, .map (some b)] 86)) (.cells #[.int .i64 a0_2] 3); rwa [World.size_alloc] at q))
    have HSL := Aside0.mk hsl
    clear hbl hwl hsl hx2 hxl
    go_wp2_with (fail)
    refine wpIn_range_all (P := Tryd.prog) (w := wl) (n := 0) rfl (enters_ Tryd.func100 (by kernel_rfl) rfl) w.heap.size HBl.out.size (fun k => k = w1.heap.size + 1) (fun k hk => by have hw1 := HB1.out.size; have hVS := HVS.out; have hSL := HSL.out; omega) (plansL l0_0 l0_1 a0_2 a0_2) (fun x v W => Pr8 l0_0 l0_1 a0_2 (wl.heap.size + 2) x v W) w HBl.out ?hit ?hPr
      (fun pre W => FirstI w W l0_0 l0_1 a0_2 b w1.heap.size w.heap.size (w1.heap.size + 1) A0_0 c0_0 A0_1 c0_1 pre) ?hI1 ?hI2 HI.out ?a1 ?assign ?body ?done
    case hit =>
      have hw1 := HB1.out.size
      have hVS := HVS.out
      have hSL := HSL.out
      intro l J W hl hW hb hJ hY h0
      exact plans1_calls wl (fun k => k = w1.heap.size + 1) (fun k hk => by omega) (by omega) (by have := HBL.out; omega) (by omega) HSr.out hg1 hg2 hn0 hn4 hn0 hm4 HR1.out HG0.out l J W hl hW hb hJ hY h0
    case hPr =>
      have hSL := HSL.out
      rintro x v W o ⟨A, c, rfl, h1, h2, h3, h4⟩ _
      exact ⟨A, c, rfl, h1, h2, Kd.F_grown h3 (grownBy_putObj' W _ o) (fun k hk e => by injection e with e; omega), h4⟩
    case hI1 =>
      rintro pre X Y ⟨h1, h2, h3⟩ hb
      exact ⟨h1.step hb, (hb.block _ (Array.getElem?_eq_some_iff.1 h2).1).trans h2, h3.below hb⟩
    case hI2 =>
      have hw1 := HB1.out.size
      have hVS := HVS.out
      have hSL := HSL.out
      have hxl := (Array.getElem?_eq_some_iff.1 HX1.out).1
      rintro pre X o ⟨h1, h2, h3⟩ _
      refine ⟨⟨(World.putObj_heap_other (by omega)).trans h1.box, h1.bel.trans (below_putObj X _ _ o (by omega))⟩, (World.putObj_heap_other (by omega)).trans h2, (World.putObj_heap_other (by omega)).trans h3⟩
    case assign =>
      intro x v W K hK
      gi_wp2
      exact hK
    case body =>
      rintro pre x v W hWs hI ⟨A, c, rfl, hlc, _, hF, hfair⟩
      have hgW : w1.heap.size + 1 < W.heap.size := by have hVS := HVS.out; have hSL := HSL.out; omega
      clear hWs
      have q0 := (blk_cell hI.box.box 0).trans rfl
      have q1 := (blk_cell hI.box.box 1).trans rfl
      have q2 := (blk_cell hI.box.box 2).trans rfl
      have q3 := (blk_cell hI.box.box 3).trans rfl
      have HII := Aside0.mk hI
      have HF := Aside0.mk hF
      have HFA := Aside0.mk hfair
      clear hI hF hfair
      gi_wp2
      refine (CallsIn.inRound (wl.heap.size + 1) (callsIn_wide.2 (mended_calls l0_0 l0_1 A0_0 c0_0 A0_1 c0_1 a0_2 b A c x W (Kd.C_below HR0.out HII.out.box.bel) (Kd.C_below HR1.out HII.out.box.bel) (Kd.F_now HF.out) (gv_below HG0.out HII.out.box.bel) (askedE_ok HE.out.symm).1 HFA.out))).mono ?_
      rintro e W2 ⟨v2, rfl, hR, hb⟩
      obtain ⟨A2, c2, rfl⟩ := Kd.R_slice hR
      have hlen := mended_len l0_0 l0_1 x
      have HB2 := Aside0.mk (HII.out.box.step hb)
      have HX2 := Aside0.mk ((hb.block _ (Array.getElem?_eq_some_iff.1 HII.out.x).1).trans HII.out.x)
      have HD2 := Aside0.mk (HII.out.had.below hb)
      have HK2 := Aside0.mk ((Keeps.refl w.heap.size (fun k => k = w1.heap.size + 1) W).step hb HII.out.box.bel.size)
      have HL2 := Aside0.mk (Kd.R_F (Kd.R_bound hR))
      have HG2 := Aside0.mk hgW
      clear hR hb q0 q1 q2 q3 hgW
      gi_wp2
      gi_loopw [28] (fun v28 wr => ∃ k : Nat, k ≤ (mendedL l0_0 l0_1 x).length ∧ v28 = .int .i64 k ∧
        Aside0 (DoneIs wr (w1.heap.size + 1) (hk pre l0_0 l0_1 (mendedL l0_0 l0_1 x) k 0) (hk pre l0_0 l0_1 (mendedL l0_0 l0_1 x) k 1) (hk pre l0_0 l0_1 (mendedL l0_0 l0_1 x) k 2) (hk pre l0_0 l0_1 (mendedL l0_0 l0_1 x) k 3)) ∧
        Aside0 (Keeps w.heap.size (fun k => k = w1.heap.size + 1) W2 wr)) (fun v28 _ => (mendedL l0_0 l0_1 x).length - (intOf v28).toNat)
      case atStart => exact ⟨0, Nat.zero_le _, rfl, ⟨by simpa only [hk_zero] using HD2.out⟩, ⟨Keeps.refl _ _ _⟩⟩
      case round =>
        obtain ⟨k, hk', rfl, HDr, HKr⟩ := hrel
        by_cases hlt : k < (mendedL l0_0 l0_1 x).length
        · have HCr := Aside0.mk (Kd.F_now (Kd.F_kept HL2.out HKr.out.kept (fun q hq e => by have h1 := hq.2.1; have h2 := HG2.out; omega)))
          obtain ⟨ad, hA, hx0⟩ := Kd.at_int HCr.out (k : Int) (by omega) (by omega)
          rw [Int.toNat_natCast] at hx0
          subst hA
          have hm := mended_mem hlt
          have hm0 := hm.1
          have hm4' : rd (mendedL l0_0 l0_1 x) (k : Int) < 4 := by omega
          have hd := HDr.out.cell _ hm0 hm4'
          have hd1 := hd.1
          have hd2 := hd.2
          clear hm hd
          gi_wp2
          go_roundw
          case rel =>
            refine ⟨k + 1, by omega, by go_num, ⟨?_⟩, ⟨keeps_setCell1 HKr.out (p := ⟨w1.heap.size + 1, _, none⟩) rfl (by have := HB1.out.size; show w.heap.size ≤ w1.heap.size + 1; omega) _⟩⟩
            rw [hk_succ _ _ _ _ k hlt, hk_succ _ _ _ _ k hlt, hk_succ _ _ _ _ k hlt, hk_succ _ _ _ _ k hlt]
            exact HDr.out.set _ 1 hm0 hm4'
          case measure => simp [intOf]; omega
        · obtain rfl : k = (mendedL l0_0 l0_1 x).length := by omega
          have hD := HDr.out
          rw [hk_full, hk_full, hk_full, hk_full] at hD
          have HDF := Aside0.mk hD
          have HKF := Aside0.mk (HK2.out.trans HKr.out)
          clear hD
          gi_wp2
          refine ⟨⟨⟨blk_kept HII.out.box.box HKF.out.kept (by omega), HII.out.box.bel.trans HKF.out.bel⟩, blk_kept HII.out.x HKF.out.kept ?_, HDF.out⟩, HKF.out⟩
          have hxl := (Array.getElem?_eq_some_iff.1 HX1.out).1
          omega
    case done =>
      intro W hD hI hK hdef
      have HII := Aside0.mk hI
      have hx0 := (blk_cell HII.out.x 0).trans rfl
      have HDF := Aside0.mk hdef
      have HBD := Aside0.mk hI.box.bel
      clear hI hK hdef hD
      go_wp2_with (fail)
      clear hx0
      go_loopw [38] (fun v38 wr => ∃ k : Nat, k ≤ l0_0.length ∧ v38 = .int .i64 k ∧ Aside0 (∀ i : Nat, i < k → (!hadAny l0_0 l0_1 a0_2 i) = false) ∧ Aside0 (W = wr)) (fun v38 _ => l0_0.length - (intOf v38).toNat)
      case atStart => exact ⟨0, Nat.zero_le _, rfl, ⟨fun i h => absurd h (Nat.not_lt_zero _)⟩, ⟨rfl⟩⟩
      case round =>
        obtain ⟨k, hk', rfl, HA, ⟨rfl⟩⟩ := hrel
        by_cases hlt : k < l0_0.length
        · have hd := (HII.out.had.cell (k : Int) (by omega) (by omega)).1
          rw [Int.toNat_natCast, pick_hv _ _ _ _ (by omega) (by omega)] at hd
          have hk4 : (k : Int) < 4 := by omega
          cases hc : hadAny l0_0 l0_1 a0_2 k with
          | false =>
            rw [show hv l0_0 l0_1 (plansL l0_0 l0_1 a0_2 a0_2) k = 0 by unfold hadAny at hc; unfold hv; rw [hc]; rfl] at hd
            have HF := Aside0.mk (find_some (fun i => !hadAny l0_0 l0_1 a0_2 i) l0_0.length k hlt HA.out (by simp only [hc]; rfl))
            have hq : some ((k : Int), (0 : Int)) = some (r1, r2) := by rw [← HH.out, HF.out]
            obtain ⟨rfl, rfl⟩ : (k : Int) = r1 ∧ 0 = r2 := by simpa using hq
            clear hc hq
            go_wp2
            exact postM_ret [wl.heap.size] rfl (by simp) (fun _ h => by simp at h; rw [h]; exact HDF.out) (results_tmp2 rfl _ _ _) ⟨rfl, HBD.out.trans (takeAll_below w.heap.size _ _ (fun D h => by simp at h; rw [h]; exact HBl.out.size))⟩
          | true =>
            rw [show hv l0_0 l0_1 (plansL l0_0 l0_1 a0_2 a0_2) k = 1 by unfold hadAny at hc; unfold hv; rw [hc]; rfl] at hd
            have HC := Aside0.mk hc
            clear hc
            go_wp2
            go_roundw
            case rel => exact ⟨k + 1, by omega, by go_num, ⟨fun i hi => by
              by_cases q : i = k
              · rw [q, HC.out]; rfl
              · exact HA.out i (by omega)⟩, ⟨by first | trivial | rfl⟩⟩
            case measure => simp [intOf]; omega
        · obtain rfl : k = l0_0.length := by omega
          have HF := Aside0.mk (find_none (fun i => !hadAny l0_0 l0_1 a0_2 i) l0_0.length HA.out)
          have hq : some ((0 : Int), (4 : Int)) = some (r1, r2) := by rw [← HH.out, HF.out]
          obtain ⟨rfl, rfl⟩ : (0 : Int) = r1 ∧ 4 = r2 := by simpa using hq
          clear hq
          go_wp2
          exact postM_ret [wl.heap.size] rfl (by simp) (fun _ h => by simp at h; rw [h]; exact HDF.out) (results_tmp2 rfl _ _ _) ⟨rfl, HBD.out.trans (takeAll_below w.heap.size _ _ (fun D h => by simp at h; rw [h]; exact HBl.out.size))⟩
  · have HE := Aside0.mk hE
    have hE1 : (E == 0) = false := beq_eq_false_iff_ne.2 hE0
    have hE2 : (E != 0) = true := bne_iff_ne.2 hE0
    have h41 : some ((0 : Int), E) = some (r1, r2) := by
      rw [← H.out]
      unfold gang_First.f
      unfold askedE at hE
      split at hE
      · rename_i q
        exact absurd (by rw [hE]; rfl) hE0
      · rename_i q
        rw [if_neg q, hE]
    obtain ⟨rfl, rfl⟩ : 0 = r1 ∧ E = r2 := by simpa using h41
    clear hE hs hE0 h41
    go_wp2
    exact postM_ret [] rfl List.nodup_nil (fun _ h => by simp at h) (results_tmp2 rfl _ _ _) ⟨rfl, HB1.out.alloc HB1.out.size _⟩
end Go.Proofs.YtikfghnkbgdbgaaDoor.Q
end
section
namespace Go.Proofs.YtikfghnkbgdbgaaDoor.Q
open Go.RowKit Go.Proofs.YtikfghnkbgdbgaaDoorW.PrintWords Go.Proofs.YtikfghnkbgdbgaaDoorW.PrintLast Go.Proofs.YtikfghnkbgdbgaaDoorW.PrintMore
attribute [local go_sem] max2_int min2_int max_two min_two max_three min_three max_four min_four   -- for this text's walks alone
set_option linter.unusedVariables false
set_option linter.unusedSimpArgs false
def macadamlaw04_mile.f (a0_0 : Int) (a0_1 : Int) (a1 : Int) : Option (Int × Int × Int) := some (a0_0, a0_1, a1)
set_option maxHeartbeats 8000000 in
set_option maxRecDepth 100000 in
theorem macadamlaw04_mile.calls (a0_0 : Int) (a0_1 : Int) (a1 : Int) (r1 : Int) (r2 : Int) (r3 : Int) (w : World) (h : macadamlaw04_mile.f a0_0 a0_1 a1 = some (r1, r2, r3)) :
  Calls Tryd.prog 88 #[.agg #[.int .i64 a0_0, .int .i64 a0_1], .int .i64 a1] w fun e w' => e = .returned (.agg #[.int .i64 r1, .int .i64 r2, .int .i64 r3]) ∧ Below w.heap.size w w' := by
 have hu40 := Tryd.underlying40
 have hu66 := Tryd.underlying66
 have HB := Aside0.mk (Below.refl w.heap.size w)
 have H : (some (a0_0, a0_1, a1)) = some (r1, r2, r3) := h
 clear h
 simp only [Option.some.injEq, Prod.mk.injEq] at H
 obtain ⟨rfl, rfl, rfl⟩ := H
 go_enter Tryd.func88, Tryd.ntmps88
 go_wp2_with (first | ((with_reducible refine gate_dst (N := 2) rfl ?_); refine bx 2 #[.int .i64 a0_0, .int .i64 a0_1] 40 ?_; intro gb712 hg w3 hbox hb; have n0_ := Aside0.mk (below_step (bw HB) hb); have n1_ := Aside0.mk (hbox); have n2_ := Aside0.mk (bz (bw HB) hg); have n3_ := Aside0.mk (bz (bw HB) hg); clear HB; have HB := n0_; have BK712 := n1_; have GW712 := n2_; have GE712 := n3_; clear n0_ n1_ n2_ n3_; clear hb hbox hg) | ((with_reducible refine gate_dst (N := 4) rfl ?_); refine bx 4 #[.int .i64 0, .int .i64 0, .int .i64 0] 66 ?_; intro gb713 hg w4 hbox hb; have n0_ := Aside0.mk (blk_below (bm BK712) hb); have n1_ := Aside0.mk (below_step (bw1 HB GE712) hb); have n2_ := Aside0.mk (hbox); have n3_ := Aside0.mk (bz (bw1 HB GE712) hg); have n4_ := Aside0.mk (bz (bw1 HB GE712) hg); have n5_ := Aside0.mk (bl (bm BK712) hg); have n6_ := Aside0.mk (bg (bm BK712) hg); clear BK712; clear HB; have BK712 := n0_; have HB := n1_; have BK713 := n2_; have GW713 := n3_; have GE713 := n4_; have NB712_713 := n5_; have NB713_712 := n6_; clear n0_ n1_ n2_ n3_ n4_ n5_ n6_; clear hb hbox hg; have hnb5 := NB712_713.out; have hnc5 := NB713_712.out; obtain ⟨hcz6_0, hcz6_1, hfz6_0, hfz6_1⟩ := b2 BK712; obtain ⟨hcz7_0, hcz7_1, hcz7_2, hfz7_0, hfz7_1, hfz7_2⟩ := b3 BK713))
 refine bodyPost_ret (results_cell_row rfl _ _ gb713 66 #[.int .i64 a0_0, .int .i64 a0_1, .int .i64 a1] (0, 0) _ rfl (by (with_reducible repeat (first | refine blk_drewN ?_ _ | refine blk_drew ?_ | refine blk_alloc ?_ _)); refine blk_put (cs := #[.int .i64 a0_0, .int .i64 a0_1, .int .i64 0]) ?_ 2 _ rfl; (with_reducible repeat (first | refine blk_drewN ?_ _ | refine blk_drew ?_ | refine blk_alloc ?_ _)); refine blk_put (cs := #[.int .i64 a0_0, .int .i64 0, .int .i64 0]) ?_ 1 _ rfl; (with_reducible repeat (first | refine blk_drewN ?_ _ | refine blk_drew ?_ | refine blk_alloc ?_ _)); refine blk_put (cs := #[.int .i64 0, .int .i64 0, .int .i64 0]) ?_ 0 _ rfl; (with_reducible repeat (first | refine blk_drewN ?_ _ | refine blk_drew ?_ | refine blk_alloc ?_ _)); exact BK713.out) Tryd.underlying66 rfl (by kernel_rfl)) rfl ?_
 exact ⟨by first | rfl | (simp [errW_none, errW_some] <;> rfl) | (simp [*, errW_none, errW_some] <;> rfl), bw2 HB GE712 GE713⟩
def macadamlaw04_crew.f (a0 : Int) (a1 : Int) (a2_0 : Int) (a2_1 : Int) : Option (Int × Int × Int × Int) := some (a0, a1, a2_0, a2_1)
set_option maxHeartbeats 8000000 in
set_option maxRecDepth 100000 in
theorem macadamlaw04_crew.calls (a0 : Int) (a1 : Int) (a2_0 : Int) (a2_1 : Int) (r1 : Int) (r2 : Int) (r3 : Int) (r4 : Int) (w : World) (h : macadamlaw04_crew.f a0 a1 a2_0 a2_1 = some (r1, r2, r3, r4)) :
  Calls Tryd.prog 89 #[.int .i64 a0, .int .i64 a1, .agg #[.int .i64 a2_0, .int .i64 a2_1]] w fun e w' => e = .returned (.agg #[.int .i64 r1, .int .i64 r2, .int .i64 r3, .int .i64 r4]) ∧ Below w.heap.size w w' := by
 have hu40 := Tryd.underlying40
 have hu63 := Tryd.underlying63
 have HB := Aside0.mk (Below.refl w.heap.size w)
 have H : (some (a0, a1, a2_0, a2_1)) = some (r1, r2, r3, r4) := h
 clear h
 simp only [Option.some.injEq, Prod.mk.injEq] at H
 obtain ⟨rfl, rfl, rfl, rfl⟩ := H
 go_enter Tryd.func89, Tryd.ntmps89
 go_wp2_with (first | ((with_reducible refine gate_dst (N := 5) rfl ?_); refine bx 5 #[.int .i64 a2_0, .int .i64 a2_1] 40 ?_; intro gb714 hg w4 hbox hb; have n0_ := Aside0.mk (below_step (bw HB) hb); have n1_ := Aside0.mk (hbox); have n2_ := Aside0.mk (bz (bw HB) hg); have n3_ := Aside0.mk (bz (bw HB) hg); clear HB; have HB := n0_; have BK714 := n1_; have GW714 := n2_; have GE714 := n3_; clear n0_ n1_ n2_ n3_; clear hb hbox hg) | ((with_reducible refine gate_dst (N := 6) rfl ?_); refine bx 6 #[.int .i64 0, .int .i64 0, .int .i64 0, .int .i64 0] 63 ?_; intro gb715 hg w5 hbox hb; have n0_ := Aside0.mk (blk_below (bm BK714) hb); have n1_ := Aside0.mk (below_step (bw1 HB GE714) hb); have n2_ := Aside0.mk (hbox); have n3_ := Aside0.mk (bz (bw1 HB GE714) hg); have n4_ := Aside0.mk (bz (bw1 HB GE714) hg); have n5_ := Aside0.mk (bl (bm BK714) hg); have n6_ := Aside0.mk (bg (bm BK714) hg); clear BK714; clear HB; have BK714 := n0_; have HB := n1_; have BK715 := n2_; have GW715 := n3_; have GE715 := n4_; have NB714_715 := n5_; have NB715_714 := n6_; clear n0_ n1_ n2_ n3_ n4_ n5_ n6_; clear hb hbox hg; have hnb6 := NB714_715.out; have hnc6 := NB715_714.out; obtain ⟨hcz7_0, hcz7_1, hfz7_0, hfz7_1⟩ := b2 BK714; obtain ⟨hcz8_0, hcz8_1, hcz8_2, hcz8_3, hfz8_0, hfz8_1, hfz8_2, hfz8_3⟩ := b4 BK715))
 refine bodyPost_ret (results_cell_row rfl _ _ gb715 63 #[.int .i64 a0, .int .i64 a1, .int .i64 a2_0, .int .i64 a2_1] (0, 0) _ rfl (by (with_reducible repeat (first | refine blk_drewN ?_ _ | refine blk_drew ?_ | refine blk_alloc ?_ _)); refine blk_put (cs := #[.int .i64 a0, .int .i64 a1, .int .i64 a2_0, .int .i64 0]) ?_ 3 _ rfl; (with_reducible repeat (first | refine blk_drewN ?_ _ | refine blk_drew ?_ | refine blk_alloc ?_ _)); refine blk_put (cs := #[.int .i64 a0, .int .i64 a1, .int .i64 0, .int .i64 0]) ?_ 2 _ rfl; (with_reducible repeat (first | refine blk_drewN ?_ _ | refine blk_drew ?_ | refine blk_alloc ?_ _)); refine blk_put (cs := #[.int .i64 a0, .int .i64 0, .int .i64 0, .int .i64 0]) ?_ 1 _ rfl; (with_reducible repeat (first | refine blk_drewN ?_ _ | refine blk_drew ?_ | refine blk_alloc ?_ _)); refine blk_put (cs := #[.int .i64 0, .int .i64 0, .int .i64 0, .int .i64 0]) ?_ 0 _ rfl; (with_reducible repeat (first | refine blk_drewN ?_ _ | refine blk_drew ?_ | refine blk_alloc ?_ _)); exact BK715.out) Tryd.underlying63 rfl (by kernel_rfl)) rfl ?_
 exact ⟨by first | rfl | (simp [errW_none, errW_some] <;> rfl) | (simp [*, errW_none, errW_some] <;> rfl), bw2 HB GE714 GE715⟩
def macadamlaw04_book.f (a0 : Int) (a1 : Int) : Option ((List (S66)) × (List (S63)) × Int) := (macadamref00_Reach.f 2 3).bind fun bt717 => ((macadamlaw04_mile.f bt717.1 bt717.2 0).bind fun bt719 => ((macadamref00_Reach.f 1 2).bind fun bt722 => ((macadamlaw04_mile.f bt722.1 bt722.2 1).bind fun bt724 => ((macadamref00_Just.f 2).bind fun bt727 => ((macadamlaw04_mile.f bt727.1 bt727.2 2).bind fun bt729 => ((macadamref00_Reach.f 1 2).bind fun bt735 => ((macadamlaw04_crew.f 0 1 bt735.1 bt735.2).bind fun bt737 => ((macadamref00_Just.f 2).bind fun bt741 => ((macadamlaw04_crew.f 1 a1 bt741.1 bt741.2).bind fun bt743 => (some ((([(⟨(⟨bt719.1, bt719.2.1⟩ : S40), bt719.2.2⟩ : S66), (⟨(⟨bt724.1, bt724.2.1⟩ : S40), bt724.2.2⟩ : S66), (⟨(⟨bt729.1, bt729.2.1⟩ : S40), bt729.2.2⟩ : S66)] : List (S66))), (([(⟨bt737.1, bt737.2.1, (⟨bt737.2.2.1, bt737.2.2.2⟩ : S40)⟩ : S63), (⟨bt743.1, bt743.2.1, (⟨bt743.2.2.1, bt743.2.2.2⟩ : S40)⟩ : S63)] : List (S63))), a0)))))))))))
set_option maxHeartbeats 8000000 in
set_option maxRecDepth 100000 in
theorem macadamlaw04_book.calls (a0 : Int) (a1 : Int) (r1 : List (S66)) (r2 : List (S63)) (r3 : Int) (w : World) (h : macadamlaw04_book.f a0 a1 = some (r1, r2, r3)) :
  Calls Tryd.prog 57 #[.int .i64 a0, .int .i64 a1] w fun e w' => ∃ v0_ v1_ : Value, e = .returned (.agg #[v0_, v1_, .int .i64 r3]) ∧ Kd.R k66 66 w' w.heap.size (fun _ => True) v0_ r1 ∧ Kd.R k63 63 w' w.heap.size (fun _ => True) v1_ r2 ∧ Below w.heap.size w w' := by
 have hu25 := Tryd.underlying25
 have HB := Aside0.mk (Below.refl w.heap.size w)
 have H : ((macadamref00_Reach.f 2 3).bind fun bt717 => ((macadamlaw04_mile.f bt717.1 bt717.2 0).bind fun bt719 => ((macadamref00_Reach.f 1 2).bind fun bt722 => ((macadamlaw04_mile.f bt722.1 bt722.2 1).bind fun bt724 => ((macadamref00_Just.f 2).bind fun bt727 => ((macadamlaw04_mile.f bt727.1 bt727.2 2).bind fun bt729 => ((macadamref00_Reach.f 1 2).bind fun bt735 => ((macadamlaw04_crew.f 0 1 bt735.1 bt735.2).bind fun bt737 => ((macadamref00_Just.f 2).bind fun bt741 => ((macadamlaw04_crew.f 1 a1 bt741.1 bt741.2).bind fun bt743 => (some ((([(⟨(⟨bt719.1, bt719.2.1⟩ : S40), bt719.2.2⟩ : S66), (⟨(⟨bt724.1, bt724.2.1⟩ : S40), bt724.2.2⟩ : S66), (⟨(⟨bt729.1, bt729.2.1⟩ : S40), bt729.2.2⟩ : S66)] : List (S66))), (([(⟨bt737.1, bt737.2.1, (⟨bt737.2.2.1, bt737.2.2.2⟩ : S40)⟩ : S63), (⟨bt743.1, bt743.2.1, (⟨bt743.2.2.1, bt743.2.2.2⟩ : S40)⟩ : S63)] : List (S63))), a0)))))))))))) = some (r1, r2, r3) := h
 clear h
 replace H := Option.bind_eq_some_iff.mp H
 obtain ⟨⟨t717, t718⟩, A30, H⟩ := H
 replace H : ((macadamlaw04_mile.f t717 t718 0).bind fun bt719 => ((macadamref00_Reach.f 1 2).bind fun bt722 => ((macadamlaw04_mile.f bt722.1 bt722.2 1).bind fun bt724 => ((macadamref00_Just.f 2).bind fun bt727 => ((macadamlaw04_mile.f bt727.1 bt727.2 2).bind fun bt729 => ((macadamref00_Reach.f 1 2).bind fun bt735 => ((macadamlaw04_crew.f 0 1 bt735.1 bt735.2).bind fun bt737 => ((macadamref00_Just.f 2).bind fun bt741 => ((macadamlaw04_crew.f 1 a1 bt741.1 bt741.2).bind fun bt743 => (some ((([(⟨(⟨bt719.1, bt719.2.1⟩ : S40), bt719.2.2⟩ : S66), (⟨(⟨bt724.1, bt724.2.1⟩ : S40), bt724.2.2⟩ : S66), (⟨(⟨bt729.1, bt729.2.1⟩ : S40), bt729.2.2⟩ : S66)] : List (S66))), (([(⟨bt737.1, bt737.2.1, (⟨bt737.2.2.1, bt737.2.2.2⟩ : S40)⟩ : S63), (⟨bt743.1, bt743.2.1, (⟨bt743.2.2.1, bt743.2.2.2⟩ : S40)⟩ : S63)] : List (S63))), a0))))))))))) = some (r1, r2, r3) := H
 have A3 := Aside0.mk A30
 clear A30
 replace H := Option.bind_eq_some_iff.mp H
 obtain ⟨⟨t719, t720, t721⟩, A40, H⟩ := H
 replace H : ((macadamref00_Reach.f 1 2).bind fun bt722 => ((macadamlaw04_mile.f bt722.1 bt722.2 1).bind fun bt724 => ((macadamref00_Just.f 2).bind fun bt727 => ((macadamlaw04_mile.f bt727.1 bt727.2 2).bind fun bt729 => ((macadamref00_Reach.f 1 2).bind fun bt735 => ((macadamlaw04_crew.f 0 1 bt735.1 bt735.2).bind fun bt737 => ((macadamref00_Just.f 2).bind fun bt741 => ((macadamlaw04_crew.f 1 a1 bt741.1 bt741.2).bind fun bt743 => (some ((([(⟨(⟨t719, t720⟩ : S40), t721⟩ : S66), (⟨(⟨bt724.1, bt724.2.1⟩ : S40), bt724.2.2⟩ : S66), (⟨(⟨bt729.1, bt729.2.1⟩ : S40), bt729.2.2⟩ : S66)] : List (S66))), (([(⟨bt737.1, bt737.2.1, (⟨bt737.2.2.1, bt737.2.2.2⟩ : S40)⟩ : S63), (⟨bt743.1, bt743.2.1, (⟨bt743.2.2.1, bt743.2.2.2⟩ : S40)⟩ : S63)] : List (S63))), a0)))))))))) = some (r1, r2, r3) := H
 have A4 := Aside0.mk A40
 clear A40
 replace H := Option.bind_eq_some_iff.mp H
 obtain ⟨⟨t722, t723⟩, A50, H⟩ := H
 replace H : ((macadamlaw04_mile.f t722 t723 1).bind fun bt724 => ((macadamref00_Just.f 2).bind fun bt727 => ((macadamlaw04_mile.f bt727.1 bt727.2 2).bind fun bt729 => ((macadamref00_Reach.f 1 2).bind fun bt735 => ((macadamlaw04_crew.f 0 1 bt735.1 bt735.2).bind fun bt737 => ((macadamref00_Just.f 2).bind fun bt741 => ((macadamlaw04_crew.f 1 a1 bt741.1 bt741.2).bind fun bt743 => (some ((([(⟨(⟨t719, t720⟩ : S40), t721⟩ : S66), (⟨(⟨bt724.1, bt724.2.1⟩ : S40), bt724.2.2⟩ : S66), (⟨(⟨bt729.1, bt729.2.1⟩ : S40), bt729.2.2⟩ : S66)] : List (S66))), (([(⟨bt737.1, bt737.2.1, (⟨bt737.2.2.1, bt737.2.2.2⟩ : S40)⟩ : S63), (⟨bt743.1, bt743.2.1, (⟨bt743.2.2.1, bt743.2.2.2⟩ : S40)⟩ : S63)] : List (S63))), a0))))))))) = some (r1, r2, r3) := H
 have A5 := Aside0.mk A50
 clear A50
 replace H := Option.bind_eq_some_iff.mp H
 obtain ⟨⟨t724, t725, t726⟩, A60, H⟩ := H
 replace H : ((macadamref00_Just.f 2).bind fun bt727 => ((macadamlaw04_mile.f bt727.1 bt727.2 2).bind fun bt729 => ((macadamref00_Reach.f 1 2).bind fun bt735 => ((macadamlaw04_crew.f 0 1 bt735.1 bt735.2).bind fun bt737 => ((macadamref00_Just.f 2).bind fun bt741 => ((macadamlaw04_crew.f 1 a1 bt741.1 bt741.2).bind fun bt743 => (some ((([(⟨(⟨t719, t720⟩ : S40), t721⟩ : S66), (⟨(⟨t724, t725⟩ : S40), t726⟩ : S66), (⟨(⟨bt729.1, bt729.2.1⟩ : S40), bt729.2.2⟩ : S66)] : List (S66))), (([(⟨bt737.1, bt737.2.1, (⟨bt737.2.2.1, bt737.2.2.2⟩ : S40)⟩ : S63), (⟨bt743.1, bt743.2.1, (⟨bt743.2.2.1, bt743.2.2.2⟩ : S40)⟩ : S63)] : List (S63))), a0)))))))) = some (r1, r2, r3) := H
 have A6 := Aside0.mk A60
 clear A60
 replace H := Option.bind_eq_some_iff.mp H
 obtain ⟨⟨t727, t728⟩, A70, H⟩ := H
 replace H : ((macadamlaw04_mile.f t727 t728 2).bind fun bt729 => ((macadamref00_Reach.f 1 2).bind fun bt735 => ((macadamlaw04_crew.f 0 1 bt735.1 bt735.2).bind fun bt737 => ((macadamref00_Just.f 2).bind fun bt741 => ((macadamlaw04_crew.f 1 a1 bt741.1 bt741.2).bind fun bt743 => (some ((([(⟨(⟨t719, t720⟩ : S40), t721⟩ : S66), (⟨(⟨t724, t725⟩ : S40), t726⟩ : S66), (⟨(⟨bt729.1, bt729.2.1⟩ : S40), bt729.2.2⟩ : S66)] : List (S66))), (([(⟨bt737.1, bt737.2.1, (⟨bt737.2.2.1, bt737.2.2.2⟩ : S40)⟩ : S63), (⟨bt743.1, bt743.2.1, (⟨bt743.2.2.1, bt743.2.2.2⟩ : S40)⟩ : S63)] : List (S63))), a0))))))) = some (r1, r2, r3) := H
 have A7 := Aside0.mk A70
 clear A70
 replace H := Option.bind_eq_some_iff.mp H
 obtain ⟨⟨t729, t730, t731⟩, A80, H⟩ := H
 replace H : ((macadamref00_Reach.f 1 2).bind fun bt735 => ((macadamlaw04_crew.f 0 1 bt735.1 bt735.2).bind fun bt737 => ((macadamref00_Just.f 2).bind fun bt741 => ((macadamlaw04_crew.f 1 a1 bt741.1 bt741.2).bind fun bt743 => (some ((([(⟨(⟨t719, t720⟩ : S40), t721⟩ : S66), (⟨(⟨t724, t725⟩ : S40), t726⟩ : S66), (⟨(⟨t729, t730⟩ : S40), t731⟩ : S66)] : List (S66))), (([(⟨bt737.1, bt737.2.1, (⟨bt737.2.2.1, bt737.2.2.2⟩ : S40)⟩ : S63), (⟨bt743.1, bt743.2.1, (⟨bt743.2.2.1, bt743.2.2.2⟩ : S40)⟩ : S63)] : List (S63))), a0)))))) = some (r1, r2, r3) := H
 have A8 := Aside0.mk A80
 clear A80
 obtain ⟨y732, hy732⟩ : ∃ y_ : List (S66), y_ = (([(⟨(⟨t719, t720⟩ : S40), t721⟩ : S66), (⟨(⟨t724, t725⟩ : S40), t726⟩ : S66), (⟨(⟨t729, t730⟩ : S40), t731⟩ : S66)] : List (S66))) := ⟨_, rfl⟩
 replace H : ((macadamref00_Reach.f 1 2).bind fun bt735 => ((macadamlaw04_crew.f 0 1 bt735.1 bt735.2).bind fun bt737 => ((macadamref00_Just.f 2).bind fun bt741 => ((macadamlaw04_crew.f 1 a1 bt741.1 bt741.2).bind fun bt743 => (some (y732, (([(⟨bt737.1, bt737.2.1, (⟨bt737.2.2.1, bt737.2.2.2⟩ : S40)⟩ : S63), (⟨bt743.1, bt743.2.1, (⟨bt743.2.2.1, bt743.2.2.2⟩ : S40)⟩ : S63)] : List (S63))), a0)))))) = some (r1, r2, r3) := by first | (rw [hy732]; with_reducible exact H) | (have H2_ := (Option.bind_some _ _).symm.trans H; rw [hy732]; with_reducible exact H2_) | (have H2_ := (Option.bind_some _ _).symm.trans H; with_reducible exact H2_) | with_reducible exact H | (rw [hy732]; exact H) | exact H
 have Ny732 := Aside0.mk hy732
 clear hy732
 replace H := Option.bind_eq_some_iff.mp H
 obtain ⟨⟨t735, t736⟩, A90, H⟩ := H
 replace H : ((macadamlaw04_crew.f 0 1 t735 t736).bind fun bt737 => ((macadamref00_Just.f 2).bind fun bt741 => ((macadamlaw04_crew.f 1 a1 bt741.1 bt741.2).bind fun bt743 => (some (y732, (([(⟨bt737.1, bt737.2.1, (⟨bt737.2.2.1, bt737.2.2.2⟩ : S40)⟩ : S63), (⟨bt743.1, bt743.2.1, (⟨bt743.2.2.1, bt743.2.2.2⟩ : S40)⟩ : S63)] : List (S63))), a0))))) = some (r1, r2, r3) := H
 have A9 := Aside0.mk A90
 clear A90
 replace H := Option.bind_eq_some_iff.mp H
 obtain ⟨⟨t737, t738, t739, t740⟩, A100, H⟩ := H
 replace H : ((macadamref00_Just.f 2).bind fun bt741 => ((macadamlaw04_crew.f 1 a1 bt741.1 bt741.2).bind fun bt743 => (some (y732, (([(⟨t737, t738, (⟨t739, t740⟩ : S40)⟩ : S63), (⟨bt743.1, bt743.2.1, (⟨bt743.2.2.1, bt743.2.2.2⟩ : S40)⟩ : S63)] : List (S63))), a0)))) = some (r1, r2, r3) := H
 have A10 := Aside0.mk A100
 clear A100
 replace H := Option.bind_eq_some_iff.mp H
 obtain ⟨⟨t741, t742⟩, A110, H⟩ := H
 replace H : ((macadamlaw04_crew.f 1 a1 t741 t742).bind fun bt743 => (some (y732, (([(⟨t737, t738, (⟨t739, t740⟩ : S40)⟩ : S63), (⟨bt743.1, bt743.2.1, (⟨bt743.2.2.1, bt743.2.2.2⟩ : S40)⟩ : S63)] : List (S63))), a0))) = some (r1, r2, r3) := H
 have A11 := Aside0.mk A110
 clear A110
 replace H := Option.bind_eq_some_iff.mp H
 obtain ⟨⟨t743, t744, t745, t746⟩, A120, H⟩ := H
 replace H : (some (y732, (([(⟨t737, t738, (⟨t739, t740⟩ : S40)⟩ : S63), (⟨t743, t744, (⟨t745, t746⟩ : S40)⟩ : S63)] : List (S63))), a0)) = some (r1, r2, r3) := H
 have A12 := Aside0.mk A120
 clear A120
 obtain ⟨y747, hy747⟩ : ∃ y_ : List (S63), y_ = (([(⟨t737, t738, (⟨t739, t740⟩ : S40)⟩ : S63), (⟨t743, t744, (⟨t745, t746⟩ : S40)⟩ : S63)] : List (S63))) := ⟨_, rfl⟩
 replace H : (some (y732, y747, a0)) = some (r1, r2, r3) := by first | (rw [hy747]; with_reducible exact H) | (have H2_ := (Option.bind_some _ _).symm.trans H; rw [hy747]; with_reducible exact H2_) | (have H2_ := (Option.bind_some _ _).symm.trans H; with_reducible exact H2_) | with_reducible exact H | (rw [hy747]; exact H) | exact H
 have Ny747 := Aside0.mk hy747
 clear hy747
 simp only [Option.some.injEq, Prod.mk.injEq] at H
 obtain ⟨rfl, rfl, rfl⟩ := H
 go_enter Tryd.func57, Tryd.ntmps57
 go_wp2_with (first | ((with_reducible refine gate_dst (N := 4) rfl ?_); refine bx 4 #[.slice none 0 0, .slice none 0 0, .int .i64 0] 25 ?_; intro gb716 hg w13 hbox hb; have n0_ := Aside0.mk (below_step (bw HB) hb); have n1_ := Aside0.mk (hbox); have n2_ := Aside0.mk (bz (bw HB) hg); have n3_ := Aside0.mk (bz (bw HB) hg); clear HB; have HB := n0_; have BK716 := n1_; have GW716 := n2_; have GE716 := n3_; clear n0_ n1_ n2_ n3_; clear hb hbox hg) | ((with_reducible refine gate_callee (f := 50) rfl ?_); refine gL (some 5) Tryd.func50 #[.int .i64 2, .int .i64 3] ?_; (with_reducible refine (macadamref00_Reach.calls 2 3 t717 t718 _ A3.out).mono ?_); rintro e w14 ⟨rfl, hb⟩; refine ⟨_, rfl, ?_⟩; have n0_ := Aside0.mk (blk_below (bm BK716) hb); have n1_ := Aside0.mk (below_step (bw1 HB GE716) hb); clear BK716; clear HB; have BK716 := n0_; have HB := n1_; clear n0_ n1_; (try clear hb); (try clear hb2); (try clear hk); (try clear hi)) | ((with_reducible refine gate_callee (f := 88) rfl ?_); refine gL (some 6) Tryd.func88 #[.agg #[.int .i64 t717, .int .i64 t718], .int .i64 0] ?_; (with_reducible refine (macadamlaw04_mile.calls t717 t718 0 t719 t720 t721 _ A4.out).mono ?_); rintro e w15 ⟨rfl, hb⟩; refine ⟨_, rfl, ?_⟩; have n0_ := Aside0.mk (blk_below (bm BK716) hb); have n1_ := Aside0.mk (below_step (bw1 HB GE716) hb); clear BK716; clear HB; have BK716 := n0_; have HB := n1_; clear n0_ n1_; (try clear hb); (try clear hb2); (try clear hk); (try clear hi)) | ((with_reducible refine gate_callee (f := 50) rfl ?_); refine gL (some 7) Tryd.func50 #[.int .i64 1, .int .i64 2] ?_; (with_reducible refine (macadamref00_Reach.calls 1 2 t722 t723 _ A5.out).mono ?_); rintro e w16 ⟨rfl, hb⟩; refine ⟨_, rfl, ?_⟩; have n0_ := Aside0.mk (blk_below (bm BK716) hb); have n1_ := Aside0.mk (below_step (bw1 HB GE716) hb); clear BK716; clear HB; have BK716 := n0_; have HB := n1_; clear n0_ n1_; (try clear hb); (try clear hb2); (try clear hk); (try clear hi)) | ((with_reducible refine gate_callee (f := 88) rfl ?_); refine gL (some 8) Tryd.func88 #[.agg #[.int .i64 t722, .int .i64 t723], .int .i64 1] ?_; (with_reducible refine (macadamlaw04_mile.calls t722 t723 1 t724 t725 t726 _ A6.out).mono ?_); rintro e w17 ⟨rfl, hb⟩; refine ⟨_, rfl, ?_⟩; have n0_ := Aside0.mk (blk_below (bm BK716) hb); have n1_ := Aside0.mk (below_step (bw1 HB GE716) hb); clear BK716; clear HB; have BK716 := n0_; have HB := n1_; clear n0_ n1_; (try clear hb); (try clear hb2); (try clear hk); (try clear hi)) | ((with_reducible refine gate_callee (f := 58) rfl ?_); refine gL (some 9) Tryd.func58 #[.int .i64 2] ?_; (with_reducible refine (macadamref00_Just.calls 2 t727 t728 _ A7.out).mono ?_); rintro e w18 ⟨rfl, hb⟩; refine ⟨_, rfl, ?_⟩; have n0_ := Aside0.mk (blk_below (bm BK716) hb); have n1_ := Aside0.mk (below_step (bw1 HB GE716) hb); clear BK716; clear HB; have BK716 := n0_; have HB := n1_; clear n0_ n1_; (try clear hb); (try clear hb2); (try clear hk); (try clear hi)) | ((with_reducible refine gate_callee (f := 88) rfl ?_); refine gL (some 10) Tryd.func88 #[.agg #[.int .i64 t727, .int .i64 t728], .int .i64 2] ?_; (with_reducible refine (macadamlaw04_mile.calls t727 t728 2 t729 t730 t731 _ A8.out).mono ?_); rintro e w19 ⟨rfl, hb⟩; refine ⟨_, rfl, ?_⟩; have n0_ := Aside0.mk (blk_below (bm BK716) hb); have n1_ := Aside0.mk (below_step (bw1 HB GE716) hb); clear BK716; clear HB; have BK716 := n0_; have HB := n1_; clear n0_ n1_; (try clear hb); (try clear hb2); (try clear hk); (try clear hi)) | ((with_reducible refine gate_dst (N := 11) rfl ?_); refine Kd.R_lit k66 _ 66 ?hg (N := 11) ?hd (xs := ([(⟨(⟨t719, t720⟩ : S40), t721⟩ : S66), (⟨(⟨t724, t725⟩ : S40), t726⟩ : S66), (⟨(⟨t729, t730⟩ : S40), t731⟩ : S66)] : List (S66))) (inner := [.int .i64 t719, .int .i64 t720, .int .i64 t721, .int .i64 t724, .int .i64 t725, .int .i64 t726, .int .i64 t729, .int .i64 t730, .int .i64 t731]) (ok := fun _ => True) (okp := fun _ => True) ?hr ?hp (fun _ hk => hk) trivial (Below.refl _ _) (Nat.le_refl _) (by simp) ?_; (case hd => rfl); (case hg => rfl); (case hr => first | (go_simp; done) | (go_simp; rfl)); (case hp => exact (Reps.c3 (show Kd.M k66 _ _ _ (⟨(⟨t719, t720⟩ : S40), t721⟩ : S66) [.int .i64 t719, .int .i64 t720, .int .i64 t721] from (k66_mkM _ _ _ (⟨(⟨t719, t720⟩ : S40), t721⟩ : S66) )) (Reps.c3 (show Kd.M k66 _ _ _ (⟨(⟨t724, t725⟩ : S40), t726⟩ : S66) [.int .i64 t724, .int .i64 t725, .int .i64 t726] from (k66_mkM _ _ _ (⟨(⟨t724, t725⟩ : S40), t726⟩ : S66) )) (Reps.c3 (show Kd.M k66 _ _ _ (⟨(⟨t729, t730⟩ : S40), t731⟩ : S66) [.int .i64 t729, .int .i64 t730, .int .i64 t731] from (k66_mkM _ _ _ (⟨(⟨t729, t730⟩ : S40), t731⟩ : S66) )) (Reps.none _ _))))); intro v733 w20 ho21 hb hg_ hnew_; clear hg_ hnew_; (first | rw [← Ny732.out] at ho21 | (simp only [Int.reduceToNat] at ho21; rw [← Ny732.out] at ho21)); have n0_ := Aside0.mk (Kd.R_lower ho21 (below_size (bw1 HB GE716))); have n1_ := Aside0.mk (blk_below (bm BK716) hb); have n2_ := Aside0.mk (below_step (bw1 HB GE716) hb); clear BK716; clear HB; have HO734 := n0_; have BK716 := n1_; have HB := n2_; clear n0_ n1_ n2_; clear hb ho21) | ((with_reducible refine gate_callee (f := 50) rfl ?_); refine gL (some 12) Tryd.func50 #[.int .i64 1, .int .i64 2] ?_; (with_reducible refine (macadamref00_Reach.calls 1 2 t735 t736 _ A9.out).mono ?_); rintro e w22 ⟨rfl, hb⟩; refine ⟨_, rfl, ?_⟩; have n0_ := Aside0.mk (Kd.R_below (by (with_reducible repeat (first | apply Kd.R_alloc | apply Kd.R_drewN | apply Kd.R_drew)); exact HO734.out) hb); have n1_ := Aside0.mk (blk_below (bm BK716) hb); have n2_ := Aside0.mk (below_step (bw1 HB GE716) hb); clear HO734; clear BK716; clear HB; have HO734 := n0_; have BK716 := n1_; have HB := n2_; clear n0_ n1_ n2_; (try clear hb); (try clear hb2); (try clear hk); (try clear hi)) | ((with_reducible refine gate_callee (f := 89) rfl ?_); refine gL (some 13) Tryd.func89 #[.int .i64 0, .int .i64 1, .agg #[.int .i64 t735, .int .i64 t736]] ?_; (with_reducible refine (macadamlaw04_crew.calls 0 1 t735 t736 t737 t738 t739 t740 _ A10.out).mono ?_); rintro e w23 ⟨rfl, hb⟩; refine ⟨_, rfl, ?_⟩; have n0_ := Aside0.mk (Kd.R_below (by (with_reducible repeat (first | apply Kd.R_alloc | apply Kd.R_drewN | apply Kd.R_drew)); exact HO734.out) hb); have n1_ := Aside0.mk (blk_below (bm BK716) hb); have n2_ := Aside0.mk (below_step (bw1 HB GE716) hb); clear HO734; clear BK716; clear HB; have HO734 := n0_; have BK716 := n1_; have HB := n2_; clear n0_ n1_ n2_; (try clear hb); (try clear hb2); (try clear hk); (try clear hi)) | ((with_reducible refine gate_callee (f := 58) rfl ?_); refine gL (some 15) Tryd.func58 #[.int .i64 2] ?_; (with_reducible refine (macadamref00_Just.calls 2 t741 t742 _ A11.out).mono ?_); rintro e w24 ⟨rfl, hb⟩; refine ⟨_, rfl, ?_⟩; have n0_ := Aside0.mk (Kd.R_below (by (with_reducible repeat (first | apply Kd.R_alloc | apply Kd.R_drewN | apply Kd.R_drew)); exact HO734.out) hb); have n1_ := Aside0.mk (blk_below (bm BK716) hb); have n2_ := Aside0.mk (below_step (bw1 HB GE716) hb); clear HO734; clear BK716; clear HB; have HO734 := n0_; have BK716 := n1_; have HB := n2_; clear n0_ n1_ n2_; (try clear hb); (try clear hb2); (try clear hk); (try clear hi)) | ((with_reducible refine gate_callee (f := 89) rfl ?_); refine gL (some 16) Tryd.func89 #[.int .i64 1, .int .i64 a1, .agg #[.int .i64 t741, .int .i64 t742]] ?_; (with_reducible refine (macadamlaw04_crew.calls 1 a1 t741 t742 t743 t744 t745 t746 _ A12.out).mono ?_); rintro e w25 ⟨rfl, hb⟩; refine ⟨_, rfl, ?_⟩; have n0_ := Aside0.mk (Kd.R_below (by (with_reducible repeat (first | apply Kd.R_alloc | apply Kd.R_drewN | apply Kd.R_drew)); exact HO734.out) hb); have n1_ := Aside0.mk (blk_below (bm BK716) hb); have n2_ := Aside0.mk (below_step (bw1 HB GE716) hb); clear HO734; clear BK716; clear HB; have HO734 := n0_; have BK716 := n1_; have HB := n2_; clear n0_ n1_ n2_; (try clear hb); (try clear hb2); (try clear hk); (try clear hi)) | ((with_reducible refine gate_dst (N := 17) rfl ?_); refine Kd.R_lit k63 _ 63 ?hg (N := 17) ?hd (xs := ([(⟨t737, t738, (⟨t739, t740⟩ : S40)⟩ : S63), (⟨t743, t744, (⟨t745, t746⟩ : S40)⟩ : S63)] : List (S63))) (inner := [.int .i64 t737, .int .i64 t738, .int .i64 t739, .int .i64 t740, .int .i64 t743, .int .i64 t744, .int .i64 t745, .int .i64 t746]) (ok := fun _ => True) (okp := fun _ => True) ?hr ?hp (fun _ hk => hk) trivial (Below.refl _ _) (Nat.le_refl _) (by simp) ?_; (case hd => rfl); (case hg => rfl); (case hr => first | (go_simp; done) | (go_simp; rfl)); (case hp => exact (Reps.c4 (show Kd.M k63 _ _ _ (⟨t737, t738, (⟨t739, t740⟩ : S40)⟩ : S63) [.int .i64 t737, .int .i64 t738, .int .i64 t739, .int .i64 t740] from (k63_mkM _ _ _ (⟨t737, t738, (⟨t739, t740⟩ : S40)⟩ : S63) )) (Reps.c4 (show Kd.M k63 _ _ _ (⟨t743, t744, (⟨t745, t746⟩ : S40)⟩ : S63) [.int .i64 t743, .int .i64 t744, .int .i64 t745, .int .i64 t746] from (k63_mkM _ _ _ (⟨t743, t744, (⟨t745, t746⟩ : S40)⟩ : S63) )) (Reps.none _ _)))); intro v748 w26 ho27 hb hg_ hnew_; clear hg_ hnew_; (first | rw [← Ny747.out] at ho27 | (simp only [Int.reduceToNat] at ho27; rw [← Ny747.out] at ho27)); have n0_ := Aside0.mk (Kd.R_below (by (with_reducible repeat (first | apply Kd.R_alloc | apply Kd.R_drewN | apply Kd.R_drew)); exact HO734.out) hb); have n1_ := Aside0.mk (Kd.R_lower ho27 (below_size (bw1 HB GE716))); have n2_ := Aside0.mk (blk_below (bm BK716) hb); have n3_ := Aside0.mk (below_step (bw1 HB GE716) hb); clear HO734; clear BK716; clear HB; have HO734 := n0_; have HO749 := n1_; have BK716 := n2_; have HB := n3_; clear n0_ n1_ n2_ n3_; clear hb ho27; obtain ⟨Ao28, co28, eo28⟩ := Kd.R_slice HO749.out; subst eo28; obtain ⟨Ao29, co29, eo29⟩ := Kd.R_slice HO734.out; subst eo29; obtain ⟨hcz30_0, hcz30_1, hcz30_2, hfz30_0, hfz30_1, hfz30_2⟩ := b3 BK716))
 refine bodyPost_ret (results_cell_row rfl _ _ gb716 25 #[.slice Ao29 y732.length co29, .slice Ao28 y747.length co28, .int .i64 a0] (0, 0) _ rfl (by (with_reducible repeat (first | refine blk_drewN ?_ _ | refine blk_drew ?_ | refine blk_alloc ?_ _)); refine blk_put (cs := #[.slice Ao29 y732.length co29, .slice Ao28 y747.length co28, .int .i64 0]) ?_ 2 _ rfl; (with_reducible repeat (first | refine blk_drewN ?_ _ | refine blk_drew ?_ | refine blk_alloc ?_ _)); refine blk_put (cs := #[.slice Ao29 y732.length co29, .slice none 0 0, .int .i64 0]) ?_ 1 _ rfl; (with_reducible repeat (first | refine blk_drewN ?_ _ | refine blk_drew ?_ | refine blk_alloc ?_ _)); refine blk_put (cs := #[.slice none 0 0, .slice none 0 0, .int .i64 0]) ?_ 0 _ rfl; (with_reducible repeat (first | refine blk_drewN ?_ _ | refine blk_drew ?_ | refine blk_alloc ?_ _)); exact BK716.out) Tryd.underlying25 rfl (by kernel_rfl)) rfl ?_
 exact ⟨_, _, by first | rfl | (simp [errW_none, errW_some] <;> rfl) | (simp [*, errW_none, errW_some] <;> rfl), by (with_reducible repeat (first | apply Kd.R_alloc | apply Kd.R_drewN | apply Kd.R_drew)); exact Kd.R_mono (Kd.R_far (p := ⟨gb716, 2, none⟩) (Kd.R_far (p := ⟨gb716, 1, none⟩) (Kd.R_far (p := ⟨gb716, 0, none⟩) (Kd.R_types HO734.out BK716.out (by decide)) (fun _ hk => hk.2) (.slice Ao29 y732.length co29)) (fun _ hk => hk.2) (.slice Ao28 y747.length co28)) (fun _ hk => hk.2) (.int .i64 a0)) (fun _ hk => trivial), by (with_reducible repeat (first | apply Kd.R_alloc | apply Kd.R_drewN | apply Kd.R_drew)); exact Kd.R_mono (Kd.R_far (p := ⟨gb716, 2, none⟩) (Kd.R_far (p := ⟨gb716, 1, none⟩) (Kd.R_far (p := ⟨gb716, 0, none⟩) (Kd.R_types HO749.out BK716.out (by decide)) (fun _ hk => hk.2) (.slice Ao29 y732.length co29)) (fun _ hk => hk.2) (.slice Ao28 y747.length co28)) (fun _ hk => hk.2) (.int .i64 a0)) (fun _ hk => trivial), bw1 HB GE716⟩
def macadamlaw04_own.f  : Option ((List (S66)) × (List (S63)) × Int) := (macadamlaw04_book.f 4 2).bind fun bt751 => (some (bt751.1, bt751.2.1, bt751.2.2))
set_option maxHeartbeats 8000000 in
set_option maxRecDepth 100000 in
theorem macadamlaw04_own.calls  (r1 : List (S66)) (r2 : List (S63)) (r3 : Int) (w : World) (h : macadamlaw04_own.f  = some (r1, r2, r3)) :
  Calls Tryd.prog 56 #[] w fun e w' => ∃ v0_ v1_ : Value, e = .returned (.agg #[v0_, v1_, .int .i64 r3]) ∧ Kd.R k66 66 w' w.heap.size (fun _ => True) v0_ r1 ∧ Kd.R k63 63 w' w.heap.size (fun _ => True) v1_ r2 ∧ Below w.heap.size w w' := by
 have hu25 := Tryd.underlying25
 have HB := Aside0.mk (Below.refl w.heap.size w)
 have H : ((macadamlaw04_book.f 4 2).bind fun bt751 => (some (bt751.1, bt751.2.1, bt751.2.2))) = some (r1, r2, r3) := h
 clear h
 replace H := Option.bind_eq_some_iff.mp H
 obtain ⟨⟨t751, t754, t757⟩, A10, H⟩ := H
 replace H : (some (t751, t754, t757)) = some (r1, r2, r3) := H
 have A1 := Aside0.mk A10
 clear A10
 simp only [Option.some.injEq, Prod.mk.injEq] at H
 obtain ⟨rfl, rfl, rfl⟩ := H
 go_enter Tryd.func56, Tryd.ntmps56
 go_wp2_with (first | ((with_reducible refine gate_dst (N := 0) rfl ?_); refine bx 0 #[.slice none 0 0, .slice none 0 0, .int .i64 0] 25 ?_; intro gb750 hg w2 hbox hb; have n0_ := Aside0.mk (below_step (bw HB) hb); have n1_ := Aside0.mk (hbox); have n2_ := Aside0.mk (bz (bw HB) hg); have n3_ := Aside0.mk (bz (bw HB) hg); clear HB; have HB := n0_; have BK750 := n1_; have GW750 := n2_; have GE750 := n3_; clear n0_ n1_ n2_ n3_; clear hb hbox hg) | ((with_reducible refine gate_callee (f := 57) rfl ?_); refine gL (some 1) Tryd.func57 #[.int .i64 4, .int .i64 2] ?_; (with_reducible refine (macadamlaw04_book.calls 4 2 t751 t754 t757 _ A1.out).mono ?_); rintro e w3 ⟨v752, v755, rfl, ho0, ho1, hb⟩; refine ⟨_, rfl, ?_⟩; have n0_ := Aside0.mk (Kd.R_lower ho0 (below_size (bw1 HB GE750))); have n1_ := Aside0.mk (Kd.R_lower ho1 (below_size (bw1 HB GE750))); have n2_ := Aside0.mk (blk_below (bm BK750) hb); have n3_ := Aside0.mk (below_step (bw1 HB GE750) hb); clear BK750; clear HB; have HO753 := n0_; have HO756 := n1_; have BK750 := n2_; have HB := n3_; clear n0_ n1_ n2_ n3_; (try clear hb); (try clear hb2); (try clear hk); (try clear hi); (try clear ho0); (try clear ho1); obtain ⟨Ao4, co4, eo4⟩ := Kd.R_slice HO753.out; subst eo4; obtain ⟨hcz5_0, hcz5_1, hcz5_2, hfz5_0, hfz5_1, hfz5_2⟩ := b3 BK750; obtain ⟨Ao6, co6, eo6⟩ := Kd.R_slice HO756.out; subst eo6))
 refine bodyPost_ret (results_cell_row rfl _ _ gb750 25 #[.slice Ao4 t751.length co4, .slice Ao6 t754.length co6, .int .i64 t757] (0, 0) _ rfl (by (with_reducible repeat (first | refine blk_drewN ?_ _ | refine blk_drew ?_ | refine blk_alloc ?_ _)); refine blk_put (cs := #[.slice Ao4 t751.length co4, .slice Ao6 t754.length co6, .int .i64 0]) ?_ 2 _ rfl; (with_reducible repeat (first | refine blk_drewN ?_ _ | refine blk_drew ?_ | refine blk_alloc ?_ _)); refine blk_put (cs := #[.slice Ao4 t751.length co4, .slice none 0 0, .int .i64 0]) ?_ 1 _ rfl; (with_reducible repeat (first | refine blk_drewN ?_ _ | refine blk_drew ?_ | refine blk_alloc ?_ _)); refine blk_put (cs := #[.slice none 0 0, .slice none 0 0, .int .i64 0]) ?_ 0 _ rfl; (with_reducible repeat (first | refine blk_drewN ?_ _ | refine blk_drew ?_ | refine blk_alloc ?_ _)); exact BK750.out) Tryd.underlying25 rfl (by kernel_rfl)) rfl ?_
 exact ⟨_, _, by first | rfl | (simp [errW_none, errW_some] <;> rfl) | (simp [*, errW_none, errW_some] <;> rfl), by (with_reducible repeat (first | apply Kd.R_alloc | apply Kd.R_drewN | apply Kd.R_drew)); exact Kd.R_mono (Kd.R_far (p := ⟨gb750, 2, none⟩) (Kd.R_far (p := ⟨gb750, 1, none⟩) (Kd.R_far (p := ⟨gb750, 0, none⟩) (Kd.R_types HO753.out BK750.out (by decide)) (fun _ hk => hk.2) (.slice Ao4 t751.length co4)) (fun _ hk => hk.2) (.slice Ao6 t754.length co6)) (fun _ hk => hk.2) (.int .i64 t757)) (fun _ hk => trivial), by (with_reducible repeat (first | apply Kd.R_alloc | apply Kd.R_drewN | apply Kd.R_drew)); exact Kd.R_mono (Kd.R_far (p := ⟨gb750, 2, none⟩) (Kd.R_far (p := ⟨gb750, 1, none⟩) (Kd.R_far (p := ⟨gb750, 0, none⟩) (Kd.R_types HO756.out BK750.out (by decide)) (fun _ hk => hk.2) (.slice Ao4 t751.length co4)) (fun _ hk => hk.2) (.slice Ao6 t754.length co6)) (fun _ hk => hk.2) (.int .i64 t757)) (fun _ hk => trivial), bw1 HB GE750⟩
def macadamlaw04_short.f  : Option ((List (S66)) × (List (S63)) × Int) := (macadamlaw04_book.f 3 2).bind fun bt759 => (some (bt759.1, bt759.2.1, bt759.2.2))
set_option maxHeartbeats 8000000 in
set_option maxRecDepth 100000 in
theorem macadamlaw04_short.calls  (r1 : List (S66)) (r2 : List (S63)) (r3 : Int) (w : World) (h : macadamlaw04_short.f  = some (r1, r2, r3)) :
  Calls Tryd.prog 59 #[] w fun e w' => ∃ v0_ v1_ : Value, e = .returned (.agg #[v0_, v1_, .int .i64 r3]) ∧ Kd.R k66 66 w' w.heap.size (fun _ => True) v0_ r1 ∧ Kd.R k63 63 w' w.heap.size (fun _ => True) v1_ r2 ∧ Below w.heap.size w w' := by
 have hu25 := Tryd.underlying25
 have HB := Aside0.mk (Below.refl w.heap.size w)
 have H : ((macadamlaw04_book.f 3 2).bind fun bt759 => (some (bt759.1, bt759.2.1, bt759.2.2))) = some (r1, r2, r3) := h
 clear h
 replace H := Option.bind_eq_some_iff.mp H
 obtain ⟨⟨t759, t762, t765⟩, A10, H⟩ := H
 replace H : (some (t759, t762, t765)) = some (r1, r2, r3) := H
 have A1 := Aside0.mk A10
 clear A10
 simp only [Option.some.injEq, Prod.mk.injEq] at H
 obtain ⟨rfl, rfl, rfl⟩ := H
 go_enter Tryd.func59, Tryd.ntmps59
 go_wp2_with (first | ((with_reducible refine gate_dst (N := 0) rfl ?_); refine bx 0 #[.slice none 0 0, .slice none 0 0, .int .i64 0] 25 ?_; intro gb758 hg w2 hbox hb; have n0_ := Aside0.mk (below_step (bw HB) hb); have n1_ := Aside0.mk (hbox); have n2_ := Aside0.mk (bz (bw HB) hg); have n3_ := Aside0.mk (bz (bw HB) hg); clear HB; have HB := n0_; have BK758 := n1_; have GW758 := n2_; have GE758 := n3_; clear n0_ n1_ n2_ n3_; clear hb hbox hg) | ((with_reducible refine gate_callee (f := 57) rfl ?_); refine gL (some 1) Tryd.func57 #[.int .i64 3, .int .i64 2] ?_; (with_reducible refine (macadamlaw04_book.calls 3 2 t759 t762 t765 _ A1.out).mono ?_); rintro e w3 ⟨v760, v763, rfl, ho0, ho1, hb⟩; refine ⟨_, rfl, ?_⟩; have n0_ := Aside0.mk (Kd.R_lower ho0 (below_size (bw1 HB GE758))); have n1_ := Aside0.mk (Kd.R_lower ho1 (below_size (bw1 HB GE758))); have n2_ := Aside0.mk (blk_below (bm BK758) hb); have n3_ := Aside0.mk (below_step (bw1 HB GE758) hb); clear BK758; clear HB; have HO761 := n0_; have HO764 := n1_; have BK758 := n2_; have HB := n3_; clear n0_ n1_ n2_ n3_; (try clear hb); (try clear hb2); (try clear hk); (try clear hi); (try clear ho0); (try clear ho1); obtain ⟨Ao4, co4, eo4⟩ := Kd.R_slice HO761.out; subst eo4; obtain ⟨hcz5_0, hcz5_1, hcz5_2, hfz5_0, hfz5_1, hfz5_2⟩ := b3 BK758; obtain ⟨Ao6, co6, eo6⟩ := Kd.R_slice HO764.out; subst eo6))
 refine bodyPost_ret (results_cell_row rfl _ _ gb758 25 #[.slice Ao4 t759.length co4, .slice Ao6 t762.length co6, .int .i64 t765] (0, 0) _ rfl (by (with_reducible repeat (first | refine blk_drewN ?_ _ | refine blk_drew ?_ | refine blk_alloc ?_ _)); refine blk_put (cs := #[.slice Ao4 t759.length co4, .slice Ao6 t762.length co6, .int .i64 0]) ?_ 2 _ rfl; (with_reducible repeat (first | refine blk_drewN ?_ _ | refine blk_drew ?_ | refine blk_alloc ?_ _)); refine blk_put (cs := #[.slice Ao4 t759.length co4, .slice none 0 0, .int .i64 0]) ?_ 1 _ rfl; (with_reducible repeat (first | refine blk_drewN ?_ _ | refine blk_drew ?_ | refine blk_alloc ?_ _)); refine blk_put (cs := #[.slice none 0 0, .slice none 0 0, .int .i64 0]) ?_ 0 _ rfl; (with_reducible repeat (first | refine blk_drewN ?_ _ | refine blk_drew ?_ | refine blk_alloc ?_ _)); exact BK758.out) Tryd.underlying25 rfl (by kernel_rfl)) rfl ?_
 exact ⟨_, _, by first | rfl | (simp [errW_none, errW_some] <;> rfl) | (simp [*, errW_none, errW_some] <;> rfl), by (with_reducible repeat (first | apply Kd.R_alloc | apply Kd.R_drewN | apply Kd.R_drew)); exact Kd.R_mono (Kd.R_far (p := ⟨gb758, 2, none⟩) (Kd.R_far (p := ⟨gb758, 1, none⟩) (Kd.R_far (p := ⟨gb758, 0, none⟩) (Kd.R_types HO761.out BK758.out (by decide)) (fun _ hk => hk.2) (.slice Ao4 t759.length co4)) (fun _ hk => hk.2) (.slice Ao6 t762.length co6)) (fun _ hk => hk.2) (.int .i64 t765)) (fun _ hk => trivial), by (with_reducible repeat (first | apply Kd.R_alloc | apply Kd.R_drewN | apply Kd.R_drew)); exact Kd.R_mono (Kd.R_far (p := ⟨gb758, 2, none⟩) (Kd.R_far (p := ⟨gb758, 1, none⟩) (Kd.R_far (p := ⟨gb758, 0, none⟩) (Kd.R_types HO764.out BK758.out (by decide)) (fun _ hk => hk.2) (.slice Ao4 t759.length co4)) (fun _ hk => hk.2) (.slice Ao6 t762.length co6)) (fun _ hk => hk.2) (.int .i64 t765)) (fun _ hk => trivial), bw1 HB GE758⟩
def macadamlaw04_far.f  : Option ((List (S66)) × (List (S63)) × Int) := (macadamlaw04_book.f 4 1).bind fun bt767 => (some (bt767.1, bt767.2.1, bt767.2.2))
set_option maxHeartbeats 8000000 in
set_option maxRecDepth 100000 in
theorem macadamlaw04_far.calls  (r1 : List (S66)) (r2 : List (S63)) (r3 : Int) (w : World) (h : macadamlaw04_far.f  = some (r1, r2, r3)) :
  Calls Tryd.prog 60 #[] w fun e w' => ∃ v0_ v1_ : Value, e = .returned (.agg #[v0_, v1_, .int .i64 r3]) ∧ Kd.R k66 66 w' w.heap.size (fun _ => True) v0_ r1 ∧ Kd.R k63 63 w' w.heap.size (fun _ => True) v1_ r2 ∧ Below w.heap.size w w' := by
 have hu25 := Tryd.underlying25
 have HB := Aside0.mk (Below.refl w.heap.size w)
 have H : ((macadamlaw04_book.f 4 1).bind fun bt767 => (some (bt767.1, bt767.2.1, bt767.2.2))) = some (r1, r2, r3) := h
 clear h
 replace H := Option.bind_eq_some_iff.mp H
 obtain ⟨⟨t767, t770, t773⟩, A10, H⟩ := H
 replace H : (some (t767, t770, t773)) = some (r1, r2, r3) := H
 have A1 := Aside0.mk A10
 clear A10
 simp only [Option.some.injEq, Prod.mk.injEq] at H
 obtain ⟨rfl, rfl, rfl⟩ := H
 go_enter Tryd.func60, Tryd.ntmps60
 go_wp2_with (first | ((with_reducible refine gate_dst (N := 0) rfl ?_); refine bx 0 #[.slice none 0 0, .slice none 0 0, .int .i64 0] 25 ?_; intro gb766 hg w2 hbox hb; have n0_ := Aside0.mk (below_step (bw HB) hb); have n1_ := Aside0.mk (hbox); have n2_ := Aside0.mk (bz (bw HB) hg); have n3_ := Aside0.mk (bz (bw HB) hg); clear HB; have HB := n0_; have BK766 := n1_; have GW766 := n2_; have GE766 := n3_; clear n0_ n1_ n2_ n3_; clear hb hbox hg) | ((with_reducible refine gate_callee (f := 57) rfl ?_); refine gL (some 1) Tryd.func57 #[.int .i64 4, .int .i64 1] ?_; (with_reducible refine (macadamlaw04_book.calls 4 1 t767 t770 t773 _ A1.out).mono ?_); rintro e w3 ⟨v768, v771, rfl, ho0, ho1, hb⟩; refine ⟨_, rfl, ?_⟩; have n0_ := Aside0.mk (Kd.R_lower ho0 (below_size (bw1 HB GE766))); have n1_ := Aside0.mk (Kd.R_lower ho1 (below_size (bw1 HB GE766))); have n2_ := Aside0.mk (blk_below (bm BK766) hb); have n3_ := Aside0.mk (below_step (bw1 HB GE766) hb); clear BK766; clear HB; have HO769 := n0_; have HO772 := n1_; have BK766 := n2_; have HB := n3_; clear n0_ n1_ n2_ n3_; (try clear hb); (try clear hb2); (try clear hk); (try clear hi); (try clear ho0); (try clear ho1); obtain ⟨Ao4, co4, eo4⟩ := Kd.R_slice HO769.out; subst eo4; obtain ⟨hcz5_0, hcz5_1, hcz5_2, hfz5_0, hfz5_1, hfz5_2⟩ := b3 BK766; obtain ⟨Ao6, co6, eo6⟩ := Kd.R_slice HO772.out; subst eo6))
 refine bodyPost_ret (results_cell_row rfl _ _ gb766 25 #[.slice Ao4 t767.length co4, .slice Ao6 t770.length co6, .int .i64 t773] (0, 0) _ rfl (by (with_reducible repeat (first | refine blk_drewN ?_ _ | refine blk_drew ?_ | refine blk_alloc ?_ _)); refine blk_put (cs := #[.slice Ao4 t767.length co4, .slice Ao6 t770.length co6, .int .i64 0]) ?_ 2 _ rfl; (with_reducible repeat (first | refine blk_drewN ?_ _ | refine blk_drew ?_ | refine blk_alloc ?_ _)); refine blk_put (cs := #[.slice Ao4 t767.length co4, .slice none 0 0, .int .i64 0]) ?_ 1 _ rfl; (with_reducible repeat (first | refine blk_drewN ?_ _ | refine blk_drew ?_ | refine blk_alloc ?_ _)); refine blk_put (cs := #[.slice none 0 0, .slice none 0 0, .int .i64 0]) ?_ 0 _ rfl; (with_reducible repeat (first | refine blk_drewN ?_ _ | refine blk_drew ?_ | refine blk_alloc ?_ _)); exact BK766.out) Tryd.underlying25 rfl (by kernel_rfl)) rfl ?_
 exact ⟨_, _, by first | rfl | (simp [errW_none, errW_some] <;> rfl) | (simp [*, errW_none, errW_some] <;> rfl), by (with_reducible repeat (first | apply Kd.R_alloc | apply Kd.R_drewN | apply Kd.R_drew)); exact Kd.R_mono (Kd.R_far (p := ⟨gb766, 2, none⟩) (Kd.R_far (p := ⟨gb766, 1, none⟩) (Kd.R_far (p := ⟨gb766, 0, none⟩) (Kd.R_types HO769.out BK766.out (by decide)) (fun _ hk => hk.2) (.slice Ao4 t767.length co4)) (fun _ hk => hk.2) (.slice Ao6 t770.length co6)) (fun _ hk => hk.2) (.int .i64 t773)) (fun _ hk => trivial), by (with_reducible repeat (first | apply Kd.R_alloc | apply Kd.R_drewN | apply Kd.R_drew)); exact Kd.R_mono (Kd.R_far (p := ⟨gb766, 2, none⟩) (Kd.R_far (p := ⟨gb766, 1, none⟩) (Kd.R_far (p := ⟨gb766, 0, none⟩) (Kd.R_types HO772.out BK766.out (by decide)) (fun _ hk => hk.2) (.slice Ao4 t767.length co4)) (fun _ hk => hk.2) (.slice Ao6 t770.length co6)) (fun _ hk => hk.2) (.int .i64 t773)) (fun _ hk => trivial), bw1 HB GE766⟩
end Go.Proofs.YtikfghnkbgdbgaaDoor.Q
end
section
namespace Go.Proofs.YtikfghnkbgdbgaaDoor.Q
open Go.RowKit Go.Proofs.YtikfghnkbgdbgaaDoorW.PrintWords Go.Proofs.YtikfghnkbgdbgaaDoorW.PrintLast Go.Proofs.YtikfghnkbgdbgaaDoorW.PrintMore
attribute [local go_sem] max2_int min2_int max_two min_two max_three min_three max_four min_four   -- for this text's walks alone
set_option linter.unusedVariables false
set_option linter.unusedSimpArgs false
theorem eqA59 (d : Nat) (w : World) (x0 y0 : Int) (x1 y1 : Int) (x2 y2 : Int) :
  (Op.equalIn (d + 2) 59 (.agg #[.int .i64 x0, .int .i64 x1, .int .i64 x2]) (.agg #[.int .i64 y0, .int .i64 y1, .int .i64 y2])).run Tryd.prog w = .ok (x0 == y0 && (x1 == y1 && (x2 == y2))) w := by
 refine eqA_of Tryd.underlying59 (by kernel_rfl) ?_
 refine eqf_cons (by rfl) (by go_simp; rfl) (by go_simp; rfl) (by go_simp) ?_
 refine eqf_cons (by rfl) (by go_simp; rfl) (by go_simp; rfl) (by go_simp) ?_
 exact eqf_last (by rfl) (by go_simp; rfl) (by go_simp; rfl) (by go_simp)
end Go.Proofs.YtikfghnkbgdbgaaDoor.Q
end
section
namespace Go.Proofs.YtikfghnkbgdbgaaDoor.Q
open Go.RowKit Go.Proofs.YtikfghnkbgdbgaaDoorW.PrintWords Go.Proofs.YtikfghnkbgdbgaaDoorW.PrintLast Go.Proofs.YtikfghnkbgdbgaaDoorW.PrintMore
attribute [local go_sem] max2_int min2_int max_two min_two max_three min_three max_four min_four   -- for this text's walks alone
set_option linter.unusedVariables false
set_option linter.unusedSimpArgs false
attribute [local go_sem high] eqA59
def macadamlaw04_same.l0 : Nat → List (S59) → List (S59) → Int → Option (Bool)
 | 0, _, _, _ => none
 | k + 1, x0, x1, x5 => if x5 < (x0.length : Int) then (if 0 ≤ x5 then (if x5 < (x1.length : Int) then (if (!(((rd_T59 x0 x5).f0) == ((rd_T59 x1 x5).f0)) || (!(((rd_T59 x0 x5).f1) == ((rd_T59 x1 x5).f1)) || (!(((rd_T59 x0 x5).f2) == ((rd_T59 x1 x5).f2))))) = true then (some false) else (macadamlaw04_same.l0 k x0 x1 (wrap64 (x5 + 1)))) else (none)) else (none)) else (some true)
def macadamlaw04_same.f (k : Nat) (l0 : List (S59)) (l1 : List (S59)) : Option (Bool) := if (l0.length : Int) = (l1.length : Int) then (macadamlaw04_same.l0 k l0 l1 0) else (some false)
set_option maxHeartbeats 8000000 in
set_option maxRecDepth 100000 in
theorem macadamlaw04_same.calls (k : Nat) (A0 : Option Addr) (c0 : Nat) (l0 : List (S59)) (A1 : Option Addr) (c1 : Nat) (l1 : List (S59)) (r : Bool) (w : World) (hr0 : Kd.C k59 w A0 l0.length l0) (hc0 : l0.length ≤ c0) (hr1 : Kd.C k59 w A1 l1.length l1) (hc1 : l1.length ≤ c1) (h : macadamlaw04_same.f k l0 l1 = some r) :
  Calls Tryd.prog 33 #[.slice A0 l0.length c0, .slice A1 l1.length c1] w fun e w' => e = .returned (.bool r) ∧ Drawn0 w w' := by
 have hu59 := Tryd.underlying59
 have HR0 := Aside0.mk hr0
 have HC0 := Aside0.mk hc0
 clear hr0 hc0
 have HR1 := Aside0.mk hr1
 have HC1 := Aside0.mk hc1
 clear hr1 hc1
 have H : (if (l0.length : Int) = (l1.length : Int) then (macadamlaw04_same.l0 k l0 l1 0) else (some false)) = some r := h
 clear h
 by_cases c3 : (l0.length : Int) = (l1.length : Int)
 ·rw [if_pos c3] at H
  have c3b0 : ((l0.length : Int) == (l1.length : Int)) = true := beq_iff_eq.mpr c3
  have c3b1 : ((l0.length : Int) != (l1.length : Int)) = false := bne_eq_false_iff_eq.mpr c3
  have c3b2 : (l0.length == l1.length) = true := by first | simpa using c3 | (simp at c3 ⊢; omega)
  clear c3
  have H' := Aside0.mk H
  clear H
  go_enter Tryd.func33, Tryd.ntmps33
  go_wp2
  repeat (go_quiet (fail); try go_wp2)
  go_loopg [5] k (fun kq v5 w' => ∃ (x5_1 : Int), v5 = .int .i64 x5_1 ∧ Aside0 (macadamlaw04_same.l0 kq l0 l1 x5_1 = some r) ∧ Aside0 (kq ≤ k) ∧ Drawn0 w w')
  case atStart => exact ⟨(0), (by first | rfl | (simp; done) | (simp [*]; done)), H', ⟨Nat.le_refl _⟩, by repeat (first | exact Drawn0.refl _ | apply Drawn0.step)⟩
  case round =>
   clear H'
   try clear c1
   try clear p2
   try clear c3
   try clear c3b0
   try clear c3b1
   try clear c3b2
   obtain ⟨x5_1, rfl, HA, HK1, ⟨m1, rfl⟩⟩ := hrel
   cases gk with
   | zero => exact absurd HA.out (by simp [macadamlaw04_same.l0])
   | succ k1 =>
    have H := HA.out
    clear HA
    simp only [macadamlaw04_same.l0] at H
    by_cases c4 : x5_1 < (l0.length : Int)
    ·rw [if_pos c4] at H
     have c4b0 : decide (x5_1 < (l0.length : Int)) = true := decide_eq_true c4
     clear c4
     by_cases c5 : 0 ≤ x5_1
     ·rw [if_pos c5] at H
      have c5b0 : decide (0 ≤ x5_1) = true := decide_eq_true c5
      clear c5
      by_cases c6 : x5_1 < (l1.length : Int)
      ·rw [if_pos c6] at H
       have c6b0 : decide (x5_1 < (l1.length : Int)) = true := decide_eq_true c6
       clear c6
       by_cases c7 : (!(((rd_T59 l0 x5_1).f0) == ((rd_T59 l1 x5_1).f0)) || (!(((rd_T59 l0 x5_1).f1) == ((rd_T59 l1 x5_1).f1)) || (!(((rd_T59 l0 x5_1).f2) == ((rd_T59 l1 x5_1).f2))))) = true
       ·rw [if_pos c7] at H
        have c7b0 : (!(((rd_T59 l0 x5_1).f0) == ((rd_T59 l1 x5_1).f0)) || (!(((rd_T59 l0 x5_1).f1) == ((rd_T59 l1 x5_1).f1)) || (!(((rd_T59 l0 x5_1).f2) == ((rd_T59 l1 x5_1).f2))))) = true := c7
        clear c7
        obtain rfl := Option.some.inj H
        have p318 : 0 ≤ (x5_1 : Int) := of_decide_eq_true (by first | (with_reducible assumption) | assumption)
        have q318 : x5_1 < (l0.length : Int) := of_decide_eq_true (by first | (with_reducible assumption) | assumption)
        obtain ⟨ad318, e318, hx318_0, hx318_1, hx318_2⟩ := at_T59 HR0.out x5_1 p318 q318
        cases e318
        replace p318 := eq_true p318
        replace q318 := eq_true q318
        have p319 : 0 ≤ (x5_1 : Int) := of_decide_eq_true (by first | (with_reducible assumption) | assumption)
        have q319 : x5_1 < (l1.length : Int) := of_decide_eq_true (by first | (with_reducible assumption) | assumption)
        obtain ⟨ad319, e319, hx319_0, hx319_1, hx319_2⟩ := at_T59 HR1.out x5_1 p319 q319
        cases e319
        replace p319 := eq_true p319
        replace q319 := eq_true q319
        go_wp2
        repeat (go_quiet (fail); try go_wp2)
        go_ret
        exact ⟨by first | rfl | (simp; done) | (simp [*]; done), by repeat (first | exact Drawn0.refl _ | apply Drawn0.step)⟩
       ·rw [if_neg c7] at H
        have c7b0 : (!(((rd_T59 l0 x5_1).f0) == ((rd_T59 l1 x5_1).f0)) || (!(((rd_T59 l0 x5_1).f1) == ((rd_T59 l1 x5_1).f1)) || (!(((rd_T59 l0 x5_1).f2) == ((rd_T59 l1 x5_1).f2))))) = false := by simpa using c7
        clear c7
        have H' := Aside0.mk H
        clear H
        have p318 : 0 ≤ (x5_1 : Int) := of_decide_eq_true (by first | (with_reducible assumption) | assumption)
        have q318 : x5_1 < (l0.length : Int) := of_decide_eq_true (by first | (with_reducible assumption) | assumption)
        obtain ⟨ad318, e318, hx318_0, hx318_1, hx318_2⟩ := at_T59 HR0.out x5_1 p318 q318
        cases e318
        replace p318 := eq_true p318
        replace q318 := eq_true q318
        have p319 : 0 ≤ (x5_1 : Int) := of_decide_eq_true (by first | (with_reducible assumption) | assumption)
        have q319 : x5_1 < (l1.length : Int) := of_decide_eq_true (by first | (with_reducible assumption) | assumption)
        obtain ⟨ad319, e319, hx319_0, hx319_1, hx319_2⟩ := at_T59 HR1.out x5_1 p319 q319
        cases e319
        replace p319 := eq_true p319
        replace q319 := eq_true q319
        go_wp2
        repeat (go_quiet (fail); try go_wp2)
        go_roundg k1
        case measure => have := HK1.out; omega
        case rel => exact ⟨(wrap64 (x5_1 + 1)), (by first | rfl | (simp; done) | (simp [*]; done)), H', ⟨by have := HK1.out; omega⟩, by repeat (first | exact Drawn0.refl _ | apply Drawn0.step)⟩
      ·rw [if_neg c6] at H
       exact absurd H (by simp)
     ·rw [if_neg c5] at H
      exact absurd H (by simp)
    ·rw [if_neg c4] at H
     have c4b0 : decide (x5_1 < (l0.length : Int)) = false := decide_eq_false c4
     clear c4
     obtain rfl := Option.some.inj H
     go_wp2
     repeat (go_quiet (fail); try go_wp2)
     go_ret
     exact ⟨by first | rfl | (simp; done) | (simp [*]; done), by repeat (first | exact Drawn0.refl _ | apply Drawn0.step)⟩
 ·rw [if_neg c3] at H
  have c3b0 : ((l0.length : Int) == (l1.length : Int)) = false := beq_eq_false_iff_ne.mpr c3
  have c3b1 : ((l0.length : Int) != (l1.length : Int)) = true := bne_iff_ne.mpr c3
  have c3b2 : (l0.length == l1.length) = false := by first | simpa using c3 | (simp at c3 ⊢; omega)
  obtain rfl := Option.some.inj H
  go_enter Tryd.func33, Tryd.ntmps33
  go_wp2
  repeat (go_quiet (fail); try go_wp2)
  go_ret
  exact ⟨by first | rfl | (simp; done) | (simp [*]; done), by repeat (first | exact Drawn0.refl _ | apply Drawn0.step)⟩
mutual
def macadamref00_Sooner.l0 : Nat → List Int → List Int → Int → Option (Bool)
 | 0, _, _, _ => none
 | k + 1, x0, x1, x5 => if x5 < (x0.length : Int) then (macadamref00_Sooner.j1 k x0 x1 x5 (decide (x5 < (x1.length : Int)))) else (macadamref00_Sooner.j1 k x0 x1 x5 false)
def macadamref00_Sooner.j1 : Nat → List Int → List Int → Int → Bool → Option (Bool)
 | 0, _, _, _, _ => none
 | k + 1, x0, x1, x5, x15 => if x15 = true then (if 0 ≤ x5 then (if x5 < (x0.length : Int) then (if x5 < (x1.length : Int) then (if (rd x0 x5) = (rd x1 x5) then (macadamref00_Sooner.l0 k x0 x1 (wrap64 (x5 + 1))) else (some (decide ((rd x0 x5) < (rd x1 x5))))) else (none)) else (none)) else (none)) else (some (decide ((x0.length : Int) < (x1.length : Int))))
end
def macadamref00_Sooner.f (k : Nat) (l0 : List Int) (l1 : List Int) : Option (Bool) := macadamref00_Sooner.l0 k l0 l1 0
set_option maxHeartbeats 8000000 in
set_option maxRecDepth 100000 in
theorem macadamref00_Sooner.calls (k : Nat) (A0 : Option Addr) (c0 : Nat) (l0 : List Int) (A1 : Option Addr) (c1 : Nat) (l1 : List Int) (r : Bool) (w : World) (hr0 : Kd.C (Kd.int .i64) w A0 l0.length l0) (hc0 : l0.length ≤ c0) (hr1 : Kd.C (Kd.int .i64) w A1 l1.length l1) (hc1 : l1.length ≤ c1) (h : macadamref00_Sooner.f k l0 l1 = some r) :
  Calls Tryd.prog 54 #[.slice A0 l0.length c0, .slice A1 l1.length c1] w fun e w' => e = .returned (.bool r) ∧ Drawn0 w w' := by
 have HR0 := Aside0.mk hr0
 have HC0 := Aside0.mk hc0
 clear hr0 hc0
 have HR1 := Aside0.mk hr1
 have HC1 := Aside0.mk hc1
 clear hr1 hc1
 have H : (macadamref00_Sooner.l0 k l0 l1 0) = some r := h
 clear h
 have H' := Aside0.mk H
 clear H
 go_enter Tryd.func54, Tryd.ntmps54
 go_wp2
 repeat (go_quiet (fail); try go_wp2)
 go_loopg [5] k (fun kq v5 w' => ∃ (x5_1 : Int), v5 = .int .i64 x5_1 ∧ Aside0 (macadamref00_Sooner.l0 kq l0 l1 x5_1 = some r) ∧ Aside0 (kq ≤ k) ∧ Drawn0 w w')
 case atStart => exact ⟨(0), (by first | rfl | (simp; done) | (simp [*]; done)), H', ⟨Nat.le_refl _⟩, by repeat (first | exact Drawn0.refl _ | apply Drawn0.step)⟩
 case round =>
  clear H'
  try clear c1
  try clear p2
  obtain ⟨x5_1, rfl, HA, HK1, ⟨m1, rfl⟩⟩ := hrel
  cases gk with
  | zero => exact absurd HA.out (by simp [macadamref00_Sooner.l0])
  | succ k1 =>
   have H := HA.out
   clear HA
   simp only [macadamref00_Sooner.l0] at H
   have HC3 := Aside0.mk H
   clear H
   go_upto_region 2 with (fail)
   repeat (go_quiet (fail); go_upto_region 2 with (fail))
   go_cut [15] (fun v15 wc => ∃ (kq : Nat) (x15_2 : Bool), v15 = .bool x15_2 ∧ Aside0 (macadamref00_Sooner.j1 kq l0 l1 x5_1 x15_2 = some r) ∧ Aside0 (kq ≤ k1) ∧ Drawn0 w wc)
   case first =>
    have H := HC3.out
    clear HC3
    by_cases c4 : x5_1 < (l0.length : Int)
    ·rw [if_pos c4] at H
     have c4b0 : decide (x5_1 < (l0.length : Int)) = true := decide_eq_true c4
     clear c4
     (first | rw [c4b0] | (simp only [i64_w, i32_w]; rw [c4b0]) | skip)
     have H' := Aside0.mk H
     clear H
     go_wp2
     repeat (go_quiet (fail); try go_wp2)
     go_meet
     case rel => exact ⟨_, (decide (x5_1 < (l1.length : Int))), (by first | rfl | (simp; done) | (simp [*]; done)), H', ⟨by have := HK1.out; first | omega | exact Nat.le_refl _⟩, by repeat (first | exact Drawn0.refl _ | apply Drawn0.step)⟩
    ·rw [if_neg c4] at H
     have c4b0 : decide (x5_1 < (l0.length : Int)) = false := decide_eq_false c4
     clear c4
     (first | rw [c4b0] | (simp only [i64_w, i32_w]; rw [c4b0]) | skip)
     have H' := Aside0.mk H
     clear H
     go_wp2
     repeat (go_quiet (fail); try go_wp2)
     go_meet
     case rel => exact ⟨_, (false), (by first | rfl | (simp; done) | (simp [*]; done)), H', ⟨by have := HK1.out; first | omega | exact Nat.le_refl _⟩, by repeat (first | exact Drawn0.refl _ | apply Drawn0.step)⟩
   case rest =>
    clear HC3
    try clear c1
    try clear p2
    try clear c4
    try clear c4b0
    try clear p2
    obtain ⟨kq, x15_2, rfl, HA, HJ2, ⟨mc2, rfl⟩⟩ := hcut
    cases kq with
    | zero => exact absurd HA.out (by simp [macadamref00_Sooner.j1])
    | succ kj2 =>
     have H := HA.out
     clear HA
     simp only [macadamref00_Sooner.j1] at H
     by_cases c5 : x15_2 = true
     ·subst c5
      have H1 : (if 0 ≤ x5_1 then (if x5_1 < (l0.length : Int) then (if x5_1 < (l1.length : Int) then (if (rd l0 x5_1) = (rd l1 x5_1) then (macadamref00_Sooner.l0 kj2 l0 l1 (wrap64 (x5_1 + 1))) else (some (decide ((rd l0 x5_1) < (rd l1 x5_1))))) else (none)) else (none)) else (none)) = some r := by rw [if_pos rfl] at H; exact H
      clear H
      have H := H1
      clear H1
      by_cases c6 : 0 ≤ x5_1
      ·rw [if_pos c6] at H
       have c6b0 : decide (0 ≤ x5_1) = true := decide_eq_true c6
       clear c6
       by_cases c7 : x5_1 < (l0.length : Int)
       ·rw [if_pos c7] at H
        have c7b0 : decide (x5_1 < (l0.length : Int)) = true := decide_eq_true c7
        clear c7
        by_cases c8 : x5_1 < (l1.length : Int)
        ·rw [if_pos c8] at H
         have c8b0 : decide (x5_1 < (l1.length : Int)) = true := decide_eq_true c8
         clear c8
         by_cases c9 : (rd l0 x5_1) = (rd l1 x5_1)
         ·rw [if_pos c9] at H
          have c9b0 : ((rd l0 x5_1) == (rd l1 x5_1)) = true := beq_iff_eq.mpr c9
          have c9b1 : ((rd l0 x5_1) != (rd l1 x5_1)) = false := bne_eq_false_iff_eq.mpr c9
          clear c9
          have H' := Aside0.mk H
          clear H
          have p320 : 0 ≤ (x5_1 : Int) := of_decide_eq_true (by first | (with_reducible assumption) | assumption)
          have q320 : x5_1 < (l0.length : Int) := of_decide_eq_true (by first | (with_reducible assumption) | assumption)
          obtain ⟨ad320, e320, hx320_0⟩ := Kd.at_int HR0.out x5_1 p320 q320
          cases e320
          replace p320 := eq_true p320
          replace q320 := eq_true q320
          have p321 : 0 ≤ (x5_1 : Int) := of_decide_eq_true (by first | (with_reducible assumption) | assumption)
          have q321 : x5_1 < (l1.length : Int) := of_decide_eq_true (by first | (with_reducible assumption) | assumption)
          obtain ⟨ad321, e321, hx321_0⟩ := Kd.at_int HR1.out x5_1 p321 q321
          cases e321
          replace p321 := eq_true p321
          replace q321 := eq_true q321
          go_wp2
          repeat (go_quiet (fail); try go_wp2)
          go_roundg kj2
          case measure => have := HK1.out; have := HJ2.out; omega
          case rel => exact ⟨(wrap64 (x5_1 + 1)), (by first | rfl | (simp; done) | (simp [*]; done)), H', ⟨by have := HK1.out; have := HJ2.out; omega⟩, by repeat (first | exact Drawn0.refl _ | apply Drawn0.step)⟩
         ·rw [if_neg c9] at H
          have c9b0 : ((rd l0 x5_1) == (rd l1 x5_1)) = false := beq_eq_false_iff_ne.mpr c9
          have c9b1 : ((rd l0 x5_1) != (rd l1 x5_1)) = true := bne_iff_ne.mpr c9
          obtain rfl := Option.some.inj H
          have p320 : 0 ≤ (x5_1 : Int) := of_decide_eq_true (by first | (with_reducible assumption) | assumption)
          have q320 : x5_1 < (l0.length : Int) := of_decide_eq_true (by first | (with_reducible assumption) | assumption)
          obtain ⟨ad320, e320, hx320_0⟩ := Kd.at_int HR0.out x5_1 p320 q320
          cases e320
          replace p320 := eq_true p320
          replace q320 := eq_true q320
          have p321 : 0 ≤ (x5_1 : Int) := of_decide_eq_true (by first | (with_reducible assumption) | assumption)
          have q321 : x5_1 < (l1.length : Int) := of_decide_eq_true (by first | (with_reducible assumption) | assumption)
          obtain ⟨ad321, e321, hx321_0⟩ := Kd.at_int HR1.out x5_1 p321 q321
          cases e321
          replace p321 := eq_true p321
          replace q321 := eq_true q321
          have p322 : 0 ≤ (x5_1 : Int) := of_decide_eq_true (by first | (with_reducible assumption) | assumption)
          have q322 : x5_1 < (l0.length : Int) := of_decide_eq_true (by first | (with_reducible assumption) | assumption)
          obtain ⟨ad322, e322, hx322_0⟩ := Kd.at_int HR0.out x5_1 p322 q322
          obtain rfl : ad320 = ad322 := (by injection e322)
          replace p322 := eq_true p322
          replace q322 := eq_true q322
          have p323 : 0 ≤ (x5_1 : Int) := of_decide_eq_true (by first | (with_reducible assumption) | assumption)
          have q323 : x5_1 < (l1.length : Int) := of_decide_eq_true (by first | (with_reducible assumption) | assumption)
          obtain ⟨ad323, e323, hx323_0⟩ := Kd.at_int HR1.out x5_1 p323 q323
          obtain rfl : ad321 = ad323 := (by injection e323)
          replace p323 := eq_true p323
          replace q323 := eq_true q323
          go_wp2
          repeat (go_quiet (fail); try go_wp2)
          go_ret
          exact ⟨by first | rfl | (simp; done) | (simp [*]; done), by repeat (first | exact Drawn0.refl _ | apply Drawn0.step)⟩
        ·rw [if_neg c8] at H
         exact absurd H (by simp)
       ·rw [if_neg c7] at H
        exact absurd H (by simp)
      ·rw [if_neg c6] at H
       exact absurd H (by simp)
     ·replace c5 := Bool.eq_false_iff.mpr c5
      subst c5
      have H1 : (some (decide ((l0.length : Int) < (l1.length : Int)))) = some r := by rw [if_neg (show ¬ (false = true) by decide)] at H; exact H
      clear H
      have H := H1
      clear H1
      obtain rfl := Option.some.inj H
      go_wp2
      repeat (go_quiet (fail); try go_wp2)
      go_ret
      exact ⟨by first | rfl | (simp; done) | (simp [*]; done), by repeat (first | exact Drawn0.refl _ | apply Drawn0.step)⟩
end Go.Proofs.YtikfghnkbgdbgaaDoor.Q
end
section
namespace Go.Proofs.YtikfghnkbgdbgaaDoor.Q
set_option linter.unusedSimpArgs false
set_option linter.unusedVariables false
open Go.RowKit Go.Proofs.YtikfghnkbgdbgaaDoorW.PrintWords Go.Proofs.YtikfghnkbgdbgaaDoorW.PrintLast Go.Proofs.YtikfghnkbgdbgaaDoorW.PrintMore
def ownM : List M := [⟨⟨2, 3⟩, 0⟩, ⟨⟨1, 2⟩, 1⟩, ⟨⟨2, 2⟩, 2⟩]
def ownG (tt : Int) : List G := [⟨0, 1, ⟨1, 2⟩⟩, ⟨1, tt, ⟨2, 2⟩⟩]
def bothP : List Wk := [⟨0, 0, 0⟩, ⟨0, 1, 2⟩]
def twoP : List Wk := [⟨0, 0, 0⟩, ⟨1, 0, 0⟩]
def planP : List Wk := [⟨0, 0, 0⟩, ⟨0, 1, 2⟩, ⟨1, 0, 0⟩, ⟨2, 0, 0⟩, ⟨3, 1, 1⟩]
def canL : List Int := [0, 2, 3]
def cloL : List Int := [0, 2]
def menL : List Int := [2]
def mosL : List Int := [0, 2]
def nonL : List Wk := []
set_option maxRecDepth 100000
theorem own_eq : macadamlaw04_own.f = some (ownM, ownG 2, 4) := by kernel_rfl
theorem short_eq : macadamlaw04_short.f = some (ownM, ownG 2, 3) := by kernel_rfl
theorem far_eq : macadamlaw04_far.f = some (ownM, ownG 1, 4) := by kernel_rfl
theorem sh_can : gang_Can.f ownM (ownG 2) 4 1 2 = some (canL, 0) := by kernel_rfl
theorem sh_may : gang_May.f ownM (ownG 2) 4 bothP = some (true, 0) := by kernel_rfl
theorem sh_closed : gang_Closed.f ownM (ownG 2) 4 bothP 0 = some (cloL, 0) := by kernel_rfl
theorem sh_done : gang_Done.f ownM (ownG 2) 4 twoP 0 = some (2, 4, 0) := by kernel_rfl
theorem sh_mended : gang_Mended.f ownM (ownG 2) 4 bothP = some (menL, 0) := by kernel_rfl
theorem sh_open : gang_Open.f ownM (ownG 2) 4 bothP = some (0, 0) := by kernel_rfl
theorem sh_plan : gang_Plan.f ownM (ownG 2) 4 = some (planP, 0) := by kernel_rfl
theorem sh_most : gang_Most.f ownM (ownG 2) 3 = some (mosL, 0) := by kernel_rfl
theorem sh_first : gang_First.f ownM (ownG 1) 4 = some (2, 0) := by kernel_rfl
theorem sh_noplan : gang_Plan.f ownM (ownG 2) 3 = some (nonL, 4) := by kernel_rfl
theorem lit2 (a b : Wk) (w : World) (base : Nat) (ok : Nat → Prop) : Reps (Kd.M k59 w base ok) 3 [a, b] [.int .i64 a.f0, .int .i64 a.f1, .int .i64 a.f2, .int .i64 b.f0, .int .i64 b.f1, .int .i64 b.f2] :=
  Reps.c3 (show Kd.M k59 _ _ _ a [.int .i64 a.f0, .int .i64 a.f1, .int .i64 a.f2] from (k59_mkM _ _ _ a)) (Reps.c3 (show Kd.M k59 _ _ _ b [.int .i64 b.f0, .int .i64 b.f1, .int .i64 b.f2] from (k59_mkM _ _ _ b)) (Reps.none _ _))
theorem list_of_step {P : Program} {ops : Array Oper} {o : Oper} {a : Act} {Q : Exit → Act → World → Prop} {rest : List Oper} {W : World} (h : if Region.wanted o (yielded ops a.tmps) = true then Oper.wp P o a W (wpList P ops Q rest) Q else wpList P ops Q rest (a.put o.dst undef) W) : wpList P ops Q (o :: rest) a W := by
  simp only [wpList]
  by_cases hw : Region.wanted o (yielded ops a.tmps) = true
  · rw [if_pos hw] at h ⊢; exact Or.inl h
  · rw [if_neg hw] at h ⊢; exact h
theorem lit5 (a b c d e : Wk) (w : World) (base : Nat) (ok : Nat → Prop) : Reps (Kd.M k59 w base ok) 3 [a, b, c, d, e] [.int .i64 a.f0, .int .i64 a.f1, .int .i64 a.f2, .int .i64 b.f0, .int .i64 b.f1, .int .i64 b.f2, .int .i64 c.f0, .int .i64 c.f1, .int .i64 c.f2, .int .i64 d.f0, .int .i64 d.f1, .int .i64 d.f2, .int .i64 e.f0, .int .i64 e.f1, .int .i64 e.f2] :=
  Reps.c3 (show Kd.M k59 _ _ _ a [.int .i64 a.f0, .int .i64 a.f1, .int .i64 a.f2] from (k59_mkM _ _ _ a)) (Reps.c3 (show Kd.M k59 _ _ _ b [.int .i64 b.f0, .int .i64 b.f1, .int .i64 b.f2] from (k59_mkM _ _ _ b)) (Reps.c3 (show Kd.M k59 _ _ _ c [.int .i64 c.f0, .int .i64 c.f1, .int .i64 c.f2] from (k59_mkM _ _ _ c)) (Reps.c3 (show Kd.M k59 _ _ _ d [.int .i64 d.f0, .int .i64 d.f1, .int .i64 d.f2] from (k59_mkM _ _ _ d)) (Reps.c3 (show Kd.M k59 _ _ _ e [.int .i64 e.f0, .int .i64 e.f1, .int .i64 e.f2] from (k59_mkM _ _ _ e)) (Reps.none _ _)))))
theorem eqSpan (d : Nat) (w : World) (x0 y0 x1 y1 : Int) :
    (Op.equalIn (d + 2) 40 (.agg #[.int .i64 x0, .int .i64 x1]) (.agg #[.int .i64 y0, .int .i64 y1])).run Tryd.prog w = .ok (x0 == y0 && (x1 == y1)) w := by
  refine eqA_of Tryd.underlying40 (by kernel_rfl) ?_
  refine eqf_cons (by rfl) (by go_simp; rfl) (by go_simp; rfl) (by go_simp) ?_
  exact eqf_last (by rfl) (by go_simp; rfl) (by go_simp; rfl) (by go_simp)
theorem equal_span (w : World) : (Op.equalIn 10000 40 (.agg #[.int .i64 2, .int .i64 4]) (.agg #[.int .i64 2, .int .i64 4])).run Tryd.prog w = .ok true w := eqSpan 9998 w 2 2 4 4
def X_shov.T6 : Bool × List (List Nat × List Nat) := (true, [([], []), ([0], [0]), ([1], [1]), ([2], [2]), ([3, 2], [2, 3]), ([2, 4], [2, 4]), ([5, 2], [5]), ([6], [6]), ([7, 6], [6, 7]), ([6, 8], [6, 8]), ([9, 6], [9]), ([10], [10]), ([11, 10], [10, 11]), ([10, 12], [10, 12]), ([13, 10], [13]), ([14], [14]), ([15, 14], [14, 15]), ([14, 16], [14, 16]), ([17, 14], [17]), ([18], [18]), ([18], [18]), ([19, 20, 18, 18], [18, 19, 20]), ([21, 18], [18, 21]), ([18, 22], [18, 22]), ([23, 21], [23]), ([24], [24]), ([25, 24], [24, 25]), ([24, 26], [24, 26]), ([27, 24], [27]), ([28], [28]), ([28], [28]), ([29, 30, 28, 28], [28, 29, 30]), ([31, 28], [28, 31]), ([28, 32], [28, 32]), ([33, 31], [33]), ([34], [34]), ([34, 34], [34]), ([35, 36, 34], [34, 35, 36]), ([34, 37], [34, 37]), ([38, 36], [38]), ([39], [39]), ([39], [39]), ([40, 41, 39, 39], [39, 40, 41]), ([42, 39], [39, 42]), ([39, 43], [39, 43])])
def X_shov.B6 : List Nat := [0, 1, 3, 7, 15, 31, 63, 127, 255, 511, 1023, 2047, 4095, 8191, 16383, 32767, 65535, 131071, 262143, 524287, 524287, 2097151, 4194303, 8388607, 16777215, 33554431, 67108863, 134217727, 268435455, 536870911, 536870911, 2147483647, 4294967295, 8589934591, 17179869183, 34359738367, 34359738367, 137438953471, 274877906943, 549755813887, 1099511627775, 1099511627775, 4398046511103, 8796093022207, 17592186044415]
theorem X_shov.tab6 : rtab .any (opsOf Tryd.f24 6) = X_shov.T6 := by kernel_rfl
theorem X_shov.bits6 : waitsOk X_shov.T6.2 X_shov.B6 = true := by kernel_rfl
theorem macadamlaw04_both.calls (r : List Wk) (w : World) (h : bothP = r) :
    Calls Tryd.prog 74 #[] w fun e w' => ∃ v0_ : Value, e = .returned (v0_) ∧ Kd.R k59 59 w' w.heap.size (fun _ => True) v0_ r ∧ Below w.heap.size w w' := by
  subst h
  have HB0 := Aside0.mk (Below.refl w.heap.size w)
  go_enter Tryd.func74, Tryd.ntmps74
  go_wp2_with (fail)
  refine (macadamlaw04_work.calls 0 0 0 0 0 0 _ (by kernel_rfl)).mono ?_
  rintro e w1 ⟨rfl, hb⟩
  have HB1 := Aside0.mk (below_then HB0.out HB0.out.size hb)
  clear hb HB0
  go_wp2_with (fail)
  refine (macadamlaw04_work.calls 0 1 2 0 1 2 _ (by kernel_rfl)).mono ?_
  rintro e w2 ⟨rfl, hb⟩
  have HB2 := Aside0.mk (below_then HB1.out HB1.out.size hb)
  clear hb HB1
  go_wp2_with ((with_reducible refine gate_dst (N := 3) rfl ?_); refine Kd.R_lit k59 _ 59 ?hg (N := 3) ?hd (xs := bothP) (inner := [.int .i64 0, .int .i64 0, .int .i64 0, .int .i64 0, .int .i64 1, .int .i64 2]) (ok := fun _ => True) (okp := fun _ => True) ?hr ?hp (fun _ hk => hk) trivial (Below.refl _ _) (Nat.le_refl _) (by simp [bothP]) ?_; (case hd => rfl); (case hg => rfl); (case hr => first | (go_simp; done) | (go_simp; rfl)); (case hp => exact lit2 _ _ _ _ _); intro v3 w3 ho hb hg_ hnew_; clear hg_ hnew_; have HO := Aside0.mk (Kd.R_lower ho HB2.out.size); have HB3 := Aside0.mk (below_then HB2.out HB2.out.size hb); clear hb ho HB2)
  go_ret
  exact ⟨_, by rfl, HO.out, HB3.out⟩
set_option maxHeartbeats 8000000 in
theorem macadamlaw04_shovelled.calls0 (w : World) (hG : GV w) :
    Calls Tryd.prog 24 #[] w fun e w' => e = .returned (.bool true) ∧ Below w.heap.size w w' := by
  have HG0 := Aside0.mk hG
  have HB0 := Aside0.mk (Below.refl w.heap.size w)
  clear hG
  go_enter Tryd.func24, Tryd.ntmps24
  go_wp2_with (fail)
  refine (macadamlaw04_own.calls ownM (ownG 2) 4 _ own_eq).mono ?_
  rintro e w1 ⟨va, vb, rfl, ha, hbb, hb⟩
  have HB1 := Aside0.mk (below_then HB0.out HB0.out.size hb)
  clear hb HB0
  obtain ⟨Aa, ca, rfl⟩ := Kd.R_slice ha
  have CA := Aside0.mk (Kd.R_reads' ha)
  clear ha
  obtain ⟨Ab, cb, rfl⟩ := Kd.R_slice hbb
  have CB := Aside0.mk (Kd.R_reads' hbb)
  clear hbb
  go_wp2_with (fail)
  refine (gang_Can.calls _ _ _ _ _ _ _ _ _ canL 0 _ CA.out.2.2 CA.out.2.1 CB.out.2.2 CB.out.2.1 (gv_below HG0.out HB1.out) sh_can).mono ?_
  rintro e w2 ⟨v1, rfl, hv, hb⟩
  have HB2 := Aside0.mk (below_then HB1.out HB1.out.size hb)
  replace CA := Aside0.mk (⟨CA.out.1, CA.out.2.1, Kd.C_below CA.out.2.2 hb⟩ : _ ∧ _ ∧ Kd.C _ _ _ _ _)
  replace CB := Aside0.mk (⟨CB.out.1, CB.out.2.1, Kd.C_below CB.out.2.2 hb⟩ : _ ∧ _ ∧ Kd.C _ _ _ _ _)
  clear hb HB1
  obtain ⟨A1, c1, rfl⟩ := Kd.V_slice hv
  have C1 := Aside0.mk (Kd.V_reads' hv)
  clear hv
  clear CA
  clear CB
  go_wp2_with (fail)
  refine (macadamlaw04_own.calls ownM (ownG 2) 4 _ own_eq).mono ?_
  rintro e w3 ⟨va, vb, rfl, ha, hbb, hb⟩
  have HB3 := Aside0.mk (below_then HB2.out HB2.out.size hb)
  replace C1 := Aside0.mk (⟨C1.out.1, C1.out.2.1, Kd.C_below C1.out.2.2 hb⟩ : _ ∧ _ ∧ Kd.C _ _ _ _ _)
  clear hb HB2
  obtain ⟨Aa, ca, rfl⟩ := Kd.R_slice ha
  have CA := Aside0.mk (Kd.R_reads' ha)
  clear ha
  obtain ⟨Ab, cb, rfl⟩ := Kd.R_slice hbb
  have CB := Aside0.mk (Kd.R_reads' hbb)
  clear hbb
  go_wp2_with (fail)
  refine (macadamlaw04_both.calls bothP _ (by kernel_rfl)).mono ?_
  rintro e w4 ⟨vp, rfl, hp, hb⟩
  have HB4 := Aside0.mk (below_then HB3.out HB3.out.size hb)
  replace C1 := Aside0.mk (⟨C1.out.1, C1.out.2.1, Kd.C_below C1.out.2.2 hb⟩ : _ ∧ _ ∧ Kd.C _ _ _ _ _)
  replace CA := Aside0.mk (⟨CA.out.1, CA.out.2.1, Kd.C_below CA.out.2.2 hb⟩ : _ ∧ _ ∧ Kd.C _ _ _ _ _)
  replace CB := Aside0.mk (⟨CB.out.1, CB.out.2.1, Kd.C_below CB.out.2.2 hb⟩ : _ ∧ _ ∧ Kd.C _ _ _ _ _)
  clear hb HB3
  obtain ⟨Ap, cp, rfl⟩ := Kd.R_slice hp
  have CP := Aside0.mk (Kd.R_reads' hp)
  clear hp
  go_wp2_with (fail)
  refine (gang_May.calls _ _ _ _ _ _ _ _ _ bothP true 0 _ CA.out.2.2 CA.out.2.1 CB.out.2.2 CB.out.2.1 CP.out.2.2 CP.out.2.1 (gv_below HG0.out HB4.out) sh_may).mono ?_
  rintro e w5 ⟨rfl, hb⟩
  have HB5 := Aside0.mk (below_then HB4.out HB4.out.size hb)
  replace C1 := Aside0.mk (⟨C1.out.1, C1.out.2.1, Kd.C_below C1.out.2.2 hb⟩ : _ ∧ _ ∧ Kd.C _ _ _ _ _)
  replace CA := Aside0.mk (⟨CA.out.1, CA.out.2.1, Kd.C_below CA.out.2.2 hb⟩ : _ ∧ _ ∧ Kd.C _ _ _ _ _)
  replace CB := Aside0.mk (⟨CB.out.1, CB.out.2.1, Kd.C_below CB.out.2.2 hb⟩ : _ ∧ _ ∧ Kd.C _ _ _ _ _)
  replace CP := Aside0.mk (⟨CP.out.1, CP.out.2.1, Kd.C_below CP.out.2.2 hb⟩ : _ ∧ _ ∧ Kd.C _ _ _ _ _)
  clear hb HB4
  clear CA
  clear CB
  clear CP
  go_wp2_with (fail)
  refine (macadamlaw04_own.calls ownM (ownG 2) 4 _ own_eq).mono ?_
  rintro e w6 ⟨va, vb, rfl, ha, hbb, hb⟩
  have HB6 := Aside0.mk (below_then HB5.out HB5.out.size hb)
  replace C1 := Aside0.mk (⟨C1.out.1, C1.out.2.1, Kd.C_below C1.out.2.2 hb⟩ : _ ∧ _ ∧ Kd.C _ _ _ _ _)
  clear hb HB5
  obtain ⟨Aa, ca, rfl⟩ := Kd.R_slice ha
  have CA := Aside0.mk (Kd.R_reads' ha)
  clear ha
  obtain ⟨Ab, cb, rfl⟩ := Kd.R_slice hbb
  have CB := Aside0.mk (Kd.R_reads' hbb)
  clear hbb
  go_wp2_with (fail)
  refine (macadamlaw04_both.calls bothP _ (by kernel_rfl)).mono ?_
  rintro e w7 ⟨vp, rfl, hp, hb⟩
  have HB7 := Aside0.mk (below_then HB6.out HB6.out.size hb)
  replace C1 := Aside0.mk (⟨C1.out.1, C1.out.2.1, Kd.C_below C1.out.2.2 hb⟩ : _ ∧ _ ∧ Kd.C _ _ _ _ _)
  replace CA := Aside0.mk (⟨CA.out.1, CA.out.2.1, Kd.C_below CA.out.2.2 hb⟩ : _ ∧ _ ∧ Kd.C _ _ _ _ _)
  replace CB := Aside0.mk (⟨CB.out.1, CB.out.2.1, Kd.C_below CB.out.2.2 hb⟩ : _ ∧ _ ∧ Kd.C _ _ _ _ _)
  clear hb HB6
  obtain ⟨Ap, cp, rfl⟩ := Kd.R_slice hp
  have CP := Aside0.mk (Kd.R_reads' hp)
  clear hp
  go_wp2_with (fail)
  refine (gang_Closed.calls _ _ _ _ _ _ _ _ _ bothP 0 cloL 0 _ CA.out.2.2 CA.out.2.1 CB.out.2.2 CB.out.2.1 CP.out.2.2 CP.out.2.1 (gv_below HG0.out HB7.out) sh_closed).mono ?_
  rintro e w8 ⟨v5, rfl, hv, hb⟩
  have HB8 := Aside0.mk (below_then HB7.out HB7.out.size hb)
  replace C1 := Aside0.mk (⟨C1.out.1, C1.out.2.1, Kd.C_below C1.out.2.2 hb⟩ : _ ∧ _ ∧ Kd.C _ _ _ _ _)
  replace CA := Aside0.mk (⟨CA.out.1, CA.out.2.1, Kd.C_below CA.out.2.2 hb⟩ : _ ∧ _ ∧ Kd.C _ _ _ _ _)
  replace CB := Aside0.mk (⟨CB.out.1, CB.out.2.1, Kd.C_below CB.out.2.2 hb⟩ : _ ∧ _ ∧ Kd.C _ _ _ _ _)
  replace CP := Aside0.mk (⟨CP.out.1, CP.out.2.1, Kd.C_below CP.out.2.2 hb⟩ : _ ∧ _ ∧ Kd.C _ _ _ _ _)
  clear hb HB7
  obtain ⟨A5, c5, rfl⟩ := Kd.V_slice hv
  have C5 := Aside0.mk (Kd.V_reads' hv)
  clear hv
  clear CA
  clear CB
  clear CP
  go_wp2_with (fail)
  refine (macadamlaw04_own.calls ownM (ownG 2) 4 _ own_eq).mono ?_
  rintro e w9 ⟨va, vb, rfl, ha, hbb, hb⟩
  have HB9 := Aside0.mk (below_then HB8.out HB8.out.size hb)
  replace C1 := Aside0.mk (⟨C1.out.1, C1.out.2.1, Kd.C_below C1.out.2.2 hb⟩ : _ ∧ _ ∧ Kd.C _ _ _ _ _)
  replace C5 := Aside0.mk (⟨C5.out.1, C5.out.2.1, Kd.C_below C5.out.2.2 hb⟩ : _ ∧ _ ∧ Kd.C _ _ _ _ _)
  clear hb HB8
  obtain ⟨Aa, ca, rfl⟩ := Kd.R_slice ha
  have CA := Aside0.mk (Kd.R_reads' ha)
  clear ha
  obtain ⟨Ab, cb, rfl⟩ := Kd.R_slice hbb
  have CB := Aside0.mk (Kd.R_reads' hbb)
  clear hbb
  go_wp2_with (fail)
  refine (macadamlaw04_work.calls 0 0 0 0 0 0 _ (by kernel_rfl)).mono ?_
  rintro e w10 ⟨rfl, hb⟩
  have HB10 := Aside0.mk (below_then HB9.out HB9.out.size hb)
  replace C1 := Aside0.mk (⟨C1.out.1, C1.out.2.1, Kd.C_below C1.out.2.2 hb⟩ : _ ∧ _ ∧ Kd.C _ _ _ _ _)
  replace C5 := Aside0.mk (⟨C5.out.1, C5.out.2.1, Kd.C_below C5.out.2.2 hb⟩ : _ ∧ _ ∧ Kd.C _ _ _ _ _)
  replace CA := Aside0.mk (⟨CA.out.1, CA.out.2.1, Kd.C_below CA.out.2.2 hb⟩ : _ ∧ _ ∧ Kd.C _ _ _ _ _)
  replace CB := Aside0.mk (⟨CB.out.1, CB.out.2.1, Kd.C_below CB.out.2.2 hb⟩ : _ ∧ _ ∧ Kd.C _ _ _ _ _)
  clear hb HB9
  go_wp2_with (fail)
  refine (macadamlaw04_work.calls 1 0 0 1 0 0 _ (by kernel_rfl)).mono ?_
  rintro e w11 ⟨rfl, hb⟩
  have HB11 := Aside0.mk (below_then HB10.out HB10.out.size hb)
  replace C1 := Aside0.mk (⟨C1.out.1, C1.out.2.1, Kd.C_below C1.out.2.2 hb⟩ : _ ∧ _ ∧ Kd.C _ _ _ _ _)
  replace C5 := Aside0.mk (⟨C5.out.1, C5.out.2.1, Kd.C_below C5.out.2.2 hb⟩ : _ ∧ _ ∧ Kd.C _ _ _ _ _)
  replace CA := Aside0.mk (⟨CA.out.1, CA.out.2.1, Kd.C_below CA.out.2.2 hb⟩ : _ ∧ _ ∧ Kd.C _ _ _ _ _)
  replace CB := Aside0.mk (⟨CB.out.1, CB.out.2.1, Kd.C_below CB.out.2.2 hb⟩ : _ ∧ _ ∧ Kd.C _ _ _ _ _)
  clear hb HB10
  go_wp2_with ((with_reducible refine gate_dst (N := 36) rfl ?_); refine Kd.R_lit k59 _ 59 ?hg (N := 36) ?hd (xs := twoP) (inner := [.int .i64 0, .int .i64 0, .int .i64 0, .int .i64 1, .int .i64 0, .int .i64 0]) (ok := fun _ => True) (okp := fun _ => True) ?hr ?hp (fun _ hk => hk) trivial (Below.refl _ _) (Nat.le_refl _) (by simp [twoP]) ?_; (case hd => rfl); (case hg => rfl); (case hr => first | (go_simp; done) | (go_simp; rfl)); (case hp => exact lit2 _ _ _ _ _); intro v3 w12 ho hb hg_ hnew_; clear hg_ hnew_; have HO := Aside0.mk ho; have HB12 := Aside0.mk (below_then HB11.out HB11.out.size hb); replace C1 := Aside0.mk (⟨C1.out.1, C1.out.2.1, Kd.C_below C1.out.2.2 hb⟩ : _ ∧ _ ∧ Kd.C _ _ _ _ _); replace C5 := Aside0.mk (⟨C5.out.1, C5.out.2.1, Kd.C_below C5.out.2.2 hb⟩ : _ ∧ _ ∧ Kd.C _ _ _ _ _); replace CA := Aside0.mk (⟨CA.out.1, CA.out.2.1, Kd.C_below CA.out.2.2 hb⟩ : _ ∧ _ ∧ Kd.C _ _ _ _ _); replace CB := Aside0.mk (⟨CB.out.1, CB.out.2.1, Kd.C_below CB.out.2.2 hb⟩ : _ ∧ _ ∧ Kd.C _ _ _ _ _); clear hb ho HB11; (obtain ⟨Ap, cp, rfl⟩ := Kd.R_slice HO.out); have CP := Aside0.mk (Kd.R_reads' HO.out); clear HO)
  go_wp2_with (fail)
  refine (gang_Done.calls _ _ _ _ _ _ _ _ _ twoP 0 2 4 0 _ CA.out.2.2 CA.out.2.1 CB.out.2.2 CB.out.2.1 CP.out.2.2 CP.out.2.1 (gv_below HG0.out HB12.out) sh_done).mono ?_
  rintro e w13 ⟨rfl, hb⟩
  have HB13 := Aside0.mk (below_then HB12.out HB12.out.size hb)
  replace C1 := Aside0.mk (⟨C1.out.1, C1.out.2.1, Kd.C_below C1.out.2.2 hb⟩ : _ ∧ _ ∧ Kd.C _ _ _ _ _)
  replace C5 := Aside0.mk (⟨C5.out.1, C5.out.2.1, Kd.C_below C5.out.2.2 hb⟩ : _ ∧ _ ∧ Kd.C _ _ _ _ _)
  replace CA := Aside0.mk (⟨CA.out.1, CA.out.2.1, Kd.C_below CA.out.2.2 hb⟩ : _ ∧ _ ∧ Kd.C _ _ _ _ _)
  replace CB := Aside0.mk (⟨CB.out.1, CB.out.2.1, Kd.C_below CB.out.2.2 hb⟩ : _ ∧ _ ∧ Kd.C _ _ _ _ _)
  replace CP := Aside0.mk (⟨CP.out.1, CP.out.2.1, Kd.C_below CP.out.2.2 hb⟩ : _ ∧ _ ∧ Kd.C _ _ _ _ _)
  clear hb HB12
  clear CA
  clear CB
  clear CP
  go_wp2_with ((with_reducible refine gate_dst (N := 7) rfl ?_); refine bx 7 #[.int .i64 0, .int .i64 0] 40 ?_; intro gb hg w14 hbox hb; have HBB := Aside0.mk hb; have BX := Aside0.mk hbox; have GE := Aside0.mk (show w13.heap.size ≤ gb by rw [hg]; exact Nat.le_refl _); clear hb hbox hg; have hc0 : w14.cell? ⟨gb, 0, none⟩ = some (.int .i64 0) := (blk_cell BX.out 0).trans rfl; have hc1 : w14.cell? ⟨gb, 1, none⟩ = some (.int .i64 0) := (blk_cell BX.out 1).trans rfl; have hf0 := blk_frozen BX.out 0; have hf1 := blk_frozen BX.out 1)
  clear hc0 hc1 hf0 hf1
  have hb := below_set (v := .int .i64 4) (j := 1) (below_set (v := .int .i64 2) (j := 0) HBB.out GE.out) GE.out
  have BX2 := blk_put (blk_put BX.out 0 (.int .i64 2) rfl) 1 (.int .i64 4) rfl
  generalize (World.setCell (World.setCell _ _ _) _ _) = w15 at hb BX2 ⊢
  replace BX := Aside0.mk BX2
  clear BX2
  have HB15 := Aside0.mk (below_then HB13.out HB13.out.size hb)
  replace C1 := Aside0.mk (⟨C1.out.1, C1.out.2.1, Kd.C_below C1.out.2.2 hb⟩ : _ ∧ _ ∧ Kd.C _ _ _ _ _)
  replace C5 := Aside0.mk (⟨C5.out.1, C5.out.2.1, Kd.C_below C5.out.2.2 hb⟩ : _ ∧ _ ∧ Kd.C _ _ _ _ _)
  clear hb HB13
  clear HBB GE
  go_wp2_with (fail)
  refine (macadamlaw04_own.calls ownM (ownG 2) 4 _ own_eq).mono ?_
  rintro e w16 ⟨va, vb, rfl, ha, hbb, hb⟩
  have HB16 := Aside0.mk (below_then HB15.out HB15.out.size hb)
  replace C1 := Aside0.mk (⟨C1.out.1, C1.out.2.1, Kd.C_below C1.out.2.2 hb⟩ : _ ∧ _ ∧ Kd.C _ _ _ _ _)
  replace C5 := Aside0.mk (⟨C5.out.1, C5.out.2.1, Kd.C_below C5.out.2.2 hb⟩ : _ ∧ _ ∧ Kd.C _ _ _ _ _)
  replace BX := Aside0.mk (blk_below BX.out hb)
  clear hb HB15
  obtain ⟨Aa, ca, rfl⟩ := Kd.R_slice ha
  have CA := Aside0.mk (Kd.R_reads' ha)
  clear ha
  obtain ⟨Ab, cb, rfl⟩ := Kd.R_slice hbb
  have CB := Aside0.mk (Kd.R_reads' hbb)
  clear hbb
  go_wp2_with (fail)
  refine (macadamlaw04_both.calls bothP _ (by kernel_rfl)).mono ?_
  rintro e w17 ⟨vp, rfl, hp, hb⟩
  have HB17 := Aside0.mk (below_then HB16.out HB16.out.size hb)
  replace C1 := Aside0.mk (⟨C1.out.1, C1.out.2.1, Kd.C_below C1.out.2.2 hb⟩ : _ ∧ _ ∧ Kd.C _ _ _ _ _)
  replace C5 := Aside0.mk (⟨C5.out.1, C5.out.2.1, Kd.C_below C5.out.2.2 hb⟩ : _ ∧ _ ∧ Kd.C _ _ _ _ _)
  replace CA := Aside0.mk (⟨CA.out.1, CA.out.2.1, Kd.C_below CA.out.2.2 hb⟩ : _ ∧ _ ∧ Kd.C _ _ _ _ _)
  replace CB := Aside0.mk (⟨CB.out.1, CB.out.2.1, Kd.C_below CB.out.2.2 hb⟩ : _ ∧ _ ∧ Kd.C _ _ _ _ _)
  replace BX := Aside0.mk (blk_below BX.out hb)
  clear hb HB16
  obtain ⟨Ap, cp, rfl⟩ := Kd.R_slice hp
  have CP := Aside0.mk (Kd.R_reads' hp)
  clear hp
  go_wp2_with (fail)
  refine (gang_Mended.calls _ _ _ _ _ _ _ _ _ bothP menL 0 _ CA.out.2.2 CA.out.2.1 CB.out.2.2 CB.out.2.1 CP.out.2.2 CP.out.2.1 (gv_below HG0.out HB17.out) sh_mended).mono ?_
  rintro e w18 ⟨v9, rfl, hv, hb⟩
  have HB18 := Aside0.mk (below_then HB17.out HB17.out.size hb)
  replace C1 := Aside0.mk (⟨C1.out.1, C1.out.2.1, Kd.C_below C1.out.2.2 hb⟩ : _ ∧ _ ∧ Kd.C _ _ _ _ _)
  replace C5 := Aside0.mk (⟨C5.out.1, C5.out.2.1, Kd.C_below C5.out.2.2 hb⟩ : _ ∧ _ ∧ Kd.C _ _ _ _ _)
  replace CA := Aside0.mk (⟨CA.out.1, CA.out.2.1, Kd.C_below CA.out.2.2 hb⟩ : _ ∧ _ ∧ Kd.C _ _ _ _ _)
  replace CB := Aside0.mk (⟨CB.out.1, CB.out.2.1, Kd.C_below CB.out.2.2 hb⟩ : _ ∧ _ ∧ Kd.C _ _ _ _ _)
  replace CP := Aside0.mk (⟨CP.out.1, CP.out.2.1, Kd.C_below CP.out.2.2 hb⟩ : _ ∧ _ ∧ Kd.C _ _ _ _ _)
  replace BX := Aside0.mk (blk_below BX.out hb)
  clear hb HB17
  obtain ⟨A9, c9, rfl⟩ := Kd.V_slice hv
  have C9 := Aside0.mk (Kd.V_reads' hv)
  clear hv
  clear CA
  clear CB
  clear CP
  go_wp2_with (fail)
  have HBX := Aside0.mk (show Below w.heap.size w _ from HB18.out)
  clear HB18
  have hb := (Below.refl (World.heap w18).size w18).drew
  replace C1 := Aside0.mk (⟨C1.out.1, C1.out.2.1, Kd.C_below C1.out.2.2 hb⟩ : _ ∧ _ ∧ Kd.C _ _ _ _ _)
  replace C5 := Aside0.mk (⟨C5.out.1, C5.out.2.1, Kd.C_below C5.out.2.2 hb⟩ : _ ∧ _ ∧ Kd.C _ _ _ _ _)
  replace C9 := Aside0.mk (⟨C9.out.1, C9.out.2.1, Kd.C_below C9.out.2.2 hb⟩ : _ ∧ _ ∧ Kd.C _ _ _ _ _)
  replace BX := Aside0.mk (blk_below BX.out hb)
  replace HBX := Aside0.mk (below_then HBX.out HBX.out.size hb)
  clear hb
  have heq := equal_span
  refine start_ (n := 45) (S := fun w' => w'.cell? ⟨gb, 0, none⟩ = some (.int .i64 2) ∧ w'.cell? ⟨gb, 1, none⟩ = some (.int .i64 4)) (ds := []) (bs 45 0) (by kernel_rfl) rfl rfl ⟨(blk_cell BX.out 0).trans rfl, (blk_cell BX.out 1).trans rfl⟩ (fun hHeld => ?_)
  refine with_tabW X_shov.tab6 X_shov.bits6 (fun HT_ HW_ => ?_)
  generalize World.drew _ = wd at C1 C5 C9 BX HBX hHeld ⊢
  refine pu HT_ 0 (some 46) (bs 45 1) ?_
  refine pu HT_ 1 (some 47) (bs 45 3) ?_
  refine pu HT_ 2 (some 48) (bs 45 7) ?_
  refine pu HT_ 3 (some 49) (bs 45 15) ?_
  refine pu HT_ 4 (some 50) (bs 45 31) ?_
  refine pu HT_ 5 (some 51) (bs 45 63) ?_
  refine pu HT_ 6 (some 52) (bs 45 127) ?_
  refine pu HT_ 7 (some 53) (bs 45 255) ?_
  refine pu HT_ 8 (some 54) (bs 45 511) ?_
  refine pu HT_ 9 (some 55) (bs 45 1023) ?_
  refine pu HT_ 10 (some 56) (bs 45 2047) ?_
  refine pu HT_ 11 (some 57) (bs 45 4095) ?_
  refine pu HT_ 12 (some 58) (bs 45 8191) ?_
  refine pu HT_ 13 (some 59) (bs 45 16383) ?_
  refine pu HT_ 14 (some 60) (bs 45 32767) ?_
  refine pu HT_ 15 (some 61) (bs 45 65535) ?_
  refine pu HT_ 16 (some 62) (bs 45 131071) ?_
  refine pu HT_ 17 (some 63) (bs 45 262143) ?_
  refine pu HT_ 18 (some 64) (bs 45 524287) ?_
  refine pu HT_ 19 (some 65) (bs 45 1048575) ?_
  refine on HT_ 20 (some 66) (bs 45 2097151) (fun K hK => ?_)
  refine Kd.R_lit_step (Kd.int .i64) _ 3 ?hg (N := 66) ?hd (xs := canL) (inner := [.int .i64 0, .int .i64 2, .int .i64 3]) (ok := fun _ => True) (okp := fun _ => True) ?hr ?hp (fun _ hk => hk) trivial (Below.refl _ _) (Nat.le_refl _) (by simp [canL]) ?_; (case hd => rfl); (case hg => rfl); (case hr => first | (go_simp; done) | (go_simp; rfl)); (case hp => exact (Reps.one (show Kd.M (Kd.int .i64) _ _ _ (0 : Int) [.int .i64 0] from rfl) (Reps.one (show Kd.M (Kd.int .i64) _ _ _ (2 : Int) [.int .i64 2] from rfl) (Reps.one (show Kd.M (Kd.int .i64) _ _ _ (3 : Int) [.int .i64 3] from rfl) (Reps.none _ _)))))
  intro pv pw ho hb hg_ hnew_
  clear hg_ hnew_
  obtain ⟨pA, pc, rfl⟩ := Kd.R_slice ho
  have pC := Aside0.mk (Kd.R_reads' ho)
  clear ho
  replace C1 := Aside0.mk (⟨C1.out.1, C1.out.2.1, Kd.C_below C1.out.2.2 hb⟩ : _ ∧ _ ∧ Kd.C _ _ _ _ _)
  replace C5 := Aside0.mk (⟨C5.out.1, C5.out.2.1, Kd.C_below C5.out.2.2 hb⟩ : _ ∧ _ ∧ Kd.C _ _ _ _ _)
  replace C9 := Aside0.mk (⟨C9.out.1, C9.out.2.1, Kd.C_below C9.out.2.2 hb⟩ : _ ∧ _ ∧ Kd.C _ _ _ _ _)
  replace BX := Aside0.mk (blk_below BX.out hb)
  replace HBX := Aside0.mk (below_then HBX.out HBX.out.size hb)
  clear hb
  refine hK.out _ _ ⟨(blk_cell BX.out 0).trans rfl, (blk_cell BX.out 1).trans rfl⟩ (fun hHeld => ?_)
  clear hK K
  refine nm 66 ?_
  refine on HT_ 21 (some 67) (bs 45 4194303) (fun K hK => ?_)
  refine goes_ Tryd.func17 (by kernel_rfl) rfl #[.slice A1 canL.length c1, .slice pA canL.length pc] (by rfl) rfl rfl (by (try simp only [List.map_toArray, List.map_cons, List.map_nil]); first | done | rfl) ?_
  with_reducible refine (macadamref00_Like.calls 10 _ _ canL _ _ canL true _ C1.out.2.2 C1.out.2.1 pC.out.2.2 pC.out.2.1 (by kernel_rfl)).mono ?_
  rintro e px ⟨rfl, hd⟩
  refine ⟨_, rfl, ?_⟩
  have hb := hd.below
  clear hd
  replace C1 := Aside0.mk (⟨C1.out.1, C1.out.2.1, Kd.C_below C1.out.2.2 hb⟩ : _ ∧ _ ∧ Kd.C _ _ _ _ _)
  replace C5 := Aside0.mk (⟨C5.out.1, C5.out.2.1, Kd.C_below C5.out.2.2 hb⟩ : _ ∧ _ ∧ Kd.C _ _ _ _ _)
  replace C9 := Aside0.mk (⟨C9.out.1, C9.out.2.1, Kd.C_below C9.out.2.2 hb⟩ : _ ∧ _ ∧ Kd.C _ _ _ _ _)
  replace BX := Aside0.mk (blk_below BX.out hb)
  replace HBX := Aside0.mk (below_then HBX.out HBX.out.size hb)
  clear hb
  refine hK.out _ _ ⟨(blk_cell BX.out 0).trans rfl, (blk_cell BX.out 1).trans rfl⟩ (fun hHeld => ?_)
  clear hK K
  refine nm 67 ?_
  refine pu HT_ 22 (some 68) (bs 45 8388607) ?_
  refine pu HT_ 23 (some 69) (bs 45 16777215) ?_
  refine pu HT_ 24 (some 70) (bs 45 33554431) ?_
  refine pu HT_ 25 (some 71) (bs 45 67108863) ?_
  refine pu HT_ 26 (some 72) (bs 45 134217727) ?_
  refine pu HT_ 27 (some 73) (bs 45 268435455) ?_
  refine pu HT_ 28 (some 74) (bs 45 536870911) ?_
  refine pu HT_ 29 (some 75) (bs 45 1073741823) ?_
  refine on HT_ 30 (some 76) (bs 45 2147483647) (fun K hK => ?_)
  refine Kd.R_lit_step (Kd.int .i64) _ 3 ?hg (N := 76) ?hd (xs := cloL) (inner := [.int .i64 0, .int .i64 2]) (ok := fun _ => True) (okp := fun _ => True) ?hr ?hp (fun _ hk => hk) trivial (Below.refl _ _) (Nat.le_refl _) (by simp [cloL]) ?_; (case hd => rfl); (case hg => rfl); (case hr => first | (go_simp; done) | (go_simp; rfl)); (case hp => exact (Reps.one (show Kd.M (Kd.int .i64) _ _ _ (0 : Int) [.int .i64 0] from rfl) (Reps.one (show Kd.M (Kd.int .i64) _ _ _ (2 : Int) [.int .i64 2] from rfl) (Reps.none _ _))))
  intro qv qw ho hb hg_ hnew_
  clear hg_ hnew_
  obtain ⟨qA, qc, rfl⟩ := Kd.R_slice ho
  have qC := Aside0.mk (Kd.R_reads' ho)
  clear ho
  replace C1 := Aside0.mk (⟨C1.out.1, C1.out.2.1, Kd.C_below C1.out.2.2 hb⟩ : _ ∧ _ ∧ Kd.C _ _ _ _ _)
  replace C5 := Aside0.mk (⟨C5.out.1, C5.out.2.1, Kd.C_below C5.out.2.2 hb⟩ : _ ∧ _ ∧ Kd.C _ _ _ _ _)
  replace C9 := Aside0.mk (⟨C9.out.1, C9.out.2.1, Kd.C_below C9.out.2.2 hb⟩ : _ ∧ _ ∧ Kd.C _ _ _ _ _)
  replace BX := Aside0.mk (blk_below BX.out hb)
  replace HBX := Aside0.mk (below_then HBX.out HBX.out.size hb)
  clear hb
  refine hK.out _ _ ⟨(blk_cell BX.out 0).trans rfl, (blk_cell BX.out 1).trans rfl⟩ (fun hHeld => ?_)
  clear hK K
  refine nm 76 ?_
  refine on HT_ 31 (some 77) (bs 45 4294967295) (fun K hK => ?_)
  refine goes_ Tryd.func17 (by kernel_rfl) rfl #[.slice A5 cloL.length c5, .slice qA cloL.length qc] (by rfl) rfl rfl (by (try simp only [List.map_toArray, List.map_cons, List.map_nil]); first | done | rfl) ?_
  with_reducible refine (macadamref00_Like.calls 10 _ _ cloL _ _ cloL true _ C5.out.2.2 C5.out.2.1 qC.out.2.2 qC.out.2.1 (by kernel_rfl)).mono ?_
  rintro e qx ⟨rfl, hd⟩
  refine ⟨_, rfl, ?_⟩
  have hb := hd.below
  clear hd
  replace C1 := Aside0.mk (⟨C1.out.1, C1.out.2.1, Kd.C_below C1.out.2.2 hb⟩ : _ ∧ _ ∧ Kd.C _ _ _ _ _)
  replace C5 := Aside0.mk (⟨C5.out.1, C5.out.2.1, Kd.C_below C5.out.2.2 hb⟩ : _ ∧ _ ∧ Kd.C _ _ _ _ _)
  replace C9 := Aside0.mk (⟨C9.out.1, C9.out.2.1, Kd.C_below C9.out.2.2 hb⟩ : _ ∧ _ ∧ Kd.C _ _ _ _ _)
  replace BX := Aside0.mk (blk_below BX.out hb)
  replace HBX := Aside0.mk (below_then HBX.out HBX.out.size hb)
  clear hb
  refine hK.out _ _ ⟨(blk_cell BX.out 0).trans rfl, (blk_cell BX.out 1).trans rfl⟩ (fun hHeld => ?_)
  clear hK K
  refine nm 77 ?_
  refine pu HT_ 32 (some 78) (bs 45 8589934591) ?_
  refine pu HT_ 33 (some 79) (bs 45 17179869183) ?_
  refine pu HT_ 34 (some 80) (bs 45 34359738367) ?_
  refine tk2 HT_ HW_ hHeld 35 (some 81) (bs 45 68719476735) ?_
  refine on HT_ 36 (some 82) (bs 45 137438953471) (fun K hK => ?_)
  refine goes_ Tryd.func50 (by kernel_rfl) rfl #[.int .i64 2, .int .i64 4] (by rfl) rfl rfl (by (try simp only [List.map_toArray, List.map_cons, List.map_nil]); first | done | rfl) ?_
  with_reducible refine (macadamref00_Reach.calls 2 4 2 4 _ (by kernel_rfl)).mono ?_
  rintro e rx ⟨rfl, hb⟩
  refine ⟨_, rfl, ?_⟩
  replace C1 := Aside0.mk (⟨C1.out.1, C1.out.2.1, Kd.C_below C1.out.2.2 hb⟩ : _ ∧ _ ∧ Kd.C _ _ _ _ _)
  replace C5 := Aside0.mk (⟨C5.out.1, C5.out.2.1, Kd.C_below C5.out.2.2 hb⟩ : _ ∧ _ ∧ Kd.C _ _ _ _ _)
  replace C9 := Aside0.mk (⟨C9.out.1, C9.out.2.1, Kd.C_below C9.out.2.2 hb⟩ : _ ∧ _ ∧ Kd.C _ _ _ _ _)
  replace BX := Aside0.mk (blk_below BX.out hb)
  replace HBX := Aside0.mk (below_then HBX.out HBX.out.size hb)
  clear hb
  refine hK.out _ _ ⟨(blk_cell BX.out 0).trans rfl, (blk_cell BX.out 1).trans rfl⟩ (fun hHeld => ?_)
  clear hK K
  refine nm 82 ?_
  refine pu HT_ 37 (some 83) (bs 45 274877906943) ?_
  refine pu HT_ 38 (some 84) (bs 45 549755813887) ?_
  refine pu HT_ 39 (some 85) (bs 45 1099511627775) ?_
  refine pu HT_ 40 (some 86) (bs 45 2199023255551) ?_
  refine on HT_ 41 (some 87) (bs 45 4398046511103) (fun K hK => ?_)
  refine Kd.R_lit_step (Kd.int .i64) _ 3 ?hg (N := 87) ?hd (xs := menL) (inner := [.int .i64 2]) (ok := fun _ => True) (okp := fun _ => True) ?hr ?hp (fun _ hk => hk) trivial (Below.refl _ _) (Nat.le_refl _) (by simp [menL]) ?_; (case hd => rfl); (case hg => rfl); (case hr => first | (go_simp; done) | (go_simp; rfl)); (case hp => exact (Reps.one (show Kd.M (Kd.int .i64) _ _ _ (2 : Int) [.int .i64 2] from rfl) (Reps.none _ _)))
  intro rv rw ho hb hg_ hnew_
  clear hg_ hnew_
  obtain ⟨rA, rc, rfl⟩ := Kd.R_slice ho
  have rC := Aside0.mk (Kd.R_reads' ho)
  clear ho
  replace C1 := Aside0.mk (⟨C1.out.1, C1.out.2.1, Kd.C_below C1.out.2.2 hb⟩ : _ ∧ _ ∧ Kd.C _ _ _ _ _)
  replace C5 := Aside0.mk (⟨C5.out.1, C5.out.2.1, Kd.C_below C5.out.2.2 hb⟩ : _ ∧ _ ∧ Kd.C _ _ _ _ _)
  replace C9 := Aside0.mk (⟨C9.out.1, C9.out.2.1, Kd.C_below C9.out.2.2 hb⟩ : _ ∧ _ ∧ Kd.C _ _ _ _ _)
  replace BX := Aside0.mk (blk_below BX.out hb)
  replace HBX := Aside0.mk (below_then HBX.out HBX.out.size hb)
  clear hb
  refine hK.out _ _ ⟨(blk_cell BX.out 0).trans rfl, (blk_cell BX.out 1).trans rfl⟩ (fun hHeld => ?_)
  clear hK K
  refine nm 87 ?_
  refine on HT_ 42 (some 88) (bs 45 8796093022207) (fun K hK => ?_)
  refine goes_ Tryd.func17 (by kernel_rfl) rfl #[.slice A9 menL.length c9, .slice rA menL.length rc] (by rfl) rfl rfl (by (try simp only [List.map_toArray, List.map_cons, List.map_nil]); first | done | rfl) ?_
  with_reducible refine (macadamref00_Like.calls 10 _ _ menL _ _ menL true _ C9.out.2.2 C9.out.2.1 rC.out.2.2 rC.out.2.1 (by kernel_rfl)).mono ?_
  rintro e rx ⟨rfl, hd⟩
  refine ⟨_, rfl, ?_⟩
  have hb := hd.below
  clear hd
  replace C1 := Aside0.mk (⟨C1.out.1, C1.out.2.1, Kd.C_below C1.out.2.2 hb⟩ : _ ∧ _ ∧ Kd.C _ _ _ _ _)
  replace C5 := Aside0.mk (⟨C5.out.1, C5.out.2.1, Kd.C_below C5.out.2.2 hb⟩ : _ ∧ _ ∧ Kd.C _ _ _ _ _)
  replace C9 := Aside0.mk (⟨C9.out.1, C9.out.2.1, Kd.C_below C9.out.2.2 hb⟩ : _ ∧ _ ∧ Kd.C _ _ _ _ _)
  replace BX := Aside0.mk (blk_below BX.out hb)
  replace HBX := Aside0.mk (below_then HBX.out HBX.out.size hb)
  clear hb
  refine hK.out _ _ ⟨(blk_cell BX.out 0).trans rfl, (blk_cell BX.out 1).trans rfl⟩ (fun hHeld => ?_)
  clear hK K
  refine nm 88 ?_
  refine pu HT_ 43 (some 89) (bs 45 17592186044415) ?_
  refine pu HT_ 44 (some 90) (bs 45 35184372088831) ?_
  refine done_ (done_of HT_.out (by kernel_rfl)) ?_
  clear C1 C5 C9 BX heq
  go_wp2_with (fail)
  refine (macadamlaw04_own.calls ownM (ownG 2) 4 _ own_eq).mono ?_
  rintro e w19 ⟨va, vb, rfl, ha, hbb, hb⟩
  have HB19 := Aside0.mk (below_then HBX.out HBX.out.size hb)
  clear hb HBX
  obtain ⟨Aa, ca, rfl⟩ := Kd.R_slice ha
  have CA := Aside0.mk (Kd.R_reads' ha)
  clear ha
  obtain ⟨Ab, cb, rfl⟩ := Kd.R_slice hbb
  have CB := Aside0.mk (Kd.R_reads' hbb)
  clear hbb
  go_wp2_with (fail)
  refine (macadamlaw04_both.calls bothP _ (by kernel_rfl)).mono ?_
  rintro e w20 ⟨vp, rfl, hp, hb⟩
  have HB20 := Aside0.mk (below_then HB19.out HB19.out.size hb)
  replace CA := Aside0.mk (⟨CA.out.1, CA.out.2.1, Kd.C_below CA.out.2.2 hb⟩ : _ ∧ _ ∧ Kd.C _ _ _ _ _)
  replace CB := Aside0.mk (⟨CB.out.1, CB.out.2.1, Kd.C_below CB.out.2.2 hb⟩ : _ ∧ _ ∧ Kd.C _ _ _ _ _)
  clear hb HB19
  obtain ⟨Ap, cp, rfl⟩ := Kd.R_slice hp
  have CP := Aside0.mk (Kd.R_reads' hp)
  clear hp
  go_wp2_with (fail)
  refine (gang_Open.calls _ _ _ _ _ _ _ _ _ bothP 0 0 _ CA.out.2.2 CA.out.2.1 CB.out.2.2 CB.out.2.1 CP.out.2.2 CP.out.2.1 (gv_below HG0.out HB20.out) sh_open).mono ?_
  rintro e w21 ⟨rfl, hb⟩
  have HB21 := Aside0.mk (below_then HB20.out HB20.out.size hb)
  replace CA := Aside0.mk (⟨CA.out.1, CA.out.2.1, Kd.C_below CA.out.2.2 hb⟩ : _ ∧ _ ∧ Kd.C _ _ _ _ _)
  replace CB := Aside0.mk (⟨CB.out.1, CB.out.2.1, Kd.C_below CB.out.2.2 hb⟩ : _ ∧ _ ∧ Kd.C _ _ _ _ _)
  replace CP := Aside0.mk (⟨CP.out.1, CP.out.2.1, Kd.C_below CP.out.2.2 hb⟩ : _ ∧ _ ∧ Kd.C _ _ _ _ _)
  clear hb HB20
  clear CA
  clear CB
  clear CP
  go_wp2_with (fail)
  refine (macadamlaw04_own.calls ownM (ownG 2) 4 _ own_eq).mono ?_
  rintro e w22 ⟨va, vb, rfl, ha, hbb, hb⟩
  have HB22 := Aside0.mk (below_then HB21.out HB21.out.size hb)
  clear hb HB21
  obtain ⟨Aa, ca, rfl⟩ := Kd.R_slice ha
  have CA := Aside0.mk (Kd.R_reads' ha)
  clear ha
  obtain ⟨Ab, cb, rfl⟩ := Kd.R_slice hbb
  have CB := Aside0.mk (Kd.R_reads' hbb)
  clear hbb
  go_wp2_with (fail)
  refine (gang_Plan.calls _ _ _ _ _ _ _ planP 0 _ CA.out.2.2 CA.out.2.1 CB.out.2.2 CB.out.2.1 (gv_below HG0.out HB22.out) sh_plan).mono ?_
  rintro e w23 ⟨v12, rfl, hv, hb⟩
  have HB23 := Aside0.mk (below_then HB22.out HB22.out.size hb)
  replace CA := Aside0.mk (⟨CA.out.1, CA.out.2.1, Kd.C_below CA.out.2.2 hb⟩ : _ ∧ _ ∧ Kd.C _ _ _ _ _)
  replace CB := Aside0.mk (⟨CB.out.1, CB.out.2.1, Kd.C_below CB.out.2.2 hb⟩ : _ ∧ _ ∧ Kd.C _ _ _ _ _)
  clear hb HB22
  obtain ⟨A1, c1, rfl⟩ := Kd.V_slice hv
  have C1 := Aside0.mk (Kd.V_reads' hv)
  clear hv
  clear CA
  clear CB
  go_wp2_with (fail)
  refine (macadamlaw04_short.calls ownM (ownG 2) 3 _ short_eq).mono ?_
  rintro e w24 ⟨va, vb, rfl, ha, hbb, hb⟩
  have HB24 := Aside0.mk (below_then HB23.out HB23.out.size hb)
  replace C1 := Aside0.mk (⟨C1.out.1, C1.out.2.1, Kd.C_below C1.out.2.2 hb⟩ : _ ∧ _ ∧ Kd.C _ _ _ _ _)
  clear hb HB23
  obtain ⟨Aa, ca, rfl⟩ := Kd.R_slice ha
  have CA := Aside0.mk (Kd.R_reads' ha)
  clear ha
  obtain ⟨Ab, cb, rfl⟩ := Kd.R_slice hbb
  have CB := Aside0.mk (Kd.R_reads' hbb)
  clear hbb
  go_wp2_with (fail)
  refine (gang_Most.calls _ _ _ _ _ _ _ mosL 0 _ CA.out.2.2 CA.out.2.1 CB.out.2.2 CB.out.2.1 (gv_below HG0.out HB24.out) sh_most).mono ?_
  rintro e w25 ⟨v13, rfl, hv, hb⟩
  have HB25 := Aside0.mk (below_then HB24.out HB24.out.size hb)
  replace C1 := Aside0.mk (⟨C1.out.1, C1.out.2.1, Kd.C_below C1.out.2.2 hb⟩ : _ ∧ _ ∧ Kd.C _ _ _ _ _)
  replace CA := Aside0.mk (⟨CA.out.1, CA.out.2.1, Kd.C_below CA.out.2.2 hb⟩ : _ ∧ _ ∧ Kd.C _ _ _ _ _)
  replace CB := Aside0.mk (⟨CB.out.1, CB.out.2.1, Kd.C_below CB.out.2.2 hb⟩ : _ ∧ _ ∧ Kd.C _ _ _ _ _)
  clear hb HB24
  obtain ⟨A5, c5, rfl⟩ := Kd.V_slice hv
  have C5 := Aside0.mk (Kd.V_reads' hv)
  clear hv
  clear CA
  clear CB
  go_wp2_with (fail)
  refine (macadamlaw04_far.calls ownM (ownG 1) 4 _ far_eq).mono ?_
  rintro e w26 ⟨va, vb, rfl, ha, hbb, hb⟩
  have HB26 := Aside0.mk (below_then HB25.out HB25.out.size hb)
  replace C1 := Aside0.mk (⟨C1.out.1, C1.out.2.1, Kd.C_below C1.out.2.2 hb⟩ : _ ∧ _ ∧ Kd.C _ _ _ _ _)
  replace C5 := Aside0.mk (⟨C5.out.1, C5.out.2.1, Kd.C_below C5.out.2.2 hb⟩ : _ ∧ _ ∧ Kd.C _ _ _ _ _)
  clear hb HB25
  obtain ⟨Aa, ca, rfl⟩ := Kd.R_slice ha
  have CA := Aside0.mk (Kd.R_reads' ha)
  clear ha
  obtain ⟨Ab, cb, rfl⟩ := Kd.R_slice hbb
  have CB := Aside0.mk (Kd.R_reads' hbb)
  clear hbb
  go_wp2_with (fail)
  refine (gang_First.calls _ _ _ _ _ _ _ 2 0 _ CA.out.2.2 CA.out.2.1 CB.out.2.2 CB.out.2.1 (gv_below HG0.out HB26.out) sh_first).mono ?_
  rintro e w27 ⟨rfl, hb⟩
  have HB27 := Aside0.mk (below_then HB26.out HB26.out.size hb)
  replace C1 := Aside0.mk (⟨C1.out.1, C1.out.2.1, Kd.C_below C1.out.2.2 hb⟩ : _ ∧ _ ∧ Kd.C _ _ _ _ _)
  replace C5 := Aside0.mk (⟨C5.out.1, C5.out.2.1, Kd.C_below C5.out.2.2 hb⟩ : _ ∧ _ ∧ Kd.C _ _ _ _ _)
  replace CA := Aside0.mk (⟨CA.out.1, CA.out.2.1, Kd.C_below CA.out.2.2 hb⟩ : _ ∧ _ ∧ Kd.C _ _ _ _ _)
  replace CB := Aside0.mk (⟨CB.out.1, CB.out.2.1, Kd.C_below CB.out.2.2 hb⟩ : _ ∧ _ ∧ Kd.C _ _ _ _ _)
  clear hb HB26
  clear CA
  clear CB
  go_wp2_with (fail)
  refine (macadamlaw04_short.calls ownM (ownG 2) 3 _ short_eq).mono ?_
  rintro e w28 ⟨va, vb, rfl, ha, hbb, hb⟩
  have HB28 := Aside0.mk (below_then HB27.out HB27.out.size hb)
  replace C1 := Aside0.mk (⟨C1.out.1, C1.out.2.1, Kd.C_below C1.out.2.2 hb⟩ : _ ∧ _ ∧ Kd.C _ _ _ _ _)
  replace C5 := Aside0.mk (⟨C5.out.1, C5.out.2.1, Kd.C_below C5.out.2.2 hb⟩ : _ ∧ _ ∧ Kd.C _ _ _ _ _)
  clear hb HB27
  obtain ⟨Aa, ca, rfl⟩ := Kd.R_slice ha
  have CA := Aside0.mk (Kd.R_reads' ha)
  clear ha
  obtain ⟨Ab, cb, rfl⟩ := Kd.R_slice hbb
  have CB := Aside0.mk (Kd.R_reads' hbb)
  clear hbb
  go_wp2_with (fail)
  refine (gang_Plan.calls _ _ _ _ _ _ _ nonL 4 _ CA.out.2.2 CA.out.2.1 CB.out.2.2 CB.out.2.1 (gv_below HG0.out HB28.out) sh_noplan).mono ?_
  rintro e w29 ⟨v15, rfl, hv, hb⟩
  have HB29 := Aside0.mk (below_then HB28.out HB28.out.size hb)
  replace C1 := Aside0.mk (⟨C1.out.1, C1.out.2.1, Kd.C_below C1.out.2.2 hb⟩ : _ ∧ _ ∧ Kd.C _ _ _ _ _)
  replace C5 := Aside0.mk (⟨C5.out.1, C5.out.2.1, Kd.C_below C5.out.2.2 hb⟩ : _ ∧ _ ∧ Kd.C _ _ _ _ _)
  replace CA := Aside0.mk (⟨CA.out.1, CA.out.2.1, Kd.C_below CA.out.2.2 hb⟩ : _ ∧ _ ∧ Kd.C _ _ _ _ _)
  replace CB := Aside0.mk (⟨CB.out.1, CB.out.2.1, Kd.C_below CB.out.2.2 hb⟩ : _ ∧ _ ∧ Kd.C _ _ _ _ _)
  clear hb HB28
  clear CA
  clear CB
  clear hv
  go_wp2_with (fail)
  go_wp2_with (fail)
  refine (macadamlaw04_work.calls 0 0 0 0 0 0 _ (by kernel_rfl)).mono ?_
  rintro e w30 ⟨rfl, hb⟩
  have HB30 := Aside0.mk (below_then HB29.out HB29.out.size hb)
  replace C1 := Aside0.mk (⟨C1.out.1, C1.out.2.1, Kd.C_below C1.out.2.2 hb⟩ : _ ∧ _ ∧ Kd.C _ _ _ _ _)
  replace C5 := Aside0.mk (⟨C5.out.1, C5.out.2.1, Kd.C_below C5.out.2.2 hb⟩ : _ ∧ _ ∧ Kd.C _ _ _ _ _)
  clear hb HB29
  go_wp2_with (fail)
  refine (macadamlaw04_work.calls 0 1 2 0 1 2 _ (by kernel_rfl)).mono ?_
  rintro e w31 ⟨rfl, hb⟩
  have HB31 := Aside0.mk (below_then HB30.out HB30.out.size hb)
  replace C1 := Aside0.mk (⟨C1.out.1, C1.out.2.1, Kd.C_below C1.out.2.2 hb⟩ : _ ∧ _ ∧ Kd.C _ _ _ _ _)
  replace C5 := Aside0.mk (⟨C5.out.1, C5.out.2.1, Kd.C_below C5.out.2.2 hb⟩ : _ ∧ _ ∧ Kd.C _ _ _ _ _)
  clear hb HB30
  go_wp2_with (fail)
  refine (macadamlaw04_work.calls 1 0 0 1 0 0 _ (by kernel_rfl)).mono ?_
  rintro e w32 ⟨rfl, hb⟩
  have HB32 := Aside0.mk (below_then HB31.out HB31.out.size hb)
  replace C1 := Aside0.mk (⟨C1.out.1, C1.out.2.1, Kd.C_below C1.out.2.2 hb⟩ : _ ∧ _ ∧ Kd.C _ _ _ _ _)
  replace C5 := Aside0.mk (⟨C5.out.1, C5.out.2.1, Kd.C_below C5.out.2.2 hb⟩ : _ ∧ _ ∧ Kd.C _ _ _ _ _)
  clear hb HB31
  go_wp2_with (fail)
  refine (macadamlaw04_work.calls 2 0 0 2 0 0 _ (by kernel_rfl)).mono ?_
  rintro e w33 ⟨rfl, hb⟩
  have HB33 := Aside0.mk (below_then HB32.out HB32.out.size hb)
  replace C1 := Aside0.mk (⟨C1.out.1, C1.out.2.1, Kd.C_below C1.out.2.2 hb⟩ : _ ∧ _ ∧ Kd.C _ _ _ _ _)
  replace C5 := Aside0.mk (⟨C5.out.1, C5.out.2.1, Kd.C_below C5.out.2.2 hb⟩ : _ ∧ _ ∧ Kd.C _ _ _ _ _)
  clear hb HB32
  go_wp2_with (fail)
  refine (macadamlaw04_work.calls 3 1 1 3 1 1 _ (by kernel_rfl)).mono ?_
  rintro e w34 ⟨rfl, hb⟩
  have HB34 := Aside0.mk (below_then HB33.out HB33.out.size hb)
  replace C1 := Aside0.mk (⟨C1.out.1, C1.out.2.1, Kd.C_below C1.out.2.2 hb⟩ : _ ∧ _ ∧ Kd.C _ _ _ _ _)
  replace C5 := Aside0.mk (⟨C5.out.1, C5.out.2.1, Kd.C_below C5.out.2.2 hb⟩ : _ ∧ _ ∧ Kd.C _ _ _ _ _)
  clear hb HB33
  go_wp2_with ((with_reducible refine gate_dst (N := 146) rfl ?_); refine list_of_step ?_; refine Kd.R_lit_step k59 _ 59 ?hg (N := 146) ?hd (xs := planP) (inner := [.int .i64 0, .int .i64 0, .int .i64 0, .int .i64 0, .int .i64 1, .int .i64 2, .int .i64 1, .int .i64 0, .int .i64 0, .int .i64 2, .int .i64 0, .int .i64 0, .int .i64 3, .int .i64 1, .int .i64 1]) (ok := fun _ => True) (okp := fun _ => True) ?hr ?hp (fun _ hk => hk) trivial (Below.refl _ _) (Nat.le_refl _) (by simp [planP]) ?_; (case hd => rfl); (case hg => rfl); (case hr => first | (go_simp; done) | (go_simp; rfl)); (case hp => exact lit5 _ _ _ _ _ _ _ _); intro v3 w35 ho hb hg_ hnew_; clear hg_ hnew_; have HO := Aside0.mk ho; have HB35 := Aside0.mk (below_then HB34.out HB34.out.size hb); replace C1 := Aside0.mk (⟨C1.out.1, C1.out.2.1, Kd.C_below C1.out.2.2 hb⟩ : _ ∧ _ ∧ Kd.C _ _ _ _ _); replace C5 := Aside0.mk (⟨C5.out.1, C5.out.2.1, Kd.C_below C5.out.2.2 hb⟩ : _ ∧ _ ∧ Kd.C _ _ _ _ _); clear hb ho HB34; (obtain ⟨Ap, cp, rfl⟩ := Kd.R_slice HO.out); have CP := Aside0.mk (Kd.R_reads' HO.out); clear HO)
  go_wp2_with (fail)
  refine (macadamlaw04_same.calls 10 _ _ planP _ _ planP true _ C1.out.2.2 C1.out.2.1 CP.out.2.2 CP.out.2.1 (by kernel_rfl)).mono ?_
  rintro e w36 ⟨rfl, hd⟩
  have hb := hd.below
  clear hd
  have HB36 := Aside0.mk (below_then HB35.out HB35.out.size hb)
  replace C1 := Aside0.mk (⟨C1.out.1, C1.out.2.1, Kd.C_below C1.out.2.2 hb⟩ : _ ∧ _ ∧ Kd.C _ _ _ _ _)
  replace C5 := Aside0.mk (⟨C5.out.1, C5.out.2.1, Kd.C_below C5.out.2.2 hb⟩ : _ ∧ _ ∧ Kd.C _ _ _ _ _)
  replace CP := Aside0.mk (⟨CP.out.1, CP.out.2.1, Kd.C_below CP.out.2.2 hb⟩ : _ ∧ _ ∧ Kd.C _ _ _ _ _)
  clear hb HB35
  clear C1
  clear CP
  go_wp2_with ((with_reducible refine gate_dst (N := 151) rfl ?_); refine list_of_step ?_; refine Kd.R_lit_step (Kd.int .i64) _ 3 ?hg (N := 151) ?hd (xs := mosL) (inner := [.int .i64 0, .int .i64 2]) (ok := fun _ => True) (okp := fun _ => True) ?hr ?hp (fun _ hk => hk) trivial (Below.refl _ _) (Nat.le_refl _) (by simp [mosL]) ?_; (case hd => rfl); (case hg => rfl); (case hr => first | (go_simp; done) | (go_simp; rfl)); (case hp => exact (Reps.one (show Kd.M (Kd.int .i64) _ _ _ (0 : Int) [.int .i64 0] from rfl) (Reps.one (show Kd.M (Kd.int .i64) _ _ _ (2 : Int) [.int .i64 2] from rfl) (Reps.none _ _)))); intro v3 w37 ho hb hg_ hnew_; clear hg_ hnew_; have HO := Aside0.mk ho; have HB37 := Aside0.mk (below_then HB36.out HB36.out.size hb); replace C5 := Aside0.mk (⟨C5.out.1, C5.out.2.1, Kd.C_below C5.out.2.2 hb⟩ : _ ∧ _ ∧ Kd.C _ _ _ _ _); clear hb ho HB36; (obtain ⟨Ap, cp, rfl⟩ := Kd.R_slice HO.out); have CP := Aside0.mk (Kd.R_reads' HO.out); clear HO)
  go_wp2_with (fail)
  refine (macadamref00_Like.calls 10 _ _ mosL _ _ mosL true _ C5.out.2.2 C5.out.2.1 CP.out.2.2 CP.out.2.1 (by kernel_rfl)).mono ?_
  rintro e w38 ⟨rfl, hd⟩
  have hb := hd.below
  clear hd
  have HB38 := Aside0.mk (below_then HB37.out HB37.out.size hb)
  replace C5 := Aside0.mk (⟨C5.out.1, C5.out.2.1, Kd.C_below C5.out.2.2 hb⟩ : _ ∧ _ ∧ Kd.C _ _ _ _ _)
  replace CP := Aside0.mk (⟨CP.out.1, CP.out.2.1, Kd.C_below CP.out.2.2 hb⟩ : _ ∧ _ ∧ Kd.C _ _ _ _ _)
  clear hb HB37
  clear C5
  clear CP
  go_wp2_with (fail)
  go_ret
  exact ⟨by rfl, HB38.out⟩
def macadamlaw04_shovelled.f : Option Bool := some true
theorem macadamlaw04_shovelled.calls (r : Bool) (w : World) (hG : GV w) (h : macadamlaw04_shovelled.f = some r) :
    Calls Tryd.prog 24 #[] w fun e w' => e = .returned (.bool r) ∧ Below w.heap.size w w' := by
  obtain rfl : true = r := by simpa [macadamlaw04_shovelled.f] using h
  exact macadamlaw04_shovelled.calls0 w hG
end Go.Proofs.YtikfghnkbgdbgaaDoor.Q
end
