/- Contracts of functions that FnExactFaceNamed reaches, out of the lines of the kit's print. -/
import Derived.Test.YtlfifbalakgfeaaQFnExactFaceNamedx0
import Derived.Test.YtlfifbalakgfeaaQFnExactFaceNamedx2
import Derived.Test.YtlfifbalakgfeaaQFnExactFaceNamedx4
import Derived.Test.YtlfifbalakgfeaaQFnExactFaceNamedx10
import Derived.Test.YtlfifbalakgfeaaQFnExactFaceNamedx14
namespace Go.Proofs.Ytlfifbalakgfeaa.PFnExactFaceNamed
open Go.RowKit Go.Proofs.YtlfifbalakgfeaaW.PrintWords Go.Proofs.YtlfifbalakgfeaaW.PrintLast Go.Proofs.YtlfifbalakgfeaaW.PrintMore
open Bool renaming true → tT, false → fF
open Go.World renaming block_lt_of_cell? → bL
attribute [local go_sem] max2_int min2_int max_two min_two max_three min_three max_four min_four
set_option linter.unusedVariables false
set_option linter.unusedSimpArgs false
def impl_FaceNamed.l0 : Nat → ByteArray → List (S67) → Int → Int → Option (Int × Int)
 | 0, _, _, _, _ => none
 | k + 1, x1, x12, x13, x14 => if x14 < x13 then (if 0 ≤ x14 then (if x14 < (x12.length : Int) then (if ((rd_T67 x12 x14).f0).toList = x1.toList then (some (x14, 0)) else (impl_FaceNamed.l0 k x1 x12 x13 (wrap64 (x14 + 1)))) else (none)) else (none)) else (some (0, 3))
def impl_FaceNamed.f (k : Nat) (a0_0 : Int) (a0_1 : Int) (l0_2 : List (S48)) (l0_3 : List (S67)) (a1 : ByteArray) : Option (Int × Int) := (impl_ValidDrawing.f k a0_0 a0_1 l0_2 l0_3).bind fun t347 => (if t347 = true then (impl_FaceNamed.l0 k a1 l0_3 (l0_3.length : Int) 0) else (some (0, 1)))
theorem impl_FaceNamed.mono_l : ∀ k, (∀ y0 y1 y2 y3, LeO (impl_FaceNamed.l0 k y0 y1 y2 y3) (impl_FaceNamed.l0 (k + 1) y0 y1 y2 y3))
 | 0 => fun _ _ _ _ r h => by simp [impl_FaceNamed.l0] at h
 | k + 1 => by
  have ih0 := impl_FaceNamed.mono_l k
  ·intro y0 y1 y2 y3
   unfold impl_FaceNamed.l0
   repeat' first
   | (with_reducible exact ih0 _ _ _ _)
   | (with_reducible exact impl_ValidDrawing.mono _ _ _ _ _)
   | (with_reducible exact LeO.refl _)
   | (with_reducible exact LeO.none _)
   | (with_reducible refine LeO.ite ?_ ?_)
   | (with_reducible refine LeO.bind ?_ (fun _ => ?_))
   | exact ih0 _ _ _ _
   | exact impl_ValidDrawing.mono _ _ _ _ _
   | exact LeO.none _
   | refine LeO.ite ?_ ?_
   | refine LeO.bind ?_ (fun _ => ?_)
theorem impl_FaceNamed.mono : ∀ a0 a1 a2 a3 a4 k, LeO (impl_FaceNamed.f k a0 a1 a2 a3 a4) (impl_FaceNamed.f (k + 1) a0 a1 a2 a3 a4) := by
 intro a0 a1 a2 a3 a4 k
 have ih0 := impl_FaceNamed.mono_l k
 unfold impl_FaceNamed.f
 repeat' first
   | (with_reducible exact ih0 _ _ _ _)
   | (with_reducible exact impl_ValidDrawing.mono _ _ _ _ _)
   | (with_reducible exact LeO.refl _)
   | (with_reducible exact LeO.none _)
   | (with_reducible refine LeO.ite ?_ ?_)
   | (with_reducible refine LeO.bind ?_ (fun _ => ?_))
   | exact ih0 _ _ _ _
   | exact impl_ValidDrawing.mono _ _ _ _ _
   | exact LeO.none _
   | refine LeO.ite ?_ ?_
   | refine LeO.bind ?_ (fun _ => ?_)
set_option maxHeartbeats 8000000 in
set_option maxRecDepth 100000 in
theorem impl_FaceNamed.calls (k : Nat) (a0_0 : Int) (a0_1 : Int) (A0_2 : Option Addr) (c0_2 : Nat) (l0_2 : List (S48)) (A0_3 : Option Addr) (c0_3 : Nat) (l0_3 : List (S67)) (a1 : ByteArray) (r1 : Int) (r2 : Int) (w : World) (hr0_2 : Kd.C k48 w A0_2 l0_2.length l0_2) (hc0_2 : l0_2.length ≤ c0_2) (hr0_3 : Kd.C k67 w A0_3 l0_3.length l0_3) (hc0_3 : l0_3.length ≤ c0_3) (h : impl_FaceNamed.f k a0_0 a0_1 l0_2 l0_3 a1 = some (r1, r2)) :
  Calls Try.prog 16 #[.agg #[.int .i64 a0_0, .int .i64 a0_1, .slice A0_2 l0_2.length c0_2, .slice A0_3 l0_3.length c0_3], .string a1] w fun e w' => e = .returned (.tuple #[.int .i64 r1, .int .i64 r2]) ∧ Below w.heap.size w w' := by
 have hu31 := Try.underlying31
 have hu67 := Try.underlying67
 have HR0_2 := Aside0.mk hr0_2
 have HC0_2 := Aside0.mk hc0_2
 clear hr0_2 hc0_2
 have HR0_3 := Aside0.mk hr0_3
 have HC0_3 := Aside0.mk hc0_3
 clear hr0_3 hc0_3
 have HB := Aside0.mk (Below.refl w.heap.size w)
 have H : ((impl_ValidDrawing.f k a0_0 a0_1 l0_2 l0_3).bind fun t347 => (if t347 = true then (impl_FaceNamed.l0 k a1 l0_3 (l0_3.length : Int) 0) else (some (0, 1)))) = some (r1, r2) := h
 clear h
 replace H := Option.bind_eq_some_iff.mp H
 obtain ⟨t347, A30, H⟩ := H
 replace H : (if t347 = true then (impl_FaceNamed.l0 k a1 l0_3 (l0_3.length : Int) 0) else (some (0, 1))) = some (r1, r2) := H
 have A3 := Aside0.mk A30
 clear A30
 by_cases c4 : t347 = true
 ·subst c4
  have H1 : (impl_FaceNamed.l0 k a1 l0_3 (l0_3.length : Int) 0) = some (r1, r2) := by rw [if_pos rfl] at H; exact H
  clear H
  have H := H1
  clear H1
  have H' := Aside0.mk H
  clear H
  go_enter Try.func16, Try.ntmps16
  go_wp2_with (first | ((with_reducible refine gate_dst (N := 2) rfl ?_); refine bx (cs := #[.int .i64 a0_0, .int .i64 a0_1, .slice A0_2 l0_2.length c0_2, .slice A0_3 l0_3.length c0_3]) (t := 31) ?_; intro gb346 hg w5 hbox hb; have n0_ := sb hb; have n1_ := Aside0.mk (hbox); have n2_ := zb hg; have n3_ := zb hg; clear HB; have HB := n0_; have BK346 := n1_; have GW346 := n2_; have GE346 := n3_; clear n0_ n1_ n2_ n3_; clear hb hbox hg; have hcz6_0 := ck BK346 0; have hcz6_1 := ck BK346 1; have hcz6_2 := ck BK346 2; have hcz6_3 := ck BK346 3; have hfz6_0 := blk_frozen BK346.out 0; have hfz6_1 := blk_frozen BK346.out 1; have hfz6_2 := blk_frozen BK346.out 2; have hfz6_3 := blk_frozen BK346.out 3) | ((with_reducible refine gate_callee (f := 13) rfl ?_); refine goesL_ (some 9) rfl rfl Try.func13 (by kernel_rfl) rfl #[.agg #[.int .i64 a0_0, .int .i64 a0_1, .slice A0_2 l0_2.length c0_2, .slice A0_3 l0_3.length c0_3]] rfl (by (try simp only [List.map_toArray, List.map_cons, List.map_nil]); first | done | rfl | (simp only [List.length_drop, List.length_take]; rfl)) ?_; (with_reducible refine (impl_ValidDrawing.calls k a0_0 a0_1 _ _ l0_2 _ _ l0_3 true _ ?side1 ?side2 ?side3 ?side4 A3.out).mono ?_); (case side1 => repeat (first | exact (Kd.C_below HR0_2.out HB.out) | (with_reducible refine Kd.C_alloc ?_ _) | (with_reducible refine Kd.C_drewN ?_ _) | (with_reducible refine Kd.C_drew ?_))); (case side2 => exact HC0_2.out); (case side3 => repeat (first | exact (Kd.C_below HR0_3.out HB.out) | (with_reducible refine Kd.C_alloc ?_ _) | (with_reducible refine Kd.C_drewN ?_ _) | (with_reducible refine Kd.C_drew ?_))); (case side4 => exact HC0_3.out); rintro e w7 ⟨rfl, hb⟩; refine ⟨_, rfl, ?_⟩; have n0_ := kb BK346 hb; have n1_ := sb hb; clear BK346; clear HB; have BK346 := n0_; have HB := n1_; clear n0_ n1_; (try clear hb); (try clear hb2); (try clear hk); (try clear hi); have hcz8_0 := ck BK346 0; have hcz8_1 := ck BK346 1; have hcz8_2 := ck BK346 2; have hcz8_3 := ck BK346 3; have hfz8_0 := blk_frozen BK346.out 0; have hfz8_1 := blk_frozen BK346.out 1; have hfz8_2 := blk_frozen BK346.out 2; have hfz8_3 := blk_frozen BK346.out 3))
  go_loopg [14] k (fun kq v14 w' => ∃ (x14_1 : Int), v14 = .int .i64 x14_1 ∧ Aside0 (impl_FaceNamed.l0 kq a1 l0_3 (l0_3.length : Int) x14_1 = some (r1, r2)) ∧ Aside0 (kq ≤ k) ∧ Aside0 (w'.heap[gb346]? = some (.cells #[.int .i64 a0_0, .int .i64 a0_1, (.slice A0_2 l0_2.length c0_2), (.slice A0_3 l0_3.length c0_3)] 31 (0, 0))) ∧ Aside0 (Below w.heap.size w w'))
  case atStart => exact ⟨(0), (by first | rfl | (simp; done) | (simp [*]; done)), H', ⟨Nat.le_refl _⟩, ⟨by exact bk BK346⟩, ⟨by repeat (first | (with_reducible first | exact HB.out | apply below_alloc | apply pw_below_drewN | apply below_drew1 | refine below_set ?_ GE346.out) | exact HB.out)⟩⟩
  case round =>
   clear H'
   try clear c1
   try clear p2
   try clear c4
   try clear hcz6_0
   try clear hcz6_1
   try clear hcz6_2
   try clear hcz6_3
   try clear hcz8_0
   try clear hcz8_1
   try clear hcz8_2
   try clear hcz8_3
   try clear hfz6_0
   try clear hfz6_1
   try clear hfz6_2
   try clear hfz6_3
   try clear hfz8_0
   try clear hfz8_1
   try clear hfz8_2
   try clear hfz8_3
   obtain ⟨x14_1, rfl, HA, HK1, BK346, HB⟩ := hrel
   cases gk with
   | zero => exact absurd HA.out (by simp [impl_FaceNamed.l0])
   | succ k1 =>
    have H := HA.out
    clear HA
    simp only [impl_FaceNamed.l0] at H
    by_cases c9 : x14_1 < (l0_3.length : Int)
    ·rw [if_pos c9] at H
     have c9b0 : decide (x14_1 < (l0_3.length : Int)) = true := decide_eq_true c9
     clear c9
     by_cases c10 : 0 ≤ x14_1
     ·rw [if_pos c10] at H
      have c10b0 : decide (0 ≤ x14_1) = true := decide_eq_true c10
      clear c10
      by_cases c11 : x14_1 < (l0_3.length : Int)
      ·rw [if_pos c11] at H
       have c11b0 : decide (x14_1 < (l0_3.length : Int)) = true := decide_eq_true c11
       clear c11
       by_cases c12 : ((rd_T67 l0_3 x14_1).f0).toList = a1.toList
       ·rw [if_pos c12] at H
        have c12b0 : (((rd_T67 l0_3 x14_1).f0).toList == a1.toList) = true := beq_iff_eq.mpr c12
        have c12b1 : (((rd_T67 l0_3 x14_1).f0).toList != a1.toList) = false := bne_eq_false_iff_eq.mpr c12
        clear c12
        simp only [Option.some.injEq, Prod.mk.injEq] at H
        obtain ⟨rfl, rfl⟩ := H
        have p348 : 0 ≤ (x14_1 : Int) := da
        have q348 : x14_1 < (l0_3.length : Int) := da
        obtain ⟨ad348, A348_1, c348_1, e348, hx348_0, hx348_1, hl348_1, hi348_1⟩ := at_T67 HR0_3.out x14_1 p348 q348
        cases e348
        replace hx348_0 := (HB.out.cell (bL w _ hx348_0)).trans hx348_0
        replace hx348_1 := (HB.out.cell (bL w _ hx348_1)).trans hx348_1
        have HR348_1 := Aside0.mk hi348_1
        have HC348_1 := Aside0.mk hl348_1
        clear hi348_1 hl348_1
        replace p348 := eq_true p348
        replace q348 := eq_true q348
        go_wp2_with (first | ((with_reducible refine gate_dst (N := 7) rfl ?_); refine bx (cs := #[.string (⟨#[]⟩ : ByteArray), .slice none 0 0]) (t := 67) ?_; intro gb349 hg w13 hbox hb; have n0_ := kb BK346 hb; have n1_ := sb hb; have n2_ := Aside0.mk (hbox); have n3_ := zb hg; have n4_ := zb hg; have n5_ := nl BK346 hg; have n6_ := ng BK346 hg; clear BK346; clear HB; have BK346 := n0_; have HB := n1_; have BK349 := n2_; have GW349 := n3_; have GE349 := n4_; have NB346_349 := n5_; have NB349_346 := n6_; clear n0_ n1_ n2_ n3_ n4_ n5_ n6_; clear hb hbox hg; have hnb14 := NB349_346.out; have hnc14 := NB346_349.out; have hcz15_0 := ck BK349 0; have hcz15_1 := ck BK349 1; have hfz15_0 := blk_frozen BK349.out 0; have hfz15_1 := blk_frozen BK349.out 1))
        go_ret2
        exact ⟨by first | rfl | (simp [errW_none, errW_some] <;> rfl) | (simp [*, errW_none, errW_some] <;> rfl), by repeat (first | (with_reducible first | exact HB.out | apply below_alloc | apply pw_below_drewN | apply below_drew1 | refine below_set ?_ GE346.out | refine below_set ?_ GE349.out) | exact HB.out)⟩
       ·rw [if_neg c12] at H
        have c12b0 : (((rd_T67 l0_3 x14_1).f0).toList == a1.toList) = false := beq_eq_false_iff_ne.mpr c12
        have c12b1 : (((rd_T67 l0_3 x14_1).f0).toList != a1.toList) = true := bne_iff_ne.mpr c12
        have H' := Aside0.mk H
        clear H
        have p348 : 0 ≤ (x14_1 : Int) := da
        have q348 : x14_1 < (l0_3.length : Int) := da
        obtain ⟨ad348, A348_1, c348_1, e348, hx348_0, hx348_1, hl348_1, hi348_1⟩ := at_T67 HR0_3.out x14_1 p348 q348
        cases e348
        replace hx348_0 := (HB.out.cell (bL w _ hx348_0)).trans hx348_0
        replace hx348_1 := (HB.out.cell (bL w _ hx348_1)).trans hx348_1
        have HR348_1 := Aside0.mk hi348_1
        have HC348_1 := Aside0.mk hl348_1
        clear hi348_1 hl348_1
        replace p348 := eq_true p348
        replace q348 := eq_true q348
        go_wp2_with (first | ((with_reducible refine gate_dst (N := 7) rfl ?_); refine bx (cs := #[.string (⟨#[]⟩ : ByteArray), .slice none 0 0]) (t := 67) ?_; intro gb349 hg w16 hbox hb; have n0_ := kb BK346 hb; have n1_ := sb hb; have n2_ := Aside0.mk (hbox); have n3_ := zb hg; have n4_ := zb hg; have n5_ := nl BK346 hg; have n6_ := ng BK346 hg; clear BK346; clear HB; have BK346 := n0_; have HB := n1_; have BK349 := n2_; have GW349 := n3_; have GE349 := n4_; have NB346_349 := n5_; have NB349_346 := n6_; clear n0_ n1_ n2_ n3_ n4_ n5_ n6_; clear hb hbox hg; have hnb17 := NB349_346.out; have hnc17 := NB346_349.out; have hcz18_0 := ck BK349 0; have hcz18_1 := ck BK349 1; have hfz18_0 := blk_frozen BK349.out 0; have hfz18_1 := blk_frozen BK349.out 1))
        go_roundg k1
        case measure => have := HK1.out; omega
        case rel => exact ⟨(wrap64 (x14_1 + 1)), (by first | rfl | (simp; done) | (simp [*]; done)), H', ⟨by have := HK1.out; omega⟩, ⟨by refine bF NB346_349.out ?_; refine bF NB346_349.out ?_; exact bk BK346⟩, ⟨by repeat (first | (with_reducible first | exact HB.out | apply below_alloc | apply pw_below_drewN | apply below_drew1 | refine below_set ?_ GE346.out | refine below_set ?_ GE349.out) | exact HB.out)⟩⟩
      ·first | (exfalso; have z_ := of_decide_eq_true c9b0; omega) | (rw [if_neg c11] at H; exact absurd H (by simp))
     ·rw [if_neg c10] at H
      exact absurd H (by simp)
    ·rw [if_neg c9] at H
     have c9b0 : decide (x14_1 < (l0_3.length : Int)) = false := decide_eq_false c9
     clear c9
     simp only [Option.some.injEq, Prod.mk.injEq] at H
     obtain ⟨rfl, rfl⟩ := H
     go_wp2
     go_ret2
     exact ⟨by first | rfl | (simp [errW_none, errW_some] <;> rfl) | (simp [*, errW_none, errW_some] <;> rfl), by repeat (first | (with_reducible first | exact HB.out | apply below_alloc | apply pw_below_drewN | apply below_drew1 | refine below_set ?_ GE346.out) | exact HB.out)⟩
 ·replace c4 := Bool.eq_false_iff.mpr c4
  subst c4
  have H1 : (some (0, 1)) = some (r1, r2) := by rw [if_neg (show ¬ (false = true) by decide)] at H; exact H
  clear H
  have H := H1
  clear H1
  simp only [Option.some.injEq, Prod.mk.injEq] at H
  obtain ⟨rfl, rfl⟩ := H
  go_enter Try.func16, Try.ntmps16
  go_wp2_with (first | ((with_reducible refine gate_dst (N := 2) rfl ?_); refine bx (cs := #[.int .i64 a0_0, .int .i64 a0_1, .slice A0_2 l0_2.length c0_2, .slice A0_3 l0_3.length c0_3]) (t := 31) ?_; intro gb346 hg w19 hbox hb; have n0_ := sb hb; have n1_ := Aside0.mk (hbox); have n2_ := zb hg; have n3_ := zb hg; clear HB; have HB := n0_; have BK346 := n1_; have GW346 := n2_; have GE346 := n3_; clear n0_ n1_ n2_ n3_; clear hb hbox hg; have hcz20_0 := ck BK346 0; have hcz20_1 := ck BK346 1; have hcz20_2 := ck BK346 2; have hcz20_3 := ck BK346 3; have hfz20_0 := blk_frozen BK346.out 0; have hfz20_1 := blk_frozen BK346.out 1; have hfz20_2 := blk_frozen BK346.out 2; have hfz20_3 := blk_frozen BK346.out 3) | ((with_reducible refine gate_callee (f := 13) rfl ?_); refine goesL_ (some 9) rfl rfl Try.func13 (by kernel_rfl) rfl #[.agg #[.int .i64 a0_0, .int .i64 a0_1, .slice A0_2 l0_2.length c0_2, .slice A0_3 l0_3.length c0_3]] rfl (by (try simp only [List.map_toArray, List.map_cons, List.map_nil]); first | done | rfl | (simp only [List.length_drop, List.length_take]; rfl)) ?_; (with_reducible refine (impl_ValidDrawing.calls k a0_0 a0_1 _ _ l0_2 _ _ l0_3 false _ ?side1 ?side2 ?side3 ?side4 A3.out).mono ?_); (case side1 => repeat (first | exact (Kd.C_below HR0_2.out HB.out) | (with_reducible refine Kd.C_alloc ?_ _) | (with_reducible refine Kd.C_drewN ?_ _) | (with_reducible refine Kd.C_drew ?_))); (case side2 => exact HC0_2.out); (case side3 => repeat (first | exact (Kd.C_below HR0_3.out HB.out) | (with_reducible refine Kd.C_alloc ?_ _) | (with_reducible refine Kd.C_drewN ?_ _) | (with_reducible refine Kd.C_drew ?_))); (case side4 => exact HC0_3.out); rintro e w21 ⟨rfl, hb⟩; refine ⟨_, rfl, ?_⟩; have n0_ := kb BK346 hb; have n1_ := sb hb; clear BK346; clear HB; have BK346 := n0_; have HB := n1_; clear n0_ n1_; (try clear hb); (try clear hb2); (try clear hk); (try clear hi)))
  go_ret2
  exact ⟨by first | rfl | (simp [errW_none, errW_some] <;> rfl) | (simp [*, errW_none, errW_some] <;> rfl), by repeat (first | (with_reducible first | exact HB.out | apply below_alloc | apply pw_below_drewN | apply below_drew1 | refine below_set ?_ GE346.out) | exact HB.out)⟩
def laws_FnExactFaceNamed.j0 : Nat → Bool → Int → Int → List (S46) → List (S92) → Int → Int → List (S48) → List (S67) → Option (Bool)
 | 0, _, _, _, _, _, _, _, _, _ => none
 | k + 1, x41, x351000, x351001, x351002, x351003, x371000, x371001, x371002, x371003 => if x41 = true then (some false) else ((laws_toDrawing.f k x351000 x351001 x351002 x351003).bind fun bt373 => ((laws_eqDrawing.f k x371000 x371001 x371002 x371003 bt373.1 bt373.2.1 bt373.2.2.1 bt373.2.2.2).bind fun t381 => (if t381 = true then (some true) else (some false))))
def laws_FnExactFaceNamed.f (k : Nat) (a0_0 : Int) (a0_1 : Int) (l0_2 : List (S46)) (l0_3 : List (S92)) (a1 : ByteArray) : Option (Bool) := if (a1.size : Int) > 1048576 then (some true) else ((laws_szDrawing.f k a0_0 a0_1 l0_2 l0_3 1048576).bind fun t351 => (if t351 < 0 then (some true) else ((laws_toDrawing.f k a0_0 a0_1 l0_2 l0_3).bind fun bt352 => ((spec_FaceNamed.f k bt352.1 bt352.2.1 bt352.2.2.1 bt352.2.2.2 a1).bind fun bt360 => ((laws_toDrawing.f k a0_0 a0_1 l0_2 l0_3).bind fun bt362 => ((impl_FaceNamed.f k bt362.1 bt362.2.1 bt362.2.2.1 bt362.2.2.2 a1).bind fun bt371 => (if bt371.1 = bt360.1 then (laws_FnExactFaceNamed.j0 k (bt371.2 != bt360.2) a0_0 a0_1 l0_2 l0_3 bt362.1 bt362.2.1 bt362.2.2.1 bt362.2.2.2) else (laws_FnExactFaceNamed.j0 k true a0_0 a0_1 l0_2 l0_3 bt362.1 bt362.2.1 bt362.2.2.1 bt362.2.2.2))))))))
theorem laws_FnExactFaceNamed.mono_l : ∀ k, (∀ y0 y1 y2 y3 y4 y5 y6 y7 y8, LeO (laws_FnExactFaceNamed.j0 k y0 y1 y2 y3 y4 y5 y6 y7 y8) (laws_FnExactFaceNamed.j0 (k + 1) y0 y1 y2 y3 y4 y5 y6 y7 y8))
 | 0 => fun _ _ _ _ _ _ _ _ _ r h => by simp [laws_FnExactFaceNamed.j0] at h
 | k + 1 => by
  have ih0 := laws_FnExactFaceNamed.mono_l k
  ·intro y0 y1 y2 y3 y4 y5 y6 y7 y8
   unfold laws_FnExactFaceNamed.j0
   repeat' first
   | (with_reducible exact ih0 _ _ _ _ _ _ _ _ _)
   | (with_reducible exact impl_FaceNamed.mono _ _ _ _ _ _)
   | (with_reducible exact laws_eqDrawing.mono _ _ _ _ _ _ _ _ _)
   | (with_reducible exact laws_szDrawing.mono _ _ _ _ _ _)
   | (with_reducible exact laws_toDrawing.mono _ _ _ _ _)
   | (with_reducible exact spec_FaceNamed.mono _ _ _ _ _ _)
   | (with_reducible exact LeO.refl _)
   | (with_reducible exact LeO.none _)
   | (with_reducible refine LeO.ite ?_ ?_)
   | (with_reducible refine LeO.bind ?_ (fun _ => ?_))
   | exact ih0 _ _ _ _ _ _ _ _ _
   | exact impl_FaceNamed.mono _ _ _ _ _ _
   | exact laws_eqDrawing.mono _ _ _ _ _ _ _ _ _
   | exact laws_szDrawing.mono _ _ _ _ _ _
   | exact laws_toDrawing.mono _ _ _ _ _
   | exact spec_FaceNamed.mono _ _ _ _ _ _
   | exact LeO.none _
   | refine LeO.ite ?_ ?_
   | refine LeO.bind ?_ (fun _ => ?_)
theorem laws_FnExactFaceNamed.mono : ∀ a0 a1 a2 a3 a4 k, LeO (laws_FnExactFaceNamed.f k a0 a1 a2 a3 a4) (laws_FnExactFaceNamed.f (k + 1) a0 a1 a2 a3 a4) := by
 intro a0 a1 a2 a3 a4 k
 have ih0 := laws_FnExactFaceNamed.mono_l k
 unfold laws_FnExactFaceNamed.f
 repeat' first
   | (with_reducible exact ih0 _ _ _ _ _ _ _ _ _)
   | (with_reducible exact impl_FaceNamed.mono _ _ _ _ _ _)
   | (with_reducible exact laws_eqDrawing.mono _ _ _ _ _ _ _ _ _)
   | (with_reducible exact laws_szDrawing.mono _ _ _ _ _ _)
   | (with_reducible exact laws_toDrawing.mono _ _ _ _ _)
   | (with_reducible exact spec_FaceNamed.mono _ _ _ _ _ _)
   | (with_reducible exact LeO.refl _)
   | (with_reducible exact LeO.none _)
   | (with_reducible refine LeO.ite ?_ ?_)
   | (with_reducible refine LeO.bind ?_ (fun _ => ?_))
   | exact ih0 _ _ _ _ _ _ _ _ _
   | exact impl_FaceNamed.mono _ _ _ _ _ _
   | exact laws_eqDrawing.mono _ _ _ _ _ _ _ _ _
   | exact laws_szDrawing.mono _ _ _ _ _ _
   | exact laws_toDrawing.mono _ _ _ _ _
   | exact spec_FaceNamed.mono _ _ _ _ _ _
   | exact LeO.none _
   | refine LeO.ite ?_ ?_
   | refine LeO.bind ?_ (fun _ => ?_)
set_option maxHeartbeats 8000000 in
set_option maxRecDepth 100000 in
theorem laws_FnExactFaceNamed.calls (k : Nat) (a0_0 : Int) (a0_1 : Int) (A0_2 : Option Addr) (c0_2 : Nat) (l0_2 : List (S46)) (A0_3 : Option Addr) (c0_3 : Nat) (l0_3 : List (S92)) (a1 : ByteArray) (w : World) (hr0_2 : Kd.C k46 w A0_2 l0_2.length l0_2) (hc0_2 : l0_2.length ≤ c0_2) (hr0_3 : Kd.C k92 w A0_3 l0_3.length l0_3) (hc0_3 : l0_3.length ≤ c0_3) (h : laws_FnExactFaceNamed.f k a0_0 a0_1 l0_2 l0_3 a1 = some true) :
  Calls Try.prog 4 #[.agg #[.int .i64 a0_0, .int .i64 a0_1, .slice A0_2 l0_2.length c0_2, .slice A0_3 l0_3.length c0_3], .string a1] w fun e w' => e = .returned (.bool true) ∧ Below w.heap.size w w' := by
 have hu25 := Try.underlying25
 have hu31 := Try.underlying31
 have HR0_2 := Aside0.mk hr0_2
 have HC0_2 := Aside0.mk hc0_2
 clear hr0_2 hc0_2
 have HR0_3 := Aside0.mk hr0_3
 have HC0_3 := Aside0.mk hc0_3
 clear hr0_3 hc0_3
 have HB := Aside0.mk (Below.refl w.heap.size w)
 have H : (if (a1.size : Int) > 1048576 then (some true) else ((laws_szDrawing.f k a0_0 a0_1 l0_2 l0_3 1048576).bind fun t351 => (if t351 < 0 then (some true) else ((laws_toDrawing.f k a0_0 a0_1 l0_2 l0_3).bind fun bt352 => ((spec_FaceNamed.f k bt352.1 bt352.2.1 bt352.2.2.1 bt352.2.2.2 a1).bind fun bt360 => ((laws_toDrawing.f k a0_0 a0_1 l0_2 l0_3).bind fun bt362 => ((impl_FaceNamed.f k bt362.1 bt362.2.1 bt362.2.2.1 bt362.2.2.2 a1).bind fun bt371 => (if bt371.1 = bt360.1 then (laws_FnExactFaceNamed.j0 k (bt371.2 != bt360.2) a0_0 a0_1 l0_2 l0_3 bt362.1 bt362.2.1 bt362.2.2.1 bt362.2.2.2) else (laws_FnExactFaceNamed.j0 k true a0_0 a0_1 l0_2 l0_3 bt362.1 bt362.2.1 bt362.2.2.1 bt362.2.2.2))))))))) = some true := h
 clear h
 by_cases c3 : (a1.size : Int) > 1048576
 ·rw [if_pos c3] at H
  have c3b0 : decide (1048576 < (a1.size : Int)) = true := decide_eq_true c3
  have c3b1 : decide (1048576 < a1.size) = true := decide_eq_true (by omega)
  clear c3
  clear H
  go_enter Try.func4, Try.ntmps4
  go_wp2_with (first | ((with_reducible refine gate_dst (N := 2) rfl ?_); refine bx (cs := #[.int .i64 a0_0, .int .i64 a0_1, .slice A0_2 l0_2.length c0_2, .slice A0_3 l0_3.length c0_3]) (t := 25) ?_; intro gb350 hg w4 hbox hb; have n0_ := sb hb; have n1_ := Aside0.mk (hbox); have n2_ := zb hg; have n3_ := zb hg; clear HB; have HB := n0_; have BK350 := n1_; have GW350 := n2_; have GE350 := n3_; clear n0_ n1_ n2_ n3_; clear hb hbox hg))
  go_ret
  exact ⟨by first | rfl | (simp [errW_none, errW_some] <;> rfl) | (simp [*, errW_none, errW_some] <;> rfl), by repeat (first | (with_reducible first | exact HB.out | apply below_alloc | apply pw_below_drewN | apply below_drew1 | refine below_set ?_ GE350.out) | exact HB.out)⟩
 ·rw [if_neg c3] at H
  have c3b0 : decide (1048576 < (a1.size : Int)) = false := decide_eq_false c3
  have c3b1 : decide (1048576 < a1.size) = false := decide_eq_false (by omega)
  clear c3
  replace H := Option.bind_eq_some_iff.mp H
  obtain ⟨t351, A50, H⟩ := H
  replace H : (if t351 < 0 then (some true) else ((laws_toDrawing.f k a0_0 a0_1 l0_2 l0_3).bind fun bt352 => ((spec_FaceNamed.f k bt352.1 bt352.2.1 bt352.2.2.1 bt352.2.2.2 a1).bind fun bt360 => ((laws_toDrawing.f k a0_0 a0_1 l0_2 l0_3).bind fun bt362 => ((impl_FaceNamed.f k bt362.1 bt362.2.1 bt362.2.2.1 bt362.2.2.2 a1).bind fun bt371 => (if bt371.1 = bt360.1 then (laws_FnExactFaceNamed.j0 k (bt371.2 != bt360.2) a0_0 a0_1 l0_2 l0_3 bt362.1 bt362.2.1 bt362.2.2.1 bt362.2.2.2) else (laws_FnExactFaceNamed.j0 k true a0_0 a0_1 l0_2 l0_3 bt362.1 bt362.2.1 bt362.2.2.1 bt362.2.2.2))))))) = some true := H
  have A5 := Aside0.mk A50
  clear A50
  by_cases c6 : t351 < 0
  ·rw [if_pos c6] at H
   have c6b0 : decide (t351 < 0) = true := decide_eq_true c6
   clear c6
   clear H
   go_enter Try.func4, Try.ntmps4
   go_wp2_with (first | ((with_reducible refine gate_dst (N := 2) rfl ?_); refine bx (cs := #[.int .i64 a0_0, .int .i64 a0_1, .slice A0_2 l0_2.length c0_2, .slice A0_3 l0_3.length c0_3]) (t := 25) ?_; intro gb350 hg w7 hbox hb; have n0_ := sb hb; have n1_ := Aside0.mk (hbox); have n2_ := zb hg; have n3_ := zb hg; clear HB; have HB := n0_; have BK350 := n1_; have GW350 := n2_; have GE350 := n3_; clear n0_ n1_ n2_ n3_; clear hb hbox hg; have hcz8_0 := ck BK350 0; have hcz8_1 := ck BK350 1; have hcz8_2 := ck BK350 2; have hcz8_3 := ck BK350 3; have hfz8_0 := blk_frozen BK350.out 0; have hfz8_1 := blk_frozen BK350.out 1; have hfz8_2 := blk_frozen BK350.out 2; have hfz8_3 := blk_frozen BK350.out 3) | ((with_reducible refine gate_callee (f := 10) rfl ?_); refine goesL_ (some 16) rfl rfl Try.func10 (by kernel_rfl) rfl #[.agg #[.int .i64 a0_0, .int .i64 a0_1, .slice A0_2 l0_2.length c0_2, .slice A0_3 l0_3.length c0_3], .int .i64 1048576] rfl (by (try simp only [List.map_toArray, List.map_cons, List.map_nil]); first | done | rfl | (simp only [List.length_drop, List.length_take]; rfl)) ?_; (with_reducible refine (laws_szDrawing.calls k a0_0 a0_1 _ _ l0_2 _ _ l0_3 1048576 t351 _ ?side1 ?side2 ?side3 ?side4 A5.out).mono ?_); (case side1 => repeat (first | exact (Kd.C_below HR0_2.out HB.out) | (with_reducible refine Kd.C_alloc ?_ _) | (with_reducible refine Kd.C_drewN ?_ _) | (with_reducible refine Kd.C_drew ?_))); (case side2 => exact HC0_2.out); (case side3 => repeat (first | exact (Kd.C_below HR0_3.out HB.out) | (with_reducible refine Kd.C_alloc ?_ _) | (with_reducible refine Kd.C_drewN ?_ _) | (with_reducible refine Kd.C_drew ?_))); (case side4 => exact HC0_3.out); rintro e w9 ⟨rfl, hb⟩; refine ⟨_, rfl, ?_⟩; have n0_ := kb BK350 hb; have n1_ := sb hb; clear BK350; clear HB; have BK350 := n0_; have HB := n1_; clear n0_ n1_; (try clear hb); (try clear hb2); (try clear hk); (try clear hi)))
   go_ret
   exact ⟨by first | rfl | (simp [errW_none, errW_some] <;> rfl) | (simp [*, errW_none, errW_some] <;> rfl), by repeat (first | (with_reducible first | exact HB.out | apply below_alloc | apply pw_below_drewN | apply below_drew1 | refine below_set ?_ GE350.out) | exact HB.out)⟩
  ·rw [if_neg c6] at H
   have c6b0 : decide (t351 < 0) = false := decide_eq_false c6
   clear c6
   replace H := Option.bind_eq_some_iff.mp H
   obtain ⟨⟨t352, t353, t354, t357⟩, A100, H⟩ := H
   replace H : ((spec_FaceNamed.f k t352 t353 t354 t357 a1).bind fun bt360 => ((laws_toDrawing.f k a0_0 a0_1 l0_2 l0_3).bind fun bt362 => ((impl_FaceNamed.f k bt362.1 bt362.2.1 bt362.2.2.1 bt362.2.2.2 a1).bind fun bt371 => (if bt371.1 = bt360.1 then (laws_FnExactFaceNamed.j0 k (bt371.2 != bt360.2) a0_0 a0_1 l0_2 l0_3 bt362.1 bt362.2.1 bt362.2.2.1 bt362.2.2.2) else (laws_FnExactFaceNamed.j0 k true a0_0 a0_1 l0_2 l0_3 bt362.1 bt362.2.1 bt362.2.2.1 bt362.2.2.2))))) = some true := H
   have A10 := Aside0.mk A100
   clear A100
   replace H := Option.bind_eq_some_iff.mp H
   obtain ⟨⟨t360, t361⟩, A110, H⟩ := H
   replace H : ((laws_toDrawing.f k a0_0 a0_1 l0_2 l0_3).bind fun bt362 => ((impl_FaceNamed.f k bt362.1 bt362.2.1 bt362.2.2.1 bt362.2.2.2 a1).bind fun bt371 => (if bt371.1 = t360 then (laws_FnExactFaceNamed.j0 k (bt371.2 != t361) a0_0 a0_1 l0_2 l0_3 bt362.1 bt362.2.1 bt362.2.2.1 bt362.2.2.2) else (laws_FnExactFaceNamed.j0 k true a0_0 a0_1 l0_2 l0_3 bt362.1 bt362.2.1 bt362.2.2.1 bt362.2.2.2)))) = some true := H
   have A11 := Aside0.mk A110
   clear A110
   replace H := Option.bind_eq_some_iff.mp H
   obtain ⟨⟨t362, t363, t364, t367⟩, A120, H⟩ := H
   replace H : ((impl_FaceNamed.f k t362 t363 t364 t367 a1).bind fun bt371 => (if bt371.1 = t360 then (laws_FnExactFaceNamed.j0 k (bt371.2 != t361) a0_0 a0_1 l0_2 l0_3 t362 t363 t364 t367) else (laws_FnExactFaceNamed.j0 k true a0_0 a0_1 l0_2 l0_3 t362 t363 t364 t367))) = some true := H
   have A12 := Aside0.mk A120
   clear A120
   replace H := Option.bind_eq_some_iff.mp H
   obtain ⟨⟨t371, t372⟩, A130, H⟩ := H
   replace H : (if t371 = t360 then (laws_FnExactFaceNamed.j0 k (t372 != t361) a0_0 a0_1 l0_2 l0_3 t362 t363 t364 t367) else (laws_FnExactFaceNamed.j0 k true a0_0 a0_1 l0_2 l0_3 t362 t363 t364 t367)) = some true := H
   have A13 := Aside0.mk A130
   clear A130
   have HC14 := Aside0.mk H
   clear H
   go_enter Try.func4, Try.ntmps4
   go_upto_region 10 with (first | ((with_reducible refine gate_dst (N := 2) rfl ?_); refine bx (cs := #[.int .i64 a0_0, .int .i64 a0_1, .slice A0_2 l0_2.length c0_2, .slice A0_3 l0_3.length c0_3]) (t := 25) ?_; intro gb350 hg w15 hbox hb; have n0_ := sb hb; have n1_ := Aside0.mk (hbox); have n2_ := zb hg; have n3_ := zb hg; clear HB; have HB := n0_; have BK350 := n1_; have GW350 := n2_; have GE350 := n3_; clear n0_ n1_ n2_ n3_; clear hb hbox hg; have hcz16_0 := ck BK350 0; have hcz16_1 := ck BK350 1; have hcz16_2 := ck BK350 2; have hcz16_3 := ck BK350 3; have hfz16_0 := blk_frozen BK350.out 0; have hfz16_1 := blk_frozen BK350.out 1; have hfz16_2 := blk_frozen BK350.out 2; have hfz16_3 := blk_frozen BK350.out 3) | ((with_reducible refine gate_callee (f := 10) rfl ?_); refine goesL_ (some 16) rfl rfl Try.func10 (by kernel_rfl) rfl #[.agg #[.int .i64 a0_0, .int .i64 a0_1, .slice A0_2 l0_2.length c0_2, .slice A0_3 l0_3.length c0_3], .int .i64 1048576] rfl (by (try simp only [List.map_toArray, List.map_cons, List.map_nil]); first | done | rfl | (simp only [List.length_drop, List.length_take]; rfl)) ?_; (with_reducible refine (laws_szDrawing.calls k a0_0 a0_1 _ _ l0_2 _ _ l0_3 1048576 t351 _ ?side1 ?side2 ?side3 ?side4 A5.out).mono ?_); (case side1 => repeat (first | exact (Kd.C_below HR0_2.out HB.out) | (with_reducible refine Kd.C_alloc ?_ _) | (with_reducible refine Kd.C_drewN ?_ _) | (with_reducible refine Kd.C_drew ?_))); (case side2 => exact HC0_2.out); (case side3 => repeat (first | exact (Kd.C_below HR0_3.out HB.out) | (with_reducible refine Kd.C_alloc ?_ _) | (with_reducible refine Kd.C_drewN ?_ _) | (with_reducible refine Kd.C_drew ?_))); (case side4 => exact HC0_3.out); rintro e w17 ⟨rfl, hb⟩; refine ⟨_, rfl, ?_⟩; have n0_ := kb BK350 hb; have n1_ := sb hb; clear BK350; clear HB; have BK350 := n0_; have HB := n1_; clear n0_ n1_; (try clear hb); (try clear hb2); (try clear hk); (try clear hi); have hcz18_0 := ck BK350 0; have hcz18_1 := ck BK350 1; have hcz18_2 := ck BK350 2; have hcz18_3 := ck BK350 3; have hfz18_0 := blk_frozen BK350.out 0; have hfz18_1 := blk_frozen BK350.out 1; have hfz18_2 := blk_frozen BK350.out 2; have hfz18_3 := blk_frozen BK350.out 3) | ((with_reducible refine gate_callee (f := 12) rfl ?_); refine goesL_ (some 21) rfl rfl Try.func12 (by kernel_rfl) rfl #[.agg #[.int .i64 a0_0, .int .i64 a0_1, .slice A0_2 l0_2.length c0_2, .slice A0_3 l0_3.length c0_3]] rfl (by (try simp only [List.map_toArray, List.map_cons, List.map_nil]); first | done | rfl | (simp only [List.length_drop, List.length_take]; rfl)) ?_; (with_reducible refine (laws_toDrawing.calls k a0_0 a0_1 _ _ l0_2 _ _ l0_3 t352 t353 t354 t357 _ ?side1 ?side2 ?side3 ?side4 A10.out).mono ?_); (case side1 => repeat (first | exact (Kd.C_below HR0_2.out HB.out) | (with_reducible refine Kd.C_alloc ?_ _) | (with_reducible refine Kd.C_drewN ?_ _) | (with_reducible refine Kd.C_drew ?_))); (case side2 => exact HC0_2.out); (case side3 => repeat (first | exact (Kd.C_below HR0_3.out HB.out) | (with_reducible refine Kd.C_alloc ?_ _) | (with_reducible refine Kd.C_drewN ?_ _) | (with_reducible refine Kd.C_drew ?_))); (case side4 => exact HC0_3.out); rintro e w19 ⟨v355, v358, rfl, ho0, ho1, hb⟩; refine ⟨_, rfl, ?_⟩; have n0_ := Aside0.mk (Kd.R_lower ho0 (below_size ib)); have n1_ := Aside0.mk (Kd.S_lower ho1 (below_size ib)); have n2_ := kb BK350 hb; have n3_ := sb hb; clear BK350; clear HB; have HO356 := n0_; have HO359 := n1_; have BK350 := n2_; have HB := n3_; clear n0_ n1_ n2_ n3_; (try clear hb); (try clear hb2); (try clear hk); (try clear hi); (try clear ho0); (try clear ho1); obtain ⟨Ao20, co20, eo20⟩ := Kd.R_slice HO356.out; subst eo20; obtain ⟨Ao21, co21, eo21⟩ := Kd.S_slice HO359.out; subst eo21) | ((with_reducible refine gate_callee (f := 15) rfl ?_); refine goesL_ (some 23) rfl rfl Try.func15 (by kernel_rfl) rfl #[.agg #[.int .i64 t352, .int .i64 t353, .slice Ao20 t354.length co20, .slice Ao21 t357.length co21], .string a1] rfl (by (try simp only [List.map_toArray, List.map_cons, List.map_nil]); first | done | rfl | (simp only [List.length_drop, List.length_take]; rfl)) ?_; (with_reducible refine (spec_FaceNamed.calls k t352 t353 _ _ t354 _ _ t357 a1 t360 t361 _ ?side1 ?side2 ?side3 ?side4 A11.out).mono ?_); (case side1 => repeat (first | exact (Kd.R_reads' HO356.out).2.2 | (with_reducible refine Kd.C_alloc ?_ _) | (with_reducible refine Kd.C_drewN ?_ _) | (with_reducible refine Kd.C_drew ?_))); (case side2 => exact (Kd.R_reads' HO356.out).2.1); (case side3 => repeat (first | exact (Kd.S_reads' HO359.out).2.2 | (with_reducible refine Kd.C_alloc ?_ _) | (with_reducible refine Kd.C_drewN ?_ _) | (with_reducible refine Kd.C_drew ?_))); (case side4 => exact (Kd.S_reads' HO359.out).2.1); rintro e w22 ⟨rfl, hb⟩; refine ⟨_, rfl, ?_⟩; have n0_ := Aside0.mk (Kd.R_below (by (with_reducible repeat (first | apply Kd.R_alloc | apply Kd.R_drewN | apply Kd.R_drew)); exact HO356.out) hb); have n1_ := Aside0.mk (Kd.S_below (by (with_reducible repeat (first | apply Kd.S_alloc | apply Kd.S_drewN | apply Kd.S_drew)); exact HO359.out) hb); have n2_ := kb BK350 hb; have n3_ := sb hb; clear HO356; clear HO359; clear BK350; clear HB; have HO356 := n0_; have HO359 := n1_; have BK350 := n2_; have HB := n3_; clear n0_ n1_ n2_ n3_; (try clear hb); (try clear hb2); (try clear hk); (try clear hi); have hcz23_0 := ck BK350 0; have hcz23_1 := ck BK350 1; have hcz23_2 := ck BK350 2; have hcz23_3 := ck BK350 3; have hfz23_0 := blk_frozen BK350.out 0; have hfz23_1 := blk_frozen BK350.out 1; have hfz23_2 := blk_frozen BK350.out 2; have hfz23_3 := blk_frozen BK350.out 3) | ((with_reducible refine gate_callee (f := 12) rfl ?_); refine goesL_ (some 27) rfl rfl Try.func12 (by kernel_rfl) rfl #[.agg #[.int .i64 a0_0, .int .i64 a0_1, .slice A0_2 l0_2.length c0_2, .slice A0_3 l0_3.length c0_3]] rfl (by (try simp only [List.map_toArray, List.map_cons, List.map_nil]); first | done | rfl | (simp only [List.length_drop, List.length_take]; rfl)) ?_; (with_reducible refine (laws_toDrawing.calls k a0_0 a0_1 _ _ l0_2 _ _ l0_3 t362 t363 t364 t367 _ ?side1 ?side2 ?side3 ?side4 A12.out).mono ?_); (case side1 => repeat (first | exact (Kd.C_below HR0_2.out HB.out) | (with_reducible refine Kd.C_alloc ?_ _) | (with_reducible refine Kd.C_drewN ?_ _) | (with_reducible refine Kd.C_drew ?_))); (case side2 => exact HC0_2.out); (case side3 => repeat (first | exact (Kd.C_below HR0_3.out HB.out) | (with_reducible refine Kd.C_alloc ?_ _) | (with_reducible refine Kd.C_drewN ?_ _) | (with_reducible refine Kd.C_drew ?_))); (case side4 => exact HC0_3.out); rintro e w24 ⟨v365, v368, rfl, ho0, ho1, hb⟩; refine ⟨_, rfl, ?_⟩; have n0_ := Aside0.mk (Kd.R_elder' (by (with_reducible repeat (first | apply Kd.R_alloc | apply Kd.R_drewN | apply Kd.R_drew)); exact HO356.out) (Kd.R_base ho0) hb); have n1_ := Aside0.mk (Kd.S_elder' (by (with_reducible repeat (first | apply Kd.S_alloc | apply Kd.S_drewN | apply Kd.S_drew)); exact HO359.out) (Kd.S_base ho1) hb); have n2_ := Aside0.mk (Kd.R_lower (Kd.R_new' ho0 (Kd.R_lt (by (with_reducible repeat (first | apply Kd.R_alloc | apply Kd.R_drewN | apply Kd.R_drew)); exact HO356.out))) (below_size ib)); have n3_ := Aside0.mk (Kd.S_lower (Kd.S_new' ho1 (Kd.S_lt (by (with_reducible repeat (first | apply Kd.S_alloc | apply Kd.S_drewN | apply Kd.S_drew)); exact HO359.out))) (below_size ib)); have n4_ := kb BK350 hb; have n5_ := sb hb; clear HO356; clear HO359; clear BK350; clear HB; have HO356 := n0_; have HO359 := n1_; have HO366 := n2_; have HO369 := n3_; have BK350 := n4_; have HB := n5_; clear n0_ n1_ n2_ n3_ n4_ n5_; (try clear hb); (try clear hb2); (try clear hk); (try clear hi); (try clear ho0); (try clear ho1)) | ((with_reducible refine gate_dst (N := 8) rfl ?_); refine bx (cs := #[.int .i64 0, .int .i64 0, .slice none 0 0, .slice none 0 0]) (t := 31) ?_; intro gb370 hg w25 hbox hb; have n0_ := Aside0.mk (Kd.R_below (by (with_reducible repeat (first | apply Kd.R_alloc | apply Kd.R_drewN | apply Kd.R_drew)); exact HO356.out) hb); have n1_ := Aside0.mk (Kd.S_below (by (with_reducible repeat (first | apply Kd.S_alloc | apply Kd.S_drewN | apply Kd.S_drew)); exact HO359.out) hb); have n2_ := Aside0.mk (Kd.R_below (by (with_reducible repeat (first | apply Kd.R_alloc | apply Kd.R_drewN | apply Kd.R_drew)); exact HO366.out) hb); have n3_ := Aside0.mk (Kd.S_below (by (with_reducible repeat (first | apply Kd.S_alloc | apply Kd.S_drewN | apply Kd.S_drew)); exact HO369.out) hb); have n4_ := kb BK350 hb; have n5_ := sb hb; have n6_ := Aside0.mk (hbox); have n7_ := zb hg; have n8_ := zb hg; have n9_ := nl BK350 hg; have n10_ := ng BK350 hg; clear HO356; clear HO359; clear HO366; clear HO369; clear BK350; clear HB; have HO356 := n0_; have HO359 := n1_; have HO366 := n2_; have HO369 := n3_; have BK350 := n4_; have HB := n5_; have BK370 := n6_; have GW370 := n7_; have GE370 := n8_; have NB350_370 := n9_; have NB370_350 := n10_; clear n0_ n1_ n2_ n3_ n4_ n5_ n6_ n7_ n8_ n9_ n10_; clear hb hbox hg; have hnb26 := NB370_350.out; have hnc26 := NB350_370.out; have hcz27_0 := ck BK370 0; have hcz27_1 := ck BK370 1; have hcz27_2 := ck BK370 2; have hcz27_3 := ck BK370 3; have hfz27_0 := blk_frozen BK370.out 0; have hfz27_1 := blk_frozen BK370.out 1; have hfz27_2 := blk_frozen BK370.out 2; have hfz27_3 := blk_frozen BK370.out 3; obtain ⟨Ao28, co28, eo28⟩ := Kd.R_slice HO366.out; subst eo28; obtain ⟨Ao29, co29, eo29⟩ := Kd.S_slice HO369.out; subst eo29) | ((with_reducible refine gate_callee (f := 16) rfl ?_); refine goesL_ (some 31) rfl rfl Try.func16 (by kernel_rfl) rfl #[.agg #[.int .i64 t362, .int .i64 t363, .slice Ao28 t364.length co28, .slice Ao29 t367.length co29], .string a1] rfl (by (try simp only [List.map_toArray, List.map_cons, List.map_nil]); first | done | rfl | (simp only [List.length_drop, List.length_take]; rfl)) ?_; (with_reducible refine (impl_FaceNamed.calls k t362 t363 _ _ t364 _ _ t367 a1 t371 t372 _ ?side1 ?side2 ?side3 ?side4 A13.out).mono ?_); (case side1 => refine (Kd.R_reads' (e := 48) (base := w.heap.size) (ok := fun k_ => (True ∧ some k_ ≠ (.slice Ao20 t354.length co20 : Value).ownBlock)) (n := t364.length) (c := co28) ?_).2.2; exact (by (with_reducible repeat (first | apply Kd.R_alloc | apply Kd.R_drewN | apply Kd.R_drew)); exact (Kd.R_mono (Kd.R_far (p := ⟨gb370, 3, none⟩) (Kd.R_far (p := ⟨gb370, 2, none⟩) (Kd.R_far (p := ⟨gb370, 1, none⟩) (Kd.R_far (p := ⟨gb370, 0, none⟩) (Kd.R_types HO366.out BK370.out (by decide)) (fun _ hk => hk.2) (.int .i64 t362)) (fun _ hk => hk.2) (.int .i64 t363)) (fun _ hk => hk.2) (.slice Ao28 t364.length co28)) (fun _ hk => hk.2) (.slice Ao29 t367.length co29)) (fun _ h_ => h_.1)))); (case side2 => exact (Kd.R_reads' HO366.out).2.1); (case side3 => refine (Kd.S_reads' (e := 67) (base := w.heap.size) (ok := fun k_ => (True ∧ some k_ ≠ (.slice Ao21 t357.length co21 : Value).ownBlock)) (n := t367.length) (c := co29) ?_).2.2; exact (by (with_reducible repeat (first | apply Kd.S_alloc | apply Kd.S_drewN | apply Kd.S_drew)); exact (Kd.S_mono (Kd.S_far (p := ⟨gb370, 3, none⟩) (Kd.S_far (p := ⟨gb370, 2, none⟩) (Kd.S_far (p := ⟨gb370, 1, none⟩) (Kd.S_far (p := ⟨gb370, 0, none⟩) (Kd.S_types HO369.out BK370.out (by decide)) (fun _ hk => hk.2) (.int .i64 t362)) (fun _ hk => hk.2) (.int .i64 t363)) (fun _ hk => hk.2) (.slice Ao28 t364.length co28)) (fun _ hk => hk.2) (.slice Ao29 t367.length co29)) (fun _ h_ => h_.1)))); (case side4 => exact (Kd.S_reads' HO369.out).2.1); rintro e w30 ⟨rfl, hb⟩; refine ⟨_, rfl, ?_⟩; have n0_ := Aside0.mk (Kd.R_below (by (with_reducible repeat (first | apply Kd.R_alloc | apply Kd.R_drewN | apply Kd.R_drew)); exact (Kd.R_mono (Kd.R_far (p := ⟨gb370, 3, none⟩) (Kd.R_far (p := ⟨gb370, 2, none⟩) (Kd.R_far (p := ⟨gb370, 1, none⟩) (Kd.R_far (p := ⟨gb370, 0, none⟩) (Kd.R_types HO356.out BK370.out (by decide)) (fun _ hk => hk.2) (.int .i64 t362)) (fun _ hk => hk.2) (.int .i64 t363)) (fun _ hk => hk.2) (.slice Ao28 t364.length co28)) (fun _ hk => hk.2) (.slice Ao29 t367.length co29)) (fun _ h_ => h_.1))) hb); have n1_ := Aside0.mk (Kd.S_below (by (with_reducible repeat (first | apply Kd.S_alloc | apply Kd.S_drewN | apply Kd.S_drew)); exact (Kd.S_mono (Kd.S_far (p := ⟨gb370, 3, none⟩) (Kd.S_far (p := ⟨gb370, 2, none⟩) (Kd.S_far (p := ⟨gb370, 1, none⟩) (Kd.S_far (p := ⟨gb370, 0, none⟩) (Kd.S_types HO359.out BK370.out (by decide)) (fun _ hk => hk.2) (.int .i64 t362)) (fun _ hk => hk.2) (.int .i64 t363)) (fun _ hk => hk.2) (.slice Ao28 t364.length co28)) (fun _ hk => hk.2) (.slice Ao29 t367.length co29)) (fun _ h_ => h_.1))) hb); have n2_ := Aside0.mk (Kd.R_below (by (with_reducible repeat (first | apply Kd.R_alloc | apply Kd.R_drewN | apply Kd.R_drew)); exact (Kd.R_mono (Kd.R_far (p := ⟨gb370, 3, none⟩) (Kd.R_far (p := ⟨gb370, 2, none⟩) (Kd.R_far (p := ⟨gb370, 1, none⟩) (Kd.R_far (p := ⟨gb370, 0, none⟩) (Kd.R_types HO366.out BK370.out (by decide)) (fun _ hk => hk.2) (.int .i64 t362)) (fun _ hk => hk.2) (.int .i64 t363)) (fun _ hk => hk.2) (.slice Ao28 t364.length co28)) (fun _ hk => hk.2) (.slice Ao29 t367.length co29)) (fun _ h_ => h_.1))) hb); have n3_ := Aside0.mk (Kd.S_below (by (with_reducible repeat (first | apply Kd.S_alloc | apply Kd.S_drewN | apply Kd.S_drew)); exact (Kd.S_mono (Kd.S_far (p := ⟨gb370, 3, none⟩) (Kd.S_far (p := ⟨gb370, 2, none⟩) (Kd.S_far (p := ⟨gb370, 1, none⟩) (Kd.S_far (p := ⟨gb370, 0, none⟩) (Kd.S_types HO369.out BK370.out (by decide)) (fun _ hk => hk.2) (.int .i64 t362)) (fun _ hk => hk.2) (.int .i64 t363)) (fun _ hk => hk.2) (.slice Ao28 t364.length co28)) (fun _ hk => hk.2) (.slice Ao29 t367.length co29)) (fun _ h_ => h_.1))) hb); have n4_ := Aside0.mk (blk_below (g := gb350) (o := .cells #[.int .i64 a0_0, .int .i64 a0_1, .slice A0_2 l0_2.length c0_2, .slice A0_3 l0_3.length c0_3] 25 (0, 0)) (by refine bF NB350_370.out ?_; refine bF NB350_370.out ?_; refine bF NB350_370.out ?_; refine bF NB350_370.out ?_; exact bk BK350) hb); have n5_ := Aside0.mk (blk_below (g := gb370) (o := .cells #[.int .i64 t362, .int .i64 t363, .slice Ao28 t364.length co28, .slice Ao29 t367.length co29] 31 (0, 0)) (by refine bP (cs := #[.int .i64 t362, .int .i64 t363, .slice Ao28 t364.length co28, .slice none 0 0]) 3 ?_; refine bP (cs := #[.int .i64 t362, .int .i64 t363, .slice none 0 0, .slice none 0 0]) 2 ?_; refine bP (cs := #[.int .i64 t362, .int .i64 0, .slice none 0 0, .slice none 0 0]) 1 ?_; refine bP (cs := #[.int .i64 0, .int .i64 0, .slice none 0 0, .slice none 0 0]) 0 ?_; exact bk BK370) hb); have n6_ := sb hb; clear HO356; clear HO359; clear HO366; clear HO369; clear BK350; clear BK370; clear HB; have HO356 := n0_; have HO359 := n1_; have HO366 := n2_; have HO369 := n3_; have BK350 := n4_; have BK370 := n5_; have HB := n6_; clear n0_ n1_ n2_ n3_ n4_ n5_ n6_; (try clear hb); (try clear hb2); (try clear hk); (try clear hi)))
   (try simp only [Act.put, List.setIfInBounds_toArray, List.set_cons_zero, List.set_cons_succ])
   go_cut [41] (fun v41 wc => ∃ (kq : Nat) (x41_13 : Bool), v41 = .bool x41_13 ∧ Aside0 (laws_FnExactFaceNamed.j0 kq x41_13 a0_0 a0_1 l0_2 l0_3 t362 t363 t364 t367 = some true) ∧ Aside0 (kq ≤ k) ∧ Aside0 (Kd.R k48 48 wc w.heap.size (fun _ => True) (.slice Ao28 t364.length co28) t364) ∧ Aside0 (Kd.S k67 67 wc w.heap.size (fun _ => True) (.slice Ao29 t367.length co29) t367) ∧ Aside0 (wc.heap[gb350]? = some (.cells #[.int .i64 a0_0, .int .i64 a0_1, (.slice A0_2 l0_2.length c0_2), (.slice A0_3 l0_3.length c0_3)] 25 (0, 0))) ∧ Aside0 (wc.heap[gb370]? = some (.cells #[.int .i64 t362, .int .i64 t363, (.slice Ao28 t364.length co28), (.slice Ao29 t367.length co29)] 31 (0, 0))) ∧ Aside0 (Below w.heap.size w wc))
   case first =>
    have H := HC14.out
    clear HC14
    by_cases c31 : t371 = t360
    ·rw [if_pos c31] at H
     have c31b0 : (t371 == t360) = true := beq_iff_eq.mpr c31
     have c31b1 : (t371 != t360) = false := bne_eq_false_iff_eq.mpr c31
     clear c31
     (first | rw [c31b0] | (simp only [i64_w, i32_w]; rw [c31b0]) | skip)
     have H' := Aside0.mk H
     clear H
     go_wp2
     go_meet
     case rel => exact ⟨_, ((t372 != t361)), (by first | rfl | (simp; done) | (simp [*]; done)), H', ⟨by first | omega | exact Nat.le_refl _⟩, ⟨by (with_reducible repeat (first | apply Kd.R_alloc | apply Kd.R_drewN | apply Kd.R_drew)); exact Kd.R_mono HO366.out (fun _ hk => trivial)⟩, ⟨by (with_reducible repeat (first | apply Kd.S_alloc | apply Kd.S_drewN | apply Kd.S_drew)); exact Kd.S_mono HO369.out (fun _ hk => trivial)⟩, ⟨by exact bk BK350⟩, ⟨by exact bk BK370⟩, ⟨by repeat (first | (with_reducible first | exact HB.out | apply below_alloc | apply pw_below_drewN | apply below_drew1 | refine below_set ?_ GE350.out | refine below_set ?_ GE370.out) | exact HB.out)⟩⟩
    ·rw [if_neg c31] at H
     have c31b0 : (t371 == t360) = false := beq_eq_false_iff_ne.mpr c31
     have c31b1 : (t371 != t360) = true := bne_iff_ne.mpr c31
     (first | rw [c31b0] | (simp only [i64_w, i32_w]; rw [c31b0]) | skip)
     have H' := Aside0.mk H
     clear H
     go_wp2
     go_meet
     case rel => exact ⟨_, (true), (by first | rfl | (simp; done) | (simp [*]; done)), H', ⟨by first | omega | exact Nat.le_refl _⟩, ⟨by (with_reducible repeat (first | apply Kd.R_alloc | apply Kd.R_drewN | apply Kd.R_drew)); exact Kd.R_mono HO366.out (fun _ hk => trivial)⟩, ⟨by (with_reducible repeat (first | apply Kd.S_alloc | apply Kd.S_drewN | apply Kd.S_drew)); exact Kd.S_mono HO369.out (fun _ hk => trivial)⟩, ⟨by exact bk BK350⟩, ⟨by exact bk BK370⟩, ⟨by repeat (first | (with_reducible first | exact HB.out | apply below_alloc | apply pw_below_drewN | apply below_drew1 | refine below_set ?_ GE350.out | refine below_set ?_ GE370.out) | exact HB.out)⟩⟩
   case rest =>
    clear HC14
    try clear c1
    try clear c2
    try clear p2
    try clear c3
    try clear c3b0
    try clear c3b1
    try clear c4
    try clear c6
    try clear c6b0
    try clear c10
    try clear c12
    try clear c15
    try clear c16
    try clear c26
    try clear c31
    try clear c31b0
    try clear c31b1
    try clear hcz16_0
    try clear hcz16_1
    try clear hcz16_2
    try clear hcz16_3
    try clear hcz18_0
    try clear hcz18_1
    try clear hcz18_2
    try clear hcz18_3
    try clear hcz23_0
    try clear hcz23_1
    try clear hcz23_2
    try clear hcz23_3
    try clear hcz27_0
    try clear hcz27_1
    try clear hcz27_2
    try clear hcz27_3
    try clear hcz8_0
    try clear hcz8_1
    try clear hcz8_2
    try clear hcz8_3
    try clear hfz16_0
    try clear hfz16_1
    try clear hfz16_2
    try clear hfz16_3
    try clear hfz18_0
    try clear hfz18_1
    try clear hfz18_2
    try clear hfz18_3
    try clear hfz23_0
    try clear hfz23_1
    try clear hfz23_2
    try clear hfz23_3
    try clear hfz27_0
    try clear hfz27_1
    try clear hfz27_2
    try clear hfz27_3
    try clear hfz8_0
    try clear hfz8_1
    try clear hfz8_2
    try clear hfz8_3
    obtain ⟨kq, x41_13, rfl, HA, HJ13, HO_371002, HO_371003, BK350, BK370, HB⟩ := hcut
    cases kq with
    | zero => exact absurd HA.out (by simp [laws_FnExactFaceNamed.j0])
    | succ kj13 =>
     have H := HA.out
     clear HA
     simp only [laws_FnExactFaceNamed.j0] at H
     by_cases c32 : x41_13 = true
     ·subst c32
      have H1 : (some false) = some true := by rw [if_pos rfl] at H; exact H
      clear H
      have H := H1
      clear H1
      cases H
     ·replace c32 := Bool.eq_false_iff.mpr c32
      subst c32
      have H1 : ((laws_toDrawing.f kj13 a0_0 a0_1 l0_2 l0_3).bind fun bt373 => ((laws_eqDrawing.f kj13 t362 t363 t364 t367 bt373.1 bt373.2.1 bt373.2.2.1 bt373.2.2.2).bind fun t381 => (if t381 = true then (some true) else (some false)))) = some true := by rw [if_neg (show ¬ (false = true) by decide)] at H; exact H
      clear H
      have H := H1
      clear H1
      replace H := Option.bind_eq_some_iff.mp H
      obtain ⟨⟨t373, t374, t375, t378⟩, A330, H⟩ := H
      replace H : ((laws_eqDrawing.f kj13 t362 t363 t364 t367 t373 t374 t375 t378).bind fun t381 => (if t381 = true then (some true) else (some false))) = some true := H
      have A33 := Aside0.mk A330
      clear A330
      replace H := Option.bind_eq_some_iff.mp H
      obtain ⟨t381, A340, H⟩ := H
      replace H : (if t381 = true then (some true) else (some false)) = some true := H
      have A34 := Aside0.mk A340
      clear A340
      by_cases c35 : t381 = true
      ·subst c35
       have H1 : (some true) = some true := rfl
       clear H
       have H := H1
       clear H1
       clear H
       try go_wp2
       have n0_ := Aside0.mk (Kd.R_drew HO_371002.out)
       have n1_ := Aside0.mk (Kd.S_drew HO_371003.out)
       have n2_ := Aside0.mk (blk_drew BK350.out)
       have n3_ := Aside0.mk (blk_drew BK370.out)
       have n4_ := Aside0.mk (below_drew1 HB.out)
       clear HO_371002
       clear HO_371003
       clear BK350
       clear BK370
       clear HB
       have HO_371002 := n0_
       have HO_371003 := n1_
       have BK350 := n2_
       have BK370 := n3_
       have HB := n4_
       clear n0_ n1_ n2_ n3_ n4_
       refine start_ (n := 5) (S := fun w' => w'.cell? ⟨gb370, 0, none⟩ = some (.int .i64 t362) ∧ w'.cell? ⟨gb370, 1, none⟩ = some (.int .i64 t363) ∧ w'.cell? ⟨gb370, 2, none⟩ = some (.slice Ao28 t364.length co28) ∧ w'.cell? ⟨gb370, 3, none⟩ = some (.slice Ao29 t367.length co29) ∧ w'.cell? ⟨gb350, 0, none⟩ = some (.int .i64 a0_0) ∧ w'.cell? ⟨gb350, 1, none⟩ = some (.int .i64 a0_1) ∧ w'.cell? ⟨gb350, 2, none⟩ = some (.slice A0_2 l0_2.length c0_2) ∧ w'.cell? ⟨gb350, 3, none⟩ = some (.slice A0_3 l0_3.length c0_3)) (ds := []) #[fF,fF,fF,fF,fF] (by kernel_rfl) rfl rfl ⟨(blk_cell BK370.out 0).trans rfl, (blk_cell BK370.out 1).trans rfl, (blk_cell BK370.out 2).trans rfl, (blk_cell BK370.out 3).trans rfl, (blk_cell BK350.out 0).trans rfl, (blk_cell BK350.out 1).trans rfl, (blk_cell BK350.out 2).trans rfl, (blk_cell BK350.out 3).trans rfl⟩ (fun hHeld => ?_)
       generalize wc.drew = w36 at HO_371002 HO_371003 BK350 BK370 HB hHeld ⊢
       refine take_ (i := 0) (N := some 42) (v := ?_) (a' := ?_) #[tT,fF,fF,fF,fF] rfl rfl (by kernel_rfl) (fun _ _ _ h => h) (Or.inl ⟨by rfl, ?_⟩) hHeld ?_ ?_
       rotate_left
       ·rintro w' ⟨s0, s1, s2, s3, s4, s5, s6, s7⟩
        go_simp
        with_reducible rfl
       rotate_left
       ·exact pa
       refine take_ (i := 1) (N := some 43) (v := ?_) (a' := ?_) #[tT,tT,fF,fF,fF] rfl rfl (by kernel_rfl) (fun _ _ _ h => h) (Or.inl ⟨by rfl, ?_⟩) hHeld ?_ ?_
       rotate_left
       ·rintro w' ⟨s0, s1, s2, s3, s4, s5, s6, s7⟩
        go_simp
        with_reducible rfl
       rotate_left
       ·exact pa
       refine one_ (i := 2) (N := some 44) #[tT,tT,tT,fF,fF] rfl rfl (by kernel_rfl) (by decide) (fun K hK => ?_)
       refine goes_ Try.func12 (by kernel_rfl) rfl #[.agg #[.int .i64 a0_0, .int .i64 a0_1, .slice A0_2 l0_2.length c0_2, .slice A0_3 l0_3.length c0_3]] (by rfl) rfl rfl (by (try simp only [List.map_toArray, List.map_cons, List.map_nil]); first | done | rfl | (simp only [List.length_drop, List.length_take]; rfl)) ?_
       with_reducible refine (laws_toDrawing.calls kj13 a0_0 a0_1 _ _ l0_2 _ _ l0_3 t373 t374 t375 t378 _ ?side1 ?side2 ?side3 ?side4 A33.out).mono ?_
       (case side1 => repeat (first | exact (Kd.C_below HR0_2.out HB.out) | (with_reducible refine Kd.C_alloc ?_ _) | (with_reducible refine Kd.C_drewN ?_ _) | (with_reducible refine Kd.C_drew ?_)))
       (case side2 => exact HC0_2.out)
       (case side3 => repeat (first | exact (Kd.C_below HR0_3.out HB.out) | (with_reducible refine Kd.C_alloc ?_ _) | (with_reducible refine Kd.C_drewN ?_ _) | (with_reducible refine Kd.C_drew ?_)))
       (case side4 => exact HC0_3.out)
       rintro e w37 ⟨v376, v379, rfl, ho0, ho1, hb⟩
       refine ⟨_, rfl, ?_⟩
       have n0_ := Aside0.mk (Kd.R_elder' (by (with_reducible repeat (first | apply Kd.R_alloc | apply Kd.R_drewN | apply Kd.R_drew)); exact HO_371002.out) (Kd.R_base ho0) hb)
       have n1_ := Aside0.mk (Kd.S_elder' (by (with_reducible repeat (first | apply Kd.S_alloc | apply Kd.S_drewN | apply Kd.S_drew)); exact HO_371003.out) (Kd.S_base ho1) hb)
       have n2_ := Aside0.mk (Kd.R_lower (Kd.R_new' ho0 (Kd.R_lt (by (with_reducible repeat (first | apply Kd.R_alloc | apply Kd.R_drewN | apply Kd.R_drew)); exact HO_371002.out))) (below_size ib))
       have n3_ := Aside0.mk (Kd.S_lower (Kd.S_new' ho1 (Kd.S_lt (by (with_reducible repeat (first | apply Kd.S_alloc | apply Kd.S_drewN | apply Kd.S_drew)); exact HO_371003.out))) (below_size ib))
       have n4_ := kb BK350 hb
       have n5_ := kb BK370 hb
       have n6_ := sb hb
       clear HO_371002
       clear HO_371003
       clear BK350
       clear BK370
       clear HB
       have HO_371002 := n0_
       have HO_371003 := n1_
       have HO377 := n2_
       have HO380 := n3_
       have BK350 := n4_
       have BK370 := n5_
       have HB := n6_
       clear n0_ n1_ n2_ n3_ n4_ n5_ n6_
       (try clear hb)
       (try clear hb2)
       (try clear hk)
       (try clear hi)
       (try clear ho0)
       (try clear ho1)
       obtain ⟨Ao38, co38, eo38⟩ := Kd.R_slice HO377.out
       (first | subst eo38 | (injection eo38 with f1_ f2_ f3_; have f4_ := f1_.symm; have f5_ := f3_.symm; clear f1_ f2_ f3_; subst f4_; subst f5_))
       obtain ⟨Ao39, co39, eo39⟩ := Kd.S_slice HO380.out
       (first | subst eo39 | (injection eo39 with f1_ f2_ f3_; have f4_ := f1_.symm; have f5_ := f3_.symm; clear f1_ f2_ f3_; subst f4_; subst f5_))
       refine hK.out _ _ ⟨(blk_cell BK370.out 0).trans rfl, (blk_cell BK370.out 1).trans rfl, (blk_cell BK370.out 2).trans rfl, (blk_cell BK370.out 3).trans rfl, (blk_cell BK350.out 0).trans rfl, (blk_cell BK350.out 1).trans rfl, (blk_cell BK350.out 2).trans rfl, (blk_cell BK350.out 3).trans rfl⟩ (fun hHeld => ?_)
       clear hK K
       refine norm_ (a' := ?_) ?_ ?_
       rotate_left
       ·show Act.put _ (some 44) _ = _
        simp only [Act.put, List.setIfInBounds_toArray, List.set_cons_zero, List.set_cons_succ, i64_w, i32_w]
        rfl
       refine one_ (i := 3) (N := some 45) #[tT,tT,tT,tT,fF] rfl rfl (by kernel_rfl) (by decide) (fun K hK => ?_)
       refine goes_ Try.func14 (by kernel_rfl) rfl #[.agg #[.int .i64 t362, .int .i64 t363, .slice Ao28 t364.length co28, .slice Ao29 t367.length co29], .agg #[.int .i64 t373, .int .i64 t374, .slice Ao38 t375.length co38, .slice Ao39 t378.length co39]] (by rfl) rfl rfl (by (try simp only [List.map_toArray, List.map_cons, List.map_nil]); first | done | rfl | (simp only [List.length_drop, List.length_take]; rfl)) ?_
       with_reducible refine (laws_eqDrawing.calls kj13 t362 t363 _ _ t364 _ _ t367 t373 t374 _ _ t375 _ _ t378 true _ ?side1 ?side2 ?side3 ?side4 ?side5 ?side6 ?side7 ?side8 A34.out).mono ?_
       (case side1 => repeat (first | exact (Kd.R_reads' HO_371002.out).2.2 | (with_reducible refine Kd.C_alloc ?_ _) | (with_reducible refine Kd.C_drewN ?_ _) | (with_reducible refine Kd.C_drew ?_)))
       (case side2 => exact (Kd.R_reads' HO_371002.out).2.1)
       (case side3 => repeat (first | exact (Kd.S_reads' HO_371003.out).2.2 | (with_reducible refine Kd.C_alloc ?_ _) | (with_reducible refine Kd.C_drewN ?_ _) | (with_reducible refine Kd.C_drew ?_)))
       (case side4 => exact (Kd.S_reads' HO_371003.out).2.1)
       (case side5 => repeat (first | exact (Kd.R_reads' HO377.out).2.2 | (with_reducible refine Kd.C_alloc ?_ _) | (with_reducible refine Kd.C_drewN ?_ _) | (with_reducible refine Kd.C_drew ?_)))
       (case side6 => exact (Kd.R_reads' HO377.out).2.1)
       (case side7 => repeat (first | exact (Kd.S_reads' HO380.out).2.2 | (with_reducible refine Kd.C_alloc ?_ _) | (with_reducible refine Kd.C_drewN ?_ _) | (with_reducible refine Kd.C_drew ?_)))
       (case side8 => exact (Kd.S_reads' HO380.out).2.1)
       rintro e w40 ⟨rfl, hb⟩
       refine ⟨_, rfl, ?_⟩
       have n0_ := Aside0.mk (Kd.R_below (by (with_reducible repeat (first | apply Kd.R_alloc | apply Kd.R_drewN | apply Kd.R_drew)); exact HO_371002.out) hb)
       have n1_ := Aside0.mk (Kd.S_below (by (with_reducible repeat (first | apply Kd.S_alloc | apply Kd.S_drewN | apply Kd.S_drew)); exact HO_371003.out) hb)
       have n2_ := Aside0.mk (Kd.R_below (by (with_reducible repeat (first | apply Kd.R_alloc | apply Kd.R_drewN | apply Kd.R_drew)); exact HO377.out) hb)
       have n3_ := Aside0.mk (Kd.S_below (by (with_reducible repeat (first | apply Kd.S_alloc | apply Kd.S_drewN | apply Kd.S_drew)); exact HO380.out) hb)
       have n4_ := kb BK350 hb
       have n5_ := kb BK370 hb
       have n6_ := sb hb
       clear HO_371002
       clear HO_371003
       clear HO377
       clear HO380
       clear BK350
       clear BK370
       clear HB
       have HO_371002 := n0_
       have HO_371003 := n1_
       have HO377 := n2_
       have HO380 := n3_
       have BK350 := n4_
       have BK370 := n5_
       have HB := n6_
       clear n0_ n1_ n2_ n3_ n4_ n5_ n6_
       (try clear hb)
       (try clear hb2)
       (try clear hk)
       (try clear hi)
       refine hK.out _ _ ⟨(blk_cell BK370.out 0).trans rfl, (blk_cell BK370.out 1).trans rfl, (blk_cell BK370.out 2).trans rfl, (blk_cell BK370.out 3).trans rfl, (blk_cell BK350.out 0).trans rfl, (blk_cell BK350.out 1).trans rfl, (blk_cell BK350.out 2).trans rfl, (blk_cell BK350.out 3).trans rfl⟩ (fun hHeld => ?_)
       clear hK K
       refine norm_ (a' := ?_) ?_ ?_
       rotate_left
       ·show Act.put _ (some 45) _ = _
        simp only [Act.put, List.setIfInBounds_toArray, List.set_cons_zero, List.set_cons_succ, i64_w, i32_w]
        rfl
       refine pure_ (i := 4) (N := some 46) (v := ?_) (a' := ?_) #[tT,tT,tT,tT,tT] rfl rfl (by kernel_rfl) (fun _ _ _ h => h) (Or.inl ⟨by rfl, ?_⟩) ?_ ?_
       rotate_left
       ·intro w'
        go_simp
        with_reducible rfl
       rotate_left
       ·exact pa
       refine done_ (by kernel_rfl) ?_
       try go_wp2
       go_ret
       exact ⟨by first | rfl | (simp [errW_none, errW_some] <;> rfl) | (simp [*, errW_none, errW_some] <;> rfl), by repeat (first | (with_reducible first | exact HB.out | apply below_alloc | apply pw_below_drewN | apply below_drew1 | refine below_set ?_ GE350.out | refine below_set ?_ GE370.out) | exact HB.out)⟩
      ·replace c35 := Bool.eq_false_iff.mpr c35
       subst c35
       have H1 : (some false) = some true := by rw [if_neg (show ¬ (false = true) by decide)] at H; exact H
       clear H
       have H := H1
       clear H1
       cases H
end Go.Proofs.Ytlfifbalakgfeaa.PFnExactFaceNamed
