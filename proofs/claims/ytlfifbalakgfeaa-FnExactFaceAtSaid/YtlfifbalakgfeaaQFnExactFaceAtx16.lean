/- Contracts of functions that FnExactFaceAt reaches, out of the lines of the kit's print. -/
import Derived.Test.YtlfifbalakgfeaaQFnExactFaceAtx0
import Derived.Test.YtlfifbalakgfeaaQFnExactFaceAtx12
namespace Go.Proofs.Ytlfifbalakgfeaa.PFnExactFaceAt
open Go.RowKit Go.Proofs.YtlfifbalakgfeaaW.PrintWords Go.Proofs.YtlfifbalakgfeaaW.PrintLast Go.Proofs.YtlfifbalakgfeaaW.PrintMore
open Bool renaming true → tT, false → fF
open Go.World renaming block_lt_of_cell? → bL
attribute [local go_sem] max2_int min2_int max_two min_two max_three min_three max_four min_four
set_option linter.unusedVariables false
set_option linter.unusedSimpArgs false
def impl_facePolygon.f (k : Nat) (a0_0 : Int) (a0_1 : Int) (l0_2 : List (S48)) (l0_3 : List (S67)) (a1 : Int) : Option ((List (S48))) := if 0 ≤ a1 then (if a1 < (l0_3.length : Int) then ((impl_ringPolygon.f k l0_2 ((rd_T67 l0_3 a1).f1)).bind fun bt369 => (some bt369.1)) else (none)) else (none)
theorem impl_facePolygon.mono : ∀ a0 a1 a2 a3 a4 k, LeO (impl_facePolygon.f k a0 a1 a2 a3 a4) (impl_facePolygon.f (k + 1) a0 a1 a2 a3 a4) := by
 intro a0 a1 a2 a3 a4 k
 unfold impl_facePolygon.f
 repeat' first
   | (with_reducible exact impl_ringPolygon.mono _ _ _)
   | (with_reducible exact LeO.refl _)
   | (with_reducible exact LeO.none _)
   | (with_reducible refine LeO.ite ?_ ?_)
   | (with_reducible refine LeO.bind ?_ (fun _ => ?_))
   | exact impl_ringPolygon.mono _ _ _
   | exact LeO.none _
   | refine LeO.ite ?_ ?_
   | refine LeO.bind ?_ (fun _ => ?_)
def impl_facePolygon.T1 : Bool × List (List Nat × List Nat) := (true, [([], []), ([0], [0]), ([], []), ([2], [2]), ([], []), ([3, 4], [3, 4]), ([5], [5]), ([6], [6]), ([1, 7], [1, 7]), ([8], [8]), ([9], [9]), ([9], [9]), ([10, 8, 0, 1, 2, 3, 4, 5, 6, 7, 8, 9, 10], [10]), ([11, 12, 0, 1, 2, 3, 4, 5, 6, 7, 8, 9, 10, 11, 12], [11])])
def impl_facePolygon.B1 : List Nat := [0, 1, 0, 4, 0, 28, 60, 124, 255, 511, 1023, 1023, 2047, 8191]
theorem impl_facePolygon.tab1 : rtab .any (opsOf Try.f50 1) = impl_facePolygon.T1 := by kernel_rfl
theorem impl_facePolygon.bits1 : waitsOk impl_facePolygon.T1.2 impl_facePolygon.B1 = true := by kernel_rfl
set_option maxHeartbeats 8000000 in
set_option maxRecDepth 100000 in
theorem impl_facePolygon.calls (k : Nat) (a0_0 : Int) (a0_1 : Int) (A0_2 : Option Addr) (c0_2 : Nat) (l0_2 : List (S48)) (A0_3 : Option Addr) (c0_3 : Nat) (l0_3 : List (S67)) (a1 : Int) (r : List (S48)) (w : World) (hr0_2 : Kd.C k48 w A0_2 l0_2.length l0_2) (hc0_2 : l0_2.length ≤ c0_2) (hr0_3 : Kd.C k67 w A0_3 l0_3.length l0_3) (hc0_3 : l0_3.length ≤ c0_3) (h : impl_facePolygon.f k a0_0 a0_1 l0_2 l0_3 a1 = some r) :
  Calls Try.prog 50 #[.agg #[.int .i64 a0_0, .int .i64 a0_1, .slice A0_2 l0_2.length c0_2, .slice A0_3 l0_3.length c0_3], .int .i64 a1] w fun e w' => ∃ v0_ : Value, e = .returned (v0_) ∧ Kd.R k48 48 w' w.heap.size (fun _ => True) v0_ r ∧ Below w.heap.size w w' := by
 have hu31 := Try.underlying31
 have HR0_2 := Aside0.mk hr0_2
 have HC0_2 := Aside0.mk hc0_2
 clear hr0_2 hc0_2
 have HR0_3 := Aside0.mk hr0_3
 have HC0_3 := Aside0.mk hc0_3
 clear hr0_3 hc0_3
 have HB := Aside0.mk (Below.refl w.heap.size w)
 have H : (if 0 ≤ a1 then (if a1 < (l0_3.length : Int) then ((impl_ringPolygon.f k l0_2 ((rd_T67 l0_3 a1).f1)).bind fun bt369 => (some bt369.1)) else (none)) else (none)) = some r := h
 clear h
 by_cases c3 : 0 ≤ a1
 ·rw [if_pos c3] at H
  have c3b0 : decide (0 ≤ a1) = true := decide_eq_true c3
  clear c3
  by_cases c4 : a1 < (l0_3.length : Int)
  ·rw [if_pos c4] at H
   have c4b0 : decide (a1 < (l0_3.length : Int)) = true := decide_eq_true c4
   clear c4
   replace H := Option.bind_eq_some_iff.mp H
   obtain ⟨⟨t369, t370⟩, A50, H⟩ := H
   replace H : (some t369) = some r := H
   have A5 := Aside0.mk A50
   clear A50
   obtain rfl := Option.some.inj H
   go_enter Try.func50, Try.ntmps50
   try go_wp2_with (first | ((with_reducible refine gate_dst (N := 2) rfl ?_); refine bx (cs := #[.int .i64 a0_0, .int .i64 a0_1, .slice A0_2 l0_2.length c0_2, .slice A0_3 l0_3.length c0_3]) (t := 31) ?_; intro gb367 hg w6 hbox hb; have n0_ := sb hb; have n1_ := Aside0.mk (hbox); have n2_ := zb hg; have n3_ := zb hg; clear HB; have HB := n0_; have BK367 := n1_; have GW367 := n2_; have GE367 := n3_; clear n0_ n1_ n2_ n3_; clear hb hbox hg))
   have n0_ := Aside0.mk (blk_drew BK367.out)
   have n1_ := Aside0.mk (below_drew1 HB.out)
   clear BK367
   clear HB
   have BK367 := n0_
   have HB := n1_
   clear n0_ n1_
   have p368 : 0 ≤ (a1 : Int) := da
   have q368 : a1 < (l0_3.length : Int) := da
   obtain ⟨ad368, A368_1, c368_1, e368, hx368_0, hx368_1, hl368_1, hi368_1⟩ := at_T67 HR0_3.out a1 p368 q368
   have hw368_1 := hx368_1
   have hw368_0 := hx368_0
   cases e368
   replace hx368_0 := (HB.out.cell (bL w _ hx368_0)).trans hx368_0
   replace hx368_1 := (HB.out.cell (bL w _ hx368_1)).trans hx368_1
   have HR368_1 := Aside0.mk hi368_1
   have HC368_1 := Aside0.mk hl368_1
   clear hi368_1 hl368_1
   replace p368 := eq_true p368
   replace q368 := eq_true q368
   refine start_ (n := 14) (S := fun w' => w'.cell? ⟨gb367, 0, none⟩ = some (.int .i64 a0_0) ∧ w'.cell? ⟨gb367, 1, none⟩ = some (.int .i64 a0_1) ∧ w'.cell? ⟨gb367, 2, none⟩ = some (.slice A0_2 l0_2.length c0_2) ∧ w'.cell? ⟨gb367, 3, none⟩ = some (.slice (some ad368) l0_3.length c0_3) ∧ w'.cell? (ad368.add ((a1).toNat * 2)) = some (.string ((rd_T67 l0_3 a1).f0)) ∧ w'.cell? ⟨(ad368.add ((a1).toNat * 2)).block, (ad368.add ((a1).toNat * 2)).off + 1, none⟩ = some (.slice A368_1 ((rd_T67 l0_3 a1).f1).length c368_1)) (ds := []) #[fF,fF,fF,fF,fF,fF,fF,fF,fF,fF,fF,fF,fF,fF] (by kernel_rfl) rfl rfl ⟨(blk_cell BK367.out 0).trans rfl, (blk_cell BK367.out 1).trans rfl, (blk_cell BK367.out 2).trans rfl, (blk_cell BK367.out 3).trans rfl, ((HB.out.cell (bL w _ hw368_0)).trans hw368_0), ((HB.out.cell (bL w _ hw368_1)).trans hw368_1)⟩ (fun hHeld => ?_); refine with_tabW impl_facePolygon.tab1 impl_facePolygon.bits1 (fun HT_ HW_ => ?_)
   generalize w6.drew = w7 at BK367 HB HR368_1 hx368_0 hx368_1 hHeld ⊢
   refine pu 0 8 HT_ ?_
   refine pu 2 10 HT_ ?_
   refine pu 4 12 HT_ ?_
   refine tk 1 9 HT_ HW_ hHeld ?_
   refine tk 3 11 HT_ HW_ hHeld ?_
   refine pu 5 13 HT_ ?_
   refine pu 6 14 HT_ ?_
   refine tk 7 15 HT_ HW_ hHeld ?_
   refine on 8 16 HT_ (fun K hK => ?_)
   refine goes_ Try.func43 (by kernel_rfl) rfl #[.slice A0_2 l0_2.length c0_2, .slice A368_1 ((rd_T67 l0_3 a1).f1).length c368_1] (by rfl) rfl rfl (by (try simp only [List.map_toArray, List.map_cons, List.map_nil]); first | done | rfl | (simp only [List.length_drop, List.length_take]; rfl)) ?_
   with_reducible refine (impl_ringPolygon.calls k _ _ l0_2 _ _ ((rd_T67 l0_3 a1).f1) t369 t370 _ ?side1 ?side2 ?side3 ?side4 A5.out).mono ?_
   (case side1 => repeat (first | exact (Kd.C_below HR0_2.out HB.out) | (with_reducible refine Kd.C_alloc ?_ _) | (with_reducible refine Kd.C_drewN ?_ _) | (with_reducible refine Kd.C_drew ?_)))
   (case side2 => exact HC0_2.out)
   (case side3 => repeat (first | exact (Kd.C_below HR368_1.out HB.out) | (with_reducible refine Kd.C_alloc ?_ _) | (with_reducible refine Kd.C_drewN ?_ _) | (with_reducible refine Kd.C_drew ?_)))
   (case side4 => exact HC368_1.out)
   rintro e w8 ⟨v371, rfl, ho0, hb⟩
   refine ⟨_, rfl, ?_⟩
   have n0_ := Aside0.mk (Kd.R_lower ho0 (below_size ib))
   have n1_ := kb BK367 hb
   have n2_ := sb hb
   clear BK367
   clear HB
   have HO372 := n0_
   have BK367 := n1_
   have HB := n2_
   clear n0_ n1_ n2_
   (try clear hb)
   (try clear hb2)
   (try clear hk)
   (try clear hi)
   (try clear ho0)
   refine hK.out _ _ ⟨(blk_cell BK367.out 0).trans rfl, (blk_cell BK367.out 1).trans rfl, (blk_cell BK367.out 2).trans rfl, (blk_cell BK367.out 3).trans rfl, ((HB.out.cell (bL w _ hw368_0)).trans hw368_0), ((HB.out.cell (bL w _ hw368_1)).trans hw368_1)⟩ (fun hHeld => ?_)
   clear hK K
   refine norm_ (a' := ?_) ?_ ?_
   rotate_left
   ·show Act.put _ (some 16) _ = _
    simp only [Act.put, List.setIfInBounds_toArray, List.set_cons_zero, List.set_cons_succ, i64_w, i32_w]
    rfl
   refine pu 9 7 HT_ ?_
   refine pu 10 17 HT_ ?_
   refine pu 11 18 HT_ ?_
   refine pu 12 5 HT_ ?_
   refine pu 13 6 HT_ ?_
   refine done_ (done_of HT_.out (by kernel_rfl)) ?_
   try go_wp2
   go_ret
   exact ⟨_, by first | rfl | (simp [errW_none, errW_some] <;> rfl) | (simp [*, errW_none, errW_some] <;> rfl), by (with_reducible repeat (first | apply Kd.R_alloc | apply Kd.R_drewN | apply Kd.R_drew)); exact HO372.out, by repeat (first | (with_reducible first | exact HB.out | apply below_alloc | apply pw_below_drewN | apply below_drew1 | refine below_set ?_ GE367.out) | exact HB.out)⟩
  ·rw [if_neg c4] at H
   exact absurd H (by simp)
 ·rw [if_neg c3] at H
  exact absurd H (by simp)
def impl_inside.l0 : Nat → List (S48) → Int → List (S48) → Int → Int → Int → Int → Option (Int)
 | 0, _, _, _, _, _, _, _ => none
 | k + 1, x0, x5, x10, x11, x12, x374000, x374001 => if x12 < x11 then (if 0 ≤ x12 then (if x12 < (x10.length : Int) then (if (x0.length : Int) = 0 then (none) else (if 0 ≤ (Int.tmod (wrap64 (x12 + 1)) (x0.length : Int)) then (if (Int.tmod (wrap64 (x12 + 1)) (x0.length : Int)) < (x0.length : Int) then ((impl_on.f ((rd_T48 x10 x12).f0) ((rd_T48 x10 x12).f1) ((rd_T48 x0 (Int.tmod (wrap64 (x12 + 1)) (x0.length : Int))).f0) ((rd_T48 x0 (Int.tmod (wrap64 (x12 + 1)) (x0.length : Int))).f1) x374000 x374001).bind fun t378 => (if t378 = true then (some 0) else (if ((decide (((rd_T48 x10 x12).f1) > x374001)) != (decide (((rd_T48 x0 (Int.tmod (wrap64 (x12 + 1)) (x0.length : Int))).f1) > x374001))) = true then ((impl_side.f ((rd_T48 x10 x12).f0) ((rd_T48 x10 x12).f1) ((rd_T48 x0 (Int.tmod (wrap64 (x12 + 1)) (x0.length : Int))).f0) ((rd_T48 x0 (Int.tmod (wrap64 (x12 + 1)) (x0.length : Int))).f1) x374000 x374001).bind fun t379 => (if ((rd_T48 x0 (Int.tmod (wrap64 (x12 + 1)) (x0.length : Int))).f1) < ((rd_T48 x10 x12).f1) then (if (wrap64 (-t379)) > 0 then (impl_inside.l0 k x0 (wrap64 (-x5)) x10 x11 (wrap64 (x12 + 1)) x374000 x374001) else (impl_inside.l0 k x0 x5 x10 x11 (wrap64 (x12 + 1)) x374000 x374001)) else (if t379 > 0 then (impl_inside.l0 k x0 (wrap64 (-x5)) x10 x11 (wrap64 (x12 + 1)) x374000 x374001) else (impl_inside.l0 k x0 x5 x10 x11 (wrap64 (x12 + 1)) x374000 x374001)))) else (impl_inside.l0 k x0 x5 x10 x11 (wrap64 (x12 + 1)) x374000 x374001)))) else (none)) else (none))) else (none)) else (none)) else (some x5)
def impl_inside.f (k : Nat) (l0 : List (S48)) (a1_0 : Int) (a1_1 : Int) : Option (Int) := impl_inside.l0 k l0 (-1) l0 (l0.length : Int) 0 a1_0 a1_1
theorem impl_inside.mono_l : ∀ k, (∀ y0 y1 y2 y3 y4 y5 y6, LeO (impl_inside.l0 k y0 y1 y2 y3 y4 y5 y6) (impl_inside.l0 (k + 1) y0 y1 y2 y3 y4 y5 y6))
 | 0 => fun _ _ _ _ _ _ _ r h => by simp [impl_inside.l0] at h
 | k + 1 => by
  have ih0 := impl_inside.mono_l k
  ·intro y0 y1 y2 y3 y4 y5 y6
   unfold impl_inside.l0
   repeat' first
   | (with_reducible exact ih0 _ _ _ _ _ _ _)
   | (with_reducible exact LeO.refl _)
   | (with_reducible exact LeO.none _)
   | (with_reducible refine LeO.ite ?_ ?_)
   | (with_reducible refine LeO.bind ?_ (fun _ => ?_))
   | exact ih0 _ _ _ _ _ _ _
   | exact LeO.none _
   | refine LeO.ite ?_ ?_
   | refine LeO.bind ?_ (fun _ => ?_)
theorem impl_inside.mono : ∀ a0 a1 a2 k, LeO (impl_inside.f k a0 a1 a2) (impl_inside.f (k + 1) a0 a1 a2) := by
 intro a0 a1 a2 k
 have ih0 := impl_inside.mono_l k
 unfold impl_inside.f
 repeat' first
   | (with_reducible exact ih0 _ _ _ _ _ _ _)
   | (with_reducible exact LeO.refl _)
   | (with_reducible exact LeO.none _)
   | (with_reducible refine LeO.ite ?_ ?_)
   | (with_reducible refine LeO.bind ?_ (fun _ => ?_))
   | exact ih0 _ _ _ _ _ _ _
   | exact LeO.none _
   | refine LeO.ite ?_ ?_
   | refine LeO.bind ?_ (fun _ => ?_)
set_option maxHeartbeats 8000000 in
set_option maxRecDepth 100000 in
theorem impl_inside.calls (k : Nat) (A0 : Option Addr) (c0 : Nat) (l0 : List (S48)) (a1_0 : Int) (a1_1 : Int) (r : Int) (w : World) (hr0 : Kd.C k48 w A0 l0.length l0) (hc0 : l0.length ≤ c0) (h : impl_inside.f k l0 a1_0 a1_1 = some r) :
  Calls Try.prog 58 #[.slice A0 l0.length c0, .agg #[.int .i64 a1_0, .int .i64 a1_1]] w fun e w' => e = .returned (.int .i64 r) ∧ Below w.heap.size w w' := by
 have hu48 := Try.underlying48
 have HR0 := Aside0.mk hr0
 have HC0 := Aside0.mk hc0
 clear hr0 hc0
 have HB := Aside0.mk (Below.refl w.heap.size w)
 have H : (impl_inside.l0 k l0 (-1) l0 (l0.length : Int) 0 a1_0 a1_1) = some r := h
 clear h
 have H' := Aside0.mk H
 clear H
 go_enter Try.func58, Try.ntmps58
 go_wp2_with (first | ((with_reducible refine gate_dst (N := 3) rfl ?_); refine bx (cs := #[.int .i64 a1_0, .int .i64 a1_1]) (t := 48) ?_; intro gb373 hg w3 hbox hb; have n0_ := sb hb; have n1_ := Aside0.mk (hbox); have n2_ := zb hg; have n3_ := zb hg; clear HB; have HB := n0_; have BK373 := n1_; have GW373 := n2_; have GE373 := n3_; clear n0_ n1_ n2_ n3_; clear hb hbox hg))
 go_loopg [5, 12] k (fun kq v5 v12 w' => ∃ (x5_1 : Int) (x12_1 : Int), v5 = .int .i64 x5_1 ∧ v12 = .int .i64 x12_1 ∧ Aside0 (impl_inside.l0 kq l0 x5_1 l0 (l0.length : Int) x12_1 a1_0 a1_1 = some r) ∧ Aside0 (kq ≤ k) ∧ Aside0 (w'.heap[gb373]? = some (.cells #[.int .i64 a1_0, .int .i64 a1_1] 48 (0, 0))) ∧ Aside0 (Below w.heap.size w w'))
 case atStart => exact ⟨((-1)), (0), (by first | rfl | (simp; done) | (simp [*]; done)), (by first | rfl | (simp; done) | (simp [*]; done)), H', ⟨Nat.le_refl _⟩, ⟨by exact bk BK373⟩, ⟨by repeat (first | (with_reducible first | exact HB.out | apply below_alloc | apply pw_below_drewN | apply below_drew1 | refine below_set ?_ GE373.out) | exact HB.out)⟩⟩
 case round =>
  clear H'
  try clear p2
  obtain ⟨x5_1, x12_1, rfl, rfl, HA, HK1, BK373, HB⟩ := hrel
  cases gk with
  | zero => exact absurd HA.out (by simp [impl_inside.l0])
  | succ k1 =>
   have H := HA.out
   clear HA
   simp only [impl_inside.l0] at H
   by_cases c4 : x12_1 < (l0.length : Int)
   ·rw [if_pos c4] at H
    have c4b0 : decide (x12_1 < (l0.length : Int)) = true := decide_eq_true c4
    clear c4
    by_cases c5 : 0 ≤ x12_1
    ·rw [if_pos c5] at H
     have c5b0 : decide (0 ≤ x12_1) = true := decide_eq_true c5
     clear c5
     by_cases c6 : x12_1 < (l0.length : Int)
     ·rw [if_pos c6] at H
      have c6b0 : decide (x12_1 < (l0.length : Int)) = true := decide_eq_true c6
      clear c6
      by_cases c7 : (l0.length : Int) = 0
      ·rw [if_pos c7] at H
       exact absurd H (by simp)
      ·rw [if_neg c7] at H
       have c7b0 : ((l0.length : Int) == 0) = false := beq_eq_false_iff_ne.mpr c7
       have c7b1 : ((l0.length : Int) != 0) = true := bne_iff_ne.mpr c7
       have c7b2 : ¬ (l0 = []) := fun h_ => c7 (by rw [h_]; rfl)
       obtain ⟨ji8, hji8⟩ : ∃ j_ : Int, (Int.tmod (wrap64 (x12_1 + 1)) (l0.length : Int)) = j_ := ⟨_, rfl⟩
       replace H : (if 0 ≤ (ji8) then (if (ji8) < (l0.length : Int) then ((impl_on.f ((rd_T48 l0 x12_1).f0) ((rd_T48 l0 x12_1).f1) ((rd_T48 l0 (ji8)).f0) ((rd_T48 l0 (ji8)).f1) a1_0 a1_1).bind fun t378 => (if t378 = true then (some 0) else (if ((decide (((rd_T48 l0 x12_1).f1) > a1_1)) != (decide (((rd_T48 l0 (ji8)).f1) > a1_1))) = true then ((impl_side.f ((rd_T48 l0 x12_1).f0) ((rd_T48 l0 x12_1).f1) ((rd_T48 l0 (ji8)).f0) ((rd_T48 l0 (ji8)).f1) a1_0 a1_1).bind fun t379 => (if ((rd_T48 l0 (ji8)).f1) < ((rd_T48 l0 x12_1).f1) then (if (wrap64 (-t379)) > 0 then (impl_inside.l0 k1 l0 (wrap64 (-x5_1)) l0 (l0.length : Int) (wrap64 (x12_1 + 1)) a1_0 a1_1) else (impl_inside.l0 k1 l0 x5_1 l0 (l0.length : Int) (wrap64 (x12_1 + 1)) a1_0 a1_1)) else (if t379 > 0 then (impl_inside.l0 k1 l0 (wrap64 (-x5_1)) l0 (l0.length : Int) (wrap64 (x12_1 + 1)) a1_0 a1_1) else (impl_inside.l0 k1 l0 x5_1 l0 (l0.length : Int) (wrap64 (x12_1 + 1)) a1_0 a1_1)))) else (impl_inside.l0 k1 l0 x5_1 l0 (l0.length : Int) (wrap64 (x12_1 + 1)) a1_0 a1_1)))) else (none)) else (none)) = some r := by first | (rw [hji8] at H; exact H) | (simp only [hji8] at H ⊢; exact H)
       by_cases c9 : 0 ≤ (ji8)
       ·rw [if_pos c9] at H
        have c9b0 : decide (0 ≤ (ji8)) = true := decide_eq_true c9
        clear c9
        by_cases c10 : (ji8) < (l0.length : Int)
        ·rw [if_pos c10] at H
         have c10b0 : decide ((ji8) < (l0.length : Int)) = true := decide_eq_true c10
         clear c10
         replace H := Option.bind_eq_some_iff.mp H
         obtain ⟨t378, A110, H⟩ := H
         replace H : (if t378 = true then (some 0) else (if ((decide (((rd_T48 l0 x12_1).f1) > a1_1)) != (decide (((rd_T48 l0 (ji8)).f1) > a1_1))) = true then ((impl_side.f ((rd_T48 l0 x12_1).f0) ((rd_T48 l0 x12_1).f1) ((rd_T48 l0 (ji8)).f0) ((rd_T48 l0 (ji8)).f1) a1_0 a1_1).bind fun t379 => (if ((rd_T48 l0 (ji8)).f1) < ((rd_T48 l0 x12_1).f1) then (if (wrap64 (-t379)) > 0 then (impl_inside.l0 k1 l0 (wrap64 (-x5_1)) l0 (l0.length : Int) (wrap64 (x12_1 + 1)) a1_0 a1_1) else (impl_inside.l0 k1 l0 x5_1 l0 (l0.length : Int) (wrap64 (x12_1 + 1)) a1_0 a1_1)) else (if t379 > 0 then (impl_inside.l0 k1 l0 (wrap64 (-x5_1)) l0 (l0.length : Int) (wrap64 (x12_1 + 1)) a1_0 a1_1) else (impl_inside.l0 k1 l0 x5_1 l0 (l0.length : Int) (wrap64 (x12_1 + 1)) a1_0 a1_1)))) else (impl_inside.l0 k1 l0 x5_1 l0 (l0.length : Int) (wrap64 (x12_1 + 1)) a1_0 a1_1))) = some r := H
         have A11 := Aside0.mk A110
         clear A110
         by_cases c12 : t378 = true
         ·subst c12
          have H1 : (some 0) = some r := by rw [if_pos rfl] at H; exact H
          clear H
          have H := H1
          clear H1
          obtain rfl := Option.some.inj H
          have p374 : 0 ≤ (x12_1 : Int) := da
          have q374 : x12_1 < (l0.length : Int) := da
          obtain ⟨ad374, e374, hx374_0, hx374_1⟩ := at_T48 HR0.out x12_1 p374 q374
          cases e374
          replace hx374_0 := (HB.out.cell (bL w _ hx374_0)).trans hx374_0
          replace hx374_1 := (HB.out.cell (bL w _ hx374_1)).trans hx374_1
          replace p374 := eq_true p374
          replace q374 := eq_true q374
          go_wp2_with (first | ((with_reducible refine gate_dst (N := 7) rfl ?_); refine bx (cs := #[.int .i64 0, .int .i64 0]) (t := 48) ?_; intro gb375 hg w13 hbox hb; have n0_ := kb BK373 hb; have n1_ := sb hb; have n2_ := Aside0.mk (hbox); have n3_ := zb hg; have n4_ := zb hg; have n5_ := nl BK373 hg; have n6_ := ng BK373 hg; clear BK373; clear HB; have BK373 := n0_; have HB := n1_; have BK375 := n2_; have GW375 := n3_; have GE375 := n4_; have NB373_375 := n5_; have NB375_373 := n6_; clear n0_ n1_ n2_ n3_ n4_ n5_ n6_; clear hb hbox hg; have hnb14 := NB375_373.out; have hnc14 := NB373_375.out; have hcz15_0 := ck BK375 0; have hcz15_1 := ck BK375 1; have hfz15_0 := blk_frozen BK375.out 0; have hfz15_1 := blk_frozen BK375.out 1; have p376 : 0 ≤ ((ji8) : Int) := da; have q376 : (ji8) < (l0.length : Int) := da; obtain ⟨ad376, e376, hx376_0, hx376_1⟩ := at_T48 HR0.out (ji8) p376 q376; obtain rfl : ad374 = ad376 := (by injection e376); have hn376_0 : ad374.block ≠ gb375 := nw hx376_0 GW375; have hn376_1 : ad374.block ≠ gb375 := nw hx376_0 GW375; replace hx376_0 := (HB.out.cell (bL w _ hx376_0)).trans hx376_0; replace hx376_1 := (HB.out.cell (bL w _ hx376_1)).trans hx376_1; replace hx376_0 := cf hn376_0 hx376_0 0 (.int .i64 ((rd_T48 l0 x12_1).f0)); replace hx376_1 := cf hn376_0 hx376_1 0 (.int .i64 ((rd_T48 l0 x12_1).f0)); replace hx376_0 := cf hn376_1 hx376_0 1 (.int .i64 ((rd_T48 l0 x12_1).f1)); replace hx376_1 := cf hn376_1 hx376_1 1 (.int .i64 ((rd_T48 l0 x12_1).f1)); clear hn376_0; clear hn376_1; replace p376 := eq_true p376; replace q376 := eq_true q376) | ((with_reducible refine gate_dst (N := 8) rfl ?_); refine bx (cs := #[.int .i64 0, .int .i64 0]) (t := 48) ?_; intro gb377 hg w16 hbox hb; have z0_ := mz hb (g := gb373) (o := .cells #[.int .i64 a1_0, .int .i64 a1_1] 48 (0, 0)) (by refine bF NB373_375.out ?_; refine bF NB373_375.out ?_; exact bk BK373); have n0_ := kc z0_ hb; have z1_ := mz hb (g := gb375) (o := .cells #[.int .i64 ((rd_T48 l0 x12_1).f0), .int .i64 ((rd_T48 l0 x12_1).f1)] 48 (0, 0)) (by refine bP (cs := #[.int .i64 ((rd_T48 l0 x12_1).f0), .int .i64 0]) 1 ?_; refine bP (cs := #[.int .i64 0, .int .i64 0]) 0 ?_; exact bk BK375); have n1_ := kc z1_ hb; have n2_ := sb hb; have n3_ := Aside0.mk (hbox); have n4_ := zb hg; have n5_ := zb hg; have n6_ := nm z0_ hg; have n7_ := nn z0_ hg; have n8_ := nm z1_ hg; have n9_ := nn z1_ hg; clear BK373; clear BK375; clear HB; have BK373 := n0_; have BK375 := n1_; have HB := n2_; have BK377 := n3_; have GW377 := n4_; have GE377 := n5_; have NB373_377 := n6_; have NB377_373 := n7_; have NB375_377 := n8_; have NB377_375 := n9_; clear z0_ z1_ n0_ n1_ n2_ n3_ n4_ n5_ n6_ n7_ n8_ n9_; clear hb hbox hg; have hnb17 := NB377_373.out; have hnc17 := NB373_377.out; have hnb18 := NB377_375.out; have hnc18 := NB375_377.out; have hcz19_0 := ck BK377 0; have hcz19_1 := ck BK377 1; have hfz19_0 := blk_frozen BK377.out 0; have hfz19_1 := blk_frozen BK377.out 1; have hcz20_0 := ck BK375 0; have hcz20_1 := ck BK375 1; have hfz20_0 := blk_frozen BK375.out 0; have hfz20_1 := blk_frozen BK375.out 1; have hcz21_0 := ck BK373 0; have hcz21_1 := ck BK373 1; have hfz21_0 := blk_frozen BK373.out 0; have hfz21_1 := blk_frozen BK373.out 1) | ((with_reducible refine gate_callee (f := 73) rfl ?_); refine goesL_ (some 28) rfl rfl Try.func73 (by kernel_rfl) rfl #[.agg #[.int .i64 ((rd_T48 l0 x12_1).f0), .int .i64 ((rd_T48 l0 x12_1).f1)], .agg #[.int .i64 ((rd_T48 l0 (ji8)).f0), .int .i64 ((rd_T48 l0 (ji8)).f1)], .agg #[.int .i64 a1_0, .int .i64 a1_1]] rfl (by (try simp only [List.map_toArray, List.map_cons, List.map_nil]); first | done | (simp only [hji8]; rfl) | rfl | (simp only [List.length_drop, List.length_take]; rfl)) ?_; (with_reducible refine (impl_on.calls ((rd_T48 l0 x12_1).f0) ((rd_T48 l0 x12_1).f1) ((rd_T48 l0 (ji8)).f0) ((rd_T48 l0 (ji8)).f1) a1_0 a1_1 true _ A11.out).mono ?_); rintro e w22 ⟨rfl, hb⟩; refine ⟨_, rfl, ?_⟩; have n0_ := Aside0.mk (blk_below (g := gb373) (o := .cells #[.int .i64 a1_0, .int .i64 a1_1] 48 (0, 0)) (by refine bF NB373_377.out ?_; refine bF NB373_377.out ?_; exact bk BK373) hb); have n1_ := Aside0.mk (blk_below (g := gb375) (o := .cells #[.int .i64 ((rd_T48 l0 x12_1).f0), .int .i64 ((rd_T48 l0 x12_1).f1)] 48 (0, 0)) (by refine bF NB375_377.out ?_; refine bF NB375_377.out ?_; exact bk BK375) hb); have n2_ := Aside0.mk (blk_below (g := gb377) (o := .cells #[.int .i64 ((rd_T48 l0 (ji8)).f0), .int .i64 ((rd_T48 l0 (ji8)).f1)] 48 (0, 0)) (by refine bP (cs := #[.int .i64 ((rd_T48 l0 (ji8)).f0), .int .i64 0]) 1 ?_; refine bP (cs := #[.int .i64 0, .int .i64 0]) 0 ?_; exact bk BK377) hb); have n3_ := sb hb; clear BK373; clear BK375; clear BK377; clear HB; have BK373 := n0_; have BK375 := n1_; have BK377 := n2_; have HB := n3_; clear n0_ n1_ n2_ n3_; (try clear hb); (try clear hb2); (try clear hk); (try clear hi)))
          go_ret
          exact ⟨by first | rfl | (simp [errW_none, errW_some] <;> rfl) | (simp only [← hji8]; first | rfl | (simp [errW_none, errW_some] <;> rfl)) | (simp [*, errW_none, errW_some] <;> rfl), by repeat (first | (with_reducible first | exact HB.out | apply below_alloc | apply pw_below_drewN | apply below_drew1 | refine below_set ?_ GE373.out | refine below_set ?_ GE375.out | refine below_set ?_ GE377.out) | exact HB.out)⟩
         ·replace c12 := Bool.eq_false_iff.mpr c12
          subst c12
          have H1 : (if ((decide (((rd_T48 l0 x12_1).f1) > a1_1)) != (decide (((rd_T48 l0 (ji8)).f1) > a1_1))) = true then ((impl_side.f ((rd_T48 l0 x12_1).f0) ((rd_T48 l0 x12_1).f1) ((rd_T48 l0 (ji8)).f0) ((rd_T48 l0 (ji8)).f1) a1_0 a1_1).bind fun t379 => (if ((rd_T48 l0 (ji8)).f1) < ((rd_T48 l0 x12_1).f1) then (if (wrap64 (-t379)) > 0 then (impl_inside.l0 k1 l0 (wrap64 (-x5_1)) l0 (l0.length : Int) (wrap64 (x12_1 + 1)) a1_0 a1_1) else (impl_inside.l0 k1 l0 x5_1 l0 (l0.length : Int) (wrap64 (x12_1 + 1)) a1_0 a1_1)) else (if t379 > 0 then (impl_inside.l0 k1 l0 (wrap64 (-x5_1)) l0 (l0.length : Int) (wrap64 (x12_1 + 1)) a1_0 a1_1) else (impl_inside.l0 k1 l0 x5_1 l0 (l0.length : Int) (wrap64 (x12_1 + 1)) a1_0 a1_1)))) else (impl_inside.l0 k1 l0 x5_1 l0 (l0.length : Int) (wrap64 (x12_1 + 1)) a1_0 a1_1)) = some r := by rw [if_neg (show ¬ (false = true) by decide)] at H; exact H
          clear H
          have H := H1
          clear H1
          by_cases c23 : ((decide (((rd_T48 l0 x12_1).f1) > a1_1)) != (decide (((rd_T48 l0 (ji8)).f1) > a1_1))) = true
          ·rw [if_pos c23] at H
           have c23b0 : ((decide (((rd_T48 l0 x12_1).f1) > a1_1)) != (decide (((rd_T48 l0 (ji8)).f1) > a1_1))) = true := c23
           (try (have c23b1 : decide ((decide (((rd_T48 l0 x12_1).f1) > a1_1)) = (decide (((rd_T48 l0 (ji8)).f1) > a1_1))) = false := by simpa using c23))
           (try (have c23b2 : ((decide (((rd_T48 l0 x12_1).f1) > a1_1)) == (decide (((rd_T48 l0 (ji8)).f1) > a1_1))) = false := by simpa using c23))
           (try (have c23b3 : ¬ ((decide (((rd_T48 l0 x12_1).f1) > a1_1)) = (decide (((rd_T48 l0 (ji8)).f1) > a1_1))) := by simpa using c23))
           clear c23
           replace H := Option.bind_eq_some_iff.mp H
           obtain ⟨t379, A240, H⟩ := H
           replace H : (if ((rd_T48 l0 (ji8)).f1) < ((rd_T48 l0 x12_1).f1) then (if (wrap64 (-t379)) > 0 then (impl_inside.l0 k1 l0 (wrap64 (-x5_1)) l0 (l0.length : Int) (wrap64 (x12_1 + 1)) a1_0 a1_1) else (impl_inside.l0 k1 l0 x5_1 l0 (l0.length : Int) (wrap64 (x12_1 + 1)) a1_0 a1_1)) else (if t379 > 0 then (impl_inside.l0 k1 l0 (wrap64 (-x5_1)) l0 (l0.length : Int) (wrap64 (x12_1 + 1)) a1_0 a1_1) else (impl_inside.l0 k1 l0 x5_1 l0 (l0.length : Int) (wrap64 (x12_1 + 1)) a1_0 a1_1))) = some r := H
           have A24 := Aside0.mk A240
           clear A240
           by_cases c25 : ((rd_T48 l0 (ji8)).f1) < ((rd_T48 l0 x12_1).f1)
           ·rw [if_pos c25] at H
            have c25b0 : decide (((rd_T48 l0 (ji8)).f1) < ((rd_T48 l0 x12_1).f1)) = true := decide_eq_true c25
            clear c25
            by_cases c26 : (wrap64 (-t379)) > 0
            ·rw [if_pos c26] at H
             have c26b0 : decide (0 < (wrap64 (-t379))) = true := decide_eq_true c26
             clear c26
             have H' := Aside0.mk H
             clear H
             have p374 : 0 ≤ (x12_1 : Int) := da
             have q374 : x12_1 < (l0.length : Int) := da
             obtain ⟨ad374, e374, hx374_0, hx374_1⟩ := at_T48 HR0.out x12_1 p374 q374
             cases e374
             replace hx374_0 := (HB.out.cell (bL w _ hx374_0)).trans hx374_0
             replace hx374_1 := (HB.out.cell (bL w _ hx374_1)).trans hx374_1
             replace p374 := eq_true p374
             replace q374 := eq_true q374
             go_wp2_with (first | ((with_reducible refine gate_dst (N := 7) rfl ?_); refine bx (cs := #[.int .i64 0, .int .i64 0]) (t := 48) ?_; intro gb375 hg w27 hbox hb; have n0_ := kb BK373 hb; have n1_ := sb hb; have n2_ := Aside0.mk (hbox); have n3_ := zb hg; have n4_ := zb hg; have n5_ := nl BK373 hg; have n6_ := ng BK373 hg; clear BK373; clear HB; have BK373 := n0_; have HB := n1_; have BK375 := n2_; have GW375 := n3_; have GE375 := n4_; have NB373_375 := n5_; have NB375_373 := n6_; clear n0_ n1_ n2_ n3_ n4_ n5_ n6_; clear hb hbox hg; have hnb28 := NB375_373.out; have hnc28 := NB373_375.out; have hcz29_0 := ck BK375 0; have hcz29_1 := ck BK375 1; have hfz29_0 := blk_frozen BK375.out 0; have hfz29_1 := blk_frozen BK375.out 1; have p376 : 0 ≤ ((ji8) : Int) := da; have q376 : (ji8) < (l0.length : Int) := da; obtain ⟨ad376, e376, hx376_0, hx376_1⟩ := at_T48 HR0.out (ji8) p376 q376; obtain rfl : ad374 = ad376 := (by injection e376); have hn376_0 : ad374.block ≠ gb375 := nw hx376_0 GW375; have hn376_1 : ad374.block ≠ gb375 := nw hx376_0 GW375; replace hx376_0 := (HB.out.cell (bL w _ hx376_0)).trans hx376_0; replace hx376_1 := (HB.out.cell (bL w _ hx376_1)).trans hx376_1; replace hx376_0 := cf hn376_0 hx376_0 0 (.int .i64 ((rd_T48 l0 x12_1).f0)); replace hx376_1 := cf hn376_0 hx376_1 0 (.int .i64 ((rd_T48 l0 x12_1).f0)); replace hx376_0 := cf hn376_1 hx376_0 1 (.int .i64 ((rd_T48 l0 x12_1).f1)); replace hx376_1 := cf hn376_1 hx376_1 1 (.int .i64 ((rd_T48 l0 x12_1).f1)); clear hn376_0; clear hn376_1; replace p376 := eq_true p376; replace q376 := eq_true q376) | ((with_reducible refine gate_dst (N := 8) rfl ?_); refine bx (cs := #[.int .i64 0, .int .i64 0]) (t := 48) ?_; intro gb377 hg w30 hbox hb; have z0_ := mz hb (g := gb373) (o := .cells #[.int .i64 a1_0, .int .i64 a1_1] 48 (0, 0)) (by refine bF NB373_375.out ?_; refine bF NB373_375.out ?_; exact bk BK373); have n0_ := kc z0_ hb; have z1_ := mz hb (g := gb375) (o := .cells #[.int .i64 ((rd_T48 l0 x12_1).f0), .int .i64 ((rd_T48 l0 x12_1).f1)] 48 (0, 0)) (by refine bP (cs := #[.int .i64 ((rd_T48 l0 x12_1).f0), .int .i64 0]) 1 ?_; refine bP (cs := #[.int .i64 0, .int .i64 0]) 0 ?_; exact bk BK375); have n1_ := kc z1_ hb; have n2_ := sb hb; have n3_ := Aside0.mk (hbox); have n4_ := zb hg; have n5_ := zb hg; have n6_ := nm z0_ hg; have n7_ := nn z0_ hg; have n8_ := nm z1_ hg; have n9_ := nn z1_ hg; clear BK373; clear BK375; clear HB; have BK373 := n0_; have BK375 := n1_; have HB := n2_; have BK377 := n3_; have GW377 := n4_; have GE377 := n5_; have NB373_377 := n6_; have NB377_373 := n7_; have NB375_377 := n8_; have NB377_375 := n9_; clear z0_ z1_ n0_ n1_ n2_ n3_ n4_ n5_ n6_ n7_ n8_ n9_; clear hb hbox hg; have hnb31 := NB377_373.out; have hnc31 := NB373_377.out; have hnb32 := NB377_375.out; have hnc32 := NB375_377.out; have hcz33_0 := ck BK377 0; have hcz33_1 := ck BK377 1; have hfz33_0 := blk_frozen BK377.out 0; have hfz33_1 := blk_frozen BK377.out 1; have hcz34_0 := ck BK375 0; have hcz34_1 := ck BK375 1; have hfz34_0 := blk_frozen BK375.out 0; have hfz34_1 := blk_frozen BK375.out 1; have hcz35_0 := ck BK373 0; have hcz35_1 := ck BK373 1; have hfz35_0 := blk_frozen BK373.out 0; have hfz35_1 := blk_frozen BK373.out 1) | ((with_reducible refine gate_callee (f := 73) rfl ?_); refine goesL_ (some 28) rfl rfl Try.func73 (by kernel_rfl) rfl #[.agg #[.int .i64 ((rd_T48 l0 x12_1).f0), .int .i64 ((rd_T48 l0 x12_1).f1)], .agg #[.int .i64 ((rd_T48 l0 (ji8)).f0), .int .i64 ((rd_T48 l0 (ji8)).f1)], .agg #[.int .i64 a1_0, .int .i64 a1_1]] rfl (by (try simp only [List.map_toArray, List.map_cons, List.map_nil]); first | done | (simp only [hji8]; rfl) | rfl | (simp only [List.length_drop, List.length_take]; rfl)) ?_; (with_reducible refine (impl_on.calls ((rd_T48 l0 x12_1).f0) ((rd_T48 l0 x12_1).f1) ((rd_T48 l0 (ji8)).f0) ((rd_T48 l0 (ji8)).f1) a1_0 a1_1 false _ A11.out).mono ?_); rintro e w36 ⟨rfl, hb⟩; refine ⟨_, rfl, ?_⟩; have n0_ := Aside0.mk (blk_below (g := gb373) (o := .cells #[.int .i64 a1_0, .int .i64 a1_1] 48 (0, 0)) (by refine bF NB373_377.out ?_; refine bF NB373_377.out ?_; exact bk BK373) hb); have n1_ := Aside0.mk (blk_below (g := gb375) (o := .cells #[.int .i64 ((rd_T48 l0 x12_1).f0), .int .i64 ((rd_T48 l0 x12_1).f1)] 48 (0, 0)) (by refine bF NB375_377.out ?_; refine bF NB375_377.out ?_; exact bk BK375) hb); have n2_ := Aside0.mk (blk_below (g := gb377) (o := .cells #[.int .i64 ((rd_T48 l0 (ji8)).f0), .int .i64 ((rd_T48 l0 (ji8)).f1)] 48 (0, 0)) (by refine bP (cs := #[.int .i64 ((rd_T48 l0 (ji8)).f0), .int .i64 0]) 1 ?_; refine bP (cs := #[.int .i64 0, .int .i64 0]) 0 ?_; exact bk BK377) hb); have n3_ := sb hb; clear BK373; clear BK375; clear BK377; clear HB; have BK373 := n0_; have BK375 := n1_; have BK377 := n2_; have HB := n3_; clear n0_ n1_ n2_ n3_; (try clear hb); (try clear hb2); (try clear hk); (try clear hi); have hcz37_0 := ck BK375 0; have hcz37_1 := ck BK375 1; have hfz37_0 := blk_frozen BK375.out 0; have hfz37_1 := blk_frozen BK375.out 1; have hcz38_0 := ck BK373 0; have hcz38_1 := ck BK373 1; have hfz38_0 := blk_frozen BK373.out 0; have hfz38_1 := blk_frozen BK373.out 1; have hcz39_0 := ck BK377 0; have hcz39_1 := ck BK377 1; have hfz39_0 := blk_frozen BK377.out 0; have hfz39_1 := blk_frozen BK377.out 1) | ((with_reducible refine gate_callee (f := 81) rfl ?_); refine goesL_ (some 43) rfl rfl Try.func81 (by kernel_rfl) rfl #[.agg #[.int .i64 ((rd_T48 l0 x12_1).f0), .int .i64 ((rd_T48 l0 x12_1).f1)], .agg #[.int .i64 ((rd_T48 l0 (ji8)).f0), .int .i64 ((rd_T48 l0 (ji8)).f1)], .agg #[.int .i64 a1_0, .int .i64 a1_1]] rfl (by (try simp only [List.map_toArray, List.map_cons, List.map_nil]); first | done | (simp only [hji8]; rfl) | rfl | (simp only [List.length_drop, List.length_take]; rfl)) ?_; (with_reducible refine (impl_side.calls ((rd_T48 l0 x12_1).f0) ((rd_T48 l0 x12_1).f1) ((rd_T48 l0 (ji8)).f0) ((rd_T48 l0 (ji8)).f1) a1_0 a1_1 t379 _ A24.out).mono ?_); rintro e w40 ⟨rfl, hb⟩; refine ⟨_, rfl, ?_⟩; have n0_ := kb BK373 hb; have n1_ := kb BK375 hb; have n2_ := kb BK377 hb; have n3_ := sb hb; clear BK373; clear BK375; clear BK377; clear HB; have BK373 := n0_; have BK375 := n1_; have BK377 := n2_; have HB := n3_; clear n0_ n1_ n2_ n3_; (try clear hb); (try clear hb2); (try clear hk); (try clear hi); have hcz41_0 := ck BK377 0; have hcz41_1 := ck BK377 1; have hfz41_0 := blk_frozen BK377.out 0; have hfz41_1 := blk_frozen BK377.out 1; have hcz42_0 := ck BK375 0; have hcz42_1 := ck BK375 1; have hfz42_0 := blk_frozen BK375.out 0; have hfz42_1 := blk_frozen BK375.out 1))
             go_roundg k1
             case measure => have := HK1.out; omega
             case rel => exact ⟨(wrap64 (-x5_1)), (wrap64 (x12_1 + 1)), (by first | rfl | (simp; done) | (simp [*]; done)), (by first | rfl | (simp; done) | (simp [*]; done)), H', ⟨by have := HK1.out; omega⟩, ⟨by exact bk BK373⟩, ⟨by repeat (first | (with_reducible first | exact HB.out | apply below_alloc | apply pw_below_drewN | apply below_drew1 | refine below_set ?_ GE373.out | refine below_set ?_ GE375.out | refine below_set ?_ GE377.out) | exact HB.out)⟩⟩
            ·rw [if_neg c26] at H
             have c26b0 : decide (0 < (wrap64 (-t379))) = false := decide_eq_false c26
             clear c26
             have H' := Aside0.mk H
             clear H
             have p374 : 0 ≤ (x12_1 : Int) := da
             have q374 : x12_1 < (l0.length : Int) := da
             obtain ⟨ad374, e374, hx374_0, hx374_1⟩ := at_T48 HR0.out x12_1 p374 q374
             cases e374
             replace hx374_0 := (HB.out.cell (bL w _ hx374_0)).trans hx374_0
             replace hx374_1 := (HB.out.cell (bL w _ hx374_1)).trans hx374_1
             replace p374 := eq_true p374
             replace q374 := eq_true q374
             go_wp2_with (first | ((with_reducible refine gate_dst (N := 7) rfl ?_); refine bx (cs := #[.int .i64 0, .int .i64 0]) (t := 48) ?_; intro gb375 hg w43 hbox hb; have n0_ := kb BK373 hb; have n1_ := sb hb; have n2_ := Aside0.mk (hbox); have n3_ := zb hg; have n4_ := zb hg; have n5_ := nl BK373 hg; have n6_ := ng BK373 hg; clear BK373; clear HB; have BK373 := n0_; have HB := n1_; have BK375 := n2_; have GW375 := n3_; have GE375 := n4_; have NB373_375 := n5_; have NB375_373 := n6_; clear n0_ n1_ n2_ n3_ n4_ n5_ n6_; clear hb hbox hg; have hnb44 := NB375_373.out; have hnc44 := NB373_375.out; have hcz45_0 := ck BK375 0; have hcz45_1 := ck BK375 1; have hfz45_0 := blk_frozen BK375.out 0; have hfz45_1 := blk_frozen BK375.out 1; have p376 : 0 ≤ ((ji8) : Int) := da; have q376 : (ji8) < (l0.length : Int) := da; obtain ⟨ad376, e376, hx376_0, hx376_1⟩ := at_T48 HR0.out (ji8) p376 q376; obtain rfl : ad374 = ad376 := (by injection e376); have hn376_0 : ad374.block ≠ gb375 := nw hx376_0 GW375; have hn376_1 : ad374.block ≠ gb375 := nw hx376_0 GW375; replace hx376_0 := (HB.out.cell (bL w _ hx376_0)).trans hx376_0; replace hx376_1 := (HB.out.cell (bL w _ hx376_1)).trans hx376_1; replace hx376_0 := cf hn376_0 hx376_0 0 (.int .i64 ((rd_T48 l0 x12_1).f0)); replace hx376_1 := cf hn376_0 hx376_1 0 (.int .i64 ((rd_T48 l0 x12_1).f0)); replace hx376_0 := cf hn376_1 hx376_0 1 (.int .i64 ((rd_T48 l0 x12_1).f1)); replace hx376_1 := cf hn376_1 hx376_1 1 (.int .i64 ((rd_T48 l0 x12_1).f1)); clear hn376_0; clear hn376_1; replace p376 := eq_true p376; replace q376 := eq_true q376) | ((with_reducible refine gate_dst (N := 8) rfl ?_); refine bx (cs := #[.int .i64 0, .int .i64 0]) (t := 48) ?_; intro gb377 hg w46 hbox hb; have z0_ := mz hb (g := gb373) (o := .cells #[.int .i64 a1_0, .int .i64 a1_1] 48 (0, 0)) (by refine bF NB373_375.out ?_; refine bF NB373_375.out ?_; exact bk BK373); have n0_ := kc z0_ hb; have z1_ := mz hb (g := gb375) (o := .cells #[.int .i64 ((rd_T48 l0 x12_1).f0), .int .i64 ((rd_T48 l0 x12_1).f1)] 48 (0, 0)) (by refine bP (cs := #[.int .i64 ((rd_T48 l0 x12_1).f0), .int .i64 0]) 1 ?_; refine bP (cs := #[.int .i64 0, .int .i64 0]) 0 ?_; exact bk BK375); have n1_ := kc z1_ hb; have n2_ := sb hb; have n3_ := Aside0.mk (hbox); have n4_ := zb hg; have n5_ := zb hg; have n6_ := nm z0_ hg; have n7_ := nn z0_ hg; have n8_ := nm z1_ hg; have n9_ := nn z1_ hg; clear BK373; clear BK375; clear HB; have BK373 := n0_; have BK375 := n1_; have HB := n2_; have BK377 := n3_; have GW377 := n4_; have GE377 := n5_; have NB373_377 := n6_; have NB377_373 := n7_; have NB375_377 := n8_; have NB377_375 := n9_; clear z0_ z1_ n0_ n1_ n2_ n3_ n4_ n5_ n6_ n7_ n8_ n9_; clear hb hbox hg; have hnb47 := NB377_373.out; have hnc47 := NB373_377.out; have hnb48 := NB377_375.out; have hnc48 := NB375_377.out; have hcz49_0 := ck BK377 0; have hcz49_1 := ck BK377 1; have hfz49_0 := blk_frozen BK377.out 0; have hfz49_1 := blk_frozen BK377.out 1; have hcz50_0 := ck BK375 0; have hcz50_1 := ck BK375 1; have hfz50_0 := blk_frozen BK375.out 0; have hfz50_1 := blk_frozen BK375.out 1; have hcz51_0 := ck BK373 0; have hcz51_1 := ck BK373 1; have hfz51_0 := blk_frozen BK373.out 0; have hfz51_1 := blk_frozen BK373.out 1) | ((with_reducible refine gate_callee (f := 73) rfl ?_); refine goesL_ (some 28) rfl rfl Try.func73 (by kernel_rfl) rfl #[.agg #[.int .i64 ((rd_T48 l0 x12_1).f0), .int .i64 ((rd_T48 l0 x12_1).f1)], .agg #[.int .i64 ((rd_T48 l0 (ji8)).f0), .int .i64 ((rd_T48 l0 (ji8)).f1)], .agg #[.int .i64 a1_0, .int .i64 a1_1]] rfl (by (try simp only [List.map_toArray, List.map_cons, List.map_nil]); first | done | (simp only [hji8]; rfl) | rfl | (simp only [List.length_drop, List.length_take]; rfl)) ?_; (with_reducible refine (impl_on.calls ((rd_T48 l0 x12_1).f0) ((rd_T48 l0 x12_1).f1) ((rd_T48 l0 (ji8)).f0) ((rd_T48 l0 (ji8)).f1) a1_0 a1_1 false _ A11.out).mono ?_); rintro e w52 ⟨rfl, hb⟩; refine ⟨_, rfl, ?_⟩; have n0_ := Aside0.mk (blk_below (g := gb373) (o := .cells #[.int .i64 a1_0, .int .i64 a1_1] 48 (0, 0)) (by refine bF NB373_377.out ?_; refine bF NB373_377.out ?_; exact bk BK373) hb); have n1_ := Aside0.mk (blk_below (g := gb375) (o := .cells #[.int .i64 ((rd_T48 l0 x12_1).f0), .int .i64 ((rd_T48 l0 x12_1).f1)] 48 (0, 0)) (by refine bF NB375_377.out ?_; refine bF NB375_377.out ?_; exact bk BK375) hb); have n2_ := Aside0.mk (blk_below (g := gb377) (o := .cells #[.int .i64 ((rd_T48 l0 (ji8)).f0), .int .i64 ((rd_T48 l0 (ji8)).f1)] 48 (0, 0)) (by refine bP (cs := #[.int .i64 ((rd_T48 l0 (ji8)).f0), .int .i64 0]) 1 ?_; refine bP (cs := #[.int .i64 0, .int .i64 0]) 0 ?_; exact bk BK377) hb); have n3_ := sb hb; clear BK373; clear BK375; clear BK377; clear HB; have BK373 := n0_; have BK375 := n1_; have BK377 := n2_; have HB := n3_; clear n0_ n1_ n2_ n3_; (try clear hb); (try clear hb2); (try clear hk); (try clear hi); have hcz53_0 := ck BK375 0; have hcz53_1 := ck BK375 1; have hfz53_0 := blk_frozen BK375.out 0; have hfz53_1 := blk_frozen BK375.out 1; have hcz54_0 := ck BK373 0; have hcz54_1 := ck BK373 1; have hfz54_0 := blk_frozen BK373.out 0; have hfz54_1 := blk_frozen BK373.out 1; have hcz55_0 := ck BK377 0; have hcz55_1 := ck BK377 1; have hfz55_0 := blk_frozen BK377.out 0; have hfz55_1 := blk_frozen BK377.out 1) | ((with_reducible refine gate_callee (f := 81) rfl ?_); refine goesL_ (some 43) rfl rfl Try.func81 (by kernel_rfl) rfl #[.agg #[.int .i64 ((rd_T48 l0 x12_1).f0), .int .i64 ((rd_T48 l0 x12_1).f1)], .agg #[.int .i64 ((rd_T48 l0 (ji8)).f0), .int .i64 ((rd_T48 l0 (ji8)).f1)], .agg #[.int .i64 a1_0, .int .i64 a1_1]] rfl (by (try simp only [List.map_toArray, List.map_cons, List.map_nil]); first | done | (simp only [hji8]; rfl) | rfl | (simp only [List.length_drop, List.length_take]; rfl)) ?_; (with_reducible refine (impl_side.calls ((rd_T48 l0 x12_1).f0) ((rd_T48 l0 x12_1).f1) ((rd_T48 l0 (ji8)).f0) ((rd_T48 l0 (ji8)).f1) a1_0 a1_1 t379 _ A24.out).mono ?_); rintro e w56 ⟨rfl, hb⟩; refine ⟨_, rfl, ?_⟩; have n0_ := kb BK373 hb; have n1_ := kb BK375 hb; have n2_ := kb BK377 hb; have n3_ := sb hb; clear BK373; clear BK375; clear BK377; clear HB; have BK373 := n0_; have BK375 := n1_; have BK377 := n2_; have HB := n3_; clear n0_ n1_ n2_ n3_; (try clear hb); (try clear hb2); (try clear hk); (try clear hi); have hcz57_0 := ck BK377 0; have hcz57_1 := ck BK377 1; have hfz57_0 := blk_frozen BK377.out 0; have hfz57_1 := blk_frozen BK377.out 1; have hcz58_0 := ck BK375 0; have hcz58_1 := ck BK375 1; have hfz58_0 := blk_frozen BK375.out 0; have hfz58_1 := blk_frozen BK375.out 1))
             go_roundg k1
             case measure => have := HK1.out; omega
             case rel => exact ⟨(x5_1), (wrap64 (x12_1 + 1)), (by first | rfl | (simp; done) | (simp [*]; done)), (by first | rfl | (simp; done) | (simp [*]; done)), H', ⟨by have := HK1.out; omega⟩, ⟨by exact bk BK373⟩, ⟨by repeat (first | (with_reducible first | exact HB.out | apply below_alloc | apply pw_below_drewN | apply below_drew1 | refine below_set ?_ GE373.out | refine below_set ?_ GE375.out | refine below_set ?_ GE377.out) | exact HB.out)⟩⟩
           ·rw [if_neg c25] at H
            have c25b0 : decide (((rd_T48 l0 (ji8)).f1) < ((rd_T48 l0 x12_1).f1)) = false := decide_eq_false c25
            clear c25
            by_cases c59 : t379 > 0
            ·rw [if_pos c59] at H
             have c59b0 : decide (0 < t379) = true := decide_eq_true c59
             clear c59
             have H' := Aside0.mk H
             clear H
             have p374 : 0 ≤ (x12_1 : Int) := da
             have q374 : x12_1 < (l0.length : Int) := da
             obtain ⟨ad374, e374, hx374_0, hx374_1⟩ := at_T48 HR0.out x12_1 p374 q374
             cases e374
             replace hx374_0 := (HB.out.cell (bL w _ hx374_0)).trans hx374_0
             replace hx374_1 := (HB.out.cell (bL w _ hx374_1)).trans hx374_1
             replace p374 := eq_true p374
             replace q374 := eq_true q374
             go_wp2_with (first | ((with_reducible refine gate_dst (N := 7) rfl ?_); refine bx (cs := #[.int .i64 0, .int .i64 0]) (t := 48) ?_; intro gb375 hg w60 hbox hb; have n0_ := kb BK373 hb; have n1_ := sb hb; have n2_ := Aside0.mk (hbox); have n3_ := zb hg; have n4_ := zb hg; have n5_ := nl BK373 hg; have n6_ := ng BK373 hg; clear BK373; clear HB; have BK373 := n0_; have HB := n1_; have BK375 := n2_; have GW375 := n3_; have GE375 := n4_; have NB373_375 := n5_; have NB375_373 := n6_; clear n0_ n1_ n2_ n3_ n4_ n5_ n6_; clear hb hbox hg; have hnb61 := NB375_373.out; have hnc61 := NB373_375.out; have hcz62_0 := ck BK375 0; have hcz62_1 := ck BK375 1; have hfz62_0 := blk_frozen BK375.out 0; have hfz62_1 := blk_frozen BK375.out 1; have p376 : 0 ≤ ((ji8) : Int) := da; have q376 : (ji8) < (l0.length : Int) := da; obtain ⟨ad376, e376, hx376_0, hx376_1⟩ := at_T48 HR0.out (ji8) p376 q376; obtain rfl : ad374 = ad376 := (by injection e376); have hn376_0 : ad374.block ≠ gb375 := nw hx376_0 GW375; have hn376_1 : ad374.block ≠ gb375 := nw hx376_0 GW375; replace hx376_0 := (HB.out.cell (bL w _ hx376_0)).trans hx376_0; replace hx376_1 := (HB.out.cell (bL w _ hx376_1)).trans hx376_1; replace hx376_0 := cf hn376_0 hx376_0 0 (.int .i64 ((rd_T48 l0 x12_1).f0)); replace hx376_1 := cf hn376_0 hx376_1 0 (.int .i64 ((rd_T48 l0 x12_1).f0)); replace hx376_0 := cf hn376_1 hx376_0 1 (.int .i64 ((rd_T48 l0 x12_1).f1)); replace hx376_1 := cf hn376_1 hx376_1 1 (.int .i64 ((rd_T48 l0 x12_1).f1)); clear hn376_0; clear hn376_1; replace p376 := eq_true p376; replace q376 := eq_true q376) | ((with_reducible refine gate_dst (N := 8) rfl ?_); refine bx (cs := #[.int .i64 0, .int .i64 0]) (t := 48) ?_; intro gb377 hg w63 hbox hb; have z0_ := mz hb (g := gb373) (o := .cells #[.int .i64 a1_0, .int .i64 a1_1] 48 (0, 0)) (by refine bF NB373_375.out ?_; refine bF NB373_375.out ?_; exact bk BK373); have n0_ := kc z0_ hb; have z1_ := mz hb (g := gb375) (o := .cells #[.int .i64 ((rd_T48 l0 x12_1).f0), .int .i64 ((rd_T48 l0 x12_1).f1)] 48 (0, 0)) (by refine bP (cs := #[.int .i64 ((rd_T48 l0 x12_1).f0), .int .i64 0]) 1 ?_; refine bP (cs := #[.int .i64 0, .int .i64 0]) 0 ?_; exact bk BK375); have n1_ := kc z1_ hb; have n2_ := sb hb; have n3_ := Aside0.mk (hbox); have n4_ := zb hg; have n5_ := zb hg; have n6_ := nm z0_ hg; have n7_ := nn z0_ hg; have n8_ := nm z1_ hg; have n9_ := nn z1_ hg; clear BK373; clear BK375; clear HB; have BK373 := n0_; have BK375 := n1_; have HB := n2_; have BK377 := n3_; have GW377 := n4_; have GE377 := n5_; have NB373_377 := n6_; have NB377_373 := n7_; have NB375_377 := n8_; have NB377_375 := n9_; clear z0_ z1_ n0_ n1_ n2_ n3_ n4_ n5_ n6_ n7_ n8_ n9_; clear hb hbox hg; have hnb64 := NB377_373.out; have hnc64 := NB373_377.out; have hnb65 := NB377_375.out; have hnc65 := NB375_377.out; have hcz66_0 := ck BK377 0; have hcz66_1 := ck BK377 1; have hfz66_0 := blk_frozen BK377.out 0; have hfz66_1 := blk_frozen BK377.out 1; have hcz67_0 := ck BK375 0; have hcz67_1 := ck BK375 1; have hfz67_0 := blk_frozen BK375.out 0; have hfz67_1 := blk_frozen BK375.out 1; have hcz68_0 := ck BK373 0; have hcz68_1 := ck BK373 1; have hfz68_0 := blk_frozen BK373.out 0; have hfz68_1 := blk_frozen BK373.out 1) | ((with_reducible refine gate_callee (f := 73) rfl ?_); refine goesL_ (some 28) rfl rfl Try.func73 (by kernel_rfl) rfl #[.agg #[.int .i64 ((rd_T48 l0 x12_1).f0), .int .i64 ((rd_T48 l0 x12_1).f1)], .agg #[.int .i64 ((rd_T48 l0 (ji8)).f0), .int .i64 ((rd_T48 l0 (ji8)).f1)], .agg #[.int .i64 a1_0, .int .i64 a1_1]] rfl (by (try simp only [List.map_toArray, List.map_cons, List.map_nil]); first | done | (simp only [hji8]; rfl) | rfl | (simp only [List.length_drop, List.length_take]; rfl)) ?_; (with_reducible refine (impl_on.calls ((rd_T48 l0 x12_1).f0) ((rd_T48 l0 x12_1).f1) ((rd_T48 l0 (ji8)).f0) ((rd_T48 l0 (ji8)).f1) a1_0 a1_1 false _ A11.out).mono ?_); rintro e w69 ⟨rfl, hb⟩; refine ⟨_, rfl, ?_⟩; have n0_ := Aside0.mk (blk_below (g := gb373) (o := .cells #[.int .i64 a1_0, .int .i64 a1_1] 48 (0, 0)) (by refine bF NB373_377.out ?_; refine bF NB373_377.out ?_; exact bk BK373) hb); have n1_ := Aside0.mk (blk_below (g := gb375) (o := .cells #[.int .i64 ((rd_T48 l0 x12_1).f0), .int .i64 ((rd_T48 l0 x12_1).f1)] 48 (0, 0)) (by refine bF NB375_377.out ?_; refine bF NB375_377.out ?_; exact bk BK375) hb); have n2_ := Aside0.mk (blk_below (g := gb377) (o := .cells #[.int .i64 ((rd_T48 l0 (ji8)).f0), .int .i64 ((rd_T48 l0 (ji8)).f1)] 48 (0, 0)) (by refine bP (cs := #[.int .i64 ((rd_T48 l0 (ji8)).f0), .int .i64 0]) 1 ?_; refine bP (cs := #[.int .i64 0, .int .i64 0]) 0 ?_; exact bk BK377) hb); have n3_ := sb hb; clear BK373; clear BK375; clear BK377; clear HB; have BK373 := n0_; have BK375 := n1_; have BK377 := n2_; have HB := n3_; clear n0_ n1_ n2_ n3_; (try clear hb); (try clear hb2); (try clear hk); (try clear hi); have hcz70_0 := ck BK375 0; have hcz70_1 := ck BK375 1; have hfz70_0 := blk_frozen BK375.out 0; have hfz70_1 := blk_frozen BK375.out 1; have hcz71_0 := ck BK373 0; have hcz71_1 := ck BK373 1; have hfz71_0 := blk_frozen BK373.out 0; have hfz71_1 := blk_frozen BK373.out 1; have hcz72_0 := ck BK377 0; have hcz72_1 := ck BK377 1; have hfz72_0 := blk_frozen BK377.out 0; have hfz72_1 := blk_frozen BK377.out 1) | ((with_reducible refine gate_callee (f := 81) rfl ?_); refine goesL_ (some 43) rfl rfl Try.func81 (by kernel_rfl) rfl #[.agg #[.int .i64 ((rd_T48 l0 x12_1).f0), .int .i64 ((rd_T48 l0 x12_1).f1)], .agg #[.int .i64 ((rd_T48 l0 (ji8)).f0), .int .i64 ((rd_T48 l0 (ji8)).f1)], .agg #[.int .i64 a1_0, .int .i64 a1_1]] rfl (by (try simp only [List.map_toArray, List.map_cons, List.map_nil]); first | done | (simp only [hji8]; rfl) | rfl | (simp only [List.length_drop, List.length_take]; rfl)) ?_; (with_reducible refine (impl_side.calls ((rd_T48 l0 x12_1).f0) ((rd_T48 l0 x12_1).f1) ((rd_T48 l0 (ji8)).f0) ((rd_T48 l0 (ji8)).f1) a1_0 a1_1 t379 _ A24.out).mono ?_); rintro e w73 ⟨rfl, hb⟩; refine ⟨_, rfl, ?_⟩; have n0_ := kb BK373 hb; have n1_ := kb BK375 hb; have n2_ := kb BK377 hb; have n3_ := sb hb; clear BK373; clear BK375; clear BK377; clear HB; have BK373 := n0_; have BK375 := n1_; have BK377 := n2_; have HB := n3_; clear n0_ n1_ n2_ n3_; (try clear hb); (try clear hb2); (try clear hk); (try clear hi); have hcz74_0 := ck BK377 0; have hcz74_1 := ck BK377 1; have hfz74_0 := blk_frozen BK377.out 0; have hfz74_1 := blk_frozen BK377.out 1; have hcz75_0 := ck BK375 0; have hcz75_1 := ck BK375 1; have hfz75_0 := blk_frozen BK375.out 0; have hfz75_1 := blk_frozen BK375.out 1))
             go_roundg k1
             case measure => have := HK1.out; omega
             case rel => exact ⟨(wrap64 (-x5_1)), (wrap64 (x12_1 + 1)), (by first | rfl | (simp; done) | (simp [*]; done)), (by first | rfl | (simp; done) | (simp [*]; done)), H', ⟨by have := HK1.out; omega⟩, ⟨by exact bk BK373⟩, ⟨by repeat (first | (with_reducible first | exact HB.out | apply below_alloc | apply pw_below_drewN | apply below_drew1 | refine below_set ?_ GE373.out | refine below_set ?_ GE375.out | refine below_set ?_ GE377.out) | exact HB.out)⟩⟩
            ·rw [if_neg c59] at H
             have c59b0 : decide (0 < t379) = false := decide_eq_false c59
             clear c59
             have H' := Aside0.mk H
             clear H
             have p374 : 0 ≤ (x12_1 : Int) := da
             have q374 : x12_1 < (l0.length : Int) := da
             obtain ⟨ad374, e374, hx374_0, hx374_1⟩ := at_T48 HR0.out x12_1 p374 q374
             cases e374
             replace hx374_0 := (HB.out.cell (bL w _ hx374_0)).trans hx374_0
             replace hx374_1 := (HB.out.cell (bL w _ hx374_1)).trans hx374_1
             replace p374 := eq_true p374
             replace q374 := eq_true q374
             go_wp2_with (first | ((with_reducible refine gate_dst (N := 7) rfl ?_); refine bx (cs := #[.int .i64 0, .int .i64 0]) (t := 48) ?_; intro gb375 hg w76 hbox hb; have n0_ := kb BK373 hb; have n1_ := sb hb; have n2_ := Aside0.mk (hbox); have n3_ := zb hg; have n4_ := zb hg; have n5_ := nl BK373 hg; have n6_ := ng BK373 hg; clear BK373; clear HB; have BK373 := n0_; have HB := n1_; have BK375 := n2_; have GW375 := n3_; have GE375 := n4_; have NB373_375 := n5_; have NB375_373 := n6_; clear n0_ n1_ n2_ n3_ n4_ n5_ n6_; clear hb hbox hg; have hnb77 := NB375_373.out; have hnc77 := NB373_375.out; have hcz78_0 := ck BK375 0; have hcz78_1 := ck BK375 1; have hfz78_0 := blk_frozen BK375.out 0; have hfz78_1 := blk_frozen BK375.out 1; have p376 : 0 ≤ ((ji8) : Int) := da; have q376 : (ji8) < (l0.length : Int) := da; obtain ⟨ad376, e376, hx376_0, hx376_1⟩ := at_T48 HR0.out (ji8) p376 q376; obtain rfl : ad374 = ad376 := (by injection e376); have hn376_0 : ad374.block ≠ gb375 := nw hx376_0 GW375; have hn376_1 : ad374.block ≠ gb375 := nw hx376_0 GW375; replace hx376_0 := (HB.out.cell (bL w _ hx376_0)).trans hx376_0; replace hx376_1 := (HB.out.cell (bL w _ hx376_1)).trans hx376_1; replace hx376_0 := cf hn376_0 hx376_0 0 (.int .i64 ((rd_T48 l0 x12_1).f0)); replace hx376_1 := cf hn376_0 hx376_1 0 (.int .i64 ((rd_T48 l0 x12_1).f0)); replace hx376_0 := cf hn376_1 hx376_0 1 (.int .i64 ((rd_T48 l0 x12_1).f1)); replace hx376_1 := cf hn376_1 hx376_1 1 (.int .i64 ((rd_T48 l0 x12_1).f1)); clear hn376_0; clear hn376_1; replace p376 := eq_true p376; replace q376 := eq_true q376) | ((with_reducible refine gate_dst (N := 8) rfl ?_); refine bx (cs := #[.int .i64 0, .int .i64 0]) (t := 48) ?_; intro gb377 hg w79 hbox hb; have z0_ := mz hb (g := gb373) (o := .cells #[.int .i64 a1_0, .int .i64 a1_1] 48 (0, 0)) (by refine bF NB373_375.out ?_; refine bF NB373_375.out ?_; exact bk BK373); have n0_ := kc z0_ hb; have z1_ := mz hb (g := gb375) (o := .cells #[.int .i64 ((rd_T48 l0 x12_1).f0), .int .i64 ((rd_T48 l0 x12_1).f1)] 48 (0, 0)) (by refine bP (cs := #[.int .i64 ((rd_T48 l0 x12_1).f0), .int .i64 0]) 1 ?_; refine bP (cs := #[.int .i64 0, .int .i64 0]) 0 ?_; exact bk BK375); have n1_ := kc z1_ hb; have n2_ := sb hb; have n3_ := Aside0.mk (hbox); have n4_ := zb hg; have n5_ := zb hg; have n6_ := nm z0_ hg; have n7_ := nn z0_ hg; have n8_ := nm z1_ hg; have n9_ := nn z1_ hg; clear BK373; clear BK375; clear HB; have BK373 := n0_; have BK375 := n1_; have HB := n2_; have BK377 := n3_; have GW377 := n4_; have GE377 := n5_; have NB373_377 := n6_; have NB377_373 := n7_; have NB375_377 := n8_; have NB377_375 := n9_; clear z0_ z1_ n0_ n1_ n2_ n3_ n4_ n5_ n6_ n7_ n8_ n9_; clear hb hbox hg; have hnb80 := NB377_373.out; have hnc80 := NB373_377.out; have hnb81 := NB377_375.out; have hnc81 := NB375_377.out; have hcz82_0 := ck BK377 0; have hcz82_1 := ck BK377 1; have hfz82_0 := blk_frozen BK377.out 0; have hfz82_1 := blk_frozen BK377.out 1; have hcz83_0 := ck BK375 0; have hcz83_1 := ck BK375 1; have hfz83_0 := blk_frozen BK375.out 0; have hfz83_1 := blk_frozen BK375.out 1; have hcz84_0 := ck BK373 0; have hcz84_1 := ck BK373 1; have hfz84_0 := blk_frozen BK373.out 0; have hfz84_1 := blk_frozen BK373.out 1) | ((with_reducible refine gate_callee (f := 73) rfl ?_); refine goesL_ (some 28) rfl rfl Try.func73 (by kernel_rfl) rfl #[.agg #[.int .i64 ((rd_T48 l0 x12_1).f0), .int .i64 ((rd_T48 l0 x12_1).f1)], .agg #[.int .i64 ((rd_T48 l0 (ji8)).f0), .int .i64 ((rd_T48 l0 (ji8)).f1)], .agg #[.int .i64 a1_0, .int .i64 a1_1]] rfl (by (try simp only [List.map_toArray, List.map_cons, List.map_nil]); first | done | (simp only [hji8]; rfl) | rfl | (simp only [List.length_drop, List.length_take]; rfl)) ?_; (with_reducible refine (impl_on.calls ((rd_T48 l0 x12_1).f0) ((rd_T48 l0 x12_1).f1) ((rd_T48 l0 (ji8)).f0) ((rd_T48 l0 (ji8)).f1) a1_0 a1_1 false _ A11.out).mono ?_); rintro e w85 ⟨rfl, hb⟩; refine ⟨_, rfl, ?_⟩; have n0_ := Aside0.mk (blk_below (g := gb373) (o := .cells #[.int .i64 a1_0, .int .i64 a1_1] 48 (0, 0)) (by refine bF NB373_377.out ?_; refine bF NB373_377.out ?_; exact bk BK373) hb); have n1_ := Aside0.mk (blk_below (g := gb375) (o := .cells #[.int .i64 ((rd_T48 l0 x12_1).f0), .int .i64 ((rd_T48 l0 x12_1).f1)] 48 (0, 0)) (by refine bF NB375_377.out ?_; refine bF NB375_377.out ?_; exact bk BK375) hb); have n2_ := Aside0.mk (blk_below (g := gb377) (o := .cells #[.int .i64 ((rd_T48 l0 (ji8)).f0), .int .i64 ((rd_T48 l0 (ji8)).f1)] 48 (0, 0)) (by refine bP (cs := #[.int .i64 ((rd_T48 l0 (ji8)).f0), .int .i64 0]) 1 ?_; refine bP (cs := #[.int .i64 0, .int .i64 0]) 0 ?_; exact bk BK377) hb); have n3_ := sb hb; clear BK373; clear BK375; clear BK377; clear HB; have BK373 := n0_; have BK375 := n1_; have BK377 := n2_; have HB := n3_; clear n0_ n1_ n2_ n3_; (try clear hb); (try clear hb2); (try clear hk); (try clear hi); have hcz86_0 := ck BK375 0; have hcz86_1 := ck BK375 1; have hfz86_0 := blk_frozen BK375.out 0; have hfz86_1 := blk_frozen BK375.out 1; have hcz87_0 := ck BK373 0; have hcz87_1 := ck BK373 1; have hfz87_0 := blk_frozen BK373.out 0; have hfz87_1 := blk_frozen BK373.out 1; have hcz88_0 := ck BK377 0; have hcz88_1 := ck BK377 1; have hfz88_0 := blk_frozen BK377.out 0; have hfz88_1 := blk_frozen BK377.out 1) | ((with_reducible refine gate_callee (f := 81) rfl ?_); refine goesL_ (some 43) rfl rfl Try.func81 (by kernel_rfl) rfl #[.agg #[.int .i64 ((rd_T48 l0 x12_1).f0), .int .i64 ((rd_T48 l0 x12_1).f1)], .agg #[.int .i64 ((rd_T48 l0 (ji8)).f0), .int .i64 ((rd_T48 l0 (ji8)).f1)], .agg #[.int .i64 a1_0, .int .i64 a1_1]] rfl (by (try simp only [List.map_toArray, List.map_cons, List.map_nil]); first | done | (simp only [hji8]; rfl) | rfl | (simp only [List.length_drop, List.length_take]; rfl)) ?_; (with_reducible refine (impl_side.calls ((rd_T48 l0 x12_1).f0) ((rd_T48 l0 x12_1).f1) ((rd_T48 l0 (ji8)).f0) ((rd_T48 l0 (ji8)).f1) a1_0 a1_1 t379 _ A24.out).mono ?_); rintro e w89 ⟨rfl, hb⟩; refine ⟨_, rfl, ?_⟩; have n0_ := kb BK373 hb; have n1_ := kb BK375 hb; have n2_ := kb BK377 hb; have n3_ := sb hb; clear BK373; clear BK375; clear BK377; clear HB; have BK373 := n0_; have BK375 := n1_; have BK377 := n2_; have HB := n3_; clear n0_ n1_ n2_ n3_; (try clear hb); (try clear hb2); (try clear hk); (try clear hi); have hcz90_0 := ck BK377 0; have hcz90_1 := ck BK377 1; have hfz90_0 := blk_frozen BK377.out 0; have hfz90_1 := blk_frozen BK377.out 1; have hcz91_0 := ck BK375 0; have hcz91_1 := ck BK375 1; have hfz91_0 := blk_frozen BK375.out 0; have hfz91_1 := blk_frozen BK375.out 1))
             go_roundg k1
             case measure => have := HK1.out; omega
             case rel => exact ⟨(x5_1), (wrap64 (x12_1 + 1)), (by first | rfl | (simp; done) | (simp [*]; done)), (by first | rfl | (simp; done) | (simp [*]; done)), H', ⟨by have := HK1.out; omega⟩, ⟨by exact bk BK373⟩, ⟨by repeat (first | (with_reducible first | exact HB.out | apply below_alloc | apply pw_below_drewN | apply below_drew1 | refine below_set ?_ GE373.out | refine below_set ?_ GE375.out | refine below_set ?_ GE377.out) | exact HB.out)⟩⟩
          ·rw [if_neg c23] at H
           have c23b0 : ((decide (((rd_T48 l0 x12_1).f1) > a1_1)) != (decide (((rd_T48 l0 (ji8)).f1) > a1_1))) = false := by simpa using c23
           (try (have c23b1 : decide ((decide (((rd_T48 l0 x12_1).f1) > a1_1)) = (decide (((rd_T48 l0 (ji8)).f1) > a1_1))) = true := by simpa using c23))
           (try (have c23b2 : ((decide (((rd_T48 l0 x12_1).f1) > a1_1)) == (decide (((rd_T48 l0 (ji8)).f1) > a1_1))) = true := by simpa using c23))
           clear c23
           have H' := Aside0.mk H
           clear H
           have p374 : 0 ≤ (x12_1 : Int) := da
           have q374 : x12_1 < (l0.length : Int) := da
           obtain ⟨ad374, e374, hx374_0, hx374_1⟩ := at_T48 HR0.out x12_1 p374 q374
           cases e374
           replace hx374_0 := (HB.out.cell (bL w _ hx374_0)).trans hx374_0
           replace hx374_1 := (HB.out.cell (bL w _ hx374_1)).trans hx374_1
           replace p374 := eq_true p374
           replace q374 := eq_true q374
           go_wp2_with (first | ((with_reducible refine gate_dst (N := 7) rfl ?_); refine bx (cs := #[.int .i64 0, .int .i64 0]) (t := 48) ?_; intro gb375 hg w92 hbox hb; have n0_ := kb BK373 hb; have n1_ := sb hb; have n2_ := Aside0.mk (hbox); have n3_ := zb hg; have n4_ := zb hg; have n5_ := nl BK373 hg; have n6_ := ng BK373 hg; clear BK373; clear HB; have BK373 := n0_; have HB := n1_; have BK375 := n2_; have GW375 := n3_; have GE375 := n4_; have NB373_375 := n5_; have NB375_373 := n6_; clear n0_ n1_ n2_ n3_ n4_ n5_ n6_; clear hb hbox hg; have hnb93 := NB375_373.out; have hnc93 := NB373_375.out; have hcz94_0 := ck BK375 0; have hcz94_1 := ck BK375 1; have hfz94_0 := blk_frozen BK375.out 0; have hfz94_1 := blk_frozen BK375.out 1; have p376 : 0 ≤ ((ji8) : Int) := da; have q376 : (ji8) < (l0.length : Int) := da; obtain ⟨ad376, e376, hx376_0, hx376_1⟩ := at_T48 HR0.out (ji8) p376 q376; obtain rfl : ad374 = ad376 := (by injection e376); have hn376_0 : ad374.block ≠ gb375 := nw hx376_0 GW375; have hn376_1 : ad374.block ≠ gb375 := nw hx376_0 GW375; replace hx376_0 := (HB.out.cell (bL w _ hx376_0)).trans hx376_0; replace hx376_1 := (HB.out.cell (bL w _ hx376_1)).trans hx376_1; replace hx376_0 := cf hn376_0 hx376_0 0 (.int .i64 ((rd_T48 l0 x12_1).f0)); replace hx376_1 := cf hn376_0 hx376_1 0 (.int .i64 ((rd_T48 l0 x12_1).f0)); replace hx376_0 := cf hn376_1 hx376_0 1 (.int .i64 ((rd_T48 l0 x12_1).f1)); replace hx376_1 := cf hn376_1 hx376_1 1 (.int .i64 ((rd_T48 l0 x12_1).f1)); clear hn376_0; clear hn376_1; replace p376 := eq_true p376; replace q376 := eq_true q376) | ((with_reducible refine gate_dst (N := 8) rfl ?_); refine bx (cs := #[.int .i64 0, .int .i64 0]) (t := 48) ?_; intro gb377 hg w95 hbox hb; have z0_ := mz hb (g := gb373) (o := .cells #[.int .i64 a1_0, .int .i64 a1_1] 48 (0, 0)) (by refine bF NB373_375.out ?_; refine bF NB373_375.out ?_; exact bk BK373); have n0_ := kc z0_ hb; have z1_ := mz hb (g := gb375) (o := .cells #[.int .i64 ((rd_T48 l0 x12_1).f0), .int .i64 ((rd_T48 l0 x12_1).f1)] 48 (0, 0)) (by refine bP (cs := #[.int .i64 ((rd_T48 l0 x12_1).f0), .int .i64 0]) 1 ?_; refine bP (cs := #[.int .i64 0, .int .i64 0]) 0 ?_; exact bk BK375); have n1_ := kc z1_ hb; have n2_ := sb hb; have n3_ := Aside0.mk (hbox); have n4_ := zb hg; have n5_ := zb hg; have n6_ := nm z0_ hg; have n7_ := nn z0_ hg; have n8_ := nm z1_ hg; have n9_ := nn z1_ hg; clear BK373; clear BK375; clear HB; have BK373 := n0_; have BK375 := n1_; have HB := n2_; have BK377 := n3_; have GW377 := n4_; have GE377 := n5_; have NB373_377 := n6_; have NB377_373 := n7_; have NB375_377 := n8_; have NB377_375 := n9_; clear z0_ z1_ n0_ n1_ n2_ n3_ n4_ n5_ n6_ n7_ n8_ n9_; clear hb hbox hg; have hnb96 := NB377_373.out; have hnc96 := NB373_377.out; have hnb97 := NB377_375.out; have hnc97 := NB375_377.out; have hcz98_0 := ck BK377 0; have hcz98_1 := ck BK377 1; have hfz98_0 := blk_frozen BK377.out 0; have hfz98_1 := blk_frozen BK377.out 1; have hcz99_0 := ck BK375 0; have hcz99_1 := ck BK375 1; have hfz99_0 := blk_frozen BK375.out 0; have hfz99_1 := blk_frozen BK375.out 1; have hcz100_0 := ck BK373 0; have hcz100_1 := ck BK373 1; have hfz100_0 := blk_frozen BK373.out 0; have hfz100_1 := blk_frozen BK373.out 1) | ((with_reducible refine gate_callee (f := 73) rfl ?_); refine goesL_ (some 28) rfl rfl Try.func73 (by kernel_rfl) rfl #[.agg #[.int .i64 ((rd_T48 l0 x12_1).f0), .int .i64 ((rd_T48 l0 x12_1).f1)], .agg #[.int .i64 ((rd_T48 l0 (ji8)).f0), .int .i64 ((rd_T48 l0 (ji8)).f1)], .agg #[.int .i64 a1_0, .int .i64 a1_1]] rfl (by (try simp only [List.map_toArray, List.map_cons, List.map_nil]); first | done | (simp only [hji8]; rfl) | rfl | (simp only [List.length_drop, List.length_take]; rfl)) ?_; (with_reducible refine (impl_on.calls ((rd_T48 l0 x12_1).f0) ((rd_T48 l0 x12_1).f1) ((rd_T48 l0 (ji8)).f0) ((rd_T48 l0 (ji8)).f1) a1_0 a1_1 false _ A11.out).mono ?_); rintro e w101 ⟨rfl, hb⟩; refine ⟨_, rfl, ?_⟩; have n0_ := Aside0.mk (blk_below (g := gb373) (o := .cells #[.int .i64 a1_0, .int .i64 a1_1] 48 (0, 0)) (by refine bF NB373_377.out ?_; refine bF NB373_377.out ?_; exact bk BK373) hb); have n1_ := Aside0.mk (blk_below (g := gb375) (o := .cells #[.int .i64 ((rd_T48 l0 x12_1).f0), .int .i64 ((rd_T48 l0 x12_1).f1)] 48 (0, 0)) (by refine bF NB375_377.out ?_; refine bF NB375_377.out ?_; exact bk BK375) hb); have n2_ := Aside0.mk (blk_below (g := gb377) (o := .cells #[.int .i64 ((rd_T48 l0 (ji8)).f0), .int .i64 ((rd_T48 l0 (ji8)).f1)] 48 (0, 0)) (by refine bP (cs := #[.int .i64 ((rd_T48 l0 (ji8)).f0), .int .i64 0]) 1 ?_; refine bP (cs := #[.int .i64 0, .int .i64 0]) 0 ?_; exact bk BK377) hb); have n3_ := sb hb; clear BK373; clear BK375; clear BK377; clear HB; have BK373 := n0_; have BK375 := n1_; have BK377 := n2_; have HB := n3_; clear n0_ n1_ n2_ n3_; (try clear hb); (try clear hb2); (try clear hk); (try clear hi); have hcz102_0 := ck BK375 0; have hcz102_1 := ck BK375 1; have hfz102_0 := blk_frozen BK375.out 0; have hfz102_1 := blk_frozen BK375.out 1; have hcz103_0 := ck BK373 0; have hcz103_1 := ck BK373 1; have hfz103_0 := blk_frozen BK373.out 0; have hfz103_1 := blk_frozen BK373.out 1; have hcz104_0 := ck BK377 0; have hcz104_1 := ck BK377 1; have hfz104_0 := blk_frozen BK377.out 0; have hfz104_1 := blk_frozen BK377.out 1))
           go_roundg k1
           case measure => have := HK1.out; omega
           case rel => exact ⟨(x5_1), (wrap64 (x12_1 + 1)), (by first | rfl | (simp; done) | (simp [*]; done)), (by first | rfl | (simp; done) | (simp [*]; done)), H', ⟨by have := HK1.out; omega⟩, ⟨by exact bk BK373⟩, ⟨by repeat (first | (with_reducible first | exact HB.out | apply below_alloc | apply pw_below_drewN | apply below_drew1 | refine below_set ?_ GE373.out | refine below_set ?_ GE375.out | refine below_set ?_ GE377.out) | exact HB.out)⟩⟩
        ·rw [if_neg c10] at H
         exact absurd H (by simp)
       ·rw [if_neg c9] at H
        exact absurd H (by simp)
     ·first | (exfalso; have z_ := of_decide_eq_true c4b0; omega) | (rw [if_neg c6] at H; exact absurd H (by simp))
    ·rw [if_neg c5] at H
     exact absurd H (by simp)
   ·rw [if_neg c4] at H
    have c4b0 : decide (x12_1 < (l0.length : Int)) = false := decide_eq_false c4
    clear c4
    obtain rfl := Option.some.inj H
    go_wp2
    go_ret
    exact ⟨by first | rfl | (simp [errW_none, errW_some] <;> rfl) | (simp [*, errW_none, errW_some] <;> rfl), by repeat (first | (with_reducible first | exact HB.out | apply below_alloc | apply pw_below_drewN | apply below_drew1 | refine below_set ?_ GE373.out) | exact HB.out)⟩
end Go.Proofs.Ytlfifbalakgfeaa.PFnExactFaceAt
