/- Contracts of functions that FnExactHullOf reaches, out of the lines of the kit's print. -/
import Derived.Test.YtkobmkdjmpnojaaQFnExactHullOfx0
import Derived.Test.YtkobmkdjmpnojaaQFnExactHullOfx1
import Derived.Test.YtkobmkdjmpnojaaQFnExactHullOfx5
namespace Go.Proofs.Ytkobmkdjmpnojaa.PFnExactHullOf
open Go.RowKit Go.Proofs.YtkobmkdjmpnojaaW.PrintWords Go.Proofs.YtkobmkdjmpnojaaW.PrintLast Go.Proofs.YtkobmkdjmpnojaaW.PrintMore
open Bool renaming true → tT, false → fF
open Go.World renaming block_lt_of_cell? → bL
attribute [local go_sem] max2_int min2_int max_two min_two max_three min_three max_four min_four
set_option linter.unusedVariables false
set_option linter.unusedSimpArgs false
attribute [local go_sem high] eqA30
mutual
def impl_HullOf.l0 : Nat → List (S30) → List (S30) → Int → Int → Int → Int → Option ((List (S30)) × Int)
 | 0, _, _, _, _, _, _ => none
 | k + 1, x0, x30, x31, x32, x172000, x172001 => if x32 < x31 then (if 0 ≤ x32 then (if x32 < (x30.length : Int) then (if ((rd_T30 x30 x32).f1) < x172001 then (impl_HullOf.l0 k x0 x30 x31 (wrap64 (x32 + 1)) ((rd_T30 x30 x32).f0) ((rd_T30 x30 x32).f1)) else (if ((rd_T30 x30 x32).f1) = x172001 then (if ((rd_T30 x30 x32).f0) < x172000 then (impl_HullOf.l0 k x0 x30 x31 (wrap64 (x32 + 1)) ((rd_T30 x30 x32).f0) ((rd_T30 x30 x32).f1)) else (impl_HullOf.l0 k x0 x30 x31 (wrap64 (x32 + 1)) x172000 x172001)) else (impl_HullOf.l0 k x0 x30 x31 (wrap64 (x32 + 1)) x172000 x172001))) else (none)) else (none)) else (impl_HullOf.l1 k x0 (([(⟨x172000, x172001⟩ : S30)] : List (S30))) x172000 x172001)
def impl_HullOf.l1 : Nat → List (S30) → List (S30) → Int → Int → Option ((List (S30)) × Int)
 | 0, _, _, _, _ => none
 | k + 1, x0, x7, x172000, x172001 => if 0 ≤ (wrap64 ((x7.length : Int) - 1)) then (if (wrap64 ((x7.length : Int) - 1)) < (x7.length : Int) then (impl_HullOf.l2 k x0 x7 false x0 (x0.length : Int) 0 x172000 x172001 ((rd_T30 x7 (wrap64 ((x7.length : Int) - 1))).f0) ((rd_T30 x7 (wrap64 ((x7.length : Int) - 1))).f1) 0 0) else (none)) else (none)
def impl_HullOf.l2 : Nat → List (S30) → List (S30) → Bool → List (S30) → Int → Int → Int → Int → Int → Int → Int → Int → Option ((List (S30)) × Int)
 | 0, _, _, _, _, _, _, _, _, _, _, _, _ => none
 | k + 1, x0, x7, x10, x66, x67, x68, x172000, x172001, x179000, x179001, x180000, x180001 => if x68 < x67 then (if 0 ≤ x68 then (if x68 < (x66.length : Int) then (if (((rd_T30 x66 x68).f0) == x179000 && (((rd_T30 x66 x68).f1) == x179001)) = true then (impl_HullOf.l2 k x0 x7 x10 x66 x67 (wrap64 (x68 + 1)) x172000 x172001 x179000 x179001 x180000 x180001) else ((impl_side.f x179000 x179001 x180000 x180001 ((rd_T30 x66 x68).f0) ((rd_T30 x66 x68).f1)).bind fun t185 => (if x10 = true then (if t185 < 0 then (impl_HullOf.l2 k x0 x7 true x66 x67 (wrap64 (x68 + 1)) x172000 x172001 x179000 x179001 ((rd_T30 x66 x68).f0) ((rd_T30 x66 x68).f1)) else (if t185 = 0 then ((impl_squared.f x179000 x179001 ((rd_T30 x66 x68).f0) ((rd_T30 x66 x68).f1)).bind fun t186 => ((impl_squared.f x179000 x179001 x180000 x180001).bind fun t187 => (if t186 > t187 then (impl_HullOf.l2 k x0 x7 true x66 x67 (wrap64 (x68 + 1)) x172000 x172001 x179000 x179001 ((rd_T30 x66 x68).f0) ((rd_T30 x66 x68).f1)) else (impl_HullOf.l2 k x0 x7 x10 x66 x67 (wrap64 (x68 + 1)) x172000 x172001 x179000 x179001 x180000 x180001)))) else (impl_HullOf.l2 k x0 x7 x10 x66 x67 (wrap64 (x68 + 1)) x172000 x172001 x179000 x179001 x180000 x180001))) else (impl_HullOf.l2 k x0 x7 true x66 x67 (wrap64 (x68 + 1)) x172000 x172001 x179000 x179001 ((rd_T30 x66 x68).f0) ((rd_T30 x66 x68).f1))))) else (none)) else (none)) else (if x10 = true then (if (x180000 == x172000 && (x180001 == x172001)) = true then (if (x7.length : Int) < 3 then (some (([] : List (S30)), 6)) else (some (x7, 0))) else (if (x7.length : Int) > 24 then (if (x7.length : Int) < 3 then (some (([] : List (S30)), 6)) else (some (x7, 0))) else (if x7.length < 8796093022208 then (impl_HullOf.l1 k x0 (x7 ++ [(⟨x180000, x180001⟩ : S30)]) x172000 x172001) else (none)))) else (if (x7.length : Int) < 3 then (some (([] : List (S30)), 6)) else (some (x7, 0))))
end
def impl_HullOf.f (k : Nat) (l0 : List (S30)) : Option ((List (S30)) × Int) := (impl_validPoints.f k l0).bind fun t169 => (if t169 = true then (if (l0.length : Int) < 3 then (some (([] : List (S30)), 2)) else (if (l0.length : Int) > 24 then (some (([] : List (S30)), 2)) else (if 0 < (l0.length : Int) then (impl_HullOf.l0 k l0 l0 (l0.length : Int) 0 ((rd_T30 l0 0).f0) ((rd_T30 l0 0).f1)) else (none)))) else (some (([] : List (S30)), 1)))
theorem impl_HullOf.mono_l : ∀ k, (∀ y0 y1 y2 y3 y4 y5, LeO (impl_HullOf.l0 k y0 y1 y2 y3 y4 y5) (impl_HullOf.l0 (k + 1) y0 y1 y2 y3 y4 y5)) ∧ (∀ y0 y1 y2 y3, LeO (impl_HullOf.l1 k y0 y1 y2 y3) (impl_HullOf.l1 (k + 1) y0 y1 y2 y3)) ∧ (∀ y0 y1 y2 y3 y4 y5 y6 y7 y8 y9 y10 y11, LeO (impl_HullOf.l2 k y0 y1 y2 y3 y4 y5 y6 y7 y8 y9 y10 y11) (impl_HullOf.l2 (k + 1) y0 y1 y2 y3 y4 y5 y6 y7 y8 y9 y10 y11))
 | 0 => ⟨fun _ _ _ _ _ _ r h => by simp [impl_HullOf.l0] at h, fun _ _ _ _ r h => by simp [impl_HullOf.l1] at h, fun _ _ _ _ _ _ _ _ _ _ _ _ r h => by simp [impl_HullOf.l2] at h⟩
 | k + 1 => by
  obtain ⟨ih0, ih1, ih2⟩ := impl_HullOf.mono_l k
  refine ⟨?_, ?_, ?_⟩
  ·intro y0 y1 y2 y3 y4 y5
   unfold impl_HullOf.l0
   repeat' first
   | (with_reducible exact ih0 _ _ _ _ _ _)
   | (with_reducible exact ih1 _ _ _ _)
   | (with_reducible exact ih2 _ _ _ _ _ _ _ _ _ _ _ _)
   | (with_reducible exact impl_validPoints.mono _ _)
   | (with_reducible exact LeO.refl _)
   | (with_reducible exact LeO.none _)
   | (with_reducible refine LeO.ite ?_ ?_)
   | (with_reducible refine LeO.bind ?_ (fun _ => ?_))
   | exact ih0 _ _ _ _ _ _
   | exact ih1 _ _ _ _
   | exact ih2 _ _ _ _ _ _ _ _ _ _ _ _
   | exact impl_validPoints.mono _ _
   | exact LeO.none _
   | refine LeO.ite ?_ ?_
   | refine LeO.bind ?_ (fun _ => ?_)
  ·intro y0 y1 y2 y3
   unfold impl_HullOf.l1
   repeat' first
   | (with_reducible exact ih0 _ _ _ _ _ _)
   | (with_reducible exact ih1 _ _ _ _)
   | (with_reducible exact ih2 _ _ _ _ _ _ _ _ _ _ _ _)
   | (with_reducible exact impl_validPoints.mono _ _)
   | (with_reducible exact LeO.refl _)
   | (with_reducible exact LeO.none _)
   | (with_reducible refine LeO.ite ?_ ?_)
   | (with_reducible refine LeO.bind ?_ (fun _ => ?_))
   | exact ih0 _ _ _ _ _ _
   | exact ih1 _ _ _ _
   | exact ih2 _ _ _ _ _ _ _ _ _ _ _ _
   | exact impl_validPoints.mono _ _
   | exact LeO.none _
   | refine LeO.ite ?_ ?_
   | refine LeO.bind ?_ (fun _ => ?_)
  ·intro y0 y1 y2 y3 y4 y5 y6 y7 y8 y9 y10 y11
   unfold impl_HullOf.l2
   repeat' first
   | (with_reducible exact ih0 _ _ _ _ _ _)
   | (with_reducible exact ih1 _ _ _ _)
   | (with_reducible exact ih2 _ _ _ _ _ _ _ _ _ _ _ _)
   | (with_reducible exact impl_validPoints.mono _ _)
   | (with_reducible exact LeO.refl _)
   | (with_reducible exact LeO.none _)
   | (with_reducible refine LeO.ite ?_ ?_)
   | (with_reducible refine LeO.bind ?_ (fun _ => ?_))
   | exact ih0 _ _ _ _ _ _
   | exact ih1 _ _ _ _
   | exact ih2 _ _ _ _ _ _ _ _ _ _ _ _
   | exact impl_validPoints.mono _ _
   | exact LeO.none _
   | refine LeO.ite ?_ ?_
   | refine LeO.bind ?_ (fun _ => ?_)
theorem impl_HullOf.mono : ∀ a0 k, LeO (impl_HullOf.f k a0) (impl_HullOf.f (k + 1) a0) := by
 intro a0 k
 obtain ⟨ih0, ih1, ih2⟩ := impl_HullOf.mono_l k
 unfold impl_HullOf.f
 repeat' first
   | (with_reducible exact ih0 _ _ _ _ _ _)
   | (with_reducible exact ih1 _ _ _ _)
   | (with_reducible exact ih2 _ _ _ _ _ _ _ _ _ _ _ _)
   | (with_reducible exact impl_validPoints.mono _ _)
   | (with_reducible exact LeO.refl _)
   | (with_reducible exact LeO.none _)
   | (with_reducible refine LeO.ite ?_ ?_)
   | (with_reducible refine LeO.bind ?_ (fun _ => ?_))
   | exact ih0 _ _ _ _ _ _
   | exact ih1 _ _ _ _
   | exact ih2 _ _ _ _ _ _ _ _ _ _ _ _
   | exact impl_validPoints.mono _ _
   | exact LeO.none _
   | refine LeO.ite ?_ ?_
   | refine LeO.bind ?_ (fun _ => ?_)
def impl_HullOf.T20 : Bool × List (List Nat × List Nat) := (true, [([], []), ([0], [0]), ([1], [1]), ([2], [2]), ([3, 2], [2, 3]), ([2, 4], [2, 4]), ([5, 2], [5]), ([6], [6]), ([7, 6], [6, 7]), ([8, 6, 6], [6, 8]), ([9], [9]), ([9], [9]), ([10, 11, 9, 9], [9, 10, 11]), ([9], [9]), ([9], [9]), ([13, 14, 12, 9], [9, 13, 14]), ([12, 15, 9], [9, 12, 15]), ([9, 16, 6], [6, 9, 16]), ([6, 17], [6, 17])])
def impl_HullOf.B20 : List Nat := [0, 1, 3, 7, 15, 31, 63, 127, 255, 511, 1023, 1023, 4095, 1023, 1023, 32767, 65535, 131071, 262143]
theorem impl_HullOf.tab20 : rtab .any (opsOf Try.f35 20) = impl_HullOf.T20 := by kernel_rfl
theorem impl_HullOf.bits20 : waitsOk impl_HullOf.T20.2 impl_HullOf.B20 = true := by kernel_rfl
set_option maxHeartbeats 8000000 in
set_option maxRecDepth 100000 in
theorem impl_HullOf.calls (k : Nat) (A0 : Option Addr) (c0 : Nat) (l0 : List (S30)) (r1 : List (S30)) (r2 : Int) (w : World) (hr0 : Kd.C k30 w A0 l0.length l0) (hc0 : l0.length ≤ c0) (h : impl_HullOf.f k l0 = some (r1, r2)) :
  Calls Try.prog 35 #[.slice A0 l0.length c0] w fun e w' => ∃ v0_ : Value, e = .returned (.tuple #[v0_, .int .i64 r2]) ∧ Kd.R k30 30 w' w.heap.size (fun _ => True) v0_ r1 ∧ Below w.heap.size w w' := by
 have hu30 := Try.underlying30
 have HR0 := Aside0.mk hr0
 have HC0 := Aside0.mk hc0
 clear hr0 hc0
 have HB := Aside0.mk (Below.refl w.heap.size w)
 have H : ((impl_validPoints.f k l0).bind fun t169 => (if t169 = true then (if (l0.length : Int) < 3 then (some (([] : List (S30)), 2)) else (if (l0.length : Int) > 24 then (some (([] : List (S30)), 2)) else (if 0 < (l0.length : Int) then (impl_HullOf.l0 k l0 l0 (l0.length : Int) 0 ((rd_T30 l0 0).f0) ((rd_T30 l0 0).f1)) else (none)))) else (some (([] : List (S30)), 1)))) = some (r1, r2) := h
 clear h
 replace H := Option.bind_eq_some_iff.mp H
 obtain ⟨t169, A20, H⟩ := H
 replace H : (if t169 = true then (if (l0.length : Int) < 3 then (some (([] : List (S30)), 2)) else (if (l0.length : Int) > 24 then (some (([] : List (S30)), 2)) else (if 0 < (l0.length : Int) then (impl_HullOf.l0 k l0 l0 (l0.length : Int) 0 ((rd_T30 l0 0).f0) ((rd_T30 l0 0).f1)) else (none)))) else (some (([] : List (S30)), 1))) = some (r1, r2) := H
 have A2 := Aside0.mk A20
 clear A20
 by_cases c3 : t169 = true
 ·subst c3
  have H1 : (if (l0.length : Int) < 3 then (some (([] : List (S30)), 2)) else (if (l0.length : Int) > 24 then (some (([] : List (S30)), 2)) else (if 0 < (l0.length : Int) then (impl_HullOf.l0 k l0 l0 (l0.length : Int) 0 ((rd_T30 l0 0).f0) ((rd_T30 l0 0).f1)) else (none)))) = some (r1, r2) := by rw [if_pos rfl] at H; exact H
  clear H
  have H := H1
  clear H1
  by_cases c4 : (l0.length : Int) < 3
  ·rw [if_pos c4] at H
   have c4b0 : decide ((l0.length : Int) < 3) = true := decide_eq_true c4
   have c4b1 : decide (l0.length < 3) = true := decide_eq_true (by omega)
   clear c4
   simp only [Option.some.injEq, Prod.mk.injEq] at H
   obtain ⟨rfl, rfl⟩ := H
   go_enter Try.func35, Try.ntmps35
   go_wp2_with (first | ((with_reducible refine gate_callee (f := 71) rfl ?_); refine goesL_ (some 16) rfl rfl Try.func71 (by kernel_rfl) rfl #[.slice A0 l0.length c0] rfl (by (try simp only [List.map_toArray, List.map_cons, List.map_nil]); first | done | rfl | (simp only [List.length_drop, List.length_take]; rfl)) ?_; (with_reducible refine (impl_validPoints.calls k _ _ l0 true _ ?side1 ?side2 A2.out).mono ?_); (case side1 => repeat (first | exact HR0.out | (with_reducible refine Kd.C_alloc ?_ _) | (with_reducible refine Kd.C_drewN ?_ _) | (with_reducible refine Kd.C_drew ?_))); (case side2 => exact HC0.out); rintro e w5 ⟨rfl, hb⟩; refine ⟨_, rfl, ?_⟩; have n0_ := sb hb; clear HB; have HB := n0_; clear n0_; (try clear hb); (try clear hb2); (try clear hk); (try clear hi)))
   go_ret2
   exact ⟨_, by first | rfl | (simp [errW_none, errW_some] <;> rfl) | (simp [*, errW_none, errW_some] <;> rfl), by first | exact Kd.R_nil _ _ _ _ _ | exact Kd.N_nil _ _ _ _ _ | exact Kd.V_nil _ _ _ _ _ | exact Kd.Q_nil _ _ _ _ _ | exact Kd.S_nil _ _ _ _ _, by repeat (first | (with_reducible first | exact HB.out | apply below_alloc | apply pw_below_drewN | apply below_drew1) | exact HB.out)⟩
  ·rw [if_neg c4] at H
   have c4b0 : decide ((l0.length : Int) < 3) = false := decide_eq_false c4
   have c4b1 : decide (l0.length < 3) = false := decide_eq_false (by omega)
   clear c4
   by_cases c6 : (l0.length : Int) > 24
   ·rw [if_pos c6] at H
    have c6b0 : decide (24 < (l0.length : Int)) = true := decide_eq_true c6
    have c6b1 : decide (24 < l0.length) = true := decide_eq_true (by omega)
    clear c6
    simp only [Option.some.injEq, Prod.mk.injEq] at H
    obtain ⟨rfl, rfl⟩ := H
    go_enter Try.func35, Try.ntmps35
    go_wp2_with (first | ((with_reducible refine gate_callee (f := 71) rfl ?_); refine goesL_ (some 16) rfl rfl Try.func71 (by kernel_rfl) rfl #[.slice A0 l0.length c0] rfl (by (try simp only [List.map_toArray, List.map_cons, List.map_nil]); first | done | rfl | (simp only [List.length_drop, List.length_take]; rfl)) ?_; (with_reducible refine (impl_validPoints.calls k _ _ l0 true _ ?side1 ?side2 A2.out).mono ?_); (case side1 => repeat (first | exact HR0.out | (with_reducible refine Kd.C_alloc ?_ _) | (with_reducible refine Kd.C_drewN ?_ _) | (with_reducible refine Kd.C_drew ?_))); (case side2 => exact HC0.out); rintro e w7 ⟨rfl, hb⟩; refine ⟨_, rfl, ?_⟩; have n0_ := sb hb; clear HB; have HB := n0_; clear n0_; (try clear hb); (try clear hb2); (try clear hk); (try clear hi)))
    go_ret2
    exact ⟨_, by first | rfl | (simp [errW_none, errW_some] <;> rfl) | (simp [*, errW_none, errW_some] <;> rfl), by first | exact Kd.R_nil _ _ _ _ _ | exact Kd.N_nil _ _ _ _ _ | exact Kd.V_nil _ _ _ _ _ | exact Kd.Q_nil _ _ _ _ _ | exact Kd.S_nil _ _ _ _ _, by repeat (first | (with_reducible first | exact HB.out | apply below_alloc | apply pw_below_drewN | apply below_drew1) | exact HB.out)⟩
   ·rw [if_neg c6] at H
    have c6b0 : decide (24 < (l0.length : Int)) = false := decide_eq_false c6
    have c6b1 : decide (24 < l0.length) = false := decide_eq_false (by omega)
    clear c6
    by_cases c8 : 0 < (l0.length : Int)
    ·rw [if_pos c8] at H
     have c8b0 : decide (0 < (l0.length : Int)) = true := decide_eq_true c8
     have c8b1 : decide (0 < l0.length) = true := decide_eq_true (by omega)
     clear c8
     have H' := Aside0.mk H
     clear H
     go_enter Try.func35, Try.ntmps35
     go_wp2_with (first | ((with_reducible refine gate_callee (f := 71) rfl ?_); refine goesL_ (some 16) rfl rfl Try.func71 (by kernel_rfl) rfl #[.slice A0 l0.length c0] rfl (by (try simp only [List.map_toArray, List.map_cons, List.map_nil]); first | done | rfl | (simp only [List.length_drop, List.length_take]; rfl)) ?_; (with_reducible refine (impl_validPoints.calls k _ _ l0 true _ ?side1 ?side2 A2.out).mono ?_); (case side1 => repeat (first | exact HR0.out | (with_reducible refine Kd.C_alloc ?_ _) | (with_reducible refine Kd.C_drewN ?_ _) | (with_reducible refine Kd.C_drew ?_))); (case side2 => exact HC0.out); rintro e w9 ⟨rfl, hb⟩; refine ⟨_, rfl, ?_⟩; have n0_ := sb hb; clear HB; have HB := n0_; clear n0_; (try clear hb); (try clear hb2); (try clear hk); (try clear hi); have p170 : 0 ≤ (0 : Int) := (by omega); have q170 : 0 < (l0.length : Int) := of_decide_eq_true (by first | (with_reducible assumption) | assumption); obtain ⟨ad170, e170, hx170_0, hx170_1⟩ := at_T30 HR0.out 0 p170 q170; cases e170; have qi170 : (0 < l0.length) = True := eq_true (by omega); (try rw [show ((0 : Int)).toNat = 0 from rfl] at hx170_0); (try rw [show 0 * 2 = 0 from rfl] at hx170_0); (try rw [Addr.add_zero'] at hx170_0); (try rw [show ((0 : Int)).toNat = 0 from rfl] at hx170_1); (try rw [show 0 * 2 = 0 from rfl] at hx170_1); (try rw [Addr.add_zero'] at hx170_1); replace hx170_0 := (HB.out.cell (bL w _ hx170_0)).trans hx170_0; replace hx170_1 := (HB.out.cell (bL w _ hx170_1)).trans hx170_1; replace p170 := eq_true p170; replace q170 := eq_true q170) | ((with_reducible refine gate_dst (N := 4) rfl ?_); (try (refine gate_guard (by rfl) ?_; dsimp only)); refine box_event ?hg (N := 4) ?hd (cs := #[.int .i64 0, .int .i64 0]) (t := 30) ?hr ?_; (case hd => rfl); (case hg => rfl); (case hr => first | (go_simp; done) | (go_simp; rfl)); intro gb171 hg w10 hbox hb; have n0_ := sb hb; have n1_ := Aside0.mk (hbox); have n2_ := zb hg; have n3_ := zb hg; clear HB; have HB := n0_; have BK171 := n1_; have GW171 := n2_; have GE171 := n3_; clear n0_ n1_ n2_ n3_; clear hb hbox hg; have hcz11_0 := ck BK171 0; have hcz11_1 := ck BK171 1; have hfz11_0 := blk_frozen BK171.out 0; have hfz11_1 := blk_frozen BK171.out 1))
     go_loopg [32] k (fun kq v32 w' => ∃ (x32_1 : Int) (x172000_1 : Int) (x172001_1 : Int), v32 = .int .i64 x32_1 ∧ Aside0 (impl_HullOf.l0 kq l0 l0 (l0.length : Int) x32_1 x172000_1 x172001_1 = some (r1, r2)) ∧ Aside0 (kq ≤ k) ∧ Aside0 (w'.heap[gb171]? = some (.cells #[.int .i64 x172000_1, .int .i64 x172001_1] 30 (0, 0))) ∧ Aside0 (Below w.heap.size w w'))
     case atStart => exact ⟨(0), ((rd_T30 l0 0).f0), ((rd_T30 l0 0).f1), (by first | rfl | (simp; done) | (simp [*]; done)), H', ⟨Nat.le_refl _⟩, ⟨by (with_reducible repeat (first | refine blk_drewN ?_ _ | refine blk_drew ?_ | refine blk_alloc ?_ _)); refine blk_put (cs := #[.int .i64 ((rd_T30 l0 0).f0), .int .i64 0]) ?_ 1 _ rfl; (with_reducible repeat (first | refine blk_drewN ?_ _ | refine blk_drew ?_ | refine blk_alloc ?_ _)); refine blk_put (cs := #[.int .i64 0, .int .i64 0]) ?_ 0 _ rfl; (with_reducible repeat (first | refine blk_drewN ?_ _ | refine blk_drew ?_ | refine blk_alloc ?_ _)); exact BK171.out⟩, ⟨by repeat (first | (with_reducible first | exact HB.out | apply below_alloc | apply pw_below_drewN | apply below_drew1 | refine below_set ?_ GE171.out) | exact HB.out)⟩⟩
     case round =>
      clear H'
      try clear p1
      try clear q1
      try clear hx1
      try clear qi1
      try clear p2
      try clear c3
      try clear c4
      try clear c4b0
      try clear c4b1
      try clear c6
      try clear c6b0
      try clear c6b1
      try clear c7
      try clear c8
      try clear c8b0
      try clear c8b1
      try clear hcz11_0
      try clear hcz11_1
      try clear hfz11_0
      try clear hfz11_1
      try clear hx170_0
      try clear hx170_1
      try clear p170
      try clear q170
      obtain ⟨x32_1, x172000_1, x172001_1, rfl, HA, HK1, BK171, HB⟩ := hrel
      cases gk with
      | zero => exact absurd HA.out (by simp [impl_HullOf.l0])
      | succ k1 =>
       have H := HA.out
       clear HA
       simp only [impl_HullOf.l0] at H
       by_cases c12 : x32_1 < (l0.length : Int)
       ·rw [if_pos c12] at H
        have c12b0 : decide (x32_1 < (l0.length : Int)) = true := decide_eq_true c12
        clear c12
        by_cases c13 : 0 ≤ x32_1
        ·rw [if_pos c13] at H
         have c13b0 : decide (0 ≤ x32_1) = true := decide_eq_true c13
         clear c13
         by_cases c14 : x32_1 < (l0.length : Int)
         ·rw [if_pos c14] at H
          have c14b0 : decide (x32_1 < (l0.length : Int)) = true := decide_eq_true c14
          clear c14
          by_cases c15 : ((rd_T30 l0 x32_1).f1) < x172001_1
          ·rw [if_pos c15] at H
           have c15b0 : decide (((rd_T30 l0 x32_1).f1) < x172001_1) = true := decide_eq_true c15
           clear c15
           have H' := Aside0.mk H
           clear H
           have p172 : 0 ≤ (x32_1 : Int) := of_decide_eq_true (by first | (with_reducible assumption) | assumption)
           have q172 : x32_1 < (l0.length : Int) := of_decide_eq_true (by first | (with_reducible assumption) | assumption)
           obtain ⟨ad172, e172, hx172_0, hx172_1⟩ := at_T30 HR0.out x32_1 p172 q172
           obtain rfl : ad170 = ad172 := (by injection e172)
           replace hx172_0 := (HB.out.cell (bL w _ hx172_0)).trans hx172_0
           replace hx172_1 := (HB.out.cell (bL w _ hx172_1)).trans hx172_1
           replace p172 := eq_true p172
           replace q172 := eq_true q172
           go_wp2_with (first | ((with_reducible refine gate_dst (N := 6) rfl ?_); (try (refine gate_guard (by rfl) ?_; dsimp only)); refine box_event ?hg (N := 6) ?hd (cs := #[.int .i64 0, .int .i64 0]) (t := 30) ?hr ?_; (case hd => rfl); (case hg => rfl); (case hr => first | (go_simp; done) | (go_simp; rfl)); intro gb173 hg w16 hbox hb; have n0_ := kb BK171 hb; have n1_ := sb hb; have n2_ := Aside0.mk (hbox); have n3_ := zb hg; have n4_ := zb hg; have n5_ := nl BK171 hg; have n6_ := ng BK171 hg; clear BK171; clear HB; have BK171 := n0_; have HB := n1_; have BK173 := n2_; have GW173 := n3_; have GE173 := n4_; have NB171_173 := n5_; have NB173_171 := n6_; clear n0_ n1_ n2_ n3_ n4_ n5_ n6_; clear hb hbox hg; have hnb17 := NB173_171.out; have hnc17 := NB171_173.out; have hcz18_0 := ck BK173 0; have hcz18_1 := ck BK173 1; have hfz18_0 := blk_frozen BK173.out 0; have hfz18_1 := blk_frozen BK173.out 1; have hcz19_0 := ck BK171 0; have hcz19_1 := ck BK171 1; have hfz19_0 := blk_frozen BK171.out 0; have hfz19_1 := blk_frozen BK171.out 1))
           go_roundg k1
           case measure => have := HK1.out; omega
           case rel => exact ⟨(wrap64 (x32_1 + 1)), ((rd_T30 l0 x32_1).f0), ((rd_T30 l0 x32_1).f1), (by first | rfl | (simp; done) | (simp [*]; done)), H', ⟨by have := HK1.out; omega⟩, ⟨by (with_reducible repeat (first | refine blk_drewN ?_ _ | refine blk_drew ?_ | refine blk_alloc ?_ _)); refine blk_put (cs := #[.int .i64 ((rd_T30 l0 x32_1).f0), .int .i64 x172001_1]) ?_ 1 _ rfl; (with_reducible repeat (first | refine blk_drewN ?_ _ | refine blk_drew ?_ | refine blk_alloc ?_ _)); refine blk_put (cs := #[.int .i64 x172000_1, .int .i64 x172001_1]) ?_ 0 _ rfl; (with_reducible repeat (first | refine blk_drewN ?_ _ | refine blk_drew ?_ | refine blk_alloc ?_ _)); refine blk_far ?_ NB171_173.out _; (with_reducible repeat (first | refine blk_drewN ?_ _ | refine blk_drew ?_ | refine blk_alloc ?_ _)); refine blk_far ?_ NB171_173.out _; (with_reducible repeat (first | refine blk_drewN ?_ _ | refine blk_drew ?_ | refine blk_alloc ?_ _)); exact BK171.out⟩, ⟨by repeat (first | (with_reducible first | exact HB.out | apply below_alloc | apply pw_below_drewN | apply below_drew1 | refine below_set ?_ GE171.out | refine below_set ?_ GE173.out) | exact HB.out)⟩⟩
          ·rw [if_neg c15] at H
           have c15b0 : decide (((rd_T30 l0 x32_1).f1) < x172001_1) = false := decide_eq_false c15
           clear c15
           by_cases c20 : ((rd_T30 l0 x32_1).f1) = x172001_1
           ·rw [if_pos c20] at H
            have c20b0 : (((rd_T30 l0 x32_1).f1) == x172001_1) = true := beq_iff_eq.mpr c20
            have c20b1 : (((rd_T30 l0 x32_1).f1) != x172001_1) = false := bne_eq_false_iff_eq.mpr c20
            clear c20
            by_cases c21 : ((rd_T30 l0 x32_1).f0) < x172000_1
            ·rw [if_pos c21] at H
             have c21b0 : decide (((rd_T30 l0 x32_1).f0) < x172000_1) = true := decide_eq_true c21
             clear c21
             have H' := Aside0.mk H
             clear H
             have p172 : 0 ≤ (x32_1 : Int) := of_decide_eq_true (by first | (with_reducible assumption) | assumption)
             have q172 : x32_1 < (l0.length : Int) := of_decide_eq_true (by first | (with_reducible assumption) | assumption)
             obtain ⟨ad172, e172, hx172_0, hx172_1⟩ := at_T30 HR0.out x32_1 p172 q172
             obtain rfl : ad170 = ad172 := (by injection e172)
             replace hx172_0 := (HB.out.cell (bL w _ hx172_0)).trans hx172_0
             replace hx172_1 := (HB.out.cell (bL w _ hx172_1)).trans hx172_1
             replace p172 := eq_true p172
             replace q172 := eq_true q172
             go_wp2_with (first | ((with_reducible refine gate_dst (N := 6) rfl ?_); (try (refine gate_guard (by rfl) ?_; dsimp only)); refine box_event ?hg (N := 6) ?hd (cs := #[.int .i64 0, .int .i64 0]) (t := 30) ?hr ?_; (case hd => rfl); (case hg => rfl); (case hr => first | (go_simp; done) | (go_simp; rfl)); intro gb173 hg w22 hbox hb; have n0_ := kb BK171 hb; have n1_ := sb hb; have n2_ := Aside0.mk (hbox); have n3_ := zb hg; have n4_ := zb hg; have n5_ := nl BK171 hg; have n6_ := ng BK171 hg; clear BK171; clear HB; have BK171 := n0_; have HB := n1_; have BK173 := n2_; have GW173 := n3_; have GE173 := n4_; have NB171_173 := n5_; have NB173_171 := n6_; clear n0_ n1_ n2_ n3_ n4_ n5_ n6_; clear hb hbox hg; have hnb23 := NB173_171.out; have hnc23 := NB171_173.out; have hcz24_0 := ck BK173 0; have hcz24_1 := ck BK173 1; have hfz24_0 := blk_frozen BK173.out 0; have hfz24_1 := blk_frozen BK173.out 1; have hcz25_0 := ck BK171 0; have hcz25_1 := ck BK171 1; have hfz25_0 := blk_frozen BK171.out 0; have hfz25_1 := blk_frozen BK171.out 1))
             go_roundg k1
             case measure => have := HK1.out; omega
             case rel => exact ⟨(wrap64 (x32_1 + 1)), ((rd_T30 l0 x32_1).f0), ((rd_T30 l0 x32_1).f1), (by first | rfl | (simp; done) | (simp [*]; done)), H', ⟨by have := HK1.out; omega⟩, ⟨by (with_reducible repeat (first | refine blk_drewN ?_ _ | refine blk_drew ?_ | refine blk_alloc ?_ _)); refine blk_put (cs := #[.int .i64 ((rd_T30 l0 x32_1).f0), .int .i64 x172001_1]) ?_ 1 _ rfl; (with_reducible repeat (first | refine blk_drewN ?_ _ | refine blk_drew ?_ | refine blk_alloc ?_ _)); refine blk_put (cs := #[.int .i64 x172000_1, .int .i64 x172001_1]) ?_ 0 _ rfl; (with_reducible repeat (first | refine blk_drewN ?_ _ | refine blk_drew ?_ | refine blk_alloc ?_ _)); refine blk_far ?_ NB171_173.out _; (with_reducible repeat (first | refine blk_drewN ?_ _ | refine blk_drew ?_ | refine blk_alloc ?_ _)); refine blk_far ?_ NB171_173.out _; (with_reducible repeat (first | refine blk_drewN ?_ _ | refine blk_drew ?_ | refine blk_alloc ?_ _)); exact BK171.out⟩, ⟨by repeat (first | (with_reducible first | exact HB.out | apply below_alloc | apply pw_below_drewN | apply below_drew1 | refine below_set ?_ GE171.out | refine below_set ?_ GE173.out) | exact HB.out)⟩⟩
            ·rw [if_neg c21] at H
             have c21b0 : decide (((rd_T30 l0 x32_1).f0) < x172000_1) = false := decide_eq_false c21
             clear c21
             have H' := Aside0.mk H
             clear H
             have p172 : 0 ≤ (x32_1 : Int) := of_decide_eq_true (by first | (with_reducible assumption) | assumption)
             have q172 : x32_1 < (l0.length : Int) := of_decide_eq_true (by first | (with_reducible assumption) | assumption)
             obtain ⟨ad172, e172, hx172_0, hx172_1⟩ := at_T30 HR0.out x32_1 p172 q172
             obtain rfl : ad170 = ad172 := (by injection e172)
             replace hx172_0 := (HB.out.cell (bL w _ hx172_0)).trans hx172_0
             replace hx172_1 := (HB.out.cell (bL w _ hx172_1)).trans hx172_1
             replace p172 := eq_true p172
             replace q172 := eq_true q172
             go_wp2_with (first | ((with_reducible refine gate_dst (N := 6) rfl ?_); (try (refine gate_guard (by rfl) ?_; dsimp only)); refine box_event ?hg (N := 6) ?hd (cs := #[.int .i64 0, .int .i64 0]) (t := 30) ?hr ?_; (case hd => rfl); (case hg => rfl); (case hr => first | (go_simp; done) | (go_simp; rfl)); intro gb173 hg w26 hbox hb; have n0_ := kb BK171 hb; have n1_ := sb hb; have n2_ := Aside0.mk (hbox); have n3_ := zb hg; have n4_ := zb hg; have n5_ := nl BK171 hg; have n6_ := ng BK171 hg; clear BK171; clear HB; have BK171 := n0_; have HB := n1_; have BK173 := n2_; have GW173 := n3_; have GE173 := n4_; have NB171_173 := n5_; have NB173_171 := n6_; clear n0_ n1_ n2_ n3_ n4_ n5_ n6_; clear hb hbox hg; have hnb27 := NB173_171.out; have hnc27 := NB171_173.out; have hcz28_0 := ck BK173 0; have hcz28_1 := ck BK173 1; have hfz28_0 := blk_frozen BK173.out 0; have hfz28_1 := blk_frozen BK173.out 1; have hcz29_0 := ck BK171 0; have hcz29_1 := ck BK171 1; have hfz29_0 := blk_frozen BK171.out 0; have hfz29_1 := blk_frozen BK171.out 1))
             go_roundg k1
             case measure => have := HK1.out; omega
             case rel => exact ⟨(wrap64 (x32_1 + 1)), (x172000_1), (x172001_1), (by first | rfl | (simp; done) | (simp [*]; done)), H', ⟨by have := HK1.out; omega⟩, ⟨by (with_reducible repeat (first | refine blk_drewN ?_ _ | refine blk_drew ?_ | refine blk_alloc ?_ _)); refine blk_far ?_ NB171_173.out _; (with_reducible repeat (first | refine blk_drewN ?_ _ | refine blk_drew ?_ | refine blk_alloc ?_ _)); refine blk_far ?_ NB171_173.out _; (with_reducible repeat (first | refine blk_drewN ?_ _ | refine blk_drew ?_ | refine blk_alloc ?_ _)); exact BK171.out⟩, ⟨by repeat (first | (with_reducible first | exact HB.out | apply below_alloc | apply pw_below_drewN | apply below_drew1 | refine below_set ?_ GE171.out | refine below_set ?_ GE173.out) | exact HB.out)⟩⟩
           ·rw [if_neg c20] at H
            have c20b0 : (((rd_T30 l0 x32_1).f1) == x172001_1) = false := beq_eq_false_iff_ne.mpr c20
            have c20b1 : (((rd_T30 l0 x32_1).f1) != x172001_1) = true := bne_iff_ne.mpr c20
            have H' := Aside0.mk H
            clear H
            have p172 : 0 ≤ (x32_1 : Int) := of_decide_eq_true (by first | (with_reducible assumption) | assumption)
            have q172 : x32_1 < (l0.length : Int) := of_decide_eq_true (by first | (with_reducible assumption) | assumption)
            obtain ⟨ad172, e172, hx172_0, hx172_1⟩ := at_T30 HR0.out x32_1 p172 q172
            obtain rfl : ad170 = ad172 := (by injection e172)
            replace hx172_0 := (HB.out.cell (bL w _ hx172_0)).trans hx172_0
            replace hx172_1 := (HB.out.cell (bL w _ hx172_1)).trans hx172_1
            replace p172 := eq_true p172
            replace q172 := eq_true q172
            go_wp2_with (first | ((with_reducible refine gate_dst (N := 6) rfl ?_); (try (refine gate_guard (by rfl) ?_; dsimp only)); refine box_event ?hg (N := 6) ?hd (cs := #[.int .i64 0, .int .i64 0]) (t := 30) ?hr ?_; (case hd => rfl); (case hg => rfl); (case hr => first | (go_simp; done) | (go_simp; rfl)); intro gb173 hg w30 hbox hb; have n0_ := kb BK171 hb; have n1_ := sb hb; have n2_ := Aside0.mk (hbox); have n3_ := zb hg; have n4_ := zb hg; have n5_ := nl BK171 hg; have n6_ := ng BK171 hg; clear BK171; clear HB; have BK171 := n0_; have HB := n1_; have BK173 := n2_; have GW173 := n3_; have GE173 := n4_; have NB171_173 := n5_; have NB173_171 := n6_; clear n0_ n1_ n2_ n3_ n4_ n5_ n6_; clear hb hbox hg; have hnb31 := NB173_171.out; have hnc31 := NB171_173.out; have hcz32_0 := ck BK173 0; have hcz32_1 := ck BK173 1; have hfz32_0 := blk_frozen BK173.out 0; have hfz32_1 := blk_frozen BK173.out 1; have hcz33_0 := ck BK171 0; have hcz33_1 := ck BK171 1; have hfz33_0 := blk_frozen BK171.out 0; have hfz33_1 := blk_frozen BK171.out 1))
            go_roundg k1
            case measure => have := HK1.out; omega
            case rel => exact ⟨(wrap64 (x32_1 + 1)), (x172000_1), (x172001_1), (by first | rfl | (simp; done) | (simp [*]; done)), H', ⟨by have := HK1.out; omega⟩, ⟨by (with_reducible repeat (first | refine blk_drewN ?_ _ | refine blk_drew ?_ | refine blk_alloc ?_ _)); refine blk_far ?_ NB171_173.out _; (with_reducible repeat (first | refine blk_drewN ?_ _ | refine blk_drew ?_ | refine blk_alloc ?_ _)); refine blk_far ?_ NB171_173.out _; (with_reducible repeat (first | refine blk_drewN ?_ _ | refine blk_drew ?_ | refine blk_alloc ?_ _)); exact BK171.out⟩, ⟨by repeat (first | (with_reducible first | exact HB.out | apply below_alloc | apply pw_below_drewN | apply below_drew1 | refine below_set ?_ GE171.out | refine below_set ?_ GE173.out) | exact HB.out)⟩⟩
         ·rw [if_neg c14] at H
          exact absurd H (by simp)
        ·rw [if_neg c13] at H
         exact absurd H (by simp)
       ·rw [if_neg c12] at H
        have c12b0 : decide (x32_1 < (l0.length : Int)) = false := decide_eq_false c12
        clear c12
        obtain ⟨y174, hy174⟩ : ∃ y_ : List (S30), y_ = (([(⟨x172000_1, x172001_1⟩ : S30)] : List (S30))) := ⟨_, rfl⟩
        replace H : (impl_HullOf.l1 k1 l0 y174 x172000_1 x172001_1) = some (r1, r2) := by first | (rw [hy174]; with_reducible exact H) | (have H2_ := (Option.bind_some _ _).symm.trans H; rw [hy174]; with_reducible exact H2_) | (have H2_ := (Option.bind_some _ _).symm.trans H; with_reducible exact H2_) | with_reducible exact H | (rw [hy174]; exact H) | exact H
        have Ny174 := Aside0.mk hy174
        clear hy174
        have H' := Aside0.mk H
        clear H
        have hcz34_0 : wr.cell? ⟨gb171, 0, none⟩ = some (.int .i64 x172000_1) := (blk_cell BK171.out 0).trans rfl
        have hcz34_1 : wr.cell? ⟨gb171, 1, none⟩ = some (.int .i64 x172001_1) := (blk_cell BK171.out 1).trans rfl
        have hfz34_0 := blk_frozen BK171.out 0
        have hfz34_1 := blk_frozen BK171.out 1
        go_wp2_with (first | ((with_reducible refine gate_dst (N := 58) rfl ?_); (try (refine gate_guard (by rfl) ?_; dsimp only)); refine Kd.R_lit k30 _ 30 ?hg (N := 58) ?hd (xs := ([(⟨x172000_1, x172001_1⟩ : S30)] : List (S30))) (inner := [.int .i64 x172000_1, .int .i64 x172001_1]) (ok := fun _ => True) (okp := fun _ => True) ?hr ?hp (fun _ hk => hk) trivial (Below.refl _ _) (Nat.le_refl _) (by simp) ?_; (case hd => rfl); (case hg => rfl); (case hr => first | (go_simp; done) | (go_simp; rfl)); (case hp => exact (Reps.c2 (show Kd.M k30 _ _ _ (⟨x172000_1, x172001_1⟩ : S30) [.int .i64 x172000_1, .int .i64 x172001_1] from (k30_mkM _ _ _ (⟨x172000_1, x172001_1⟩ : S30) )) (Reps.none _ _))); intro v175 w35 ho36 hb hg_ hnew_; clear hg_ hnew_; (first | rw [← Ny174.out] at ho36 | (simp only [Int.reduceToNat] at ho36; rw [← Ny174.out] at ho36)); have n0_ := Aside0.mk (Kd.R_lower (Kd.R_newB ho36 (g := gb171) (o := .cells #[.int .i64 x172000_1, .int .i64 x172001_1] 30 (0, 0)) (bk BK171)) (below_size ib)); have n1_ := kb BK171 hb; have n2_ := sb hb; clear BK171; clear HB; have HO176 := n0_; have BK171 := n1_; have HB := n2_; clear n0_ n1_ n2_; clear hb ho36))
        go_loopg [7] k1 (fun kq v7 w' => ∃ (x7_2 : List (S30)), Aside0 (impl_HullOf.l1 kq l0 x7_2 x172000_1 x172001_1 = some (r1, r2)) ∧ Aside0 (kq ≤ k1) ∧ Aside0 (Kd.R k30 30 w' w.heap.size (fun k_ => k_ ≠ gb171) v7 x7_2) ∧ Aside0 (w'.heap[gb171]? = some (.cells #[.int .i64 x172000_1, .int .i64 x172001_1] 30 (0, 0))) ∧ Aside0 (Below w.heap.size w w'))
        case atStart => exact ⟨(y174), H', ⟨Nat.le_refl _⟩, ⟨by (with_reducible repeat (first | apply Kd.R_alloc | apply Kd.R_drewN | apply Kd.R_drew)); exact Kd.R_mono HO176.out (fun _ hk => hk.2)⟩, ⟨by (with_reducible repeat (first | refine blk_drewN ?_ _ | refine blk_drew ?_ | refine blk_alloc ?_ _)); exact BK171.out⟩, ⟨by repeat (first | (with_reducible first | exact HB.out | apply below_alloc | apply pw_below_drewN | apply below_drew1 | refine below_set ?_ GE171.out) | exact HB.out)⟩⟩
        case round =>
         clear H'
         try clear c1
         try clear p1
         try clear q1
         try clear hx1
         try clear qi1
         try clear c2
         try clear p2
         try clear c3
         try clear c4
         try clear c4b0
         try clear c4b1
         try clear c6
         try clear c6b0
         try clear c6b1
         try clear p6
         try clear c7
         try clear c8
         try clear c8b0
         try clear c8b1
         try clear c12
         try clear c12b0
         try clear c13
         try clear c13b0
         try clear c14
         try clear c14b0
         try clear c15
         try clear c15b0
         try clear c17
         try clear p17
         try clear q17
         try clear hx17
         try clear qi17
         try clear c20
         try clear c20b0
         try clear c20b1
         try clear c21
         try clear c21b0
         try clear c23
         try clear c27
         try clear c31
         try clear c35
         try clear hcz11_0
         try clear hcz11_1
         try clear hcz18_0
         try clear hcz18_1
         try clear hcz19_0
         try clear hcz19_1
         try clear hcz24_0
         try clear hcz24_1
         try clear hcz25_0
         try clear hcz25_1
         try clear hcz28_0
         try clear hcz28_1
         try clear hcz29_0
         try clear hcz29_1
         try clear hcz32_0
         try clear hcz32_1
         try clear hcz33_0
         try clear hcz33_1
         try clear hcz34_0
         try clear hcz34_1
         try clear hfz11_0
         try clear hfz11_1
         try clear hfz18_0
         try clear hfz18_1
         try clear hfz19_0
         try clear hfz19_1
         try clear hfz24_0
         try clear hfz24_1
         try clear hfz25_0
         try clear hfz25_1
         try clear hfz28_0
         try clear hfz28_1
         try clear hfz29_0
         try clear hfz29_1
         try clear hfz32_0
         try clear hfz32_1
         try clear hfz33_0
         try clear hfz33_1
         try clear hfz34_0
         try clear hfz34_1
         try clear hx170_0
         try clear hx170_1
         try clear hx172_0
         try clear hx172_1
         try clear p1
         try clear p170
         try clear p172
         try clear p2
         try clear q1
         try clear q170
         try clear q172
         obtain ⟨x7_2, HA, HK2, HO_7, BK171, HB⟩ := hrel
         cases gk with
         | zero => exact absurd HA.out (by simp [impl_HullOf.l1])
         | succ k2 =>
          have H := HA.out
          clear HA
          simp only [impl_HullOf.l1] at H
          obtain ⟨ji37, hji37⟩ : ∃ j_ : Int, (wrap64 ((x7_2.length : Int) - 1)) = j_ := ⟨_, rfl⟩
          replace H : (if 0 ≤ (ji37) then (if (ji37) < (x7_2.length : Int) then (impl_HullOf.l2 k2 l0 x7_2 false l0 (l0.length : Int) 0 x172000_1 x172001_1 ((rd_T30 x7_2 (ji37)).f0) ((rd_T30 x7_2 (ji37)).f1) 0 0) else (none)) else (none)) = some (r1, r2) := by first | (rw [hji37] at H; exact H) | (simp only [hji37] at H ⊢; exact H)
          have hji37w : (IntKind.i64.wrap ((x7_2.length : Int) - 1)) = ji37 := (i64_w _).trans hji37
          by_cases c38 : 0 ≤ (ji37)
          ·rw [if_pos c38] at H
           have c38b0 : decide (0 ≤ (ji37)) = true := decide_eq_true c38
           clear c38
           by_cases c39 : (ji37) < (x7_2.length : Int)
           ·rw [if_pos c39] at H
            have c39b0 : decide ((ji37) < (x7_2.length : Int)) = true := decide_eq_true c39
            clear c39
            have H' := Aside0.mk H
            clear H
            obtain ⟨Ao40, co40, eo40⟩ := Kd.R_slice HO_7.out
            subst eo40
            have p177 : 0 ≤ ((ji37) : Int) := of_decide_eq_true (by first | (with_reducible assumption) | assumption)
            have q177 : (ji37) < (x7_2.length : Int) := of_decide_eq_true (by first | (with_reducible assumption) | assumption)
            obtain ⟨ad177, e177, hx177_0, hx177_1⟩ := at_T30 (Kd.R_reads' HO_7.out).2.2 (ji37) p177 q177
            cases e177
            replace p177 := eq_true p177
            replace q177 := eq_true q177
            go_wp2_with (first | ((with_reducible refine gate_dst (N := 8) rfl ?_); (try (refine gate_guard (by rfl) ?_; dsimp only)); refine box_event ?hg (N := 8) ?hd (cs := #[.int .i64 0, .int .i64 0]) (t := 30) ?hr ?_; (case hd => rfl); (case hg => rfl); (case hr => first | (go_simp; done) | (go_simp; rfl)); intro gb178 hg w41 hbox hb; have n0_ := Aside0.mk (Kd.R_below (Kd.R_elderB (by (with_reducible repeat (first | apply Kd.R_alloc | apply Kd.R_drewN | apply Kd.R_drew)); exact HO_7.out) gb178 (Nat.le_of_eq hg.symm)) hb); have n1_ := kb BK171 hb; have n2_ := sb hb; have n3_ := Aside0.mk (hbox); have n4_ := zb hg; have n5_ := zb hg; have n6_ := nl BK171 hg; have n7_ := ng BK171 hg; clear HO_7; clear BK171; clear HB; have HO_7 := n0_; have BK171 := n1_; have HB := n2_; have BK178 := n3_; have GW178 := n4_; have GE178 := n5_; have NB171_178 := n6_; have NB178_171 := n7_; clear n0_ n1_ n2_ n3_ n4_ n5_ n6_ n7_; clear hb hbox hg; have hnb42 := NB178_171.out; have hnc42 := NB171_178.out; have hcz43_0 := ck BK178 0; have hcz43_1 := ck BK178 1; have hfz43_0 := blk_frozen BK178.out 0; have hfz43_1 := blk_frozen BK178.out 1) | ((with_reducible refine gate_dst (N := 9) rfl ?_); (try (refine gate_guard (by rfl) ?_; dsimp only)); refine box_event ?hg (N := 9) ?hd (cs := #[.int .i64 0, .int .i64 0]) (t := 30) ?hr ?_; (case hd => rfl); (case hg => rfl); (case hr => first | (go_simp; done) | (go_simp; rfl)); intro gb179 hg w44 hbox hb; have n0_ := Aside0.mk (Kd.R_below (Kd.R_elderB (by (with_reducible repeat (first | apply Kd.R_alloc | apply Kd.R_drewN | apply Kd.R_drew)); exact (Kd.R_mono (Kd.R_far (p := ⟨gb178, 1, none⟩) (Kd.R_far (p := ⟨gb178, 0, none⟩) (Kd.R_mono HO_7.out (fun k_ hk => (⟨hk, hk.2⟩ : _ ∧ k_ ≠ gb178))) (fun _ hk => hk.2) (.int .i64 ((rd_T30 x7_2 (ji37)).f0))) (fun _ hk => hk.2) (.int .i64 ((rd_T30 x7_2 (ji37)).f1))) (fun _ h_ => h_.1))) gb179 (Nat.le_of_eq hg.symm)) hb); have n1_ := Aside0.mk (blk_below (g := gb171) (o := .cells #[.int .i64 x172000_1, .int .i64 x172001_1] 30 (0, 0)) (by (with_reducible repeat (first | refine blk_drewN ?_ _ | refine blk_drew ?_ | refine blk_alloc ?_ _)); refine blk_far ?_ NB171_178.out _; (with_reducible repeat (first | refine blk_drewN ?_ _ | refine blk_drew ?_ | refine blk_alloc ?_ _)); refine blk_far ?_ NB171_178.out _; (with_reducible repeat (first | refine blk_drewN ?_ _ | refine blk_drew ?_ | refine blk_alloc ?_ _)); exact BK171.out) hb); have n2_ := Aside0.mk (blk_below (g := gb178) (o := .cells #[.int .i64 ((rd_T30 x7_2 (ji37)).f0), .int .i64 ((rd_T30 x7_2 (ji37)).f1)] 30 (0, 0)) (by (with_reducible repeat (first | refine blk_drewN ?_ _ | refine blk_drew ?_ | refine blk_alloc ?_ _)); refine blk_put (cs := #[.int .i64 ((rd_T30 x7_2 (ji37)).f0), .int .i64 0]) ?_ 1 _ rfl; (with_reducible repeat (first | refine blk_drewN ?_ _ | refine blk_drew ?_ | refine blk_alloc ?_ _)); refine blk_put (cs := #[.int .i64 0, .int .i64 0]) ?_ 0 _ rfl; (with_reducible repeat (first | refine blk_drewN ?_ _ | refine blk_drew ?_ | refine blk_alloc ?_ _)); exact BK178.out) hb); have n3_ := sb hb; have n4_ := Aside0.mk (hbox); have n5_ := zb hg; have n6_ := zb hg; have n7_ := Aside0.mk ((by rw [hg]; exact Nat.ne_of_lt (blk_lt (g := gb171) (o := .cells #[.int .i64 x172000_1, .int .i64 x172001_1] 30 (0, 0)) (by (with_reducible repeat (first | refine blk_drewN ?_ _ | refine blk_drew ?_ | refine blk_alloc ?_ _)); refine blk_far ?_ NB171_178.out _; (with_reducible repeat (first | refine blk_drewN ?_ _ | refine blk_drew ?_ | refine blk_alloc ?_ _)); refine blk_far ?_ NB171_178.out _; (with_reducible repeat (first | refine blk_drewN ?_ _ | refine blk_drew ?_ | refine blk_alloc ?_ _)); exact BK171.out)) : gb171 ≠ gb179)); have n8_ := Aside0.mk ((by rw [hg]; exact Nat.ne_of_gt (blk_lt (g := gb171) (o := .cells #[.int .i64 x172000_1, .int .i64 x172001_1] 30 (0, 0)) (by (with_reducible repeat (first | refine blk_drewN ?_ _ | refine blk_drew ?_ | refine blk_alloc ?_ _)); refine blk_far ?_ NB171_178.out _; (with_reducible repeat (first | refine blk_drewN ?_ _ | refine blk_drew ?_ | refine blk_alloc ?_ _)); refine blk_far ?_ NB171_178.out _; (with_reducible repeat (first | refine blk_drewN ?_ _ | refine blk_drew ?_ | refine blk_alloc ?_ _)); exact BK171.out)) : gb179 ≠ gb171)); have n9_ := Aside0.mk ((by rw [hg]; exact Nat.ne_of_lt (blk_lt (g := gb178) (o := .cells #[.int .i64 ((rd_T30 x7_2 (ji37)).f0), .int .i64 ((rd_T30 x7_2 (ji37)).f1)] 30 (0, 0)) (by (with_reducible repeat (first | refine blk_drewN ?_ _ | refine blk_drew ?_ | refine blk_alloc ?_ _)); refine blk_put (cs := #[.int .i64 ((rd_T30 x7_2 (ji37)).f0), .int .i64 0]) ?_ 1 _ rfl; (with_reducible repeat (first | refine blk_drewN ?_ _ | refine blk_drew ?_ | refine blk_alloc ?_ _)); refine blk_put (cs := #[.int .i64 0, .int .i64 0]) ?_ 0 _ rfl; (with_reducible repeat (first | refine blk_drewN ?_ _ | refine blk_drew ?_ | refine blk_alloc ?_ _)); exact BK178.out)) : gb178 ≠ gb179)); have n10_ := Aside0.mk ((by rw [hg]; exact Nat.ne_of_gt (blk_lt (g := gb178) (o := .cells #[.int .i64 ((rd_T30 x7_2 (ji37)).f0), .int .i64 ((rd_T30 x7_2 (ji37)).f1)] 30 (0, 0)) (by (with_reducible repeat (first | refine blk_drewN ?_ _ | refine blk_drew ?_ | refine blk_alloc ?_ _)); refine blk_put (cs := #[.int .i64 ((rd_T30 x7_2 (ji37)).f0), .int .i64 0]) ?_ 1 _ rfl; (with_reducible repeat (first | refine blk_drewN ?_ _ | refine blk_drew ?_ | refine blk_alloc ?_ _)); refine blk_put (cs := #[.int .i64 0, .int .i64 0]) ?_ 0 _ rfl; (with_reducible repeat (first | refine blk_drewN ?_ _ | refine blk_drew ?_ | refine blk_alloc ?_ _)); exact BK178.out)) : gb179 ≠ gb178)); clear HO_7; clear BK171; clear BK178; clear HB; have HO_7 := n0_; have BK171 := n1_; have BK178 := n2_; have HB := n3_; have BK179 := n4_; have GW179 := n5_; have GE179 := n6_; have NB171_179 := n7_; have NB179_171 := n8_; have NB178_179 := n9_; have NB179_178 := n10_; clear n0_ n1_ n2_ n3_ n4_ n5_ n6_ n7_ n8_ n9_ n10_; clear hb hbox hg; have hnb45 := NB179_171.out; have hnc45 := NB171_179.out; have hnb46 := NB179_178.out; have hnc46 := NB178_179.out; have hcz47_0 := ck BK179 0; have hcz47_1 := ck BK179 1; have hfz47_0 := blk_frozen BK179.out 0; have hfz47_1 := blk_frozen BK179.out 1))
            go_loopg [10, 68] k2 (fun kq v10 v68 w' => ∃ (x10_3 : Bool) (x68_3 : Int) (x180000_3 : Int) (x180001_3 : Int), v10 = .bool x10_3 ∧ v68 = .int .i64 x68_3 ∧ Aside0 (impl_HullOf.l2 kq l0 x7_2 x10_3 l0 (l0.length : Int) x68_3 x172000_1 x172001_1 ((rd_T30 x7_2 (ji37)).f0) ((rd_T30 x7_2 (ji37)).f1) x180000_3 x180001_3 = some (r1, r2)) ∧ Aside0 (kq ≤ k2) ∧ Aside0 (Kd.R k30 30 w' w.heap.size (fun k_ => k_ ≠ gb171 ∧ k_ ≠ gb178 ∧ k_ ≠ gb179) (.slice (some ad177) x7_2.length co40) x7_2) ∧ Aside0 (w'.heap[gb171]? = some (.cells #[.int .i64 x172000_1, .int .i64 x172001_1] 30 (0, 0))) ∧ Aside0 (w'.heap[gb178]? = some (.cells #[.int .i64 ((rd_T30 x7_2 (ji37)).f0), .int .i64 ((rd_T30 x7_2 (ji37)).f1)] 30 (0, 0))) ∧ Aside0 (w'.heap[gb179]? = some (.cells #[.int .i64 x180000_3, .int .i64 x180001_3] 30 (0, 0))) ∧ Aside0 (Below w.heap.size w w'))
            case atStart => exact ⟨(false), (0), (0), (0), (by first | rfl | (simp; done) | (simp [*]; done)), (by first | rfl | (simp; done) | (simp [*]; done)), H', ⟨Nat.le_refl _⟩, ⟨by (with_reducible repeat (first | apply Kd.R_alloc | apply Kd.R_drewN | apply Kd.R_drew)); exact Kd.R_mono (Kd.R_far (p := ⟨gb179, 1, none⟩) (Kd.R_far (p := ⟨gb179, 0, none⟩) (Kd.R_mono HO_7.out (fun k_ hk => (⟨hk, hk.2⟩ : _ ∧ k_ ≠ gb179))) (fun _ hk => hk.2) (.int .i64 0)) (fun _ hk => hk.2) (.int .i64 0)) (fun _ hk => ⟨hk.1.1.1, ⟨hk.1.1.2, hk.1.2⟩⟩)⟩, ⟨by (with_reducible repeat (first | refine blk_drewN ?_ _ | refine blk_drew ?_ | refine blk_alloc ?_ _)); refine blk_far ?_ NB171_179.out _; (with_reducible repeat (first | refine blk_drewN ?_ _ | refine blk_drew ?_ | refine blk_alloc ?_ _)); refine blk_far ?_ NB171_179.out _; (with_reducible repeat (first | refine blk_drewN ?_ _ | refine blk_drew ?_ | refine blk_alloc ?_ _)); exact BK171.out⟩, ⟨by (with_reducible repeat (first | refine blk_drewN ?_ _ | refine blk_drew ?_ | refine blk_alloc ?_ _)); refine blk_far ?_ NB178_179.out _; (with_reducible repeat (first | refine blk_drewN ?_ _ | refine blk_drew ?_ | refine blk_alloc ?_ _)); refine blk_far ?_ NB178_179.out _; (with_reducible repeat (first | refine blk_drewN ?_ _ | refine blk_drew ?_ | refine blk_alloc ?_ _)); exact BK178.out⟩, ⟨by (with_reducible repeat (first | refine blk_drewN ?_ _ | refine blk_drew ?_ | refine blk_alloc ?_ _)); refine blk_put (cs := #[.int .i64 0, .int .i64 0]) ?_ 1 _ rfl; (with_reducible repeat (first | refine blk_drewN ?_ _ | refine blk_drew ?_ | refine blk_alloc ?_ _)); refine blk_put (cs := #[.int .i64 0, .int .i64 0]) ?_ 0 _ rfl; (with_reducible repeat (first | refine blk_drewN ?_ _ | refine blk_drew ?_ | refine blk_alloc ?_ _)); exact BK179.out⟩, ⟨by repeat (first | (with_reducible first | exact HB.out | apply below_alloc | apply pw_below_drewN | apply below_drew1 | refine below_set ?_ GE171.out | refine below_set ?_ GE178.out | refine below_set ?_ GE179.out) | exact HB.out)⟩⟩
            case round =>
             clear H'
             try clear c1
             try clear p1
             try clear q1
             try clear hx1
             try clear qi1
             try clear c2
             try clear p2
             try clear c3
             try clear c4
             try clear c4b0
             try clear c4b1
             try clear c6
             try clear c6b0
             try clear c6b1
             try clear p6
             try clear c7
             try clear c8
             try clear c8b0
             try clear c8b1
             try clear c12
             try clear c12b0
             try clear c13
             try clear c13b0
             try clear c14
             try clear c14b0
             try clear c15
             try clear c15b0
             try clear c17
             try clear p17
             try clear q17
             try clear hx17
             try clear qi17
             try clear c20
             try clear c20b0
             try clear c20b1
             try clear c21
             try clear c21b0
             try clear c23
             try clear c27
             try clear c31
             try clear c35
             try clear c38
             try clear c38b0
             try clear c39
             try clear c39b0
             try clear c42
             try clear c45
             try clear c46
             try clear hcz11_0
             try clear hcz11_1
             try clear hcz18_0
             try clear hcz18_1
             try clear hcz19_0
             try clear hcz19_1
             try clear hcz24_0
             try clear hcz24_1
             try clear hcz25_0
             try clear hcz25_1
             try clear hcz28_0
             try clear hcz28_1
             try clear hcz29_0
             try clear hcz29_1
             try clear hcz32_0
             try clear hcz32_1
             try clear hcz33_0
             try clear hcz33_1
             try clear hcz34_0
             try clear hcz34_1
             try clear hcz43_0
             try clear hcz43_1
             try clear hcz47_0
             try clear hcz47_1
             try clear hfz11_0
             try clear hfz11_1
             try clear hfz18_0
             try clear hfz18_1
             try clear hfz19_0
             try clear hfz19_1
             try clear hfz24_0
             try clear hfz24_1
             try clear hfz25_0
             try clear hfz25_1
             try clear hfz28_0
             try clear hfz28_1
             try clear hfz29_0
             try clear hfz29_1
             try clear hfz32_0
             try clear hfz32_1
             try clear hfz33_0
             try clear hfz33_1
             try clear hfz34_0
             try clear hfz34_1
             try clear hfz43_0
             try clear hfz43_1
             try clear hfz47_0
             try clear hfz47_1
             try clear hx170_0
             try clear hx170_1
             try clear hx172_0
             try clear hx172_1
             try clear hx177_0
             try clear hx177_1
             try clear p1
             try clear p17
             try clear p170
             try clear p172
             try clear p177
             try clear p2
             try clear p6
             try clear q1
             try clear q17
             try clear q170
             try clear q172
             try clear q177
             obtain ⟨x10_3, x68_3, x180000_3, x180001_3, rfl, rfl, HA, HK3, HO_7, BK171, BK178, BK179, HB⟩ := hrel
             cases gk with
             | zero => exact absurd HA.out (by simp [impl_HullOf.l2])
             | succ k3 =>
              have H := HA.out
              clear HA
              simp only [impl_HullOf.l2] at H
              by_cases c48 : x68_3 < (l0.length : Int)
              ·rw [if_pos c48] at H
               have c48b0 : decide (x68_3 < (l0.length : Int)) = true := decide_eq_true c48
               clear c48
               by_cases c49 : 0 ≤ x68_3
               ·rw [if_pos c49] at H
                have c49b0 : decide (0 ≤ x68_3) = true := decide_eq_true c49
                clear c49
                by_cases c50 : x68_3 < (l0.length : Int)
                ·rw [if_pos c50] at H
                 have c50b0 : decide (x68_3 < (l0.length : Int)) = true := decide_eq_true c50
                 clear c50
                 by_cases c51 : (((rd_T30 l0 x68_3).f0) == ((rd_T30 x7_2 (ji37)).f0) && (((rd_T30 l0 x68_3).f1) == ((rd_T30 x7_2 (ji37)).f1))) = true
                 ·rw [if_pos c51] at H
                  have c51b0 : (((rd_T30 l0 x68_3).f0) == ((rd_T30 x7_2 (ji37)).f0) && (((rd_T30 l0 x68_3).f1) == ((rd_T30 x7_2 (ji37)).f1))) = true := c51
                  (try (have c51b1 : decide (((rd_T30 l0 x68_3).f0) = ((rd_T30 x7_2 (ji37)).f0) && (((rd_T30 l0 x68_3).f1) == ((rd_T30 x7_2 (ji37)).f1))) = true := by simpa using c51))
                  (try (have c51b2 : (((rd_T30 l0 x68_3).f0) == ((rd_T30 x7_2 (ji37)).f0) && (((rd_T30 l0 x68_3).f1) == ((rd_T30 x7_2 (ji37)).f1))) = true := by simpa using c51))
                  clear c51
                  have H' := Aside0.mk H
                  clear H
                  have p183 : 0 ≤ (x68_3 : Int) := of_decide_eq_true (by first | (with_reducible assumption) | assumption)
                  have q183 : x68_3 < (l0.length : Int) := of_decide_eq_true (by first | (with_reducible assumption) | assumption)
                  obtain ⟨ad183, e183, hx183_0, hx183_1⟩ := at_T30 HR0.out x68_3 p183 q183
                  obtain rfl : ad170 = ad183 := (by injection e183)
                  replace hx183_0 := (HB.out.cell (bL w _ hx183_0)).trans hx183_0
                  replace hx183_1 := (HB.out.cell (bL w _ hx183_1)).trans hx183_1
                  replace p183 := eq_true p183
                  replace q183 := eq_true q183
                  go_wp2_with (first | ((with_reducible refine gate_dst (N := 12) rfl ?_); (try (refine gate_guard (by rfl) ?_; dsimp only)); refine box_event ?hg (N := 12) ?hd (cs := #[.int .i64 0, .int .i64 0]) (t := 30) ?hr ?_; (case hd => rfl); (case hg => rfl); (case hr => first | (go_simp; done) | (go_simp; rfl)); intro gb184 hg w52 hbox hb; have n0_ := Aside0.mk (Kd.R_below (Kd.R_elderB (by (with_reducible repeat (first | apply Kd.R_alloc | apply Kd.R_drewN | apply Kd.R_drew)); exact HO_7.out) gb184 (Nat.le_of_eq hg.symm)) hb); have n1_ := kb BK171 hb; have n2_ := kb BK178 hb; have n3_ := kb BK179 hb; have n4_ := sb hb; have n5_ := Aside0.mk (hbox); have n6_ := zb hg; have n7_ := zb hg; have n8_ := nl BK171 hg; have n9_ := ng BK171 hg; have n10_ := nl BK178 hg; have n11_ := ng BK178 hg; have n12_ := nl BK179 hg; have n13_ := ng BK179 hg; clear HO_7; clear BK171; clear BK178; clear BK179; clear HB; have HO_7 := n0_; have BK171 := n1_; have BK178 := n2_; have BK179 := n3_; have HB := n4_; have BK184 := n5_; have GW184 := n6_; have GE184 := n7_; have NB171_184 := n8_; have NB184_171 := n9_; have NB178_184 := n10_; have NB184_178 := n11_; have NB179_184 := n12_; have NB184_179 := n13_; clear n0_ n1_ n2_ n3_ n4_ n5_ n6_ n7_ n8_ n9_ n10_ n11_ n12_ n13_; clear hb hbox hg; have hnb53 := NB184_171.out; have hnc53 := NB171_184.out; have hnb54 := NB184_178.out; have hnc54 := NB178_184.out; have hnb55 := NB184_179.out; have hnc55 := NB179_184.out; have hcz56_0 := ck BK184 0; have hcz56_1 := ck BK184 1; have hfz56_0 := blk_frozen BK184.out 0; have hfz56_1 := blk_frozen BK184.out 1; have hnb57 := NB178_171.out; have hnc57 := NB171_178.out; have hnb58 := NB178_179.out; have hnc58 := NB179_178.out; have hcz59_0 := ck BK178 0; have hcz59_1 := ck BK178 1; have hfz59_0 := blk_frozen BK178.out 0; have hfz59_1 := blk_frozen BK178.out 1))
                  go_roundg k3
                  case measure => have := HK1.out; have := HK2.out; have := HK3.out; omega
                  case rel => exact ⟨(x10_3), (wrap64 (x68_3 + 1)), (x180000_3), (x180001_3), (by first | rfl | (simp; done) | (simp [*]; done)), (by first | rfl | (simp; done) | (simp [*]; done)), H', ⟨by have := HK1.out; have := HK2.out; have := HK3.out; omega⟩, ⟨by (with_reducible repeat (first | apply Kd.R_alloc | apply Kd.R_drewN | apply Kd.R_drew)); exact Kd.R_mono (Kd.R_far (p := ⟨gb184, 1, none⟩) (Kd.R_far (p := ⟨gb184, 0, none⟩) (Kd.R_mono HO_7.out (fun k_ hk => (⟨hk, hk.2⟩ : _ ∧ k_ ≠ gb184))) (fun _ hk => hk.2) (.int .i64 ((rd_T30 l0 x68_3).f0))) (fun _ hk => hk.2) (.int .i64 ((rd_T30 l0 x68_3).f1))) (fun _ hk => ⟨hk.1.1.1, ⟨hk.1.1.2.1, hk.1.1.2.2⟩⟩)⟩, ⟨by (with_reducible repeat (first | refine blk_drewN ?_ _ | refine blk_drew ?_ | refine blk_alloc ?_ _)); refine blk_far ?_ NB171_184.out _; (with_reducible repeat (first | refine blk_drewN ?_ _ | refine blk_drew ?_ | refine blk_alloc ?_ _)); refine blk_far ?_ NB171_184.out _; (with_reducible repeat (first | refine blk_drewN ?_ _ | refine blk_drew ?_ | refine blk_alloc ?_ _)); exact BK171.out⟩, ⟨by (with_reducible repeat (first | refine blk_drewN ?_ _ | refine blk_drew ?_ | refine blk_alloc ?_ _)); refine blk_far ?_ NB178_184.out _; (with_reducible repeat (first | refine blk_drewN ?_ _ | refine blk_drew ?_ | refine blk_alloc ?_ _)); refine blk_far ?_ NB178_184.out _; (with_reducible repeat (first | refine blk_drewN ?_ _ | refine blk_drew ?_ | refine blk_alloc ?_ _)); exact BK178.out⟩, ⟨by (with_reducible repeat (first | refine blk_drewN ?_ _ | refine blk_drew ?_ | refine blk_alloc ?_ _)); refine blk_far ?_ NB179_184.out _; (with_reducible repeat (first | refine blk_drewN ?_ _ | refine blk_drew ?_ | refine blk_alloc ?_ _)); refine blk_far ?_ NB179_184.out _; (with_reducible repeat (first | refine blk_drewN ?_ _ | refine blk_drew ?_ | refine blk_alloc ?_ _)); exact BK179.out⟩, ⟨by repeat (first | (with_reducible first | exact HB.out | apply below_alloc | apply pw_below_drewN | apply below_drew1 | refine below_set ?_ GE171.out | refine below_set ?_ GE178.out | refine below_set ?_ GE179.out | refine below_set ?_ GE184.out) | exact HB.out)⟩⟩
                 ·rw [if_neg c51] at H
                  have c51b0 : (((rd_T30 l0 x68_3).f0) == ((rd_T30 x7_2 (ji37)).f0) && (((rd_T30 l0 x68_3).f1) == ((rd_T30 x7_2 (ji37)).f1))) = false := by simpa using c51
                  (try (have c51b1 : decide (((rd_T30 l0 x68_3).f0) = ((rd_T30 x7_2 (ji37)).f0) && (((rd_T30 l0 x68_3).f1) == ((rd_T30 x7_2 (ji37)).f1))) = false := by simpa using c51))
                  (try (have c51b2 : (((rd_T30 l0 x68_3).f0) == ((rd_T30 x7_2 (ji37)).f0) && (((rd_T30 l0 x68_3).f1) == ((rd_T30 x7_2 (ji37)).f1))) = false := by simpa using c51))
                  (try (have c51b3 : ¬ (((rd_T30 l0 x68_3).f0) = ((rd_T30 x7_2 (ji37)).f0) && (((rd_T30 l0 x68_3).f1) == ((rd_T30 x7_2 (ji37)).f1))) := by simpa using c51))
                  clear c51
                  replace H := Option.bind_eq_some_iff.mp H
                  obtain ⟨t185, A600, H⟩ := H
                  replace H : (if x10_3 = true then (if t185 < 0 then (impl_HullOf.l2 k3 l0 x7_2 true l0 (l0.length : Int) (wrap64 (x68_3 + 1)) x172000_1 x172001_1 ((rd_T30 x7_2 (ji37)).f0) ((rd_T30 x7_2 (ji37)).f1) ((rd_T30 l0 x68_3).f0) ((rd_T30 l0 x68_3).f1)) else (if t185 = 0 then ((impl_squared.f ((rd_T30 x7_2 (ji37)).f0) ((rd_T30 x7_2 (ji37)).f1) ((rd_T30 l0 x68_3).f0) ((rd_T30 l0 x68_3).f1)).bind fun t186 => ((impl_squared.f ((rd_T30 x7_2 (ji37)).f0) ((rd_T30 x7_2 (ji37)).f1) x180000_3 x180001_3).bind fun t187 => (if t186 > t187 then (impl_HullOf.l2 k3 l0 x7_2 true l0 (l0.length : Int) (wrap64 (x68_3 + 1)) x172000_1 x172001_1 ((rd_T30 x7_2 (ji37)).f0) ((rd_T30 x7_2 (ji37)).f1) ((rd_T30 l0 x68_3).f0) ((rd_T30 l0 x68_3).f1)) else (impl_HullOf.l2 k3 l0 x7_2 x10_3 l0 (l0.length : Int) (wrap64 (x68_3 + 1)) x172000_1 x172001_1 ((rd_T30 x7_2 (ji37)).f0) ((rd_T30 x7_2 (ji37)).f1) x180000_3 x180001_3)))) else (impl_HullOf.l2 k3 l0 x7_2 x10_3 l0 (l0.length : Int) (wrap64 (x68_3 + 1)) x172000_1 x172001_1 ((rd_T30 x7_2 (ji37)).f0) ((rd_T30 x7_2 (ji37)).f1) x180000_3 x180001_3))) else (impl_HullOf.l2 k3 l0 x7_2 true l0 (l0.length : Int) (wrap64 (x68_3 + 1)) x172000_1 x172001_1 ((rd_T30 x7_2 (ji37)).f0) ((rd_T30 x7_2 (ji37)).f1) ((rd_T30 l0 x68_3).f0) ((rd_T30 l0 x68_3).f1))) = some (r1, r2) := H
                  have A60 := Aside0.mk A600
                  clear A600
                  by_cases c61 : x10_3 = true
                  ·subst c61
                   have H1 : (if t185 < 0 then (impl_HullOf.l2 k3 l0 x7_2 true l0 (l0.length : Int) (wrap64 (x68_3 + 1)) x172000_1 x172001_1 ((rd_T30 x7_2 (ji37)).f0) ((rd_T30 x7_2 (ji37)).f1) ((rd_T30 l0 x68_3).f0) ((rd_T30 l0 x68_3).f1)) else (if t185 = 0 then ((impl_squared.f ((rd_T30 x7_2 (ji37)).f0) ((rd_T30 x7_2 (ji37)).f1) ((rd_T30 l0 x68_3).f0) ((rd_T30 l0 x68_3).f1)).bind fun t186 => ((impl_squared.f ((rd_T30 x7_2 (ji37)).f0) ((rd_T30 x7_2 (ji37)).f1) x180000_3 x180001_3).bind fun t187 => (if t186 > t187 then (impl_HullOf.l2 k3 l0 x7_2 true l0 (l0.length : Int) (wrap64 (x68_3 + 1)) x172000_1 x172001_1 ((rd_T30 x7_2 (ji37)).f0) ((rd_T30 x7_2 (ji37)).f1) ((rd_T30 l0 x68_3).f0) ((rd_T30 l0 x68_3).f1)) else (impl_HullOf.l2 k3 l0 x7_2 true l0 (l0.length : Int) (wrap64 (x68_3 + 1)) x172000_1 x172001_1 ((rd_T30 x7_2 (ji37)).f0) ((rd_T30 x7_2 (ji37)).f1) x180000_3 x180001_3)))) else (impl_HullOf.l2 k3 l0 x7_2 true l0 (l0.length : Int) (wrap64 (x68_3 + 1)) x172000_1 x172001_1 ((rd_T30 x7_2 (ji37)).f0) ((rd_T30 x7_2 (ji37)).f1) x180000_3 x180001_3))) = some (r1, r2) := by rw [if_pos rfl] at H; exact H
                   clear H
                   have H := H1
                   clear H1
                   by_cases c62 : t185 < 0
                   ·rw [if_pos c62] at H
                    have c62b0 : decide (t185 < 0) = true := decide_eq_true c62
                    clear c62
                    have H' := Aside0.mk H
                    clear H
                    have p183 : 0 ≤ (x68_3 : Int) := of_decide_eq_true (by first | (with_reducible assumption) | assumption)
                    have q183 : x68_3 < (l0.length : Int) := of_decide_eq_true (by first | (with_reducible assumption) | assumption)
                    obtain ⟨ad183, e183, hx183_0, hx183_1⟩ := at_T30 HR0.out x68_3 p183 q183
                    obtain rfl : ad170 = ad183 := (by injection e183)
                    replace hx183_0 := (HB.out.cell (bL w _ hx183_0)).trans hx183_0
                    replace hx183_1 := (HB.out.cell (bL w _ hx183_1)).trans hx183_1
                    replace p183 := eq_true p183
                    replace q183 := eq_true q183
                    try go_wp2_with (first | ((with_reducible refine gate_dst (N := 12) rfl ?_); (try (refine gate_guard (by rfl) ?_; dsimp only)); refine box_event ?hg (N := 12) ?hd (cs := #[.int .i64 0, .int .i64 0]) (t := 30) ?hr ?_; (case hd => rfl); (case hg => rfl); (case hr => first | (go_simp; done) | (go_simp; rfl)); intro gb184 hg w63 hbox hb; have n0_ := Aside0.mk (Kd.R_below (Kd.R_elderB (by (with_reducible repeat (first | apply Kd.R_alloc | apply Kd.R_drewN | apply Kd.R_drew)); exact HO_7.out) gb184 (Nat.le_of_eq hg.symm)) hb); have n1_ := kb BK171 hb; have n2_ := kb BK178 hb; have n3_ := kb BK179 hb; have n4_ := sb hb; have n5_ := Aside0.mk (hbox); have n6_ := zb hg; have n7_ := zb hg; have n8_ := nl BK171 hg; have n9_ := ng BK171 hg; have n10_ := nl BK178 hg; have n11_ := ng BK178 hg; have n12_ := nl BK179 hg; have n13_ := ng BK179 hg; clear HO_7; clear BK171; clear BK178; clear BK179; clear HB; have HO_7 := n0_; have BK171 := n1_; have BK178 := n2_; have BK179 := n3_; have HB := n4_; have BK184 := n5_; have GW184 := n6_; have GE184 := n7_; have NB171_184 := n8_; have NB184_171 := n9_; have NB178_184 := n10_; have NB184_178 := n11_; have NB179_184 := n12_; have NB184_179 := n13_; clear n0_ n1_ n2_ n3_ n4_ n5_ n6_ n7_ n8_ n9_ n10_ n11_ n12_ n13_; clear hb hbox hg; have hnb64 := NB184_171.out; have hnc64 := NB171_184.out; have hnb65 := NB184_178.out; have hnc65 := NB178_184.out; have hnb66 := NB184_179.out; have hnc66 := NB179_184.out; have hcz67_0 := ck BK184 0; have hcz67_1 := ck BK184 1; have hfz67_0 := blk_frozen BK184.out 0; have hfz67_1 := blk_frozen BK184.out 1; have hnb68 := NB178_171.out; have hnc68 := NB171_178.out; have hnb69 := NB178_179.out; have hnc69 := NB179_178.out; have hcz70_0 := ck BK178 0; have hcz70_1 := ck BK178 1; have hfz70_0 := blk_frozen BK178.out 0; have hfz70_1 := blk_frozen BK178.out 1; have hnb71 := NB179_171.out; have hnc71 := NB171_179.out; have hcz72_0 := ck BK179 0; have hcz72_1 := ck BK179 1; have hfz72_0 := blk_frozen BK179.out 0; have hfz72_1 := blk_frozen BK179.out 1) | ((with_reducible refine gate_callee (f := 72) rfl ?_); refine goesL_ (some 78) rfl rfl Try.func72 (by kernel_rfl) rfl #[.agg #[.int .i64 ((rd_T30 x7_2 (ji37)).f0), .int .i64 ((rd_T30 x7_2 (ji37)).f1)], .agg #[.int .i64 x180000_3, .int .i64 x180001_3], .agg #[.int .i64 ((rd_T30 l0 x68_3).f0), .int .i64 ((rd_T30 l0 x68_3).f1)]] rfl (by (try simp only [List.map_toArray, List.map_cons, List.map_nil]); first | done | (simp only [hji37]; rfl) | rfl | (simp only [List.length_drop, List.length_take]; rfl)) ?_; (with_reducible refine (impl_side.calls ((rd_T30 x7_2 (ji37)).f0) ((rd_T30 x7_2 (ji37)).f1) x180000_3 x180001_3 ((rd_T30 l0 x68_3).f0) ((rd_T30 l0 x68_3).f1) t185 _ A60.out).mono ?_); rintro e w73 ⟨rfl, hb⟩; refine ⟨_, rfl, ?_⟩; have n0_ := Aside0.mk (Kd.R_below (by (with_reducible repeat (first | apply Kd.R_alloc | apply Kd.R_drewN | apply Kd.R_drew)); exact (Kd.R_mono (Kd.R_far (p := ⟨gb184, 1, none⟩) (Kd.R_far (p := ⟨gb184, 0, none⟩) (Kd.R_mono HO_7.out (fun k_ hk => (⟨hk, hk.2⟩ : _ ∧ k_ ≠ gb184))) (fun _ hk => hk.2) (.int .i64 ((rd_T30 l0 x68_3).f0))) (fun _ hk => hk.2) (.int .i64 ((rd_T30 l0 x68_3).f1))) (fun _ h_ => h_.1))) hb); have n1_ := Aside0.mk (blk_below (g := gb171) (o := .cells #[.int .i64 x172000_1, .int .i64 x172001_1] 30 (0, 0)) (by (with_reducible repeat (first | refine blk_drewN ?_ _ | refine blk_drew ?_ | refine blk_alloc ?_ _)); refine blk_far ?_ NB171_184.out _; (with_reducible repeat (first | refine blk_drewN ?_ _ | refine blk_drew ?_ | refine blk_alloc ?_ _)); refine blk_far ?_ NB171_184.out _; (with_reducible repeat (first | refine blk_drewN ?_ _ | refine blk_drew ?_ | refine blk_alloc ?_ _)); exact BK171.out) hb); have n2_ := Aside0.mk (blk_below (g := gb178) (o := .cells #[.int .i64 ((rd_T30 x7_2 (ji37)).f0), .int .i64 ((rd_T30 x7_2 (ji37)).f1)] 30 (0, 0)) (by (with_reducible repeat (first | refine blk_drewN ?_ _ | refine blk_drew ?_ | refine blk_alloc ?_ _)); refine blk_far ?_ NB178_184.out _; (with_reducible repeat (first | refine blk_drewN ?_ _ | refine blk_drew ?_ | refine blk_alloc ?_ _)); refine blk_far ?_ NB178_184.out _; (with_reducible repeat (first | refine blk_drewN ?_ _ | refine blk_drew ?_ | refine blk_alloc ?_ _)); exact BK178.out) hb); have n3_ := Aside0.mk (blk_below (g := gb179) (o := .cells #[.int .i64 x180000_3, .int .i64 x180001_3] 30 (0, 0)) (by (with_reducible repeat (first | refine blk_drewN ?_ _ | refine blk_drew ?_ | refine blk_alloc ?_ _)); refine blk_far ?_ NB179_184.out _; (with_reducible repeat (first | refine blk_drewN ?_ _ | refine blk_drew ?_ | refine blk_alloc ?_ _)); refine blk_far ?_ NB179_184.out _; (with_reducible repeat (first | refine blk_drewN ?_ _ | refine blk_drew ?_ | refine blk_alloc ?_ _)); exact BK179.out) hb); have n4_ := Aside0.mk (blk_below (g := gb184) (o := .cells #[.int .i64 ((rd_T30 l0 x68_3).f0), .int .i64 ((rd_T30 l0 x68_3).f1)] 30 (0, 0)) (by (with_reducible repeat (first | refine blk_drewN ?_ _ | refine blk_drew ?_ | refine blk_alloc ?_ _)); refine blk_put (cs := #[.int .i64 ((rd_T30 l0 x68_3).f0), .int .i64 0]) ?_ 1 _ rfl; (with_reducible repeat (first | refine blk_drewN ?_ _ | refine blk_drew ?_ | refine blk_alloc ?_ _)); refine blk_put (cs := #[.int .i64 0, .int .i64 0]) ?_ 0 _ rfl; (with_reducible repeat (first | refine blk_drewN ?_ _ | refine blk_drew ?_ | refine blk_alloc ?_ _)); exact BK184.out) hb); have n5_ := sb hb; clear HO_7; clear BK171; clear BK178; clear BK179; clear BK184; clear HB; have HO_7 := n0_; have BK171 := n1_; have BK178 := n2_; have BK179 := n3_; have BK184 := n4_; have HB := n5_; clear n0_ n1_ n2_ n3_ n4_ n5_; (try clear hb); (try clear hb2); (try clear hk); (try clear hi)))
                    have n0_ := Aside0.mk (Kd.R_drew HO_7.out)
                    have n1_ := Aside0.mk (blk_drew BK171.out)
                    have n2_ := Aside0.mk (blk_drew BK178.out)
                    have n3_ := Aside0.mk (blk_drew BK179.out)
                    have n4_ := Aside0.mk (blk_drew BK184.out)
                    have n5_ := Aside0.mk (below_drew1 HB.out)
                    clear HO_7
                    clear BK171
                    clear BK178
                    clear BK179
                    clear BK184
                    clear HB
                    have HO_7 := n0_
                    have BK171 := n1_
                    have BK178 := n2_
                    have BK179 := n3_
                    have BK184 := n4_
                    have HB := n5_
                    clear n0_ n1_ n2_ n3_ n4_ n5_
                    refine start_ (n := 19) (S := fun w' => True) (ds := []) #[fF,fF,fF,fF,fF,fF,fF,fF,fF,fF,fF,fF,fF,fF,fF,fF,fF,fF,fF] (by kernel_rfl) rfl rfl trivial (fun hHeld => ?_); refine with_tabW impl_HullOf.tab20 impl_HullOf.bits20 (fun HT_ HW_ => ?_)
                    generalize w73.drew = w74 at HO_7 BK171 BK178 BK179 BK184 HB hHeld ⊢
                    refine pure_ (i := 0) (N := some 79) (v := ?_) (a' := ?_) #[tT,fF,fF,fF,fF,fF,fF,fF,fF,fF,fF,fF,fF,fF,fF,fF,fF,fF,fF] rfl rfl (any_of HT_.out (by kernel_rfl)) (fun _ _ _ h => h) (Or.inl ⟨by rfl, ?_⟩) ?_ ?_
                    rotate_left
                    ·intro w'
                     go_simp
                     with_reducible rfl
                    rotate_left
                    ·exact pa
                    refine pure_ (i := 1) (N := some 80) (v := ?_) (a' := ?_) #[tT,tT,fF,fF,fF,fF,fF,fF,fF,fF,fF,fF,fF,fF,fF,fF,fF,fF,fF] rfl rfl (any_of HT_.out (by kernel_rfl)) (fun _ _ _ h => h) (Or.inl ⟨by rfl, ?_⟩) ?_ ?_
                    rotate_left
                    ·intro w'
                     go_simp
                     with_reducible rfl
                    rotate_left
                    ·exact pa
                    refine pure_ (i := 2) (N := some 81) (v := ?_) (a' := ?_) #[tT,tT,tT,fF,fF,fF,fF,fF,fF,fF,fF,fF,fF,fF,fF,fF,fF,fF,fF] rfl rfl (any_of HT_.out (by kernel_rfl)) (fun _ _ _ h => h) (Or.inl ⟨by rfl, ?_⟩) ?_ ?_
                    rotate_left
                    ·intro w'
                     go_simp
                     with_reducible rfl
                    rotate_left
                    ·exact pa
                    refine pure_ (i := 3) (N := some 82) (v := ?_) (a' := ?_) #[tT,tT,tT,tT,fF,fF,fF,fF,fF,fF,fF,fF,fF,fF,fF,fF,fF,fF,fF] rfl rfl (any_of HT_.out (by kernel_rfl)) (fun _ _ _ h => h) (Or.inl ⟨by rfl, ?_⟩) ?_ ?_
                    rotate_left
                    ·intro w'
                     go_simp
                     with_reducible rfl
                    rotate_left
                    ·exact pa
                    refine pure_ (i := 4) (N := some 83) (v := ?_) (a' := ?_) #[tT,tT,tT,tT,tT,fF,fF,fF,fF,fF,fF,fF,fF,fF,fF,fF,fF,fF,fF] rfl rfl (any_of HT_.out (by kernel_rfl)) (fun _ _ _ h => h) (Or.inl ⟨by rfl, ?_⟩) ?_ ?_
                    rotate_left
                    ·intro w'
                     go_simp
                     with_reducible rfl
                    rotate_left
                    ·exact pa
                    refine pure_ (i := 5) (N := some 84) (v := ?_) (a' := ?_) #[tT,tT,tT,tT,tT,tT,fF,fF,fF,fF,fF,fF,fF,fF,fF,fF,fF,fF,fF] rfl rfl (any_of HT_.out (by kernel_rfl)) (fun _ _ _ h => h) (Or.inl ⟨by rfl, ?_⟩) ?_ ?_
                    rotate_left
                    ·intro w'
                     go_simp
                     with_reducible rfl
                    rotate_left
                    ·exact pa
                    refine pure_ (i := 6) (N := some 85) (v := ?_) (a' := ?_) #[tT,tT,tT,tT,tT,tT,tT,fF,fF,fF,fF,fF,fF,fF,fF,fF,fF,fF,fF] rfl rfl (any_of HT_.out (by kernel_rfl)) (fun _ _ _ h => h) (Or.inl ⟨by rfl, ?_⟩) ?_ ?_
                    rotate_left
                    ·intro w'
                     go_simp
                     with_reducible rfl
                    rotate_left
                    ·exact pa
                    refine pure_ (i := 7) (N := some 86) (v := undef) (a' := ?_) #[tT,tT,tT,tT,tT,tT,tT,tT,fF,fF,fF,fF,fF,fF,fF,fF,fF,fF,fF] rfl rfl (any_of HT_.out (by kernel_rfl)) (fun _ _ _ h => h) (Or.inr ⟨by rfl, rfl⟩) ?_ ?_
                    rotate_left
                    ·exact pa
                    refine pure_ (i := 8) (N := some 87) (v := undef) (a' := ?_) #[tT,tT,tT,tT,tT,tT,tT,tT,tT,fF,fF,fF,fF,fF,fF,fF,fF,fF,fF] rfl rfl (any_of HT_.out (by kernel_rfl)) (fun _ _ _ h => h) (Or.inr ⟨by rfl, rfl⟩) ?_ ?_
                    rotate_left
                    ·exact pa
                    refine pure_ (i := 9) (N := some 88) (v := undef) (a' := ?_) #[tT,tT,tT,tT,tT,tT,tT,tT,tT,tT,fF,fF,fF,fF,fF,fF,fF,fF,fF] rfl rfl (any_of HT_.out (by kernel_rfl)) (fun _ _ _ h => h) (Or.inr ⟨by rfl, rfl⟩) ?_ ?_
                    rotate_left
                    ·exact pa
                    refine pure_ (i := 10) (N := some 89) (v := undef) (a' := ?_) #[tT,tT,tT,tT,tT,tT,tT,tT,tT,tT,tT,fF,fF,fF,fF,fF,fF,fF,fF] rfl rfl (any_of HT_.out (by kernel_rfl)) (fun _ _ _ h => h) (Or.inr ⟨by rfl, rfl⟩) ?_ ?_
                    rotate_left
                    ·exact pa
                    refine pure_ (i := 11) (N := some 90) (v := undef) (a' := ?_) #[tT,tT,tT,tT,tT,tT,tT,tT,tT,tT,tT,tT,fF,fF,fF,fF,fF,fF,fF] rfl rfl (any_of HT_.out (by kernel_rfl)) (fun _ _ _ h => h) (Or.inr ⟨by rfl, rfl⟩) ?_ ?_
                    rotate_left
                    ·exact pa
                    refine pure_ (i := 12) (N := some 91) (v := undef) (a' := ?_) #[tT,tT,tT,tT,tT,tT,tT,tT,tT,tT,tT,tT,tT,fF,fF,fF,fF,fF,fF] rfl rfl (any_of HT_.out (by kernel_rfl)) (fun _ _ _ h => h) (Or.inr ⟨by rfl, rfl⟩) ?_ ?_
                    rotate_left
                    ·exact pa
                    refine pure_ (i := 13) (N := some 92) (v := undef) (a' := ?_) #[tT,tT,tT,tT,tT,tT,tT,tT,tT,tT,tT,tT,tT,tT,fF,fF,fF,fF,fF] rfl rfl (any_of HT_.out (by kernel_rfl)) (fun _ _ _ h => h) (Or.inr ⟨by rfl, rfl⟩) ?_ ?_
                    rotate_left
                    ·exact pa
                    refine pure_ (i := 14) (N := some 93) (v := undef) (a' := ?_) #[tT,tT,tT,tT,tT,tT,tT,tT,tT,tT,tT,tT,tT,tT,tT,fF,fF,fF,fF] rfl rfl (any_of HT_.out (by kernel_rfl)) (fun _ _ _ h => h) (Or.inr ⟨by rfl, rfl⟩) ?_ ?_
                    rotate_left
                    ·exact pa
                    refine pure_ (i := 15) (N := some 94) (v := undef) (a' := ?_) #[tT,tT,tT,tT,tT,tT,tT,tT,tT,tT,tT,tT,tT,tT,tT,tT,fF,fF,fF] rfl rfl (any_of HT_.out (by kernel_rfl)) (fun _ _ _ h => h) (Or.inr ⟨by rfl, rfl⟩) ?_ ?_
                    rotate_left
                    ·exact pa
                    refine pure_ (i := 16) (N := some 95) (v := undef) (a' := ?_) #[tT,tT,tT,tT,tT,tT,tT,tT,tT,tT,tT,tT,tT,tT,tT,tT,tT,fF,fF] rfl rfl (any_of HT_.out (by kernel_rfl)) (fun _ _ _ h => h) (Or.inr ⟨by rfl, rfl⟩) ?_ ?_
                    rotate_left
                    ·exact pa
                    refine pure_ (i := 17) (N := some 96) (v := undef) (a' := ?_) #[tT,tT,tT,tT,tT,tT,tT,tT,tT,tT,tT,tT,tT,tT,tT,tT,tT,tT,fF] rfl rfl (any_of HT_.out (by kernel_rfl)) (fun _ _ _ h => h) (Or.inr ⟨by rfl, rfl⟩) ?_ ?_
                    rotate_left
                    ·exact pa
                    refine pure_ (i := 18) (N := some 97) (v := ?_) (a' := ?_) #[tT,tT,tT,tT,tT,tT,tT,tT,tT,tT,tT,tT,tT,tT,tT,tT,tT,tT,tT] rfl rfl (any_of HT_.out (by kernel_rfl)) (fun _ _ _ h => h) (Or.inl ⟨by rfl, ?_⟩) ?_ ?_
                    rotate_left
                    ·intro w'
                     go_simp
                     with_reducible rfl
                    rotate_left
                    ·exact pa
                    refine done_ (done_of HT_.out (by kernel_rfl)) ?_
                    have hcz75_0 := ck BK184 0
                    have hcz75_1 := ck BK184 1
                    have hfz75_0 := blk_frozen BK184.out 0
                    have hfz75_1 := blk_frozen BK184.out 1
                    have hcz76_0 := ck BK179 0
                    have hcz76_1 := ck BK179 1
                    have hfz76_0 := blk_frozen BK179.out 0
                    have hfz76_1 := blk_frozen BK179.out 1
                    try go_wp2
                    go_roundg k3
                    case measure => have := HK1.out; have := HK2.out; have := HK3.out; omega
                    case rel => exact ⟨(true), (wrap64 (x68_3 + 1)), ((rd_T30 l0 x68_3).f0), ((rd_T30 l0 x68_3).f1), (by first | rfl | (simp; done) | (simp [*]; done)), (by first | rfl | (simp; done) | (simp [*]; done)), H', ⟨by have := HK1.out; have := HK2.out; have := HK3.out; omega⟩, ⟨by (with_reducible repeat (first | apply Kd.R_alloc | apply Kd.R_drewN | apply Kd.R_drew)); exact Kd.R_mono (Kd.R_far (p := ⟨gb179, 1, none⟩) (Kd.R_far (p := ⟨gb179, 0, none⟩) (Kd.R_mono HO_7.out (fun k_ hk => (⟨hk, hk.1.2.2⟩ : _ ∧ k_ ≠ gb179))) (fun _ hk => hk.2) (.int .i64 ((rd_T30 l0 x68_3).f0))) (fun _ hk => hk.2) (.int .i64 ((rd_T30 l0 x68_3).f1))) (fun _ hk => ⟨hk.1.1.1, ⟨hk.1.1.2.1, hk.1.1.2.2⟩⟩)⟩, ⟨by (with_reducible repeat (first | refine blk_drewN ?_ _ | refine blk_drew ?_ | refine blk_alloc ?_ _)); refine blk_far ?_ NB171_179.out _; (with_reducible repeat (first | refine blk_drewN ?_ _ | refine blk_drew ?_ | refine blk_alloc ?_ _)); refine blk_far ?_ NB171_179.out _; (with_reducible repeat (first | refine blk_drewN ?_ _ | refine blk_drew ?_ | refine blk_alloc ?_ _)); exact BK171.out⟩, ⟨by (with_reducible repeat (first | refine blk_drewN ?_ _ | refine blk_drew ?_ | refine blk_alloc ?_ _)); refine blk_far ?_ NB178_179.out _; (with_reducible repeat (first | refine blk_drewN ?_ _ | refine blk_drew ?_ | refine blk_alloc ?_ _)); refine blk_far ?_ NB178_179.out _; (with_reducible repeat (first | refine blk_drewN ?_ _ | refine blk_drew ?_ | refine blk_alloc ?_ _)); exact BK178.out⟩, ⟨by (with_reducible repeat (first | refine blk_drewN ?_ _ | refine blk_drew ?_ | refine blk_alloc ?_ _)); refine blk_put (cs := #[.int .i64 ((rd_T30 l0 x68_3).f0), .int .i64 x180001_3]) ?_ 1 _ rfl; (with_reducible repeat (first | refine blk_drewN ?_ _ | refine blk_drew ?_ | refine blk_alloc ?_ _)); refine blk_put (cs := #[.int .i64 x180000_3, .int .i64 x180001_3]) ?_ 0 _ rfl; (with_reducible repeat (first | refine blk_drewN ?_ _ | refine blk_drew ?_ | refine blk_alloc ?_ _)); exact BK179.out⟩, ⟨by repeat (first | (with_reducible first | exact HB.out | apply below_alloc | apply pw_below_drewN | apply below_drew1 | refine below_set ?_ GE171.out | refine below_set ?_ GE178.out | refine below_set ?_ GE179.out | refine below_set ?_ GE184.out) | exact HB.out)⟩⟩
                   ·rw [if_neg c62] at H
                    have c62b0 : decide (t185 < 0) = false := decide_eq_false c62
                    clear c62
                    by_cases c77 : t185 = 0
                    ·rw [if_pos c77] at H
                     have c77b0 : (t185 == 0) = true := beq_iff_eq.mpr c77
                     have c77b1 : (t185 != 0) = false := bne_eq_false_iff_eq.mpr c77
                     clear c77
                     replace H := Option.bind_eq_some_iff.mp H
                     obtain ⟨t186, A780, H⟩ := H
                     replace H : ((impl_squared.f ((rd_T30 x7_2 (ji37)).f0) ((rd_T30 x7_2 (ji37)).f1) x180000_3 x180001_3).bind fun t187 => (if t186 > t187 then (impl_HullOf.l2 k3 l0 x7_2 true l0 (l0.length : Int) (wrap64 (x68_3 + 1)) x172000_1 x172001_1 ((rd_T30 x7_2 (ji37)).f0) ((rd_T30 x7_2 (ji37)).f1) ((rd_T30 l0 x68_3).f0) ((rd_T30 l0 x68_3).f1)) else (impl_HullOf.l2 k3 l0 x7_2 true l0 (l0.length : Int) (wrap64 (x68_3 + 1)) x172000_1 x172001_1 ((rd_T30 x7_2 (ji37)).f0) ((rd_T30 x7_2 (ji37)).f1) x180000_3 x180001_3))) = some (r1, r2) := H
                     have A78 := Aside0.mk A780
                     clear A780
                     replace H := Option.bind_eq_some_iff.mp H
                     obtain ⟨t187, A790, H⟩ := H
                     replace H : (if t186 > t187 then (impl_HullOf.l2 k3 l0 x7_2 true l0 (l0.length : Int) (wrap64 (x68_3 + 1)) x172000_1 x172001_1 ((rd_T30 x7_2 (ji37)).f0) ((rd_T30 x7_2 (ji37)).f1) ((rd_T30 l0 x68_3).f0) ((rd_T30 l0 x68_3).f1)) else (impl_HullOf.l2 k3 l0 x7_2 true l0 (l0.length : Int) (wrap64 (x68_3 + 1)) x172000_1 x172001_1 ((rd_T30 x7_2 (ji37)).f0) ((rd_T30 x7_2 (ji37)).f1) x180000_3 x180001_3)) = some (r1, r2) := H
                     have A79 := Aside0.mk A790
                     clear A790
                     by_cases c80 : t186 > t187
                     ·rw [if_pos c80] at H
                      have c80b0 : decide (t187 < t186) = true := decide_eq_true c80
                      clear c80
                      have H' := Aside0.mk H
                      clear H
                      have p183 : 0 ≤ (x68_3 : Int) := of_decide_eq_true (by first | (with_reducible assumption) | assumption)
                      have q183 : x68_3 < (l0.length : Int) := of_decide_eq_true (by first | (with_reducible assumption) | assumption)
                      obtain ⟨ad183, e183, hx183_0, hx183_1⟩ := at_T30 HR0.out x68_3 p183 q183
                      obtain rfl : ad170 = ad183 := (by injection e183)
                      replace hx183_0 := (HB.out.cell (bL w _ hx183_0)).trans hx183_0
                      replace hx183_1 := (HB.out.cell (bL w _ hx183_1)).trans hx183_1
                      replace p183 := eq_true p183
                      replace q183 := eq_true q183
                      try go_wp2_with (first | ((with_reducible refine gate_dst (N := 12) rfl ?_); (try (refine gate_guard (by rfl) ?_; dsimp only)); refine box_event ?hg (N := 12) ?hd (cs := #[.int .i64 0, .int .i64 0]) (t := 30) ?hr ?_; (case hd => rfl); (case hg => rfl); (case hr => first | (go_simp; done) | (go_simp; rfl)); intro gb184 hg w81 hbox hb; have n0_ := Aside0.mk (Kd.R_below (Kd.R_elderB (by (with_reducible repeat (first | apply Kd.R_alloc | apply Kd.R_drewN | apply Kd.R_drew)); exact HO_7.out) gb184 (Nat.le_of_eq hg.symm)) hb); have n1_ := kb BK171 hb; have n2_ := kb BK178 hb; have n3_ := kb BK179 hb; have n4_ := sb hb; have n5_ := Aside0.mk (hbox); have n6_ := zb hg; have n7_ := zb hg; have n8_ := nl BK171 hg; have n9_ := ng BK171 hg; have n10_ := nl BK178 hg; have n11_ := ng BK178 hg; have n12_ := nl BK179 hg; have n13_ := ng BK179 hg; clear HO_7; clear BK171; clear BK178; clear BK179; clear HB; have HO_7 := n0_; have BK171 := n1_; have BK178 := n2_; have BK179 := n3_; have HB := n4_; have BK184 := n5_; have GW184 := n6_; have GE184 := n7_; have NB171_184 := n8_; have NB184_171 := n9_; have NB178_184 := n10_; have NB184_178 := n11_; have NB179_184 := n12_; have NB184_179 := n13_; clear n0_ n1_ n2_ n3_ n4_ n5_ n6_ n7_ n8_ n9_ n10_ n11_ n12_ n13_; clear hb hbox hg; have hnb82 := NB184_171.out; have hnc82 := NB171_184.out; have hnb83 := NB184_178.out; have hnc83 := NB178_184.out; have hnb84 := NB184_179.out; have hnc84 := NB179_184.out; have hcz85_0 := ck BK184 0; have hcz85_1 := ck BK184 1; have hfz85_0 := blk_frozen BK184.out 0; have hfz85_1 := blk_frozen BK184.out 1; have hnb86 := NB178_171.out; have hnc86 := NB171_178.out; have hnb87 := NB178_179.out; have hnc87 := NB179_178.out; have hcz88_0 := ck BK178 0; have hcz88_1 := ck BK178 1; have hfz88_0 := blk_frozen BK178.out 0; have hfz88_1 := blk_frozen BK178.out 1; have hnb89 := NB179_171.out; have hnc89 := NB171_179.out; have hcz90_0 := ck BK179 0; have hcz90_1 := ck BK179 1; have hfz90_0 := blk_frozen BK179.out 0; have hfz90_1 := blk_frozen BK179.out 1) | ((with_reducible refine gate_callee (f := 72) rfl ?_); refine goesL_ (some 78) rfl rfl Try.func72 (by kernel_rfl) rfl #[.agg #[.int .i64 ((rd_T30 x7_2 (ji37)).f0), .int .i64 ((rd_T30 x7_2 (ji37)).f1)], .agg #[.int .i64 x180000_3, .int .i64 x180001_3], .agg #[.int .i64 ((rd_T30 l0 x68_3).f0), .int .i64 ((rd_T30 l0 x68_3).f1)]] rfl (by (try simp only [List.map_toArray, List.map_cons, List.map_nil]); first | done | (simp only [hji37]; rfl) | rfl | (simp only [List.length_drop, List.length_take]; rfl)) ?_; (with_reducible refine (impl_side.calls ((rd_T30 x7_2 (ji37)).f0) ((rd_T30 x7_2 (ji37)).f1) x180000_3 x180001_3 ((rd_T30 l0 x68_3).f0) ((rd_T30 l0 x68_3).f1) t185 _ A60.out).mono ?_); rintro e w91 ⟨rfl, hb⟩; refine ⟨_, rfl, ?_⟩; have n0_ := Aside0.mk (Kd.R_below (by (with_reducible repeat (first | apply Kd.R_alloc | apply Kd.R_drewN | apply Kd.R_drew)); exact (Kd.R_mono (Kd.R_far (p := ⟨gb184, 1, none⟩) (Kd.R_far (p := ⟨gb184, 0, none⟩) (Kd.R_mono HO_7.out (fun k_ hk => (⟨hk, hk.2⟩ : _ ∧ k_ ≠ gb184))) (fun _ hk => hk.2) (.int .i64 ((rd_T30 l0 x68_3).f0))) (fun _ hk => hk.2) (.int .i64 ((rd_T30 l0 x68_3).f1))) (fun _ h_ => h_.1))) hb); have n1_ := Aside0.mk (blk_below (g := gb171) (o := .cells #[.int .i64 x172000_1, .int .i64 x172001_1] 30 (0, 0)) (by (with_reducible repeat (first | refine blk_drewN ?_ _ | refine blk_drew ?_ | refine blk_alloc ?_ _)); refine blk_far ?_ NB171_184.out _; (with_reducible repeat (first | refine blk_drewN ?_ _ | refine blk_drew ?_ | refine blk_alloc ?_ _)); refine blk_far ?_ NB171_184.out _; (with_reducible repeat (first | refine blk_drewN ?_ _ | refine blk_drew ?_ | refine blk_alloc ?_ _)); exact BK171.out) hb); have n2_ := Aside0.mk (blk_below (g := gb178) (o := .cells #[.int .i64 ((rd_T30 x7_2 (ji37)).f0), .int .i64 ((rd_T30 x7_2 (ji37)).f1)] 30 (0, 0)) (by (with_reducible repeat (first | refine blk_drewN ?_ _ | refine blk_drew ?_ | refine blk_alloc ?_ _)); refine blk_far ?_ NB178_184.out _; (with_reducible repeat (first | refine blk_drewN ?_ _ | refine blk_drew ?_ | refine blk_alloc ?_ _)); refine blk_far ?_ NB178_184.out _; (with_reducible repeat (first | refine blk_drewN ?_ _ | refine blk_drew ?_ | refine blk_alloc ?_ _)); exact BK178.out) hb); have n3_ := Aside0.mk (blk_below (g := gb179) (o := .cells #[.int .i64 x180000_3, .int .i64 x180001_3] 30 (0, 0)) (by (with_reducible repeat (first | refine blk_drewN ?_ _ | refine blk_drew ?_ | refine blk_alloc ?_ _)); refine blk_far ?_ NB179_184.out _; (with_reducible repeat (first | refine blk_drewN ?_ _ | refine blk_drew ?_ | refine blk_alloc ?_ _)); refine blk_far ?_ NB179_184.out _; (with_reducible repeat (first | refine blk_drewN ?_ _ | refine blk_drew ?_ | refine blk_alloc ?_ _)); exact BK179.out) hb); have n4_ := Aside0.mk (blk_below (g := gb184) (o := .cells #[.int .i64 ((rd_T30 l0 x68_3).f0), .int .i64 ((rd_T30 l0 x68_3).f1)] 30 (0, 0)) (by (with_reducible repeat (first | refine blk_drewN ?_ _ | refine blk_drew ?_ | refine blk_alloc ?_ _)); refine blk_put (cs := #[.int .i64 ((rd_T30 l0 x68_3).f0), .int .i64 0]) ?_ 1 _ rfl; (with_reducible repeat (first | refine blk_drewN ?_ _ | refine blk_drew ?_ | refine blk_alloc ?_ _)); refine blk_put (cs := #[.int .i64 0, .int .i64 0]) ?_ 0 _ rfl; (with_reducible repeat (first | refine blk_drewN ?_ _ | refine blk_drew ?_ | refine blk_alloc ?_ _)); exact BK184.out) hb); have n5_ := sb hb; clear HO_7; clear BK171; clear BK178; clear BK179; clear BK184; clear HB; have HO_7 := n0_; have BK171 := n1_; have BK178 := n2_; have BK179 := n3_; have BK184 := n4_; have HB := n5_; clear n0_ n1_ n2_ n3_ n4_ n5_; (try clear hb); (try clear hb2); (try clear hk); (try clear hi)))
                      have n0_ := Aside0.mk (Kd.R_drew HO_7.out)
                      have n1_ := Aside0.mk (blk_drew BK171.out)
                      have n2_ := Aside0.mk (blk_drew BK178.out)
                      have n3_ := Aside0.mk (blk_drew BK179.out)
                      have n4_ := Aside0.mk (blk_drew BK184.out)
                      have n5_ := Aside0.mk (below_drew1 HB.out)
                      clear HO_7
                      clear BK171
                      clear BK178
                      clear BK179
                      clear BK184
                      clear HB
                      have HO_7 := n0_
                      have BK171 := n1_
                      have BK178 := n2_
                      have BK179 := n3_
                      have BK184 := n4_
                      have HB := n5_
                      clear n0_ n1_ n2_ n3_ n4_ n5_
                      refine start_ (n := 19) (S := fun w' => w'.cell? ⟨gb178, 0, none⟩ = some (.int .i64 ((rd_T30 x7_2 (ji37)).f0)) ∧ w'.cell? ⟨gb178, 1, none⟩ = some (.int .i64 ((rd_T30 x7_2 (ji37)).f1)) ∧ w'.cell? ⟨gb184, 0, none⟩ = some (.int .i64 ((rd_T30 l0 x68_3).f0)) ∧ w'.cell? ⟨gb184, 1, none⟩ = some (.int .i64 ((rd_T30 l0 x68_3).f1)) ∧ w'.cell? ⟨gb179, 0, none⟩ = some (.int .i64 x180000_3) ∧ w'.cell? ⟨gb179, 1, none⟩ = some (.int .i64 x180001_3)) (ds := []) #[fF,fF,fF,fF,fF,fF,fF,fF,fF,fF,fF,fF,fF,fF,fF,fF,fF,fF,fF] (by kernel_rfl) rfl rfl ⟨(blk_cell BK178.out 0).trans rfl, (blk_cell BK178.out 1).trans rfl, (blk_cell BK184.out 0).trans rfl, (blk_cell BK184.out 1).trans rfl, (blk_cell BK179.out 0).trans rfl, (blk_cell BK179.out 1).trans rfl⟩ (fun hHeld => ?_); refine with_tabW impl_HullOf.tab20 impl_HullOf.bits20 (fun HT_ HW_ => ?_)
                      generalize w91.drew = w92 at HO_7 BK171 BK178 BK179 BK184 HB hHeld ⊢
                      refine pure_ (i := 0) (N := some 79) (v := ?_) (a' := ?_) #[tT,fF,fF,fF,fF,fF,fF,fF,fF,fF,fF,fF,fF,fF,fF,fF,fF,fF,fF] rfl rfl (any_of HT_.out (by kernel_rfl)) (fun _ _ _ h => h) (Or.inl ⟨by rfl, ?_⟩) ?_ ?_
                      rotate_left
                      ·intro w'
                       go_simp
                       with_reducible rfl
                      rotate_left
                      ·exact pa
                      refine pure_ (i := 1) (N := some 80) (v := ?_) (a' := ?_) #[tT,tT,fF,fF,fF,fF,fF,fF,fF,fF,fF,fF,fF,fF,fF,fF,fF,fF,fF] rfl rfl (any_of HT_.out (by kernel_rfl)) (fun _ _ _ h => h) (Or.inl ⟨by rfl, ?_⟩) ?_ ?_
                      rotate_left
                      ·intro w'
                       go_simp
                       with_reducible rfl
                      rotate_left
                      ·exact pa
                      refine pure_ (i := 2) (N := some 81) (v := ?_) (a' := ?_) #[tT,tT,tT,fF,fF,fF,fF,fF,fF,fF,fF,fF,fF,fF,fF,fF,fF,fF,fF] rfl rfl (any_of HT_.out (by kernel_rfl)) (fun _ _ _ h => h) (Or.inl ⟨by rfl, ?_⟩) ?_ ?_
                      rotate_left
                      ·intro w'
                       go_simp
                       with_reducible rfl
                      rotate_left
                      ·exact pa
                      refine pure_ (i := 3) (N := some 82) (v := ?_) (a' := ?_) #[tT,tT,tT,tT,fF,fF,fF,fF,fF,fF,fF,fF,fF,fF,fF,fF,fF,fF,fF] rfl rfl (any_of HT_.out (by kernel_rfl)) (fun _ _ _ h => h) (Or.inl ⟨by rfl, ?_⟩) ?_ ?_
                      rotate_left
                      ·intro w'
                       go_simp
                       with_reducible rfl
                      rotate_left
                      ·exact pa
                      refine pure_ (i := 4) (N := some 83) (v := ?_) (a' := ?_) #[tT,tT,tT,tT,tT,fF,fF,fF,fF,fF,fF,fF,fF,fF,fF,fF,fF,fF,fF] rfl rfl (any_of HT_.out (by kernel_rfl)) (fun _ _ _ h => h) (Or.inl ⟨by rfl, ?_⟩) ?_ ?_
                      rotate_left
                      ·intro w'
                       go_simp
                       with_reducible rfl
                      rotate_left
                      ·exact pa
                      refine pure_ (i := 5) (N := some 84) (v := ?_) (a' := ?_) #[tT,tT,tT,tT,tT,tT,fF,fF,fF,fF,fF,fF,fF,fF,fF,fF,fF,fF,fF] rfl rfl (any_of HT_.out (by kernel_rfl)) (fun _ _ _ h => h) (Or.inl ⟨by rfl, ?_⟩) ?_ ?_
                      rotate_left
                      ·intro w'
                       go_simp
                       with_reducible rfl
                      rotate_left
                      ·exact pa
                      refine pure_ (i := 6) (N := some 85) (v := ?_) (a' := ?_) #[tT,tT,tT,tT,tT,tT,tT,fF,fF,fF,fF,fF,fF,fF,fF,fF,fF,fF,fF] rfl rfl (any_of HT_.out (by kernel_rfl)) (fun _ _ _ h => h) (Or.inl ⟨by rfl, ?_⟩) ?_ ?_
                      rotate_left
                      ·intro w'
                       go_simp
                       with_reducible rfl
                      rotate_left
                      ·exact pa
                      refine pure_ (i := 7) (N := some 86) (v := ?_) (a' := ?_) #[tT,tT,tT,tT,tT,tT,tT,tT,fF,fF,fF,fF,fF,fF,fF,fF,fF,fF,fF] rfl rfl (any_of HT_.out (by kernel_rfl)) (fun _ _ _ h => h) (Or.inl ⟨by rfl, ?_⟩) ?_ ?_
                      rotate_left
                      ·intro w'
                       go_simp
                       with_reducible rfl
                      rotate_left
                      ·exact pa
                      refine pure_ (i := 8) (N := some 87) (v := ?_) (a' := ?_) #[tT,tT,tT,tT,tT,tT,tT,tT,tT,fF,fF,fF,fF,fF,fF,fF,fF,fF,fF] rfl rfl (any_of HT_.out (by kernel_rfl)) (fun _ _ _ h => h) (Or.inl ⟨by rfl, ?_⟩) ?_ ?_
                      rotate_left
                      ·intro w'
                       go_simp
                       with_reducible rfl
                      rotate_left
                      ·exact pa
                      refine pure_ (i := 9) (N := some 88) (v := ?_) (a' := ?_) #[tT,tT,tT,tT,tT,tT,tT,tT,tT,tT,fF,fF,fF,fF,fF,fF,fF,fF,fF] rfl rfl (any_of HT_.out (by kernel_rfl)) (fun _ _ _ h => h) (Or.inl ⟨by rfl, ?_⟩) ?_ ?_
                      rotate_left
                      ·intro w'
                       go_simp
                       with_reducible rfl
                      rotate_left
                      ·exact pa
                      refine take_ (i := 10) (N := some 89) (v := ?_) (a' := ?_) #[tT,tT,tT,tT,tT,tT,tT,tT,tT,tT,tT,fF,fF,fF,fF,fF,fF,fF,fF] rfl rfl (take_ofW HT_.out HW_.out (by kernel_rfl)) (fun _ _ _ h => h) (Or.inl ⟨by rfl, ?_⟩) hHeld ?_ ?_
                      rotate_left
                      ·rintro w' ⟨s0, s1, s2, s3, s4, s5⟩
                       go_simp
                       with_reducible rfl
                      rotate_left
                      ·exact pa
                      refine take_ (i := 11) (N := some 90) (v := ?_) (a' := ?_) #[tT,tT,tT,tT,tT,tT,tT,tT,tT,tT,tT,tT,fF,fF,fF,fF,fF,fF,fF] rfl rfl (take_ofW HT_.out HW_.out (by kernel_rfl)) (fun _ _ _ h => h) (Or.inl ⟨by rfl, ?_⟩) hHeld ?_ ?_
                      rotate_left
                      ·rintro w' ⟨s0, s1, s2, s3, s4, s5⟩
                       go_simp
                       with_reducible rfl
                      rotate_left
                      ·exact pa
                      refine take_ (i := 13) (N := some 92) (v := ?_) (a' := ?_) #[tT,tT,tT,tT,tT,tT,tT,tT,tT,tT,tT,tT,fF,tT,fF,fF,fF,fF,fF] rfl rfl (take_ofW HT_.out HW_.out (by kernel_rfl)) (fun _ _ _ h => h) (Or.inl ⟨by rfl, ?_⟩) hHeld ?_ ?_
                      rotate_left
                      ·rintro w' ⟨s0, s1, s2, s3, s4, s5⟩
                       go_simp
                       with_reducible rfl
                      rotate_left
                      ·exact pa
                      refine take_ (i := 14) (N := some 93) (v := ?_) (a' := ?_) #[tT,tT,tT,tT,tT,tT,tT,tT,tT,tT,tT,tT,fF,tT,tT,fF,fF,fF,fF] rfl rfl (take_ofW HT_.out HW_.out (by kernel_rfl)) (fun _ _ _ h => h) (Or.inl ⟨by rfl, ?_⟩) hHeld ?_ ?_
                      rotate_left
                      ·rintro w' ⟨s0, s1, s2, s3, s4, s5⟩
                       go_simp
                       with_reducible rfl
                      rotate_left
                      ·exact pa
                      refine one_ (i := 12) (N := some 91) #[tT,tT,tT,tT,tT,tT,tT,tT,tT,tT,tT,tT,tT,tT,tT,fF,fF,fF,fF] rfl rfl (one_of HT_.out (by kernel_rfl)) (by decide) (fun K hK => ?_)
                      refine goes_ Try.func73 (by kernel_rfl) rfl #[.agg #[.int .i64 ((rd_T30 x7_2 (ji37)).f0), .int .i64 ((rd_T30 x7_2 (ji37)).f1)], .agg #[.int .i64 ((rd_T30 l0 x68_3).f0), .int .i64 ((rd_T30 l0 x68_3).f1)]] (by rfl) rfl rfl (by (try simp only [List.map_toArray, List.map_cons, List.map_nil]); first | done | (simp only [hji37]; rfl) | rfl | (simp only [List.length_drop, List.length_take]; rfl)) ?_
                      with_reducible refine (impl_squared.calls ((rd_T30 x7_2 (ji37)).f0) ((rd_T30 x7_2 (ji37)).f1) ((rd_T30 l0 x68_3).f0) ((rd_T30 l0 x68_3).f1) t186 _ A78.out).mono ?_
                      rintro e w93 ⟨rfl, hb⟩
                      refine ⟨_, rfl, ?_⟩
                      have n0_ := Aside0.mk (Kd.R_below (by (with_reducible repeat (first | apply Kd.R_alloc | apply Kd.R_drewN | apply Kd.R_drew)); exact HO_7.out) hb)
                      have n1_ := kb BK171 hb
                      have n2_ := kb BK178 hb
                      have n3_ := kb BK179 hb
                      have n4_ := kb BK184 hb
                      have n5_ := sb hb
                      clear HO_7
                      clear BK171
                      clear BK178
                      clear BK179
                      clear BK184
                      clear HB
                      have HO_7 := n0_
                      have BK171 := n1_
                      have BK178 := n2_
                      have BK179 := n3_
                      have BK184 := n4_
                      have HB := n5_
                      clear n0_ n1_ n2_ n3_ n4_ n5_
                      (try clear hb)
                      (try clear hb2)
                      (try clear hk)
                      (try clear hi)
                      refine hK.out _ _ ⟨(blk_cell BK178.out 0).trans rfl, (blk_cell BK178.out 1).trans rfl, (blk_cell BK184.out 0).trans rfl, (blk_cell BK184.out 1).trans rfl, (blk_cell BK179.out 0).trans rfl, (blk_cell BK179.out 1).trans rfl⟩ (fun hHeld => ?_)
                      clear hK K
                      refine norm_ (a' := ?_) ?_ ?_
                      rotate_left
                      ·show Act.put _ (some 91) _ = _
                       simp only [Act.put, List.setIfInBounds_toArray, List.set_cons_zero, List.set_cons_succ, i64_w, i32_w]
                       rfl
                      refine one_ (i := 15) (N := some 94) #[tT,tT,tT,tT,tT,tT,tT,tT,tT,tT,tT,tT,tT,tT,tT,tT,fF,fF,fF] rfl rfl (one_of HT_.out (by kernel_rfl)) (by decide) (fun K hK => ?_)
                      refine goes_ Try.func73 (by kernel_rfl) rfl #[.agg #[.int .i64 ((rd_T30 x7_2 (ji37)).f0), .int .i64 ((rd_T30 x7_2 (ji37)).f1)], .agg #[.int .i64 x180000_3, .int .i64 x180001_3]] (by rfl) rfl rfl (by (try simp only [List.map_toArray, List.map_cons, List.map_nil]); first | done | (simp only [hji37]; rfl) | rfl | (simp only [List.length_drop, List.length_take]; rfl)) ?_
                      with_reducible refine (impl_squared.calls ((rd_T30 x7_2 (ji37)).f0) ((rd_T30 x7_2 (ji37)).f1) x180000_3 x180001_3 t187 _ A79.out).mono ?_
                      rintro e w94 ⟨rfl, hb⟩
                      refine ⟨_, rfl, ?_⟩
                      have n0_ := Aside0.mk (Kd.R_below (by (with_reducible repeat (first | apply Kd.R_alloc | apply Kd.R_drewN | apply Kd.R_drew)); exact HO_7.out) hb)
                      have n1_ := kb BK171 hb
                      have n2_ := kb BK178 hb
                      have n3_ := kb BK179 hb
                      have n4_ := kb BK184 hb
                      have n5_ := sb hb
                      clear HO_7
                      clear BK171
                      clear BK178
                      clear BK179
                      clear BK184
                      clear HB
                      have HO_7 := n0_
                      have BK171 := n1_
                      have BK178 := n2_
                      have BK179 := n3_
                      have BK184 := n4_
                      have HB := n5_
                      clear n0_ n1_ n2_ n3_ n4_ n5_
                      (try clear hb)
                      (try clear hb2)
                      (try clear hk)
                      (try clear hi)
                      refine hK.out _ _ ⟨(blk_cell BK178.out 0).trans rfl, (blk_cell BK178.out 1).trans rfl, (blk_cell BK184.out 0).trans rfl, (blk_cell BK184.out 1).trans rfl, (blk_cell BK179.out 0).trans rfl, (blk_cell BK179.out 1).trans rfl⟩ (fun hHeld => ?_)
                      clear hK K
                      refine norm_ (a' := ?_) ?_ ?_
                      rotate_left
                      ·show Act.put _ (some 94) _ = _
                       simp only [Act.put, List.setIfInBounds_toArray, List.set_cons_zero, List.set_cons_succ, i64_w, i32_w]
                       rfl
                      refine pure_ (i := 16) (N := some 95) (v := ?_) (a' := ?_) #[tT,tT,tT,tT,tT,tT,tT,tT,tT,tT,tT,tT,tT,tT,tT,tT,tT,fF,fF] rfl rfl (any_of HT_.out (by kernel_rfl)) (fun _ _ _ h => h) (Or.inl ⟨by rfl, ?_⟩) ?_ ?_
                      rotate_left
                      ·intro w'
                       go_simp
                       with_reducible rfl
                      rotate_left
                      ·exact pa
                      refine pure_ (i := 17) (N := some 96) (v := ?_) (a' := ?_) #[tT,tT,tT,tT,tT,tT,tT,tT,tT,tT,tT,tT,tT,tT,tT,tT,tT,tT,fF] rfl rfl (any_of HT_.out (by kernel_rfl)) (fun _ _ _ h => h) (Or.inl ⟨by rfl, ?_⟩) ?_ ?_
                      rotate_left
                      ·intro w'
                       go_simp
                       with_reducible rfl
                      rotate_left
                      ·exact pa
                      refine pure_ (i := 18) (N := some 97) (v := ?_) (a' := ?_) #[tT,tT,tT,tT,tT,tT,tT,tT,tT,tT,tT,tT,tT,tT,tT,tT,tT,tT,tT] rfl rfl (any_of HT_.out (by kernel_rfl)) (fun _ _ _ h => h) (Or.inl ⟨by rfl, ?_⟩) ?_ ?_
                      rotate_left
                      ·intro w'
                       go_simp
                       with_reducible rfl
                      rotate_left
                      ·exact pa
                      refine done_ (done_of HT_.out (by kernel_rfl)) ?_
                      have hcz95_0 := ck BK184 0
                      have hcz95_1 := ck BK184 1
                      have hfz95_0 := blk_frozen BK184.out 0
                      have hfz95_1 := blk_frozen BK184.out 1
                      have hcz96_0 := ck BK179 0
                      have hcz96_1 := ck BK179 1
                      have hfz96_0 := blk_frozen BK179.out 0
                      have hfz96_1 := blk_frozen BK179.out 1
                      try go_wp2
                      go_roundg k3
                      case measure => have := HK1.out; have := HK2.out; have := HK3.out; omega
                      case rel => exact ⟨(true), (wrap64 (x68_3 + 1)), ((rd_T30 l0 x68_3).f0), ((rd_T30 l0 x68_3).f1), (by first | rfl | (simp; done) | (simp [*]; done)), (by first | rfl | (simp; done) | (simp [*]; done)), H', ⟨by have := HK1.out; have := HK2.out; have := HK3.out; omega⟩, ⟨by (with_reducible repeat (first | apply Kd.R_alloc | apply Kd.R_drewN | apply Kd.R_drew)); exact Kd.R_mono (Kd.R_far (p := ⟨gb179, 1, none⟩) (Kd.R_far (p := ⟨gb179, 0, none⟩) (Kd.R_mono HO_7.out (fun k_ hk => (⟨hk, hk.1.2.2⟩ : _ ∧ k_ ≠ gb179))) (fun _ hk => hk.2) (.int .i64 ((rd_T30 l0 x68_3).f0))) (fun _ hk => hk.2) (.int .i64 ((rd_T30 l0 x68_3).f1))) (fun _ hk => ⟨hk.1.1.1, ⟨hk.1.1.2.1, hk.1.1.2.2⟩⟩)⟩, ⟨by (with_reducible repeat (first | refine blk_drewN ?_ _ | refine blk_drew ?_ | refine blk_alloc ?_ _)); refine blk_far ?_ NB171_179.out _; (with_reducible repeat (first | refine blk_drewN ?_ _ | refine blk_drew ?_ | refine blk_alloc ?_ _)); refine blk_far ?_ NB171_179.out _; (with_reducible repeat (first | refine blk_drewN ?_ _ | refine blk_drew ?_ | refine blk_alloc ?_ _)); exact BK171.out⟩, ⟨by (with_reducible repeat (first | refine blk_drewN ?_ _ | refine blk_drew ?_ | refine blk_alloc ?_ _)); refine blk_far ?_ NB178_179.out _; (with_reducible repeat (first | refine blk_drewN ?_ _ | refine blk_drew ?_ | refine blk_alloc ?_ _)); refine blk_far ?_ NB178_179.out _; (with_reducible repeat (first | refine blk_drewN ?_ _ | refine blk_drew ?_ | refine blk_alloc ?_ _)); exact BK178.out⟩, ⟨by (with_reducible repeat (first | refine blk_drewN ?_ _ | refine blk_drew ?_ | refine blk_alloc ?_ _)); refine blk_put (cs := #[.int .i64 ((rd_T30 l0 x68_3).f0), .int .i64 x180001_3]) ?_ 1 _ rfl; (with_reducible repeat (first | refine blk_drewN ?_ _ | refine blk_drew ?_ | refine blk_alloc ?_ _)); refine blk_put (cs := #[.int .i64 x180000_3, .int .i64 x180001_3]) ?_ 0 _ rfl; (with_reducible repeat (first | refine blk_drewN ?_ _ | refine blk_drew ?_ | refine blk_alloc ?_ _)); exact BK179.out⟩, ⟨by repeat (first | (with_reducible first | exact HB.out | apply below_alloc | apply pw_below_drewN | apply below_drew1 | refine below_set ?_ GE171.out | refine below_set ?_ GE178.out | refine below_set ?_ GE179.out | refine below_set ?_ GE184.out) | exact HB.out)⟩⟩
                     ·rw [if_neg c80] at H
                      have c80b0 : decide (t187 < t186) = false := decide_eq_false c80
                      clear c80
                      have H' := Aside0.mk H
                      clear H
                      have p183 : 0 ≤ (x68_3 : Int) := of_decide_eq_true (by first | (with_reducible assumption) | assumption)
                      have q183 : x68_3 < (l0.length : Int) := of_decide_eq_true (by first | (with_reducible assumption) | assumption)
                      obtain ⟨ad183, e183, hx183_0, hx183_1⟩ := at_T30 HR0.out x68_3 p183 q183
                      obtain rfl : ad170 = ad183 := (by injection e183)
                      replace hx183_0 := (HB.out.cell (bL w _ hx183_0)).trans hx183_0
                      replace hx183_1 := (HB.out.cell (bL w _ hx183_1)).trans hx183_1
                      replace p183 := eq_true p183
                      replace q183 := eq_true q183
                      try go_wp2_with (first | ((with_reducible refine gate_dst (N := 12) rfl ?_); (try (refine gate_guard (by rfl) ?_; dsimp only)); refine box_event ?hg (N := 12) ?hd (cs := #[.int .i64 0, .int .i64 0]) (t := 30) ?hr ?_; (case hd => rfl); (case hg => rfl); (case hr => first | (go_simp; done) | (go_simp; rfl)); intro gb184 hg w97 hbox hb; have n0_ := Aside0.mk (Kd.R_below (Kd.R_elderB (by (with_reducible repeat (first | apply Kd.R_alloc | apply Kd.R_drewN | apply Kd.R_drew)); exact HO_7.out) gb184 (Nat.le_of_eq hg.symm)) hb); have n1_ := kb BK171 hb; have n2_ := kb BK178 hb; have n3_ := kb BK179 hb; have n4_ := sb hb; have n5_ := Aside0.mk (hbox); have n6_ := zb hg; have n7_ := zb hg; have n8_ := nl BK171 hg; have n9_ := ng BK171 hg; have n10_ := nl BK178 hg; have n11_ := ng BK178 hg; have n12_ := nl BK179 hg; have n13_ := ng BK179 hg; clear HO_7; clear BK171; clear BK178; clear BK179; clear HB; have HO_7 := n0_; have BK171 := n1_; have BK178 := n2_; have BK179 := n3_; have HB := n4_; have BK184 := n5_; have GW184 := n6_; have GE184 := n7_; have NB171_184 := n8_; have NB184_171 := n9_; have NB178_184 := n10_; have NB184_178 := n11_; have NB179_184 := n12_; have NB184_179 := n13_; clear n0_ n1_ n2_ n3_ n4_ n5_ n6_ n7_ n8_ n9_ n10_ n11_ n12_ n13_; clear hb hbox hg; have hnb98 := NB184_171.out; have hnc98 := NB171_184.out; have hnb99 := NB184_178.out; have hnc99 := NB178_184.out; have hnb100 := NB184_179.out; have hnc100 := NB179_184.out; have hcz101_0 := ck BK184 0; have hcz101_1 := ck BK184 1; have hfz101_0 := blk_frozen BK184.out 0; have hfz101_1 := blk_frozen BK184.out 1; have hnb102 := NB178_171.out; have hnc102 := NB171_178.out; have hnb103 := NB178_179.out; have hnc103 := NB179_178.out; have hcz104_0 := ck BK178 0; have hcz104_1 := ck BK178 1; have hfz104_0 := blk_frozen BK178.out 0; have hfz104_1 := blk_frozen BK178.out 1; have hnb105 := NB179_171.out; have hnc105 := NB171_179.out; have hcz106_0 := ck BK179 0; have hcz106_1 := ck BK179 1; have hfz106_0 := blk_frozen BK179.out 0; have hfz106_1 := blk_frozen BK179.out 1) | ((with_reducible refine gate_callee (f := 72) rfl ?_); refine goesL_ (some 78) rfl rfl Try.func72 (by kernel_rfl) rfl #[.agg #[.int .i64 ((rd_T30 x7_2 (ji37)).f0), .int .i64 ((rd_T30 x7_2 (ji37)).f1)], .agg #[.int .i64 x180000_3, .int .i64 x180001_3], .agg #[.int .i64 ((rd_T30 l0 x68_3).f0), .int .i64 ((rd_T30 l0 x68_3).f1)]] rfl (by (try simp only [List.map_toArray, List.map_cons, List.map_nil]); first | done | (simp only [hji37]; rfl) | rfl | (simp only [List.length_drop, List.length_take]; rfl)) ?_; (with_reducible refine (impl_side.calls ((rd_T30 x7_2 (ji37)).f0) ((rd_T30 x7_2 (ji37)).f1) x180000_3 x180001_3 ((rd_T30 l0 x68_3).f0) ((rd_T30 l0 x68_3).f1) t185 _ A60.out).mono ?_); rintro e w107 ⟨rfl, hb⟩; refine ⟨_, rfl, ?_⟩; have n0_ := Aside0.mk (Kd.R_below (by (with_reducible repeat (first | apply Kd.R_alloc | apply Kd.R_drewN | apply Kd.R_drew)); exact (Kd.R_mono (Kd.R_far (p := ⟨gb184, 1, none⟩) (Kd.R_far (p := ⟨gb184, 0, none⟩) (Kd.R_mono HO_7.out (fun k_ hk => (⟨hk, hk.2⟩ : _ ∧ k_ ≠ gb184))) (fun _ hk => hk.2) (.int .i64 ((rd_T30 l0 x68_3).f0))) (fun _ hk => hk.2) (.int .i64 ((rd_T30 l0 x68_3).f1))) (fun _ h_ => h_.1))) hb); have n1_ := Aside0.mk (blk_below (g := gb171) (o := .cells #[.int .i64 x172000_1, .int .i64 x172001_1] 30 (0, 0)) (by (with_reducible repeat (first | refine blk_drewN ?_ _ | refine blk_drew ?_ | refine blk_alloc ?_ _)); refine blk_far ?_ NB171_184.out _; (with_reducible repeat (first | refine blk_drewN ?_ _ | refine blk_drew ?_ | refine blk_alloc ?_ _)); refine blk_far ?_ NB171_184.out _; (with_reducible repeat (first | refine blk_drewN ?_ _ | refine blk_drew ?_ | refine blk_alloc ?_ _)); exact BK171.out) hb); have n2_ := Aside0.mk (blk_below (g := gb178) (o := .cells #[.int .i64 ((rd_T30 x7_2 (ji37)).f0), .int .i64 ((rd_T30 x7_2 (ji37)).f1)] 30 (0, 0)) (by (with_reducible repeat (first | refine blk_drewN ?_ _ | refine blk_drew ?_ | refine blk_alloc ?_ _)); refine blk_far ?_ NB178_184.out _; (with_reducible repeat (first | refine blk_drewN ?_ _ | refine blk_drew ?_ | refine blk_alloc ?_ _)); refine blk_far ?_ NB178_184.out _; (with_reducible repeat (first | refine blk_drewN ?_ _ | refine blk_drew ?_ | refine blk_alloc ?_ _)); exact BK178.out) hb); have n3_ := Aside0.mk (blk_below (g := gb179) (o := .cells #[.int .i64 x180000_3, .int .i64 x180001_3] 30 (0, 0)) (by (with_reducible repeat (first | refine blk_drewN ?_ _ | refine blk_drew ?_ | refine blk_alloc ?_ _)); refine blk_far ?_ NB179_184.out _; (with_reducible repeat (first | refine blk_drewN ?_ _ | refine blk_drew ?_ | refine blk_alloc ?_ _)); refine blk_far ?_ NB179_184.out _; (with_reducible repeat (first | refine blk_drewN ?_ _ | refine blk_drew ?_ | refine blk_alloc ?_ _)); exact BK179.out) hb); have n4_ := Aside0.mk (blk_below (g := gb184) (o := .cells #[.int .i64 ((rd_T30 l0 x68_3).f0), .int .i64 ((rd_T30 l0 x68_3).f1)] 30 (0, 0)) (by (with_reducible repeat (first | refine blk_drewN ?_ _ | refine blk_drew ?_ | refine blk_alloc ?_ _)); refine blk_put (cs := #[.int .i64 ((rd_T30 l0 x68_3).f0), .int .i64 0]) ?_ 1 _ rfl; (with_reducible repeat (first | refine blk_drewN ?_ _ | refine blk_drew ?_ | refine blk_alloc ?_ _)); refine blk_put (cs := #[.int .i64 0, .int .i64 0]) ?_ 0 _ rfl; (with_reducible repeat (first | refine blk_drewN ?_ _ | refine blk_drew ?_ | refine blk_alloc ?_ _)); exact BK184.out) hb); have n5_ := sb hb; clear HO_7; clear BK171; clear BK178; clear BK179; clear BK184; clear HB; have HO_7 := n0_; have BK171 := n1_; have BK178 := n2_; have BK179 := n3_; have BK184 := n4_; have HB := n5_; clear n0_ n1_ n2_ n3_ n4_ n5_; (try clear hb); (try clear hb2); (try clear hk); (try clear hi)))
                      have n0_ := Aside0.mk (Kd.R_drew HO_7.out)
                      have n1_ := Aside0.mk (blk_drew BK171.out)
                      have n2_ := Aside0.mk (blk_drew BK178.out)
                      have n3_ := Aside0.mk (blk_drew BK179.out)
                      have n4_ := Aside0.mk (blk_drew BK184.out)
                      have n5_ := Aside0.mk (below_drew1 HB.out)
                      clear HO_7
                      clear BK171
                      clear BK178
                      clear BK179
                      clear BK184
                      clear HB
                      have HO_7 := n0_
                      have BK171 := n1_
                      have BK178 := n2_
                      have BK179 := n3_
                      have BK184 := n4_
                      have HB := n5_
                      clear n0_ n1_ n2_ n3_ n4_ n5_
                      refine start_ (n := 19) (S := fun w' => w'.cell? ⟨gb178, 0, none⟩ = some (.int .i64 ((rd_T30 x7_2 (ji37)).f0)) ∧ w'.cell? ⟨gb178, 1, none⟩ = some (.int .i64 ((rd_T30 x7_2 (ji37)).f1)) ∧ w'.cell? ⟨gb184, 0, none⟩ = some (.int .i64 ((rd_T30 l0 x68_3).f0)) ∧ w'.cell? ⟨gb184, 1, none⟩ = some (.int .i64 ((rd_T30 l0 x68_3).f1)) ∧ w'.cell? ⟨gb179, 0, none⟩ = some (.int .i64 x180000_3) ∧ w'.cell? ⟨gb179, 1, none⟩ = some (.int .i64 x180001_3)) (ds := []) #[fF,fF,fF,fF,fF,fF,fF,fF,fF,fF,fF,fF,fF,fF,fF,fF,fF,fF,fF] (by kernel_rfl) rfl rfl ⟨(blk_cell BK178.out 0).trans rfl, (blk_cell BK178.out 1).trans rfl, (blk_cell BK184.out 0).trans rfl, (blk_cell BK184.out 1).trans rfl, (blk_cell BK179.out 0).trans rfl, (blk_cell BK179.out 1).trans rfl⟩ (fun hHeld => ?_); refine with_tabW impl_HullOf.tab20 impl_HullOf.bits20 (fun HT_ HW_ => ?_)
                      generalize w107.drew = w108 at HO_7 BK171 BK178 BK179 BK184 HB hHeld ⊢
                      refine pure_ (i := 0) (N := some 79) (v := ?_) (a' := ?_) #[tT,fF,fF,fF,fF,fF,fF,fF,fF,fF,fF,fF,fF,fF,fF,fF,fF,fF,fF] rfl rfl (any_of HT_.out (by kernel_rfl)) (fun _ _ _ h => h) (Or.inl ⟨by rfl, ?_⟩) ?_ ?_
                      rotate_left
                      ·intro w'
                       go_simp
                       with_reducible rfl
                      rotate_left
                      ·exact pa
                      refine pure_ (i := 1) (N := some 80) (v := ?_) (a' := ?_) #[tT,tT,fF,fF,fF,fF,fF,fF,fF,fF,fF,fF,fF,fF,fF,fF,fF,fF,fF] rfl rfl (any_of HT_.out (by kernel_rfl)) (fun _ _ _ h => h) (Or.inl ⟨by rfl, ?_⟩) ?_ ?_
                      rotate_left
                      ·intro w'
                       go_simp
                       with_reducible rfl
                      rotate_left
                      ·exact pa
                      refine pure_ (i := 2) (N := some 81) (v := ?_) (a' := ?_) #[tT,tT,tT,fF,fF,fF,fF,fF,fF,fF,fF,fF,fF,fF,fF,fF,fF,fF,fF] rfl rfl (any_of HT_.out (by kernel_rfl)) (fun _ _ _ h => h) (Or.inl ⟨by rfl, ?_⟩) ?_ ?_
                      rotate_left
                      ·intro w'
                       go_simp
                       with_reducible rfl
                      rotate_left
                      ·exact pa
                      refine pure_ (i := 3) (N := some 82) (v := ?_) (a' := ?_) #[tT,tT,tT,tT,fF,fF,fF,fF,fF,fF,fF,fF,fF,fF,fF,fF,fF,fF,fF] rfl rfl (any_of HT_.out (by kernel_rfl)) (fun _ _ _ h => h) (Or.inl ⟨by rfl, ?_⟩) ?_ ?_
                      rotate_left
                      ·intro w'
                       go_simp
                       with_reducible rfl
                      rotate_left
                      ·exact pa
                      refine pure_ (i := 4) (N := some 83) (v := ?_) (a' := ?_) #[tT,tT,tT,tT,tT,fF,fF,fF,fF,fF,fF,fF,fF,fF,fF,fF,fF,fF,fF] rfl rfl (any_of HT_.out (by kernel_rfl)) (fun _ _ _ h => h) (Or.inl ⟨by rfl, ?_⟩) ?_ ?_
                      rotate_left
                      ·intro w'
                       go_simp
                       with_reducible rfl
                      rotate_left
                      ·exact pa
                      refine pure_ (i := 5) (N := some 84) (v := ?_) (a' := ?_) #[tT,tT,tT,tT,tT,tT,fF,fF,fF,fF,fF,fF,fF,fF,fF,fF,fF,fF,fF] rfl rfl (any_of HT_.out (by kernel_rfl)) (fun _ _ _ h => h) (Or.inl ⟨by rfl, ?_⟩) ?_ ?_
                      rotate_left
                      ·intro w'
                       go_simp
                       with_reducible rfl
                      rotate_left
                      ·exact pa
                      refine pure_ (i := 6) (N := some 85) (v := ?_) (a' := ?_) #[tT,tT,tT,tT,tT,tT,tT,fF,fF,fF,fF,fF,fF,fF,fF,fF,fF,fF,fF] rfl rfl (any_of HT_.out (by kernel_rfl)) (fun _ _ _ h => h) (Or.inl ⟨by rfl, ?_⟩) ?_ ?_
                      rotate_left
                      ·intro w'
                       go_simp
                       with_reducible rfl
                      rotate_left
                      ·exact pa
                      refine pure_ (i := 7) (N := some 86) (v := ?_) (a' := ?_) #[tT,tT,tT,tT,tT,tT,tT,tT,fF,fF,fF,fF,fF,fF,fF,fF,fF,fF,fF] rfl rfl (any_of HT_.out (by kernel_rfl)) (fun _ _ _ h => h) (Or.inl ⟨by rfl, ?_⟩) ?_ ?_
                      rotate_left
                      ·intro w'
                       go_simp
                       with_reducible rfl
                      rotate_left
                      ·exact pa
                      refine pure_ (i := 8) (N := some 87) (v := ?_) (a' := ?_) #[tT,tT,tT,tT,tT,tT,tT,tT,tT,fF,fF,fF,fF,fF,fF,fF,fF,fF,fF] rfl rfl (any_of HT_.out (by kernel_rfl)) (fun _ _ _ h => h) (Or.inl ⟨by rfl, ?_⟩) ?_ ?_
                      rotate_left
                      ·intro w'
                       go_simp
                       with_reducible rfl
                      rotate_left
                      ·exact pa
                      refine pure_ (i := 9) (N := some 88) (v := ?_) (a' := ?_) #[tT,tT,tT,tT,tT,tT,tT,tT,tT,tT,fF,fF,fF,fF,fF,fF,fF,fF,fF] rfl rfl (any_of HT_.out (by kernel_rfl)) (fun _ _ _ h => h) (Or.inl ⟨by rfl, ?_⟩) ?_ ?_
                      rotate_left
                      ·intro w'
                       go_simp
                       with_reducible rfl
                      rotate_left
                      ·exact pa
                      refine take_ (i := 10) (N := some 89) (v := ?_) (a' := ?_) #[tT,tT,tT,tT,tT,tT,tT,tT,tT,tT,tT,fF,fF,fF,fF,fF,fF,fF,fF] rfl rfl (take_ofW HT_.out HW_.out (by kernel_rfl)) (fun _ _ _ h => h) (Or.inl ⟨by rfl, ?_⟩) hHeld ?_ ?_
                      rotate_left
                      ·rintro w' ⟨s0, s1, s2, s3, s4, s5⟩
                       go_simp
                       with_reducible rfl
                      rotate_left
                      ·exact pa
                      refine take_ (i := 11) (N := some 90) (v := ?_) (a' := ?_) #[tT,tT,tT,tT,tT,tT,tT,tT,tT,tT,tT,tT,fF,fF,fF,fF,fF,fF,fF] rfl rfl (take_ofW HT_.out HW_.out (by kernel_rfl)) (fun _ _ _ h => h) (Or.inl ⟨by rfl, ?_⟩) hHeld ?_ ?_
                      rotate_left
                      ·rintro w' ⟨s0, s1, s2, s3, s4, s5⟩
                       go_simp
                       with_reducible rfl
                      rotate_left
                      ·exact pa
                      refine take_ (i := 13) (N := some 92) (v := ?_) (a' := ?_) #[tT,tT,tT,tT,tT,tT,tT,tT,tT,tT,tT,tT,fF,tT,fF,fF,fF,fF,fF] rfl rfl (take_ofW HT_.out HW_.out (by kernel_rfl)) (fun _ _ _ h => h) (Or.inl ⟨by rfl, ?_⟩) hHeld ?_ ?_
                      rotate_left
                      ·rintro w' ⟨s0, s1, s2, s3, s4, s5⟩
                       go_simp
                       with_reducible rfl
                      rotate_left
                      ·exact pa
                      refine take_ (i := 14) (N := some 93) (v := ?_) (a' := ?_) #[tT,tT,tT,tT,tT,tT,tT,tT,tT,tT,tT,tT,fF,tT,tT,fF,fF,fF,fF] rfl rfl (take_ofW HT_.out HW_.out (by kernel_rfl)) (fun _ _ _ h => h) (Or.inl ⟨by rfl, ?_⟩) hHeld ?_ ?_
                      rotate_left
                      ·rintro w' ⟨s0, s1, s2, s3, s4, s5⟩
                       go_simp
                       with_reducible rfl
                      rotate_left
                      ·exact pa
                      refine one_ (i := 12) (N := some 91) #[tT,tT,tT,tT,tT,tT,tT,tT,tT,tT,tT,tT,tT,tT,tT,fF,fF,fF,fF] rfl rfl (one_of HT_.out (by kernel_rfl)) (by decide) (fun K hK => ?_)
                      refine goes_ Try.func73 (by kernel_rfl) rfl #[.agg #[.int .i64 ((rd_T30 x7_2 (ji37)).f0), .int .i64 ((rd_T30 x7_2 (ji37)).f1)], .agg #[.int .i64 ((rd_T30 l0 x68_3).f0), .int .i64 ((rd_T30 l0 x68_3).f1)]] (by rfl) rfl rfl (by (try simp only [List.map_toArray, List.map_cons, List.map_nil]); first | done | (simp only [hji37]; rfl) | rfl | (simp only [List.length_drop, List.length_take]; rfl)) ?_
                      with_reducible refine (impl_squared.calls ((rd_T30 x7_2 (ji37)).f0) ((rd_T30 x7_2 (ji37)).f1) ((rd_T30 l0 x68_3).f0) ((rd_T30 l0 x68_3).f1) t186 _ A78.out).mono ?_
                      rintro e w109 ⟨rfl, hb⟩
                      refine ⟨_, rfl, ?_⟩
                      have n0_ := Aside0.mk (Kd.R_below (by (with_reducible repeat (first | apply Kd.R_alloc | apply Kd.R_drewN | apply Kd.R_drew)); exact HO_7.out) hb)
                      have n1_ := kb BK171 hb
                      have n2_ := kb BK178 hb
                      have n3_ := kb BK179 hb
                      have n4_ := kb BK184 hb
                      have n5_ := sb hb
                      clear HO_7
                      clear BK171
                      clear BK178
                      clear BK179
                      clear BK184
                      clear HB
                      have HO_7 := n0_
                      have BK171 := n1_
                      have BK178 := n2_
                      have BK179 := n3_
                      have BK184 := n4_
                      have HB := n5_
                      clear n0_ n1_ n2_ n3_ n4_ n5_
                      (try clear hb)
                      (try clear hb2)
                      (try clear hk)
                      (try clear hi)
                      refine hK.out _ _ ⟨(blk_cell BK178.out 0).trans rfl, (blk_cell BK178.out 1).trans rfl, (blk_cell BK184.out 0).trans rfl, (blk_cell BK184.out 1).trans rfl, (blk_cell BK179.out 0).trans rfl, (blk_cell BK179.out 1).trans rfl⟩ (fun hHeld => ?_)
                      clear hK K
                      refine norm_ (a' := ?_) ?_ ?_
                      rotate_left
                      ·show Act.put _ (some 91) _ = _
                       simp only [Act.put, List.setIfInBounds_toArray, List.set_cons_zero, List.set_cons_succ, i64_w, i32_w]
                       rfl
                      refine one_ (i := 15) (N := some 94) #[tT,tT,tT,tT,tT,tT,tT,tT,tT,tT,tT,tT,tT,tT,tT,tT,fF,fF,fF] rfl rfl (one_of HT_.out (by kernel_rfl)) (by decide) (fun K hK => ?_)
                      refine goes_ Try.func73 (by kernel_rfl) rfl #[.agg #[.int .i64 ((rd_T30 x7_2 (ji37)).f0), .int .i64 ((rd_T30 x7_2 (ji37)).f1)], .agg #[.int .i64 x180000_3, .int .i64 x180001_3]] (by rfl) rfl rfl (by (try simp only [List.map_toArray, List.map_cons, List.map_nil]); first | done | (simp only [hji37]; rfl) | rfl | (simp only [List.length_drop, List.length_take]; rfl)) ?_
                      with_reducible refine (impl_squared.calls ((rd_T30 x7_2 (ji37)).f0) ((rd_T30 x7_2 (ji37)).f1) x180000_3 x180001_3 t187 _ A79.out).mono ?_
                      rintro e w110 ⟨rfl, hb⟩
                      refine ⟨_, rfl, ?_⟩
                      have n0_ := Aside0.mk (Kd.R_below (by (with_reducible repeat (first | apply Kd.R_alloc | apply Kd.R_drewN | apply Kd.R_drew)); exact HO_7.out) hb)
                      have n1_ := kb BK171 hb
                      have n2_ := kb BK178 hb
                      have n3_ := kb BK179 hb
                      have n4_ := kb BK184 hb
                      have n5_ := sb hb
                      clear HO_7
                      clear BK171
                      clear BK178
                      clear BK179
                      clear BK184
                      clear HB
                      have HO_7 := n0_
                      have BK171 := n1_
                      have BK178 := n2_
                      have BK179 := n3_
                      have BK184 := n4_
                      have HB := n5_
                      clear n0_ n1_ n2_ n3_ n4_ n5_
                      (try clear hb)
                      (try clear hb2)
                      (try clear hk)
                      (try clear hi)
                      refine hK.out _ _ ⟨(blk_cell BK178.out 0).trans rfl, (blk_cell BK178.out 1).trans rfl, (blk_cell BK184.out 0).trans rfl, (blk_cell BK184.out 1).trans rfl, (blk_cell BK179.out 0).trans rfl, (blk_cell BK179.out 1).trans rfl⟩ (fun hHeld => ?_)
                      clear hK K
                      refine norm_ (a' := ?_) ?_ ?_
                      rotate_left
                      ·show Act.put _ (some 94) _ = _
                       simp only [Act.put, List.setIfInBounds_toArray, List.set_cons_zero, List.set_cons_succ, i64_w, i32_w]
                       rfl
                      refine pure_ (i := 16) (N := some 95) (v := ?_) (a' := ?_) #[tT,tT,tT,tT,tT,tT,tT,tT,tT,tT,tT,tT,tT,tT,tT,tT,tT,fF,fF] rfl rfl (any_of HT_.out (by kernel_rfl)) (fun _ _ _ h => h) (Or.inl ⟨by rfl, ?_⟩) ?_ ?_
                      rotate_left
                      ·intro w'
                       go_simp
                       with_reducible rfl
                      rotate_left
                      ·exact pa
                      refine pure_ (i := 17) (N := some 96) (v := ?_) (a' := ?_) #[tT,tT,tT,tT,tT,tT,tT,tT,tT,tT,tT,tT,tT,tT,tT,tT,tT,tT,fF] rfl rfl (any_of HT_.out (by kernel_rfl)) (fun _ _ _ h => h) (Or.inl ⟨by rfl, ?_⟩) ?_ ?_
                      rotate_left
                      ·intro w'
                       go_simp
                       with_reducible rfl
                      rotate_left
                      ·exact pa
                      refine pure_ (i := 18) (N := some 97) (v := ?_) (a' := ?_) #[tT,tT,tT,tT,tT,tT,tT,tT,tT,tT,tT,tT,tT,tT,tT,tT,tT,tT,tT] rfl rfl (any_of HT_.out (by kernel_rfl)) (fun _ _ _ h => h) (Or.inl ⟨by rfl, ?_⟩) ?_ ?_
                      rotate_left
                      ·intro w'
                       go_simp
                       with_reducible rfl
                      rotate_left
                      ·exact pa
                      refine done_ (done_of HT_.out (by kernel_rfl)) ?_
                      try go_wp2
                      go_roundg k3
                      case measure => have := HK1.out; have := HK2.out; have := HK3.out; omega
                      case rel => exact ⟨(true), (wrap64 (x68_3 + 1)), (x180000_3), (x180001_3), (by first | rfl | (simp; done) | (simp [*]; done)), (by first | rfl | (simp; done) | (simp [*]; done)), H', ⟨by have := HK1.out; have := HK2.out; have := HK3.out; omega⟩, ⟨by (with_reducible repeat (first | apply Kd.R_alloc | apply Kd.R_drewN | apply Kd.R_drew)); exact Kd.R_mono HO_7.out (fun _ hk => ⟨hk.1.1, ⟨hk.1.2.1, hk.1.2.2⟩⟩)⟩, ⟨by (with_reducible repeat (first | refine blk_drewN ?_ _ | refine blk_drew ?_ | refine blk_alloc ?_ _)); exact BK171.out⟩, ⟨by (with_reducible repeat (first | refine blk_drewN ?_ _ | refine blk_drew ?_ | refine blk_alloc ?_ _)); exact BK178.out⟩, ⟨by (with_reducible repeat (first | refine blk_drewN ?_ _ | refine blk_drew ?_ | refine blk_alloc ?_ _)); exact BK179.out⟩, ⟨by repeat (first | (with_reducible first | exact HB.out | apply below_alloc | apply pw_below_drewN | apply below_drew1 | refine below_set ?_ GE171.out | refine below_set ?_ GE178.out | refine below_set ?_ GE179.out | refine below_set ?_ GE184.out) | exact HB.out)⟩⟩
                    ·rw [if_neg c77] at H
                     have c77b0 : (t185 == 0) = false := beq_eq_false_iff_ne.mpr c77
                     have c77b1 : (t185 != 0) = true := bne_iff_ne.mpr c77
                     have H' := Aside0.mk H
                     clear H
                     have p183 : 0 ≤ (x68_3 : Int) := of_decide_eq_true (by first | (with_reducible assumption) | assumption)
                     have q183 : x68_3 < (l0.length : Int) := of_decide_eq_true (by first | (with_reducible assumption) | assumption)
                     obtain ⟨ad183, e183, hx183_0, hx183_1⟩ := at_T30 HR0.out x68_3 p183 q183
                     obtain rfl : ad170 = ad183 := (by injection e183)
                     replace hx183_0 := (HB.out.cell (bL w _ hx183_0)).trans hx183_0
                     replace hx183_1 := (HB.out.cell (bL w _ hx183_1)).trans hx183_1
                     replace p183 := eq_true p183
                     replace q183 := eq_true q183
                     try go_wp2_with (first | ((with_reducible refine gate_dst (N := 12) rfl ?_); (try (refine gate_guard (by rfl) ?_; dsimp only)); refine box_event ?hg (N := 12) ?hd (cs := #[.int .i64 0, .int .i64 0]) (t := 30) ?hr ?_; (case hd => rfl); (case hg => rfl); (case hr => first | (go_simp; done) | (go_simp; rfl)); intro gb184 hg w111 hbox hb; have n0_ := Aside0.mk (Kd.R_below (Kd.R_elderB (by (with_reducible repeat (first | apply Kd.R_alloc | apply Kd.R_drewN | apply Kd.R_drew)); exact HO_7.out) gb184 (Nat.le_of_eq hg.symm)) hb); have n1_ := kb BK171 hb; have n2_ := kb BK178 hb; have n3_ := kb BK179 hb; have n4_ := sb hb; have n5_ := Aside0.mk (hbox); have n6_ := zb hg; have n7_ := zb hg; have n8_ := nl BK171 hg; have n9_ := ng BK171 hg; have n10_ := nl BK178 hg; have n11_ := ng BK178 hg; have n12_ := nl BK179 hg; have n13_ := ng BK179 hg; clear HO_7; clear BK171; clear BK178; clear BK179; clear HB; have HO_7 := n0_; have BK171 := n1_; have BK178 := n2_; have BK179 := n3_; have HB := n4_; have BK184 := n5_; have GW184 := n6_; have GE184 := n7_; have NB171_184 := n8_; have NB184_171 := n9_; have NB178_184 := n10_; have NB184_178 := n11_; have NB179_184 := n12_; have NB184_179 := n13_; clear n0_ n1_ n2_ n3_ n4_ n5_ n6_ n7_ n8_ n9_ n10_ n11_ n12_ n13_; clear hb hbox hg; have hnb112 := NB184_171.out; have hnc112 := NB171_184.out; have hnb113 := NB184_178.out; have hnc113 := NB178_184.out; have hnb114 := NB184_179.out; have hnc114 := NB179_184.out; have hcz115_0 := ck BK184 0; have hcz115_1 := ck BK184 1; have hfz115_0 := blk_frozen BK184.out 0; have hfz115_1 := blk_frozen BK184.out 1; have hnb116 := NB178_171.out; have hnc116 := NB171_178.out; have hnb117 := NB178_179.out; have hnc117 := NB179_178.out; have hcz118_0 := ck BK178 0; have hcz118_1 := ck BK178 1; have hfz118_0 := blk_frozen BK178.out 0; have hfz118_1 := blk_frozen BK178.out 1; have hnb119 := NB179_171.out; have hnc119 := NB171_179.out; have hcz120_0 := ck BK179 0; have hcz120_1 := ck BK179 1; have hfz120_0 := blk_frozen BK179.out 0; have hfz120_1 := blk_frozen BK179.out 1) | ((with_reducible refine gate_callee (f := 72) rfl ?_); refine goesL_ (some 78) rfl rfl Try.func72 (by kernel_rfl) rfl #[.agg #[.int .i64 ((rd_T30 x7_2 (ji37)).f0), .int .i64 ((rd_T30 x7_2 (ji37)).f1)], .agg #[.int .i64 x180000_3, .int .i64 x180001_3], .agg #[.int .i64 ((rd_T30 l0 x68_3).f0), .int .i64 ((rd_T30 l0 x68_3).f1)]] rfl (by (try simp only [List.map_toArray, List.map_cons, List.map_nil]); first | done | (simp only [hji37]; rfl) | rfl | (simp only [List.length_drop, List.length_take]; rfl)) ?_; (with_reducible refine (impl_side.calls ((rd_T30 x7_2 (ji37)).f0) ((rd_T30 x7_2 (ji37)).f1) x180000_3 x180001_3 ((rd_T30 l0 x68_3).f0) ((rd_T30 l0 x68_3).f1) t185 _ A60.out).mono ?_); rintro e w121 ⟨rfl, hb⟩; refine ⟨_, rfl, ?_⟩; have n0_ := Aside0.mk (Kd.R_below (by (with_reducible repeat (first | apply Kd.R_alloc | apply Kd.R_drewN | apply Kd.R_drew)); exact (Kd.R_mono (Kd.R_far (p := ⟨gb184, 1, none⟩) (Kd.R_far (p := ⟨gb184, 0, none⟩) (Kd.R_mono HO_7.out (fun k_ hk => (⟨hk, hk.2⟩ : _ ∧ k_ ≠ gb184))) (fun _ hk => hk.2) (.int .i64 ((rd_T30 l0 x68_3).f0))) (fun _ hk => hk.2) (.int .i64 ((rd_T30 l0 x68_3).f1))) (fun _ h_ => h_.1))) hb); have n1_ := Aside0.mk (blk_below (g := gb171) (o := .cells #[.int .i64 x172000_1, .int .i64 x172001_1] 30 (0, 0)) (by (with_reducible repeat (first | refine blk_drewN ?_ _ | refine blk_drew ?_ | refine blk_alloc ?_ _)); refine blk_far ?_ NB171_184.out _; (with_reducible repeat (first | refine blk_drewN ?_ _ | refine blk_drew ?_ | refine blk_alloc ?_ _)); refine blk_far ?_ NB171_184.out _; (with_reducible repeat (first | refine blk_drewN ?_ _ | refine blk_drew ?_ | refine blk_alloc ?_ _)); exact BK171.out) hb); have n2_ := Aside0.mk (blk_below (g := gb178) (o := .cells #[.int .i64 ((rd_T30 x7_2 (ji37)).f0), .int .i64 ((rd_T30 x7_2 (ji37)).f1)] 30 (0, 0)) (by (with_reducible repeat (first | refine blk_drewN ?_ _ | refine blk_drew ?_ | refine blk_alloc ?_ _)); refine blk_far ?_ NB178_184.out _; (with_reducible repeat (first | refine blk_drewN ?_ _ | refine blk_drew ?_ | refine blk_alloc ?_ _)); refine blk_far ?_ NB178_184.out _; (with_reducible repeat (first | refine blk_drewN ?_ _ | refine blk_drew ?_ | refine blk_alloc ?_ _)); exact BK178.out) hb); have n3_ := Aside0.mk (blk_below (g := gb179) (o := .cells #[.int .i64 x180000_3, .int .i64 x180001_3] 30 (0, 0)) (by (with_reducible repeat (first | refine blk_drewN ?_ _ | refine blk_drew ?_ | refine blk_alloc ?_ _)); refine blk_far ?_ NB179_184.out _; (with_reducible repeat (first | refine blk_drewN ?_ _ | refine blk_drew ?_ | refine blk_alloc ?_ _)); refine blk_far ?_ NB179_184.out _; (with_reducible repeat (first | refine blk_drewN ?_ _ | refine blk_drew ?_ | refine blk_alloc ?_ _)); exact BK179.out) hb); have n4_ := Aside0.mk (blk_below (g := gb184) (o := .cells #[.int .i64 ((rd_T30 l0 x68_3).f0), .int .i64 ((rd_T30 l0 x68_3).f1)] 30 (0, 0)) (by (with_reducible repeat (first | refine blk_drewN ?_ _ | refine blk_drew ?_ | refine blk_alloc ?_ _)); refine blk_put (cs := #[.int .i64 ((rd_T30 l0 x68_3).f0), .int .i64 0]) ?_ 1 _ rfl; (with_reducible repeat (first | refine blk_drewN ?_ _ | refine blk_drew ?_ | refine blk_alloc ?_ _)); refine blk_put (cs := #[.int .i64 0, .int .i64 0]) ?_ 0 _ rfl; (with_reducible repeat (first | refine blk_drewN ?_ _ | refine blk_drew ?_ | refine blk_alloc ?_ _)); exact BK184.out) hb); have n5_ := sb hb; clear HO_7; clear BK171; clear BK178; clear BK179; clear BK184; clear HB; have HO_7 := n0_; have BK171 := n1_; have BK178 := n2_; have BK179 := n3_; have BK184 := n4_; have HB := n5_; clear n0_ n1_ n2_ n3_ n4_ n5_; (try clear hb); (try clear hb2); (try clear hk); (try clear hi)))
                     have n0_ := Aside0.mk (Kd.R_drew HO_7.out)
                     have n1_ := Aside0.mk (blk_drew BK171.out)
                     have n2_ := Aside0.mk (blk_drew BK178.out)
                     have n3_ := Aside0.mk (blk_drew BK179.out)
                     have n4_ := Aside0.mk (blk_drew BK184.out)
                     have n5_ := Aside0.mk (below_drew1 HB.out)
                     clear HO_7
                     clear BK171
                     clear BK178
                     clear BK179
                     clear BK184
                     clear HB
                     have HO_7 := n0_
                     have BK171 := n1_
                     have BK178 := n2_
                     have BK179 := n3_
                     have BK184 := n4_
                     have HB := n5_
                     clear n0_ n1_ n2_ n3_ n4_ n5_
                     refine start_ (n := 19) (S := fun w' => True) (ds := []) #[fF,fF,fF,fF,fF,fF,fF,fF,fF,fF,fF,fF,fF,fF,fF,fF,fF,fF,fF] (by kernel_rfl) rfl rfl trivial (fun hHeld => ?_); refine with_tabW impl_HullOf.tab20 impl_HullOf.bits20 (fun HT_ HW_ => ?_)
                     generalize w121.drew = w122 at HO_7 BK171 BK178 BK179 BK184 HB hHeld ⊢
                     refine pure_ (i := 0) (N := some 79) (v := ?_) (a' := ?_) #[tT,fF,fF,fF,fF,fF,fF,fF,fF,fF,fF,fF,fF,fF,fF,fF,fF,fF,fF] rfl rfl (any_of HT_.out (by kernel_rfl)) (fun _ _ _ h => h) (Or.inl ⟨by rfl, ?_⟩) ?_ ?_
                     rotate_left
                     ·intro w'
                      go_simp
                      with_reducible rfl
                     rotate_left
                     ·exact pa
                     refine pure_ (i := 1) (N := some 80) (v := ?_) (a' := ?_) #[tT,tT,fF,fF,fF,fF,fF,fF,fF,fF,fF,fF,fF,fF,fF,fF,fF,fF,fF] rfl rfl (any_of HT_.out (by kernel_rfl)) (fun _ _ _ h => h) (Or.inl ⟨by rfl, ?_⟩) ?_ ?_
                     rotate_left
                     ·intro w'
                      go_simp
                      with_reducible rfl
                     rotate_left
                     ·exact pa
                     refine pure_ (i := 2) (N := some 81) (v := ?_) (a' := ?_) #[tT,tT,tT,fF,fF,fF,fF,fF,fF,fF,fF,fF,fF,fF,fF,fF,fF,fF,fF] rfl rfl (any_of HT_.out (by kernel_rfl)) (fun _ _ _ h => h) (Or.inl ⟨by rfl, ?_⟩) ?_ ?_
                     rotate_left
                     ·intro w'
                      go_simp
                      with_reducible rfl
                     rotate_left
                     ·exact pa
                     refine pure_ (i := 3) (N := some 82) (v := ?_) (a' := ?_) #[tT,tT,tT,tT,fF,fF,fF,fF,fF,fF,fF,fF,fF,fF,fF,fF,fF,fF,fF] rfl rfl (any_of HT_.out (by kernel_rfl)) (fun _ _ _ h => h) (Or.inl ⟨by rfl, ?_⟩) ?_ ?_
                     rotate_left
                     ·intro w'
                      go_simp
                      with_reducible rfl
                     rotate_left
                     ·exact pa
                     refine pure_ (i := 4) (N := some 83) (v := ?_) (a' := ?_) #[tT,tT,tT,tT,tT,fF,fF,fF,fF,fF,fF,fF,fF,fF,fF,fF,fF,fF,fF] rfl rfl (any_of HT_.out (by kernel_rfl)) (fun _ _ _ h => h) (Or.inl ⟨by rfl, ?_⟩) ?_ ?_
                     rotate_left
                     ·intro w'
                      go_simp
                      with_reducible rfl
                     rotate_left
                     ·exact pa
                     refine pure_ (i := 5) (N := some 84) (v := ?_) (a' := ?_) #[tT,tT,tT,tT,tT,tT,fF,fF,fF,fF,fF,fF,fF,fF,fF,fF,fF,fF,fF] rfl rfl (any_of HT_.out (by kernel_rfl)) (fun _ _ _ h => h) (Or.inl ⟨by rfl, ?_⟩) ?_ ?_
                     rotate_left
                     ·intro w'
                      go_simp
                      with_reducible rfl
                     rotate_left
                     ·exact pa
                     refine pure_ (i := 6) (N := some 85) (v := ?_) (a' := ?_) #[tT,tT,tT,tT,tT,tT,tT,fF,fF,fF,fF,fF,fF,fF,fF,fF,fF,fF,fF] rfl rfl (any_of HT_.out (by kernel_rfl)) (fun _ _ _ h => h) (Or.inl ⟨by rfl, ?_⟩) ?_ ?_
                     rotate_left
                     ·intro w'
                      go_simp
                      with_reducible rfl
                     rotate_left
                     ·exact pa
                     refine pure_ (i := 7) (N := some 86) (v := ?_) (a' := ?_) #[tT,tT,tT,tT,tT,tT,tT,tT,fF,fF,fF,fF,fF,fF,fF,fF,fF,fF,fF] rfl rfl (any_of HT_.out (by kernel_rfl)) (fun _ _ _ h => h) (Or.inl ⟨by rfl, ?_⟩) ?_ ?_
                     rotate_left
                     ·intro w'
                      go_simp
                      with_reducible rfl
                     rotate_left
                     ·exact pa
                     refine pure_ (i := 8) (N := some 87) (v := ?_) (a' := ?_) #[tT,tT,tT,tT,tT,tT,tT,tT,tT,fF,fF,fF,fF,fF,fF,fF,fF,fF,fF] rfl rfl (any_of HT_.out (by kernel_rfl)) (fun _ _ _ h => h) (Or.inl ⟨by rfl, ?_⟩) ?_ ?_
                     rotate_left
                     ·intro w'
                      go_simp
                      with_reducible rfl
                     rotate_left
                     ·exact pa
                     refine pure_ (i := 9) (N := some 88) (v := ?_) (a' := ?_) #[tT,tT,tT,tT,tT,tT,tT,tT,tT,tT,fF,fF,fF,fF,fF,fF,fF,fF,fF] rfl rfl (any_of HT_.out (by kernel_rfl)) (fun _ _ _ h => h) (Or.inl ⟨by rfl, ?_⟩) ?_ ?_
                     rotate_left
                     ·intro w'
                      go_simp
                      with_reducible rfl
                     rotate_left
                     ·exact pa
                     refine pure_ (i := 10) (N := some 89) (v := undef) (a' := ?_) #[tT,tT,tT,tT,tT,tT,tT,tT,tT,tT,tT,fF,fF,fF,fF,fF,fF,fF,fF] rfl rfl (any_of HT_.out (by kernel_rfl)) (fun _ _ _ h => h) (Or.inr ⟨by rfl, rfl⟩) ?_ ?_
                     rotate_left
                     ·exact pa
                     refine pure_ (i := 11) (N := some 90) (v := undef) (a' := ?_) #[tT,tT,tT,tT,tT,tT,tT,tT,tT,tT,tT,tT,fF,fF,fF,fF,fF,fF,fF] rfl rfl (any_of HT_.out (by kernel_rfl)) (fun _ _ _ h => h) (Or.inr ⟨by rfl, rfl⟩) ?_ ?_
                     rotate_left
                     ·exact pa
                     refine pure_ (i := 12) (N := some 91) (v := undef) (a' := ?_) #[tT,tT,tT,tT,tT,tT,tT,tT,tT,tT,tT,tT,tT,fF,fF,fF,fF,fF,fF] rfl rfl (any_of HT_.out (by kernel_rfl)) (fun _ _ _ h => h) (Or.inr ⟨by rfl, rfl⟩) ?_ ?_
                     rotate_left
                     ·exact pa
                     refine pure_ (i := 13) (N := some 92) (v := undef) (a' := ?_) #[tT,tT,tT,tT,tT,tT,tT,tT,tT,tT,tT,tT,tT,tT,fF,fF,fF,fF,fF] rfl rfl (any_of HT_.out (by kernel_rfl)) (fun _ _ _ h => h) (Or.inr ⟨by rfl, rfl⟩) ?_ ?_
                     rotate_left
                     ·exact pa
                     refine pure_ (i := 14) (N := some 93) (v := undef) (a' := ?_) #[tT,tT,tT,tT,tT,tT,tT,tT,tT,tT,tT,tT,tT,tT,tT,fF,fF,fF,fF] rfl rfl (any_of HT_.out (by kernel_rfl)) (fun _ _ _ h => h) (Or.inr ⟨by rfl, rfl⟩) ?_ ?_
                     rotate_left
                     ·exact pa
                     refine pure_ (i := 15) (N := some 94) (v := undef) (a' := ?_) #[tT,tT,tT,tT,tT,tT,tT,tT,tT,tT,tT,tT,tT,tT,tT,tT,fF,fF,fF] rfl rfl (any_of HT_.out (by kernel_rfl)) (fun _ _ _ h => h) (Or.inr ⟨by rfl, rfl⟩) ?_ ?_
                     rotate_left
                     ·exact pa
                     refine pure_ (i := 16) (N := some 95) (v := undef) (a' := ?_) #[tT,tT,tT,tT,tT,tT,tT,tT,tT,tT,tT,tT,tT,tT,tT,tT,tT,fF,fF] rfl rfl (any_of HT_.out (by kernel_rfl)) (fun _ _ _ h => h) (Or.inr ⟨by rfl, rfl⟩) ?_ ?_
                     rotate_left
                     ·exact pa
                     refine pure_ (i := 17) (N := some 96) (v := ?_) (a' := ?_) #[tT,tT,tT,tT,tT,tT,tT,tT,tT,tT,tT,tT,tT,tT,tT,tT,tT,tT,fF] rfl rfl (any_of HT_.out (by kernel_rfl)) (fun _ _ _ h => h) (Or.inl ⟨by rfl, ?_⟩) ?_ ?_
                     rotate_left
                     ·intro w'
                      go_simp
                      with_reducible rfl
                     rotate_left
                     ·exact pa
                     refine pure_ (i := 18) (N := some 97) (v := ?_) (a' := ?_) #[tT,tT,tT,tT,tT,tT,tT,tT,tT,tT,tT,tT,tT,tT,tT,tT,tT,tT,tT] rfl rfl (any_of HT_.out (by kernel_rfl)) (fun _ _ _ h => h) (Or.inl ⟨by rfl, ?_⟩) ?_ ?_
                     rotate_left
                     ·intro w'
                      go_simp
                      with_reducible rfl
                     rotate_left
                     ·exact pa
                     refine done_ (done_of HT_.out (by kernel_rfl)) ?_
                     try go_wp2
                     go_roundg k3
                     case measure => have := HK1.out; have := HK2.out; have := HK3.out; omega
                     case rel => exact ⟨(true), (wrap64 (x68_3 + 1)), (x180000_3), (x180001_3), (by first | rfl | (simp; done) | (simp [*]; done)), (by first | rfl | (simp; done) | (simp [*]; done)), H', ⟨by have := HK1.out; have := HK2.out; have := HK3.out; omega⟩, ⟨by (with_reducible repeat (first | apply Kd.R_alloc | apply Kd.R_drewN | apply Kd.R_drew)); exact Kd.R_mono HO_7.out (fun _ hk => ⟨hk.1.1, ⟨hk.1.2.1, hk.1.2.2⟩⟩)⟩, ⟨by (with_reducible repeat (first | refine blk_drewN ?_ _ | refine blk_drew ?_ | refine blk_alloc ?_ _)); exact BK171.out⟩, ⟨by (with_reducible repeat (first | refine blk_drewN ?_ _ | refine blk_drew ?_ | refine blk_alloc ?_ _)); exact BK178.out⟩, ⟨by (with_reducible repeat (first | refine blk_drewN ?_ _ | refine blk_drew ?_ | refine blk_alloc ?_ _)); exact BK179.out⟩, ⟨by repeat (first | (with_reducible first | exact HB.out | apply below_alloc | apply pw_below_drewN | apply below_drew1 | refine below_set ?_ GE171.out | refine below_set ?_ GE178.out | refine below_set ?_ GE179.out | refine below_set ?_ GE184.out) | exact HB.out)⟩⟩
                  ·replace c61 := Bool.eq_false_iff.mpr c61
                   subst c61
                   have H1 : (impl_HullOf.l2 k3 l0 x7_2 true l0 (l0.length : Int) (wrap64 (x68_3 + 1)) x172000_1 x172001_1 ((rd_T30 x7_2 (ji37)).f0) ((rd_T30 x7_2 (ji37)).f1) ((rd_T30 l0 x68_3).f0) ((rd_T30 l0 x68_3).f1)) = some (r1, r2) := by rw [if_neg (show ¬ (false = true) by decide)] at H; exact H
                   clear H
                   have H := H1
                   clear H1
                   have H' := Aside0.mk H
                   clear H
                   have p183 : 0 ≤ (x68_3 : Int) := of_decide_eq_true (by first | (with_reducible assumption) | assumption)
                   have q183 : x68_3 < (l0.length : Int) := of_decide_eq_true (by first | (with_reducible assumption) | assumption)
                   obtain ⟨ad183, e183, hx183_0, hx183_1⟩ := at_T30 HR0.out x68_3 p183 q183
                   obtain rfl : ad170 = ad183 := (by injection e183)
                   replace hx183_0 := (HB.out.cell (bL w _ hx183_0)).trans hx183_0
                   replace hx183_1 := (HB.out.cell (bL w _ hx183_1)).trans hx183_1
                   replace p183 := eq_true p183
                   replace q183 := eq_true q183
                   try go_wp2_with (first | ((with_reducible refine gate_dst (N := 12) rfl ?_); (try (refine gate_guard (by rfl) ?_; dsimp only)); refine box_event ?hg (N := 12) ?hd (cs := #[.int .i64 0, .int .i64 0]) (t := 30) ?hr ?_; (case hd => rfl); (case hg => rfl); (case hr => first | (go_simp; done) | (go_simp; rfl)); intro gb184 hg w123 hbox hb; have n0_ := Aside0.mk (Kd.R_below (Kd.R_elderB (by (with_reducible repeat (first | apply Kd.R_alloc | apply Kd.R_drewN | apply Kd.R_drew)); exact HO_7.out) gb184 (Nat.le_of_eq hg.symm)) hb); have n1_ := kb BK171 hb; have n2_ := kb BK178 hb; have n3_ := kb BK179 hb; have n4_ := sb hb; have n5_ := Aside0.mk (hbox); have n6_ := zb hg; have n7_ := zb hg; have n8_ := nl BK171 hg; have n9_ := ng BK171 hg; have n10_ := nl BK178 hg; have n11_ := ng BK178 hg; have n12_ := nl BK179 hg; have n13_ := ng BK179 hg; clear HO_7; clear BK171; clear BK178; clear BK179; clear HB; have HO_7 := n0_; have BK171 := n1_; have BK178 := n2_; have BK179 := n3_; have HB := n4_; have BK184 := n5_; have GW184 := n6_; have GE184 := n7_; have NB171_184 := n8_; have NB184_171 := n9_; have NB178_184 := n10_; have NB184_178 := n11_; have NB179_184 := n12_; have NB184_179 := n13_; clear n0_ n1_ n2_ n3_ n4_ n5_ n6_ n7_ n8_ n9_ n10_ n11_ n12_ n13_; clear hb hbox hg; have hnb124 := NB184_171.out; have hnc124 := NB171_184.out; have hnb125 := NB184_178.out; have hnc125 := NB178_184.out; have hnb126 := NB184_179.out; have hnc126 := NB179_184.out; have hcz127_0 := ck BK184 0; have hcz127_1 := ck BK184 1; have hfz127_0 := blk_frozen BK184.out 0; have hfz127_1 := blk_frozen BK184.out 1; have hnb128 := NB178_171.out; have hnc128 := NB171_178.out; have hnb129 := NB178_179.out; have hnc129 := NB179_178.out; have hcz130_0 := ck BK178 0; have hcz130_1 := ck BK178 1; have hfz130_0 := blk_frozen BK178.out 0; have hfz130_1 := blk_frozen BK178.out 1; have hnb131 := NB179_171.out; have hnc131 := NB171_179.out; have hcz132_0 := ck BK179 0; have hcz132_1 := ck BK179 1; have hfz132_0 := blk_frozen BK179.out 0; have hfz132_1 := blk_frozen BK179.out 1) | ((with_reducible refine gate_callee (f := 72) rfl ?_); refine goesL_ (some 78) rfl rfl Try.func72 (by kernel_rfl) rfl #[.agg #[.int .i64 ((rd_T30 x7_2 (ji37)).f0), .int .i64 ((rd_T30 x7_2 (ji37)).f1)], .agg #[.int .i64 x180000_3, .int .i64 x180001_3], .agg #[.int .i64 ((rd_T30 l0 x68_3).f0), .int .i64 ((rd_T30 l0 x68_3).f1)]] rfl (by (try simp only [List.map_toArray, List.map_cons, List.map_nil]); first | done | (simp only [hji37]; rfl) | rfl | (simp only [List.length_drop, List.length_take]; rfl)) ?_; (with_reducible refine (impl_side.calls ((rd_T30 x7_2 (ji37)).f0) ((rd_T30 x7_2 (ji37)).f1) x180000_3 x180001_3 ((rd_T30 l0 x68_3).f0) ((rd_T30 l0 x68_3).f1) t185 _ A60.out).mono ?_); rintro e w133 ⟨rfl, hb⟩; refine ⟨_, rfl, ?_⟩; have n0_ := Aside0.mk (Kd.R_below (by (with_reducible repeat (first | apply Kd.R_alloc | apply Kd.R_drewN | apply Kd.R_drew)); exact (Kd.R_mono (Kd.R_far (p := ⟨gb184, 1, none⟩) (Kd.R_far (p := ⟨gb184, 0, none⟩) (Kd.R_mono HO_7.out (fun k_ hk => (⟨hk, hk.2⟩ : _ ∧ k_ ≠ gb184))) (fun _ hk => hk.2) (.int .i64 ((rd_T30 l0 x68_3).f0))) (fun _ hk => hk.2) (.int .i64 ((rd_T30 l0 x68_3).f1))) (fun _ h_ => h_.1))) hb); have n1_ := Aside0.mk (blk_below (g := gb171) (o := .cells #[.int .i64 x172000_1, .int .i64 x172001_1] 30 (0, 0)) (by (with_reducible repeat (first | refine blk_drewN ?_ _ | refine blk_drew ?_ | refine blk_alloc ?_ _)); refine blk_far ?_ NB171_184.out _; (with_reducible repeat (first | refine blk_drewN ?_ _ | refine blk_drew ?_ | refine blk_alloc ?_ _)); refine blk_far ?_ NB171_184.out _; (with_reducible repeat (first | refine blk_drewN ?_ _ | refine blk_drew ?_ | refine blk_alloc ?_ _)); exact BK171.out) hb); have n2_ := Aside0.mk (blk_below (g := gb178) (o := .cells #[.int .i64 ((rd_T30 x7_2 (ji37)).f0), .int .i64 ((rd_T30 x7_2 (ji37)).f1)] 30 (0, 0)) (by (with_reducible repeat (first | refine blk_drewN ?_ _ | refine blk_drew ?_ | refine blk_alloc ?_ _)); refine blk_far ?_ NB178_184.out _; (with_reducible repeat (first | refine blk_drewN ?_ _ | refine blk_drew ?_ | refine blk_alloc ?_ _)); refine blk_far ?_ NB178_184.out _; (with_reducible repeat (first | refine blk_drewN ?_ _ | refine blk_drew ?_ | refine blk_alloc ?_ _)); exact BK178.out) hb); have n3_ := Aside0.mk (blk_below (g := gb179) (o := .cells #[.int .i64 x180000_3, .int .i64 x180001_3] 30 (0, 0)) (by (with_reducible repeat (first | refine blk_drewN ?_ _ | refine blk_drew ?_ | refine blk_alloc ?_ _)); refine blk_far ?_ NB179_184.out _; (with_reducible repeat (first | refine blk_drewN ?_ _ | refine blk_drew ?_ | refine blk_alloc ?_ _)); refine blk_far ?_ NB179_184.out _; (with_reducible repeat (first | refine blk_drewN ?_ _ | refine blk_drew ?_ | refine blk_alloc ?_ _)); exact BK179.out) hb); have n4_ := Aside0.mk (blk_below (g := gb184) (o := .cells #[.int .i64 ((rd_T30 l0 x68_3).f0), .int .i64 ((rd_T30 l0 x68_3).f1)] 30 (0, 0)) (by (with_reducible repeat (first | refine blk_drewN ?_ _ | refine blk_drew ?_ | refine blk_alloc ?_ _)); refine blk_put (cs := #[.int .i64 ((rd_T30 l0 x68_3).f0), .int .i64 0]) ?_ 1 _ rfl; (with_reducible repeat (first | refine blk_drewN ?_ _ | refine blk_drew ?_ | refine blk_alloc ?_ _)); refine blk_put (cs := #[.int .i64 0, .int .i64 0]) ?_ 0 _ rfl; (with_reducible repeat (first | refine blk_drewN ?_ _ | refine blk_drew ?_ | refine blk_alloc ?_ _)); exact BK184.out) hb); have n5_ := sb hb; clear HO_7; clear BK171; clear BK178; clear BK179; clear BK184; clear HB; have HO_7 := n0_; have BK171 := n1_; have BK178 := n2_; have BK179 := n3_; have BK184 := n4_; have HB := n5_; clear n0_ n1_ n2_ n3_ n4_ n5_; (try clear hb); (try clear hb2); (try clear hk); (try clear hi)))
                   have n0_ := Aside0.mk (Kd.R_drew HO_7.out)
                   have n1_ := Aside0.mk (blk_drew BK171.out)
                   have n2_ := Aside0.mk (blk_drew BK178.out)
                   have n3_ := Aside0.mk (blk_drew BK179.out)
                   have n4_ := Aside0.mk (blk_drew BK184.out)
                   have n5_ := Aside0.mk (below_drew1 HB.out)
                   clear HO_7
                   clear BK171
                   clear BK178
                   clear BK179
                   clear BK184
                   clear HB
                   have HO_7 := n0_
                   have BK171 := n1_
                   have BK178 := n2_
                   have BK179 := n3_
                   have BK184 := n4_
                   have HB := n5_
                   clear n0_ n1_ n2_ n3_ n4_ n5_
                   refine start_ (n := 19) (S := fun w' => True) (ds := []) #[fF,fF,fF,fF,fF,fF,fF,fF,fF,fF,fF,fF,fF,fF,fF,fF,fF,fF,fF] (by kernel_rfl) rfl rfl trivial (fun hHeld => ?_); refine with_tabW impl_HullOf.tab20 impl_HullOf.bits20 (fun HT_ HW_ => ?_)
                   generalize w133.drew = w134 at HO_7 BK171 BK178 BK179 BK184 HB hHeld ⊢
                   refine pure_ (i := 0) (N := some 79) (v := ?_) (a' := ?_) #[tT,fF,fF,fF,fF,fF,fF,fF,fF,fF,fF,fF,fF,fF,fF,fF,fF,fF,fF] rfl rfl (any_of HT_.out (by kernel_rfl)) (fun _ _ _ h => h) (Or.inl ⟨by rfl, ?_⟩) ?_ ?_
                   rotate_left
                   ·intro w'
                    go_simp
                    with_reducible rfl
                   rotate_left
                   ·exact pa
                   refine pure_ (i := 1) (N := some 80) (v := ?_) (a' := ?_) #[tT,tT,fF,fF,fF,fF,fF,fF,fF,fF,fF,fF,fF,fF,fF,fF,fF,fF,fF] rfl rfl (any_of HT_.out (by kernel_rfl)) (fun _ _ _ h => h) (Or.inl ⟨by rfl, ?_⟩) ?_ ?_
                   rotate_left
                   ·intro w'
                    go_simp
                    with_reducible rfl
                   rotate_left
                   ·exact pa
                   refine pure_ (i := 2) (N := some 81) (v := ?_) (a' := ?_) #[tT,tT,tT,fF,fF,fF,fF,fF,fF,fF,fF,fF,fF,fF,fF,fF,fF,fF,fF] rfl rfl (any_of HT_.out (by kernel_rfl)) (fun _ _ _ h => h) (Or.inl ⟨by rfl, ?_⟩) ?_ ?_
                   rotate_left
                   ·intro w'
                    go_simp
                    with_reducible rfl
                   rotate_left
                   ·exact pa
                   refine pure_ (i := 3) (N := some 82) (v := undef) (a' := ?_) #[tT,tT,tT,tT,fF,fF,fF,fF,fF,fF,fF,fF,fF,fF,fF,fF,fF,fF,fF] rfl rfl (any_of HT_.out (by kernel_rfl)) (fun _ _ _ h => h) (Or.inr ⟨by rfl, rfl⟩) ?_ ?_
                   rotate_left
                   ·exact pa
                   refine pure_ (i := 4) (N := some 83) (v := undef) (a' := ?_) #[tT,tT,tT,tT,tT,fF,fF,fF,fF,fF,fF,fF,fF,fF,fF,fF,fF,fF,fF] rfl rfl (any_of HT_.out (by kernel_rfl)) (fun _ _ _ h => h) (Or.inr ⟨by rfl, rfl⟩) ?_ ?_
                   rotate_left
                   ·exact pa
                   refine pure_ (i := 5) (N := some 84) (v := ?_) (a' := ?_) #[tT,tT,tT,tT,tT,tT,fF,fF,fF,fF,fF,fF,fF,fF,fF,fF,fF,fF,fF] rfl rfl (any_of HT_.out (by kernel_rfl)) (fun _ _ _ h => h) (Or.inl ⟨by rfl, ?_⟩) ?_ ?_
                   rotate_left
                   ·intro w'
                    go_simp
                    with_reducible rfl
                   rotate_left
                   ·exact pa
                   refine pure_ (i := 6) (N := some 85) (v := ?_) (a' := ?_) #[tT,tT,tT,tT,tT,tT,tT,fF,fF,fF,fF,fF,fF,fF,fF,fF,fF,fF,fF] rfl rfl (any_of HT_.out (by kernel_rfl)) (fun _ _ _ h => h) (Or.inl ⟨by rfl, ?_⟩) ?_ ?_
                   rotate_left
                   ·intro w'
                    go_simp
                    with_reducible rfl
                   rotate_left
                   ·exact pa
                   refine pure_ (i := 7) (N := some 86) (v := undef) (a' := ?_) #[tT,tT,tT,tT,tT,tT,tT,tT,fF,fF,fF,fF,fF,fF,fF,fF,fF,fF,fF] rfl rfl (any_of HT_.out (by kernel_rfl)) (fun _ _ _ h => h) (Or.inr ⟨by rfl, rfl⟩) ?_ ?_
                   rotate_left
                   ·exact pa
                   refine pure_ (i := 8) (N := some 87) (v := undef) (a' := ?_) #[tT,tT,tT,tT,tT,tT,tT,tT,tT,fF,fF,fF,fF,fF,fF,fF,fF,fF,fF] rfl rfl (any_of HT_.out (by kernel_rfl)) (fun _ _ _ h => h) (Or.inr ⟨by rfl, rfl⟩) ?_ ?_
                   rotate_left
                   ·exact pa
                   refine pure_ (i := 9) (N := some 88) (v := undef) (a' := ?_) #[tT,tT,tT,tT,tT,tT,tT,tT,tT,tT,fF,fF,fF,fF,fF,fF,fF,fF,fF] rfl rfl (any_of HT_.out (by kernel_rfl)) (fun _ _ _ h => h) (Or.inr ⟨by rfl, rfl⟩) ?_ ?_
                   rotate_left
                   ·exact pa
                   refine pure_ (i := 10) (N := some 89) (v := undef) (a' := ?_) #[tT,tT,tT,tT,tT,tT,tT,tT,tT,tT,tT,fF,fF,fF,fF,fF,fF,fF,fF] rfl rfl (any_of HT_.out (by kernel_rfl)) (fun _ _ _ h => h) (Or.inr ⟨by rfl, rfl⟩) ?_ ?_
                   rotate_left
                   ·exact pa
                   refine pure_ (i := 11) (N := some 90) (v := undef) (a' := ?_) #[tT,tT,tT,tT,tT,tT,tT,tT,tT,tT,tT,tT,fF,fF,fF,fF,fF,fF,fF] rfl rfl (any_of HT_.out (by kernel_rfl)) (fun _ _ _ h => h) (Or.inr ⟨by rfl, rfl⟩) ?_ ?_
                   rotate_left
                   ·exact pa
                   refine pure_ (i := 12) (N := some 91) (v := undef) (a' := ?_) #[tT,tT,tT,tT,tT,tT,tT,tT,tT,tT,tT,tT,tT,fF,fF,fF,fF,fF,fF] rfl rfl (any_of HT_.out (by kernel_rfl)) (fun _ _ _ h => h) (Or.inr ⟨by rfl, rfl⟩) ?_ ?_
                   rotate_left
                   ·exact pa
                   refine pure_ (i := 13) (N := some 92) (v := undef) (a' := ?_) #[tT,tT,tT,tT,tT,tT,tT,tT,tT,tT,tT,tT,tT,tT,fF,fF,fF,fF,fF] rfl rfl (any_of HT_.out (by kernel_rfl)) (fun _ _ _ h => h) (Or.inr ⟨by rfl, rfl⟩) ?_ ?_
                   rotate_left
                   ·exact pa
                   refine pure_ (i := 14) (N := some 93) (v := undef) (a' := ?_) #[tT,tT,tT,tT,tT,tT,tT,tT,tT,tT,tT,tT,tT,tT,tT,fF,fF,fF,fF] rfl rfl (any_of HT_.out (by kernel_rfl)) (fun _ _ _ h => h) (Or.inr ⟨by rfl, rfl⟩) ?_ ?_
                   rotate_left
                   ·exact pa
                   refine pure_ (i := 15) (N := some 94) (v := undef) (a' := ?_) #[tT,tT,tT,tT,tT,tT,tT,tT,tT,tT,tT,tT,tT,tT,tT,tT,fF,fF,fF] rfl rfl (any_of HT_.out (by kernel_rfl)) (fun _ _ _ h => h) (Or.inr ⟨by rfl, rfl⟩) ?_ ?_
                   rotate_left
                   ·exact pa
                   refine pure_ (i := 16) (N := some 95) (v := undef) (a' := ?_) #[tT,tT,tT,tT,tT,tT,tT,tT,tT,tT,tT,tT,tT,tT,tT,tT,tT,fF,fF] rfl rfl (any_of HT_.out (by kernel_rfl)) (fun _ _ _ h => h) (Or.inr ⟨by rfl, rfl⟩) ?_ ?_
                   rotate_left
                   ·exact pa
                   refine pure_ (i := 17) (N := some 96) (v := undef) (a' := ?_) #[tT,tT,tT,tT,tT,tT,tT,tT,tT,tT,tT,tT,tT,tT,tT,tT,tT,tT,fF] rfl rfl (any_of HT_.out (by kernel_rfl)) (fun _ _ _ h => h) (Or.inr ⟨by rfl, rfl⟩) ?_ ?_
                   rotate_left
                   ·exact pa
                   refine pure_ (i := 18) (N := some 97) (v := ?_) (a' := ?_) #[tT,tT,tT,tT,tT,tT,tT,tT,tT,tT,tT,tT,tT,tT,tT,tT,tT,tT,tT] rfl rfl (any_of HT_.out (by kernel_rfl)) (fun _ _ _ h => h) (Or.inl ⟨by rfl, ?_⟩) ?_ ?_
                   rotate_left
                   ·intro w'
                    go_simp
                    with_reducible rfl
                   rotate_left
                   ·exact pa
                   refine done_ (done_of HT_.out (by kernel_rfl)) ?_
                   have hcz135_0 := ck BK184 0
                   have hcz135_1 := ck BK184 1
                   have hfz135_0 := blk_frozen BK184.out 0
                   have hfz135_1 := blk_frozen BK184.out 1
                   have hcz136_0 := ck BK179 0
                   have hcz136_1 := ck BK179 1
                   have hfz136_0 := blk_frozen BK179.out 0
                   have hfz136_1 := blk_frozen BK179.out 1
                   try go_wp2
                   go_roundg k3
                   case measure => have := HK1.out; have := HK2.out; have := HK3.out; omega
                   case rel => exact ⟨(true), (wrap64 (x68_3 + 1)), ((rd_T30 l0 x68_3).f0), ((rd_T30 l0 x68_3).f1), (by first | rfl | (simp; done) | (simp [*]; done)), (by first | rfl | (simp; done) | (simp [*]; done)), H', ⟨by have := HK1.out; have := HK2.out; have := HK3.out; omega⟩, ⟨by (with_reducible repeat (first | apply Kd.R_alloc | apply Kd.R_drewN | apply Kd.R_drew)); exact Kd.R_mono (Kd.R_far (p := ⟨gb179, 1, none⟩) (Kd.R_far (p := ⟨gb179, 0, none⟩) (Kd.R_mono HO_7.out (fun k_ hk => (⟨hk, hk.1.2.2⟩ : _ ∧ k_ ≠ gb179))) (fun _ hk => hk.2) (.int .i64 ((rd_T30 l0 x68_3).f0))) (fun _ hk => hk.2) (.int .i64 ((rd_T30 l0 x68_3).f1))) (fun _ hk => ⟨hk.1.1.1, ⟨hk.1.1.2.1, hk.1.1.2.2⟩⟩)⟩, ⟨by (with_reducible repeat (first | refine blk_drewN ?_ _ | refine blk_drew ?_ | refine blk_alloc ?_ _)); refine blk_far ?_ NB171_179.out _; (with_reducible repeat (first | refine blk_drewN ?_ _ | refine blk_drew ?_ | refine blk_alloc ?_ _)); refine blk_far ?_ NB171_179.out _; (with_reducible repeat (first | refine blk_drewN ?_ _ | refine blk_drew ?_ | refine blk_alloc ?_ _)); exact BK171.out⟩, ⟨by (with_reducible repeat (first | refine blk_drewN ?_ _ | refine blk_drew ?_ | refine blk_alloc ?_ _)); refine blk_far ?_ NB178_179.out _; (with_reducible repeat (first | refine blk_drewN ?_ _ | refine blk_drew ?_ | refine blk_alloc ?_ _)); refine blk_far ?_ NB178_179.out _; (with_reducible repeat (first | refine blk_drewN ?_ _ | refine blk_drew ?_ | refine blk_alloc ?_ _)); exact BK178.out⟩, ⟨by (with_reducible repeat (first | refine blk_drewN ?_ _ | refine blk_drew ?_ | refine blk_alloc ?_ _)); refine blk_put (cs := #[.int .i64 ((rd_T30 l0 x68_3).f0), .int .i64 x180001_3]) ?_ 1 _ rfl; (with_reducible repeat (first | refine blk_drewN ?_ _ | refine blk_drew ?_ | refine blk_alloc ?_ _)); refine blk_put (cs := #[.int .i64 x180000_3, .int .i64 x180001_3]) ?_ 0 _ rfl; (with_reducible repeat (first | refine blk_drewN ?_ _ | refine blk_drew ?_ | refine blk_alloc ?_ _)); exact BK179.out⟩, ⟨by repeat (first | (with_reducible first | exact HB.out | apply below_alloc | apply pw_below_drewN | apply below_drew1 | refine below_set ?_ GE171.out | refine below_set ?_ GE178.out | refine below_set ?_ GE179.out | refine below_set ?_ GE184.out) | exact HB.out)⟩⟩
                ·rw [if_neg c50] at H
                 exact absurd H (by simp)
               ·rw [if_neg c49] at H
                exact absurd H (by simp)
              ·rw [if_neg c48] at H
               have c48b0 : decide (x68_3 < (l0.length : Int)) = false := decide_eq_false c48
               clear c48
               by_cases c137 : x10_3 = true
               ·subst c137
                have H1 : (if (x180000_3 == x172000_1 && (x180001_3 == x172001_1)) = true then (if (x7_2.length : Int) < 3 then (some (([] : List (S30)), 6)) else (some (x7_2, 0))) else (if (x7_2.length : Int) > 24 then (if (x7_2.length : Int) < 3 then (some (([] : List (S30)), 6)) else (some (x7_2, 0))) else (if x7_2.length < 8796093022208 then (impl_HullOf.l1 k3 l0 (x7_2 ++ [(⟨x180000_3, x180001_3⟩ : S30)]) x172000_1 x172001_1) else (none)))) = some (r1, r2) := by rw [if_pos rfl] at H; exact H
                clear H
                have H := H1
                clear H1
                by_cases c138 : (x180000_3 == x172000_1 && (x180001_3 == x172001_1)) = true
                ·rw [if_pos c138] at H
                 have c138b0 : (x180000_3 == x172000_1 && (x180001_3 == x172001_1)) = true := c138
                 (try (have c138b1 : decide (x180000_3 = x172000_1 && (x180001_3 == x172001_1)) = true := by simpa using c138))
                 (try (have c138b2 : (x180000_3 == x172000_1 && (x180001_3 == x172001_1)) = true := by simpa using c138))
                 clear c138
                 by_cases c139 : (x7_2.length : Int) < 3
                 ·rw [if_pos c139] at H
                  have c139b0 : decide ((x7_2.length : Int) < 3) = true := decide_eq_true c139
                  have c139b1 : decide (x7_2.length < 3) = true := decide_eq_true (by omega)
                  clear c139
                  simp only [Option.some.injEq, Prod.mk.injEq] at H
                  obtain ⟨rfl, rfl⟩ := H
                  have hnb140 := NB179_171.out
                  have hnc140 := NB171_179.out
                  have hnb141 := NB179_178.out
                  have hnc141 := NB178_179.out
                  have hcz142_0 : wr.cell? ⟨gb179, 0, none⟩ = some (.int .i64 x180000_3) := (blk_cell BK179.out 0).trans rfl
                  have hcz142_1 : wr.cell? ⟨gb179, 1, none⟩ = some (.int .i64 x180001_3) := (blk_cell BK179.out 1).trans rfl
                  have hfz142_0 := blk_frozen BK179.out 0
                  have hfz142_1 := blk_frozen BK179.out 1
                  have hnb143 := NB171_178.out
                  have hnc143 := NB178_171.out
                  have hcz144_0 : wr.cell? ⟨gb171, 0, none⟩ = some (.int .i64 x172000_1) := (blk_cell BK171.out 0).trans rfl
                  have hcz144_1 : wr.cell? ⟨gb171, 1, none⟩ = some (.int .i64 x172001_1) := (blk_cell BK171.out 1).trans rfl
                  have hfz144_0 := blk_frozen BK171.out 0
                  have hfz144_1 := blk_frozen BK171.out 1
                  go_wp2
                  go_ret2
                  exact ⟨_, by first | rfl | (simp [errW_none, errW_some] <;> rfl) | (simp only [← hji37]; first | rfl | (simp [errW_none, errW_some] <;> rfl)) | (simp [*, errW_none, errW_some] <;> rfl), by first | exact Kd.R_nil _ _ _ _ _ | exact Kd.N_nil _ _ _ _ _ | exact Kd.V_nil _ _ _ _ _ | exact Kd.Q_nil _ _ _ _ _ | exact Kd.S_nil _ _ _ _ _, by repeat (first | (with_reducible first | exact HB.out | apply below_alloc | apply pw_below_drewN | apply below_drew1 | refine below_set ?_ GE171.out | refine below_set ?_ GE178.out | refine below_set ?_ GE179.out) | exact HB.out)⟩
                 ·rw [if_neg c139] at H
                  have c139b0 : decide ((x7_2.length : Int) < 3) = false := decide_eq_false c139
                  have c139b1 : decide (x7_2.length < 3) = false := decide_eq_false (by omega)
                  clear c139
                  simp only [Option.some.injEq, Prod.mk.injEq] at H
                  obtain ⟨rfl, rfl⟩ := H
                  have hnb145 := NB179_171.out
                  have hnc145 := NB171_179.out
                  have hnb146 := NB179_178.out
                  have hnc146 := NB178_179.out
                  have hcz147_0 : wr.cell? ⟨gb179, 0, none⟩ = some (.int .i64 x180000_3) := (blk_cell BK179.out 0).trans rfl
                  have hcz147_1 : wr.cell? ⟨gb179, 1, none⟩ = some (.int .i64 x180001_3) := (blk_cell BK179.out 1).trans rfl
                  have hfz147_0 := blk_frozen BK179.out 0
                  have hfz147_1 := blk_frozen BK179.out 1
                  have hnb148 := NB171_178.out
                  have hnc148 := NB178_171.out
                  have hcz149_0 : wr.cell? ⟨gb171, 0, none⟩ = some (.int .i64 x172000_1) := (blk_cell BK171.out 0).trans rfl
                  have hcz149_1 : wr.cell? ⟨gb171, 1, none⟩ = some (.int .i64 x172001_1) := (blk_cell BK171.out 1).trans rfl
                  have hfz149_0 := blk_frozen BK171.out 0
                  have hfz149_1 := blk_frozen BK171.out 1
                  go_wp2
                  go_ret2
                  exact ⟨_, by first | rfl | (simp [errW_none, errW_some] <;> rfl) | (simp only [← hji37]; first | rfl | (simp [errW_none, errW_some] <;> rfl)) | (simp [*, errW_none, errW_some] <;> rfl), by (with_reducible repeat (first | apply Kd.R_alloc | apply Kd.R_drewN | apply Kd.R_drew)); exact Kd.R_mono HO_7.out (fun _ hk => trivial), by repeat (first | (with_reducible first | exact HB.out | apply below_alloc | apply pw_below_drewN | apply below_drew1 | refine below_set ?_ GE171.out | refine below_set ?_ GE178.out | refine below_set ?_ GE179.out) | exact HB.out)⟩
                ·rw [if_neg c138] at H
                 have c138b0 : (x180000_3 == x172000_1 && (x180001_3 == x172001_1)) = false := by simpa using c138
                 (try (have c138b1 : decide (x180000_3 = x172000_1 && (x180001_3 == x172001_1)) = false := by simpa using c138))
                 (try (have c138b2 : (x180000_3 == x172000_1 && (x180001_3 == x172001_1)) = false := by simpa using c138))
                 (try (have c138b3 : ¬ (x180000_3 = x172000_1 && (x180001_3 == x172001_1)) := by simpa using c138))
                 clear c138
                 by_cases c150 : (x7_2.length : Int) > 24
                 ·rw [if_pos c150] at H
                  have c150b0 : decide (24 < (x7_2.length : Int)) = true := decide_eq_true c150
                  have c150b1 : decide (24 < x7_2.length) = true := decide_eq_true (by omega)
                  clear c150
                  by_cases c151 : (x7_2.length : Int) < 3
                  ·rw [if_pos c151] at H
                   have c151b0 : decide ((x7_2.length : Int) < 3) = true := decide_eq_true c151
                   have c151b1 : decide (x7_2.length < 3) = true := decide_eq_true (by omega)
                   clear c151
                   simp only [Option.some.injEq, Prod.mk.injEq] at H
                   obtain ⟨rfl, rfl⟩ := H
                   have hnb152 := NB179_171.out
                   have hnc152 := NB171_179.out
                   have hnb153 := NB179_178.out
                   have hnc153 := NB178_179.out
                   have hcz154_0 : wr.cell? ⟨gb179, 0, none⟩ = some (.int .i64 x180000_3) := (blk_cell BK179.out 0).trans rfl
                   have hcz154_1 : wr.cell? ⟨gb179, 1, none⟩ = some (.int .i64 x180001_3) := (blk_cell BK179.out 1).trans rfl
                   have hfz154_0 := blk_frozen BK179.out 0
                   have hfz154_1 := blk_frozen BK179.out 1
                   have hnb155 := NB171_178.out
                   have hnc155 := NB178_171.out
                   have hcz156_0 : wr.cell? ⟨gb171, 0, none⟩ = some (.int .i64 x172000_1) := (blk_cell BK171.out 0).trans rfl
                   have hcz156_1 : wr.cell? ⟨gb171, 1, none⟩ = some (.int .i64 x172001_1) := (blk_cell BK171.out 1).trans rfl
                   have hfz156_0 := blk_frozen BK171.out 0
                   have hfz156_1 := blk_frozen BK171.out 1
                   go_wp2
                   go_ret2
                   exact ⟨_, by first | rfl | (simp [errW_none, errW_some] <;> rfl) | (simp only [← hji37]; first | rfl | (simp [errW_none, errW_some] <;> rfl)) | (simp [*, errW_none, errW_some] <;> rfl), by first | exact Kd.R_nil _ _ _ _ _ | exact Kd.N_nil _ _ _ _ _ | exact Kd.V_nil _ _ _ _ _ | exact Kd.Q_nil _ _ _ _ _ | exact Kd.S_nil _ _ _ _ _, by repeat (first | (with_reducible first | exact HB.out | apply below_alloc | apply pw_below_drewN | apply below_drew1 | refine below_set ?_ GE171.out | refine below_set ?_ GE178.out | refine below_set ?_ GE179.out) | exact HB.out)⟩
                  ·rw [if_neg c151] at H
                   have c151b0 : decide ((x7_2.length : Int) < 3) = false := decide_eq_false c151
                   have c151b1 : decide (x7_2.length < 3) = false := decide_eq_false (by omega)
                   clear c151
                   simp only [Option.some.injEq, Prod.mk.injEq] at H
                   obtain ⟨rfl, rfl⟩ := H
                   have hnb157 := NB179_171.out
                   have hnc157 := NB171_179.out
                   have hnb158 := NB179_178.out
                   have hnc158 := NB178_179.out
                   have hcz159_0 : wr.cell? ⟨gb179, 0, none⟩ = some (.int .i64 x180000_3) := (blk_cell BK179.out 0).trans rfl
                   have hcz159_1 : wr.cell? ⟨gb179, 1, none⟩ = some (.int .i64 x180001_3) := (blk_cell BK179.out 1).trans rfl
                   have hfz159_0 := blk_frozen BK179.out 0
                   have hfz159_1 := blk_frozen BK179.out 1
                   have hnb160 := NB171_178.out
                   have hnc160 := NB178_171.out
                   have hcz161_0 : wr.cell? ⟨gb171, 0, none⟩ = some (.int .i64 x172000_1) := (blk_cell BK171.out 0).trans rfl
                   have hcz161_1 : wr.cell? ⟨gb171, 1, none⟩ = some (.int .i64 x172001_1) := (blk_cell BK171.out 1).trans rfl
                   have hfz161_0 := blk_frozen BK171.out 0
                   have hfz161_1 := blk_frozen BK171.out 1
                   go_wp2
                   go_ret2
                   exact ⟨_, by first | rfl | (simp [errW_none, errW_some] <;> rfl) | (simp only [← hji37]; first | rfl | (simp [errW_none, errW_some] <;> rfl)) | (simp [*, errW_none, errW_some] <;> rfl), by (with_reducible repeat (first | apply Kd.R_alloc | apply Kd.R_drewN | apply Kd.R_drew)); exact Kd.R_mono HO_7.out (fun _ hk => trivial), by repeat (first | (with_reducible first | exact HB.out | apply below_alloc | apply pw_below_drewN | apply below_drew1 | refine below_set ?_ GE171.out | refine below_set ?_ GE178.out | refine below_set ?_ GE179.out) | exact HB.out)⟩
                 ·rw [if_neg c150] at H
                  have c150b0 : decide (24 < (x7_2.length : Int)) = false := decide_eq_false c150
                  have c150b1 : decide (24 < x7_2.length) = false := decide_eq_false (by omega)
                  clear c150
                  by_cases c162 : x7_2.length < 8796093022208
                  ·rw [if_pos c162] at H
                   have LMc162 := Aside0.mk c162
                   clear c162
                   obtain ⟨y180, hy180⟩ : ∃ y_ : List (S30), y_ = (x7_2 ++ [(⟨x180000_3, x180001_3⟩ : S30)]) := ⟨_, rfl⟩
                   replace H : (impl_HullOf.l1 k3 l0 y180 x172000_1 x172001_1) = some (r1, r2) := by first | (rw [hy180]; with_reducible exact H) | (have H2_ := (Option.bind_some _ _).symm.trans H; rw [hy180]; with_reducible exact H2_) | (have H2_ := (Option.bind_some _ _).symm.trans H; with_reducible exact H2_) | with_reducible exact H | (rw [hy180]; exact H) | exact H
                   have Ny180 := Aside0.mk hy180
                   clear hy180
                   have H' := Aside0.mk H
                   clear H
                   have hnb163 := NB179_171.out
                   have hnc163 := NB171_179.out
                   have hnb164 := NB179_178.out
                   have hnc164 := NB178_179.out
                   have hcz165_0 : wr.cell? ⟨gb179, 0, none⟩ = some (.int .i64 x180000_3) := (blk_cell BK179.out 0).trans rfl
                   have hcz165_1 : wr.cell? ⟨gb179, 1, none⟩ = some (.int .i64 x180001_3) := (blk_cell BK179.out 1).trans rfl
                   have hfz165_0 := blk_frozen BK179.out 0
                   have hfz165_1 := blk_frozen BK179.out 1
                   have hnb166 := NB171_178.out
                   have hnc166 := NB178_171.out
                   have hcz167_0 : wr.cell? ⟨gb171, 0, none⟩ = some (.int .i64 x172000_1) := (blk_cell BK171.out 0).trans rfl
                   have hcz167_1 : wr.cell? ⟨gb171, 1, none⟩ = some (.int .i64 x172001_1) := (blk_cell BK171.out 1).trans rfl
                   have hfz167_0 := blk_frozen BK171.out 0
                   have hfz167_1 := blk_frozen BK171.out 1
                   go_wp2_with (first | ((with_reducible refine gate_builtin (b := .append) (xs := #[.tmp 112, .tmp 114]) rfl ?_); (try (refine gate_guard (by rfl) ?_; dsimp only)); at_builtin; refine Kd.R_append k30 (w0 := w) w.heap.size rfl (.tmp 112) (.tmp 114) 28 30 (.agg #[(.int .i64 0), (.int .i64 0)]) 16 rfl Try.underlying28 info30 rfl (by decide) (by omega) (.slice (some ad177) x7_2.length co40) x7_2 (⟨x180000_3, x180001_3⟩ : S30) [.int .i64 x180000_3, .int .i64 x180001_3] (fun k_ => k_ ≠ gb171 ∧ k_ ≠ gb178 ∧ k_ ≠ gb179) (fun _ => False) rfl rfl ?aP (fun _ hk => hk.elim) ?aF ?aO ?aB ?aS ?aL ?_; (case aP => exact k30_mkM _ _ _ (⟨x180000_3, x180001_3⟩ : S30)); (case aB => exact ib); (case aF => exact (fun k_ hk => ⟨Kd.freshB (g := gb171) (o := .cells #[.int .i64 x172000_1, .int .i64 x172001_1] 30 (0, 0)) (bk BK171) k_ hk, Kd.freshB (g := gb178) (o := .cells #[.int .i64 ((rd_T30 x7_2 (ji37)).f0), .int .i64 ((rd_T30 x7_2 (ji37)).f1)] 30 (0, 0)) (bk BK178) k_ hk, Kd.freshB (g := gb179) (o := .cells #[.int .i64 x180000_3, .int .i64 x180001_3] 30 (0, 0)) (bk BK179) k_ hk⟩)); (case aO => exact (by (with_reducible repeat (first | apply Kd.R_alloc | apply Kd.R_drewN | apply Kd.R_drew)); exact HO_7.out)); (case aS => exact (below_size ib)); (case aL => have := LMc162.out; omega); intro v181 w168 ho hb hg hat; rw [← Ny180.out] at ho; have n0_ := Aside0.mk (blk_grown (g := gb171) (o := .cells #[.int .i64 x172000_1, .int .i64 x172001_1] 30 (0, 0)) (bk BK171) hg (Kd.R_away HO_7.out (fun _ hk => hk.1))); have n1_ := Aside0.mk (blk_grown (g := gb178) (o := .cells #[.int .i64 ((rd_T30 x7_2 (ji37)).f0), .int .i64 ((rd_T30 x7_2 (ji37)).f1)] 30 (0, 0)) (bk BK178) hg (Kd.R_away HO_7.out (fun _ hk => hk.2.1))); have n2_ := Aside0.mk (blk_grown (g := gb179) (o := .cells #[.int .i64 x180000_3, .int .i64 x180001_3] 30 (0, 0)) (bk BK179) hg (Kd.R_away HO_7.out (fun _ hk => hk.2.2))); have n3_ := Aside0.mk (hb); have n4_ := Aside0.mk (ho); clear BK171; clear BK178; clear BK179; clear HB; clear HO_7; have BK171 := n0_; have BK178 := n1_; have BK179 := n2_; have HB := n3_; have HO182 := n4_; clear n0_ n1_ n2_ n3_ n4_; clear ho hb hg hat))
                   go_roundg k3
                   case measure => have := HK1.out; have := HK2.out; have := HK3.out; omega
                   case rel => exact ⟨(y180), H', ⟨by have := HK1.out; have := HK2.out; have := HK3.out; omega⟩, ⟨by (with_reducible repeat (first | apply Kd.R_alloc | apply Kd.R_drewN | apply Kd.R_drew)); exact Kd.R_mono HO182.out (fun _ hk => hk.1)⟩, ⟨by (with_reducible repeat (first | refine blk_drewN ?_ _ | refine blk_drew ?_ | refine blk_alloc ?_ _)); exact BK171.out⟩, ⟨by repeat (first | (with_reducible first | exact HB.out | apply below_alloc | apply pw_below_drewN | apply below_drew1 | refine below_set ?_ GE171.out | refine below_set ?_ GE178.out | refine below_set ?_ GE179.out) | exact HB.out)⟩⟩
                  ·rw [if_neg c162] at H
                   exact absurd H (by simp)
               ·replace c137 := Bool.eq_false_iff.mpr c137
                subst c137
                have H1 : (if (x7_2.length : Int) < 3 then (some (([] : List (S30)), 6)) else (some (x7_2, 0))) = some (r1, r2) := by rw [if_neg (show ¬ (false = true) by decide)] at H; exact H
                clear H
                have H := H1
                clear H1
                by_cases c169 : (x7_2.length : Int) < 3
                ·rw [if_pos c169] at H
                 have c169b0 : decide ((x7_2.length : Int) < 3) = true := decide_eq_true c169
                 have c169b1 : decide (x7_2.length < 3) = true := decide_eq_true (by omega)
                 clear c169
                 simp only [Option.some.injEq, Prod.mk.injEq] at H
                 obtain ⟨rfl, rfl⟩ := H
                 go_wp2
                 go_ret2
                 exact ⟨_, by first | rfl | (simp [errW_none, errW_some] <;> rfl) | (simp only [← hji37]; first | rfl | (simp [errW_none, errW_some] <;> rfl)) | (simp [*, errW_none, errW_some] <;> rfl), by first | exact Kd.R_nil _ _ _ _ _ | exact Kd.N_nil _ _ _ _ _ | exact Kd.V_nil _ _ _ _ _ | exact Kd.Q_nil _ _ _ _ _ | exact Kd.S_nil _ _ _ _ _, by repeat (first | (with_reducible first | exact HB.out | apply below_alloc | apply pw_below_drewN | apply below_drew1 | refine below_set ?_ GE171.out | refine below_set ?_ GE178.out | refine below_set ?_ GE179.out) | exact HB.out)⟩
                ·rw [if_neg c169] at H
                 have c169b0 : decide ((x7_2.length : Int) < 3) = false := decide_eq_false c169
                 have c169b1 : decide (x7_2.length < 3) = false := decide_eq_false (by omega)
                 clear c169
                 simp only [Option.some.injEq, Prod.mk.injEq] at H
                 obtain ⟨rfl, rfl⟩ := H
                 go_wp2
                 go_ret2
                 exact ⟨_, by first | rfl | (simp [errW_none, errW_some] <;> rfl) | (simp only [← hji37]; first | rfl | (simp [errW_none, errW_some] <;> rfl)) | (simp [*, errW_none, errW_some] <;> rfl), by (with_reducible repeat (first | apply Kd.R_alloc | apply Kd.R_drewN | apply Kd.R_drew)); exact Kd.R_mono HO_7.out (fun _ hk => trivial), by repeat (first | (with_reducible first | exact HB.out | apply below_alloc | apply pw_below_drewN | apply below_drew1 | refine below_set ?_ GE171.out | refine below_set ?_ GE178.out | refine below_set ?_ GE179.out) | exact HB.out)⟩
           ·rw [if_neg c39] at H
            exact absurd H (by simp)
          ·rw [if_neg c38] at H
           exact absurd H (by simp)
    ·rw [if_neg c8] at H
     exact absurd H (by simp)
 ·replace c3 := Bool.eq_false_iff.mpr c3
  subst c3
  have H1 : (some (([] : List (S30)), 1)) = some (r1, r2) := by rw [if_neg (show ¬ (false = true) by decide)] at H; exact H
  clear H
  have H := H1
  clear H1
  simp only [Option.some.injEq, Prod.mk.injEq] at H
  obtain ⟨rfl, rfl⟩ := H
  go_enter Try.func35, Try.ntmps35
  go_wp2_with (first | ((with_reducible refine gate_callee (f := 71) rfl ?_); refine goesL_ (some 16) rfl rfl Try.func71 (by kernel_rfl) rfl #[.slice A0 l0.length c0] rfl (by (try simp only [List.map_toArray, List.map_cons, List.map_nil]); first | done | rfl | (simp only [List.length_drop, List.length_take]; rfl)) ?_; (with_reducible refine (impl_validPoints.calls k _ _ l0 false _ ?side1 ?side2 A2.out).mono ?_); (case side1 => repeat (first | exact HR0.out | (with_reducible refine Kd.C_alloc ?_ _) | (with_reducible refine Kd.C_drewN ?_ _) | (with_reducible refine Kd.C_drew ?_))); (case side2 => exact HC0.out); rintro e w170 ⟨rfl, hb⟩; refine ⟨_, rfl, ?_⟩; have n0_ := sb hb; clear HB; have HB := n0_; clear n0_; (try clear hb); (try clear hb2); (try clear hk); (try clear hi)))
  go_ret2
  exact ⟨_, by first | rfl | (simp [errW_none, errW_some] <;> rfl) | (simp [*, errW_none, errW_some] <;> rfl), by first | exact Kd.R_nil _ _ _ _ _ | exact Kd.N_nil _ _ _ _ _ | exact Kd.V_nil _ _ _ _ _ | exact Kd.Q_nil _ _ _ _ _ | exact Kd.S_nil _ _ _ _ _, by repeat (first | (with_reducible first | exact HB.out | apply below_alloc | apply pw_below_drewN | apply below_drew1) | exact HB.out)⟩
end Go.Proofs.Ytkobmkdjmpnojaa.PFnExactHullOf
