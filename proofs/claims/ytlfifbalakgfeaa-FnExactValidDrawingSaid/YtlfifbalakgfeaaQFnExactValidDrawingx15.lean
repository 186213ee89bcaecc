/- Contracts of functions that FnExactValidDrawing reaches, out of the lines of the kit's print. -/
import Derived.Test.YtlfifbalakgfeaaQFnExactValidDrawingx0
import Derived.Test.YtlfifbalakgfeaaQFnExactValidDrawingx2
import Derived.Test.YtlfifbalakgfeaaQFnExactValidDrawingx7
import Derived.Test.YtlfifbalakgfeaaQFnExactValidDrawingx8
import Derived.Test.YtlfifbalakgfeaaQFnExactValidDrawingx12
import Derived.Test.YtlfifbalakgfeaaQFnExactValidDrawingx14
namespace Go.Proofs.Ytlfifbalakgfeaa.PFnExactValidDrawing
open Go.RowKit Go.Proofs.YtlfifbalakgfeaaW.PrintWords Go.Proofs.YtlfifbalakgfeaaW.PrintLast Go.Proofs.YtlfifbalakgfeaaW.PrintMore
open Bool renaming true → tT, false → fF
open Go.World renaming block_lt_of_cell? → bL
attribute [local go_sem] max2_int min2_int max_two min_two max_three min_three max_four min_four
set_option linter.unusedVariables false
set_option linter.unusedSimpArgs false
def laws_FnExactValidDrawing.f (k : Nat) (a0_0 : Int) (a0_1 : Int) (l0_2 : List (S46)) (l0_3 : List (S92)) : Option (Bool) := (laws_szDrawing.f k a0_0 a0_1 l0_2 l0_3 1048576).bind fun t343 => (if t343 < 0 then (some true) else ((laws_toDrawing.f k a0_0 a0_1 l0_2 l0_3).bind fun bt344 => ((spec_ValidDrawing.f k bt344.1 bt344.2.1 bt344.2.2.1 bt344.2.2.2).bind fun t352 => ((laws_toDrawing.f k a0_0 a0_1 l0_2 l0_3).bind fun bt353 => ((impl_ValidDrawing.f k bt353.1 bt353.2.1 bt353.2.2.1 bt353.2.2.2).bind fun t362 => (if (t362 != t352) = true then (some false) else ((laws_toDrawing.f k a0_0 a0_1 l0_2 l0_3).bind fun bt363 => ((laws_eqDrawing.f k bt353.1 bt353.2.1 bt353.2.2.1 bt353.2.2.2 bt363.1 bt363.2.1 bt363.2.2.1 bt363.2.2.2).bind fun t371 => (if t371 = true then (some true) else (some false))))))))))
theorem laws_FnExactValidDrawing.mono : ∀ a0 a1 a2 a3 k, LeO (laws_FnExactValidDrawing.f k a0 a1 a2 a3) (laws_FnExactValidDrawing.f (k + 1) a0 a1 a2 a3) := by
 intro a0 a1 a2 a3 k
 unfold laws_FnExactValidDrawing.f
 repeat' first
   | (with_reducible exact impl_ValidDrawing.mono _ _ _ _ _)
   | (with_reducible exact laws_eqDrawing.mono _ _ _ _ _ _ _ _ _)
   | (with_reducible exact laws_szDrawing.mono _ _ _ _ _ _)
   | (with_reducible exact laws_toDrawing.mono _ _ _ _ _)
   | (with_reducible exact spec_ValidDrawing.mono _ _ _ _ _)
   | (with_reducible exact LeO.refl _)
   | (with_reducible exact LeO.none _)
   | (with_reducible refine LeO.ite ?_ ?_)
   | (with_reducible refine LeO.bind ?_ (fun _ => ?_))
   | exact impl_ValidDrawing.mono _ _ _ _ _
   | exact laws_eqDrawing.mono _ _ _ _ _ _ _ _ _
   | exact laws_szDrawing.mono _ _ _ _ _ _
   | exact laws_toDrawing.mono _ _ _ _ _
   | exact spec_ValidDrawing.mono _ _ _ _ _
   | exact LeO.none _
   | refine LeO.ite ?_ ?_
   | refine LeO.bind ?_ (fun _ => ?_)
set_option maxHeartbeats 8000000 in
set_option maxRecDepth 100000 in
theorem laws_FnExactValidDrawing.calls (k : Nat) (a0_0 : Int) (a0_1 : Int) (A0_2 : Option Addr) (c0_2 : Nat) (l0_2 : List (S46)) (A0_3 : Option Addr) (c0_3 : Nat) (l0_3 : List (S92)) (w : World) (hr0_2 : Kd.C k46 w A0_2 l0_2.length l0_2) (hc0_2 : l0_2.length ≤ c0_2) (hr0_3 : Kd.C k92 w A0_3 l0_3.length l0_3) (hc0_3 : l0_3.length ≤ c0_3) (h : laws_FnExactValidDrawing.f k a0_0 a0_1 l0_2 l0_3 = some true) :
  Calls Try.prog 3 #[.agg #[.int .i64 a0_0, .int .i64 a0_1, .slice A0_2 l0_2.length c0_2, .slice A0_3 l0_3.length c0_3]] w fun e w' => e = .returned (.bool true) ∧ Below w.heap.size w w' := by
 have hu25 := Try.underlying25
 have hu31 := Try.underlying31
 have HR0_2 := Aside0.mk hr0_2
 have HC0_2 := Aside0.mk hc0_2
 clear hr0_2 hc0_2
 have HR0_3 := Aside0.mk hr0_3
 have HC0_3 := Aside0.mk hc0_3
 clear hr0_3 hc0_3
 have HB := Aside0.mk (Below.refl w.heap.size w)
 have H : ((laws_szDrawing.f k a0_0 a0_1 l0_2 l0_3 1048576).bind fun t343 => (if t343 < 0 then (some true) else ((laws_toDrawing.f k a0_0 a0_1 l0_2 l0_3).bind fun bt344 => ((spec_ValidDrawing.f k bt344.1 bt344.2.1 bt344.2.2.1 bt344.2.2.2).bind fun t352 => ((laws_toDrawing.f k a0_0 a0_1 l0_2 l0_3).bind fun bt353 => ((impl_ValidDrawing.f k bt353.1 bt353.2.1 bt353.2.2.1 bt353.2.2.2).bind fun t362 => (if (t362 != t352) = true then (some false) else ((laws_toDrawing.f k a0_0 a0_1 l0_2 l0_3).bind fun bt363 => ((laws_eqDrawing.f k bt353.1 bt353.2.1 bt353.2.2.1 bt353.2.2.2 bt363.1 bt363.2.1 bt363.2.2.1 bt363.2.2.2).bind fun t371 => (if t371 = true then (some true) else (some false))))))))))) = some true := h
 clear h
 replace H := Option.bind_eq_some_iff.mp H
 obtain ⟨t343, A20, H⟩ := H
 replace H : (if t343 < 0 then (some true) else ((laws_toDrawing.f k a0_0 a0_1 l0_2 l0_3).bind fun bt344 => ((spec_ValidDrawing.f k bt344.1 bt344.2.1 bt344.2.2.1 bt344.2.2.2).bind fun t352 => ((laws_toDrawing.f k a0_0 a0_1 l0_2 l0_3).bind fun bt353 => ((impl_ValidDrawing.f k bt353.1 bt353.2.1 bt353.2.2.1 bt353.2.2.2).bind fun t362 => (if (t362 != t352) = true then (some false) else ((laws_toDrawing.f k a0_0 a0_1 l0_2 l0_3).bind fun bt363 => ((laws_eqDrawing.f k bt353.1 bt353.2.1 bt353.2.2.1 bt353.2.2.2 bt363.1 bt363.2.1 bt363.2.2.1 bt363.2.2.2).bind fun t371 => (if t371 = true then (some true) else (some false)))))))))) = some true := H
 have A2 := Aside0.mk A20
 clear A20
 by_cases c3 : t343 < 0
 ·rw [if_pos c3] at H
  have c3b0 : decide (t343 < 0) = true := decide_eq_true c3
  clear c3
  clear H
  go_enter Try.func3, Try.ntmps3
  go_wp2_with (first | ((with_reducible refine gate_dst (N := 1) rfl ?_); refine box_event ?hg (N := 1) ?hd (cs := #[.int .i64 a0_0, .int .i64 a0_1, .slice A0_2 l0_2.length c0_2, .slice A0_3 l0_3.length c0_3]) (t := 25) ?hr ?_; (case hd => rfl); (case hg => rfl); (case hr => first | (go_simp; done) | (go_simp; rfl)); intro gb342 hg w4 hbox hb; have n0_ := sb hb; have n1_ := Aside0.mk (hbox); have n2_ := zb hg; have n3_ := zb hg; clear HB; have HB := n0_; have BK342 := n1_; have GW342 := n2_; have GE342 := n3_; clear n0_ n1_ n2_ n3_; clear hb hbox hg; have hcz5_0 := ck BK342 0; have hcz5_1 := ck BK342 1; have hcz5_2 := ck BK342 2; have hcz5_3 := ck BK342 3; have hfz5_0 := blk_frozen BK342.out 0; have hfz5_1 := blk_frozen BK342.out 1; have hfz5_2 := blk_frozen BK342.out 2; have hfz5_3 := blk_frozen BK342.out 3) | ((with_reducible refine gate_callee (f := 10) rfl ?_); refine goesL_ (some 9) rfl rfl Try.func10 (by kernel_rfl) rfl #[.agg #[.int .i64 a0_0, .int .i64 a0_1, .slice A0_2 l0_2.length c0_2, .slice A0_3 l0_3.length c0_3], .int .i64 1048576] rfl (by (try simp only [List.map_toArray, List.map_cons, List.map_nil]); first | done | rfl | (simp only [List.length_drop, List.length_take]; rfl)) ?_; (with_reducible refine (laws_szDrawing.calls k a0_0 a0_1 _ _ l0_2 _ _ l0_3 1048576 t343 _ ?side1 ?side2 ?side3 ?side4 A2.out).mono ?_); (case side1 => repeat (first | exact (Kd.C_below HR0_2.out HB.out) | (with_reducible refine Kd.C_alloc ?_ _) | (with_reducible refine Kd.C_drewN ?_ _) | (with_reducible refine Kd.C_drew ?_))); (case side2 => exact HC0_2.out); (case side3 => repeat (first | exact (Kd.C_below HR0_3.out HB.out) | (with_reducible refine Kd.C_alloc ?_ _) | (with_reducible refine Kd.C_drewN ?_ _) | (with_reducible refine Kd.C_drew ?_))); (case side4 => exact HC0_3.out); rintro e w6 ⟨rfl, hb⟩; refine ⟨_, rfl, ?_⟩; have n0_ := kb BK342 hb; have n1_ := sb hb; clear BK342; clear HB; have BK342 := n0_; have HB := n1_; clear n0_ n1_; (try clear hb); (try clear hb2); (try clear hk); (try clear hi)))
  go_ret
  exact ⟨by first | rfl | (simp [errW_none, errW_some] <;> rfl) | (simp [*, errW_none, errW_some] <;> rfl), by repeat (first | (with_reducible first | exact HB.out | apply below_alloc | apply pw_below_drewN | apply below_drew1 | refine below_set ?_ GE342.out) | exact HB.out)⟩
 ·rw [if_neg c3] at H
  have c3b0 : decide (t343 < 0) = false := decide_eq_false c3
  clear c3
  replace H := Option.bind_eq_some_iff.mp H
  obtain ⟨⟨t344, t345, t346, t349⟩, A70, H⟩ := H
  replace H : ((spec_ValidDrawing.f k t344 t345 t346 t349).bind fun t352 => ((laws_toDrawing.f k a0_0 a0_1 l0_2 l0_3).bind fun bt353 => ((impl_ValidDrawing.f k bt353.1 bt353.2.1 bt353.2.2.1 bt353.2.2.2).bind fun t362 => (if (t362 != t352) = true then (some false) else ((laws_toDrawing.f k a0_0 a0_1 l0_2 l0_3).bind fun bt363 => ((laws_eqDrawing.f k bt353.1 bt353.2.1 bt353.2.2.1 bt353.2.2.2 bt363.1 bt363.2.1 bt363.2.2.1 bt363.2.2.2).bind fun t371 => (if t371 = true then (some true) else (some false)))))))) = some true := H
  have A7 := Aside0.mk A70
  clear A70
  replace H := Option.bind_eq_some_iff.mp H
  obtain ⟨t352, A80, H⟩ := H
  replace H : ((laws_toDrawing.f k a0_0 a0_1 l0_2 l0_3).bind fun bt353 => ((impl_ValidDrawing.f k bt353.1 bt353.2.1 bt353.2.2.1 bt353.2.2.2).bind fun t362 => (if (t362 != t352) = true then (some false) else ((laws_toDrawing.f k a0_0 a0_1 l0_2 l0_3).bind fun bt363 => ((laws_eqDrawing.f k bt353.1 bt353.2.1 bt353.2.2.1 bt353.2.2.2 bt363.1 bt363.2.1 bt363.2.2.1 bt363.2.2.2).bind fun t371 => (if t371 = true then (some true) else (some false))))))) = some true := H
  have A8 := Aside0.mk A80
  clear A80
  replace H := Option.bind_eq_some_iff.mp H
  obtain ⟨⟨t353, t354, t355, t358⟩, A90, H⟩ := H
  replace H : ((impl_ValidDrawing.f k t353 t354 t355 t358).bind fun t362 => (if (t362 != t352) = true then (some false) else ((laws_toDrawing.f k a0_0 a0_1 l0_2 l0_3).bind fun bt363 => ((laws_eqDrawing.f k t353 t354 t355 t358 bt363.1 bt363.2.1 bt363.2.2.1 bt363.2.2.2).bind fun t371 => (if t371 = true then (some true) else (some false)))))) = some true := H
  have A9 := Aside0.mk A90
  clear A90
  replace H := Option.bind_eq_some_iff.mp H
  obtain ⟨t362, A100, H⟩ := H
  replace H : (if (t362 != t352) = true then (some false) else ((laws_toDrawing.f k a0_0 a0_1 l0_2 l0_3).bind fun bt363 => ((laws_eqDrawing.f k t353 t354 t355 t358 bt363.1 bt363.2.1 bt363.2.2.1 bt363.2.2.2).bind fun t371 => (if t371 = true then (some true) else (some false))))) = some true := H
  have A10 := Aside0.mk A100
  clear A100
  by_cases c11 : (t362 != t352) = true
  ·rw [if_pos c11] at H
   have c11b0 : (t362 != t352) = true := c11
   (try (have c11b1 : decide (t362 = t352) = false := by simpa using c11))
   (try (have c11b2 : (t362 == t352) = false := by simpa using c11))
   (try (have c11b3 : ¬ (t362 = t352) := by simpa using c11))
   clear c11
   cases H
  ·rw [if_neg c11] at H
   have c11b0 : (t362 != t352) = false := by simpa using c11
   (try (have c11b1 : decide (t362 = t352) = true := by simpa using c11))
   (try (have c11b2 : (t362 == t352) = true := by simpa using c11))
   clear c11
   replace H := Option.bind_eq_some_iff.mp H
   obtain ⟨⟨t363, t364, t365, t368⟩, A280, H⟩ := H
   replace H : ((laws_eqDrawing.f k t353 t354 t355 t358 t363 t364 t365 t368).bind fun t371 => (if t371 = true then (some true) else (some false))) = some true := H
   have A28 := Aside0.mk A280
   clear A280
   replace H := Option.bind_eq_some_iff.mp H
   obtain ⟨t371, A290, H⟩ := H
   replace H : (if t371 = true then (some true) else (some false)) = some true := H
   have A29 := Aside0.mk A290
   clear A290
   by_cases c30 : t371 = true
   ·subst c30
    have H1 : (some true) = some true := rfl
    clear H
    have H := H1
    clear H1
    clear H
    go_enter Try.func3, Try.ntmps3
    try go_wp2_with (first | ((with_reducible refine gate_dst (N := 1) rfl ?_); refine box_event ?hg (N := 1) ?hd (cs := #[.int .i64 a0_0, .int .i64 a0_1, .slice A0_2 l0_2.length c0_2, .slice A0_3 l0_3.length c0_3]) (t := 25) ?hr ?_; (case hd => rfl); (case hg => rfl); (case hr => first | (go_simp; done) | (go_simp; rfl)); intro gb342 hg w31 hbox hb; have n0_ := sb hb; have n1_ := Aside0.mk (hbox); have n2_ := zb hg; have n3_ := zb hg; clear HB; have HB := n0_; have BK342 := n1_; have GW342 := n2_; have GE342 := n3_; clear n0_ n1_ n2_ n3_; clear hb hbox hg; have hcz32_0 := ck BK342 0; have hcz32_1 := ck BK342 1; have hcz32_2 := ck BK342 2; have hcz32_3 := ck BK342 3; have hfz32_0 := blk_frozen BK342.out 0; have hfz32_1 := blk_frozen BK342.out 1; have hfz32_2 := blk_frozen BK342.out 2; have hfz32_3 := blk_frozen BK342.out 3) | ((with_reducible refine gate_callee (f := 10) rfl ?_); refine goesL_ (some 9) rfl rfl Try.func10 (by kernel_rfl) rfl #[.agg #[.int .i64 a0_0, .int .i64 a0_1, .slice A0_2 l0_2.length c0_2, .slice A0_3 l0_3.length c0_3], .int .i64 1048576] rfl (by (try simp only [List.map_toArray, List.map_cons, List.map_nil]); first | done | rfl | (simp only [List.length_drop, List.length_take]; rfl)) ?_; (with_reducible refine (laws_szDrawing.calls k a0_0 a0_1 _ _ l0_2 _ _ l0_3 1048576 t343 _ ?side1 ?side2 ?side3 ?side4 A2.out).mono ?_); (case side1 => repeat (first | exact (Kd.C_below HR0_2.out HB.out) | (with_reducible refine Kd.C_alloc ?_ _) | (with_reducible refine Kd.C_drewN ?_ _) | (with_reducible refine Kd.C_drew ?_))); (case side2 => exact HC0_2.out); (case side3 => repeat (first | exact (Kd.C_below HR0_3.out HB.out) | (with_reducible refine Kd.C_alloc ?_ _) | (with_reducible refine Kd.C_drewN ?_ _) | (with_reducible refine Kd.C_drew ?_))); (case side4 => exact HC0_3.out); rintro e w33 ⟨rfl, hb⟩; refine ⟨_, rfl, ?_⟩; have n0_ := kb BK342 hb; have n1_ := sb hb; clear BK342; clear HB; have BK342 := n0_; have HB := n1_; clear n0_ n1_; (try clear hb); (try clear hb2); (try clear hk); (try clear hi); have hcz34_0 := ck BK342 0; have hcz34_1 := ck BK342 1; have hcz34_2 := ck BK342 2; have hcz34_3 := ck BK342 3; have hfz34_0 := blk_frozen BK342.out 0; have hfz34_1 := blk_frozen BK342.out 1; have hfz34_2 := blk_frozen BK342.out 2; have hfz34_3 := blk_frozen BK342.out 3) | ((with_reducible refine gate_callee (f := 12) rfl ?_); refine goesL_ (some 13) rfl rfl Try.func12 (by kernel_rfl) rfl #[.agg #[.int .i64 a0_0, .int .i64 a0_1, .slice A0_2 l0_2.length c0_2, .slice A0_3 l0_3.length c0_3]] rfl (by (try simp only [List.map_toArray, List.map_cons, List.map_nil]); first | done | rfl | (simp only [List.length_drop, List.length_take]; rfl)) ?_; (with_reducible refine (laws_toDrawing.calls k a0_0 a0_1 _ _ l0_2 _ _ l0_3 t344 t345 t346 t349 _ ?side1 ?side2 ?side3 ?side4 A7.out).mono ?_); (case side1 => repeat (first | exact (Kd.C_below HR0_2.out HB.out) | (with_reducible refine Kd.C_alloc ?_ _) | (with_reducible refine Kd.C_drewN ?_ _) | (with_reducible refine Kd.C_drew ?_))); (case side2 => exact HC0_2.out); (case side3 => repeat (first | exact (Kd.C_below HR0_3.out HB.out) | (with_reducible refine Kd.C_alloc ?_ _) | (with_reducible refine Kd.C_drewN ?_ _) | (with_reducible refine Kd.C_drew ?_))); (case side4 => exact HC0_3.out); rintro e w35 ⟨v347, v350, rfl, ho0, ho1, hb⟩; refine ⟨_, rfl, ?_⟩; have n0_ := Aside0.mk (Kd.R_lower ho0 (below_size ib)); have n1_ := Aside0.mk (Kd.S_lower ho1 (below_size ib)); have n2_ := kb BK342 hb; have n3_ := sb hb; clear BK342; clear HB; have HO348 := n0_; have HO351 := n1_; have BK342 := n2_; have HB := n3_; clear n0_ n1_ n2_ n3_; (try clear hb); (try clear hb2); (try clear hk); (try clear hi); (try clear ho0); (try clear ho1); obtain ⟨Ao36, co36, eo36⟩ := Kd.R_slice HO348.out; subst eo36; obtain ⟨Ao37, co37, eo37⟩ := Kd.S_slice HO351.out; subst eo37) | ((with_reducible refine gate_callee (f := 11) rfl ?_); refine goesL_ (some 14) rfl rfl Try.func11 (by kernel_rfl) rfl #[.agg #[.int .i64 t344, .int .i64 t345, .slice Ao36 t346.length co36, .slice Ao37 t349.length co37]] rfl (by (try simp only [List.map_toArray, List.map_cons, List.map_nil]); first | done | rfl | (simp only [List.length_drop, List.length_take]; rfl)) ?_; (with_reducible refine (spec_ValidDrawing.calls k t344 t345 _ _ t346 _ _ t349 t352 _ ?side1 ?side2 ?side3 ?side4 A8.out).mono ?_); (case side1 => repeat (first | exact (Kd.R_reads' HO348.out).2.2 | (with_reducible refine Kd.C_alloc ?_ _) | (with_reducible refine Kd.C_drewN ?_ _) | (with_reducible refine Kd.C_drew ?_))); (case side2 => exact (Kd.R_reads' HO348.out).2.1); (case side3 => repeat (first | exact (Kd.S_reads' HO351.out).2.2 | (with_reducible refine Kd.C_alloc ?_ _) | (with_reducible refine Kd.C_drewN ?_ _) | (with_reducible refine Kd.C_drew ?_))); (case side4 => exact (Kd.S_reads' HO351.out).2.1); rintro e w38 ⟨rfl, hb⟩; refine ⟨_, rfl, ?_⟩; have n0_ := Aside0.mk (Kd.R_below (by (with_reducible repeat (first | apply Kd.R_alloc | apply Kd.R_drewN | apply Kd.R_drew)); exact HO348.out) hb); have n1_ := Aside0.mk (Kd.S_below (by (with_reducible repeat (first | apply Kd.S_alloc | apply Kd.S_drewN | apply Kd.S_drew)); exact HO351.out) hb); have n2_ := kb BK342 hb; have n3_ := sb hb; clear HO348; clear HO351; clear BK342; clear HB; have HO348 := n0_; have HO351 := n1_; have BK342 := n2_; have HB := n3_; clear n0_ n1_ n2_ n3_; (try clear hb); (try clear hb2); (try clear hk); (try clear hi); have hcz39_0 := ck BK342 0; have hcz39_1 := ck BK342 1; have hcz39_2 := ck BK342 2; have hcz39_3 := ck BK342 3; have hfz39_0 := blk_frozen BK342.out 0; have hfz39_1 := blk_frozen BK342.out 1; have hfz39_2 := blk_frozen BK342.out 2; have hfz39_3 := blk_frozen BK342.out 3) | ((with_reducible refine gate_callee (f := 12) rfl ?_); refine goesL_ (some 16) rfl rfl Try.func12 (by kernel_rfl) rfl #[.agg #[.int .i64 a0_0, .int .i64 a0_1, .slice A0_2 l0_2.length c0_2, .slice A0_3 l0_3.length c0_3]] rfl (by (try simp only [List.map_toArray, List.map_cons, List.map_nil]); first | done | rfl | (simp only [List.length_drop, List.length_take]; rfl)) ?_; (with_reducible refine (laws_toDrawing.calls k a0_0 a0_1 _ _ l0_2 _ _ l0_3 t353 t354 t355 t358 _ ?side1 ?side2 ?side3 ?side4 A9.out).mono ?_); (case side1 => repeat (first | exact (Kd.C_below HR0_2.out HB.out) | (with_reducible refine Kd.C_alloc ?_ _) | (with_reducible refine Kd.C_drewN ?_ _) | (with_reducible refine Kd.C_drew ?_))); (case side2 => exact HC0_2.out); (case side3 => repeat (first | exact (Kd.C_below HR0_3.out HB.out) | (with_reducible refine Kd.C_alloc ?_ _) | (with_reducible refine Kd.C_drewN ?_ _) | (with_reducible refine Kd.C_drew ?_))); (case side4 => exact HC0_3.out); rintro e w40 ⟨v356, v359, rfl, ho0, ho1, hb⟩; refine ⟨_, rfl, ?_⟩; have n0_ := Aside0.mk (Kd.R_elder' (by (with_reducible repeat (first | apply Kd.R_alloc | apply Kd.R_drewN | apply Kd.R_drew)); exact HO348.out) (Kd.R_base ho0) hb); have n1_ := Aside0.mk (Kd.S_elder' (by (with_reducible repeat (first | apply Kd.S_alloc | apply Kd.S_drewN | apply Kd.S_drew)); exact HO351.out) (Kd.S_base ho1) hb); have n2_ := Aside0.mk (Kd.R_lower (Kd.R_new' ho0 (Kd.R_lt (by (with_reducible repeat (first | apply Kd.R_alloc | apply Kd.R_drewN | apply Kd.R_drew)); exact HO348.out))) (below_size ib)); have n3_ := Aside0.mk (Kd.S_lower (Kd.S_new' ho1 (Kd.S_lt (by (with_reducible repeat (first | apply Kd.S_alloc | apply Kd.S_drewN | apply Kd.S_drew)); exact HO351.out))) (below_size ib)); have n4_ := kb BK342 hb; have n5_ := sb hb; clear HO348; clear HO351; clear BK342; clear HB; have HO348 := n0_; have HO351 := n1_; have HO357 := n2_; have HO360 := n3_; have BK342 := n4_; have HB := n5_; clear n0_ n1_ n2_ n3_ n4_ n5_; (try clear hb); (try clear hb2); (try clear hk); (try clear hi); (try clear ho0); (try clear ho1)) | ((with_reducible refine gate_dst (N := 5) rfl ?_); refine box_event ?hg (N := 5) ?hd (cs := #[.int .i64 0, .int .i64 0, .slice none 0 0, .slice none 0 0]) (t := 31) ?hr ?_; (case hd => rfl); (case hg => rfl); (case hr => first | (go_simp; done) | (go_simp; rfl)); intro gb361 hg w41 hbox hb; have n0_ := Aside0.mk (Kd.R_below (by (with_reducible repeat (first | apply Kd.R_alloc | apply Kd.R_drewN | apply Kd.R_drew)); exact HO348.out) hb); have n1_ := Aside0.mk (Kd.S_below (by (with_reducible repeat (first | apply Kd.S_alloc | apply Kd.S_drewN | apply Kd.S_drew)); exact HO351.out) hb); have n2_ := Aside0.mk (Kd.R_below (by (with_reducible repeat (first | apply Kd.R_alloc | apply Kd.R_drewN | apply Kd.R_drew)); exact HO357.out) hb); have n3_ := Aside0.mk (Kd.S_below (by (with_reducible repeat (first | apply Kd.S_alloc | apply Kd.S_drewN | apply Kd.S_drew)); exact HO360.out) hb); have n4_ := kb BK342 hb; have n5_ := sb hb; have n6_ := Aside0.mk (hbox); have n7_ := zb hg; have n8_ := zb hg; have n9_ := nl BK342 hg; have n10_ := ng BK342 hg; clear HO348; clear HO351; clear HO357; clear HO360; clear BK342; clear HB; have HO348 := n0_; have HO351 := n1_; have HO357 := n2_; have HO360 := n3_; have BK342 := n4_; have HB := n5_; have BK361 := n6_; have GW361 := n7_; have GE361 := n8_; have NB342_361 := n9_; have NB361_342 := n10_; clear n0_ n1_ n2_ n3_ n4_ n5_ n6_ n7_ n8_ n9_ n10_; clear hb hbox hg; have hnb42 := NB361_342.out; have hnc42 := NB342_361.out; have hcz43_0 := ck BK361 0; have hcz43_1 := ck BK361 1; have hcz43_2 := ck BK361 2; have hcz43_3 := ck BK361 3; have hfz43_0 := blk_frozen BK361.out 0; have hfz43_1 := blk_frozen BK361.out 1; have hfz43_2 := blk_frozen BK361.out 2; have hfz43_3 := blk_frozen BK361.out 3; obtain ⟨Ao44, co44, eo44⟩ := Kd.R_slice HO357.out; subst eo44; obtain ⟨Ao45, co45, eo45⟩ := Kd.S_slice HO360.out; subst eo45) | ((with_reducible refine gate_callee (f := 13) rfl ?_); refine goesL_ (some 18) rfl rfl Try.func13 (by kernel_rfl) rfl #[.agg #[.int .i64 t353, .int .i64 t354, .slice Ao44 t355.length co44, .slice Ao45 t358.length co45]] rfl (by (try simp only [List.map_toArray, List.map_cons, List.map_nil]); first | done | rfl | (simp only [List.length_drop, List.length_take]; rfl)) ?_; (with_reducible refine (impl_ValidDrawing.calls k t353 t354 _ _ t355 _ _ t358 t362 _ ?side1 ?side2 ?side3 ?side4 A10.out).mono ?_); (case side1 => refine (Kd.R_reads' (e := 48) (base := w.heap.size) (ok := fun k_ => (True ∧ some k_ ≠ (.slice Ao36 t346.length co36 : Value).ownBlock)) (n := t355.length) (c := co44) ?_).2.2; exact (by (with_reducible repeat (first | apply Kd.R_alloc | apply Kd.R_drewN | apply Kd.R_drew)); exact (Kd.R_mono (Kd.R_far (p := ⟨gb361, 3, none⟩) (Kd.R_far (p := ⟨gb361, 2, none⟩) (Kd.R_far (p := ⟨gb361, 1, none⟩) (Kd.R_far (p := ⟨gb361, 0, none⟩) (Kd.R_types HO357.out BK361.out (by decide)) (fun _ hk => hk.2) (.int .i64 t353)) (fun _ hk => hk.2) (.int .i64 t354)) (fun _ hk => hk.2) (.slice Ao44 t355.length co44)) (fun _ hk => hk.2) (.slice Ao45 t358.length co45)) (fun _ h_ => h_.1)))); (case side2 => exact (Kd.R_reads' HO357.out).2.1); (case side3 => refine (Kd.S_reads' (e := 67) (base := w.heap.size) (ok := fun k_ => (True ∧ some k_ ≠ (.slice Ao37 t349.length co37 : Value).ownBlock)) (n := t358.length) (c := co45) ?_).2.2; exact (by (with_reducible repeat (first | apply Kd.S_alloc | apply Kd.S_drewN | apply Kd.S_drew)); exact (Kd.S_mono (Kd.S_far (p := ⟨gb361, 3, none⟩) (Kd.S_far (p := ⟨gb361, 2, none⟩) (Kd.S_far (p := ⟨gb361, 1, none⟩) (Kd.S_far (p := ⟨gb361, 0, none⟩) (Kd.S_types HO360.out BK361.out (by decide)) (fun _ hk => hk.2) (.int .i64 t353)) (fun _ hk => hk.2) (.int .i64 t354)) (fun _ hk => hk.2) (.slice Ao44 t355.length co44)) (fun _ hk => hk.2) (.slice Ao45 t358.length co45)) (fun _ h_ => h_.1)))); (case side4 => exact (Kd.S_reads' HO360.out).2.1); rintro e w46 ⟨rfl, hb⟩; refine ⟨_, rfl, ?_⟩; have n0_ := Aside0.mk (Kd.R_below (by (with_reducible repeat (first | apply Kd.R_alloc | apply Kd.R_drewN | apply Kd.R_drew)); exact (Kd.R_mono (Kd.R_far (p := ⟨gb361, 3, none⟩) (Kd.R_far (p := ⟨gb361, 2, none⟩) (Kd.R_far (p := ⟨gb361, 1, none⟩) (Kd.R_far (p := ⟨gb361, 0, none⟩) (Kd.R_types HO348.out BK361.out (by decide)) (fun _ hk => hk.2) (.int .i64 t353)) (fun _ hk => hk.2) (.int .i64 t354)) (fun _ hk => hk.2) (.slice Ao44 t355.length co44)) (fun _ hk => hk.2) (.slice Ao45 t358.length co45)) (fun _ h_ => h_.1))) hb); have n1_ := Aside0.mk (Kd.S_below (by (with_reducible repeat (first | apply Kd.S_alloc | apply Kd.S_drewN | apply Kd.S_drew)); exact (Kd.S_mono (Kd.S_far (p := ⟨gb361, 3, none⟩) (Kd.S_far (p := ⟨gb361, 2, none⟩) (Kd.S_far (p := ⟨gb361, 1, none⟩) (Kd.S_far (p := ⟨gb361, 0, none⟩) (Kd.S_types HO351.out BK361.out (by decide)) (fun _ hk => hk.2) (.int .i64 t353)) (fun _ hk => hk.2) (.int .i64 t354)) (fun _ hk => hk.2) (.slice Ao44 t355.length co44)) (fun _ hk => hk.2) (.slice Ao45 t358.length co45)) (fun _ h_ => h_.1))) hb); have n2_ := Aside0.mk (Kd.R_below (by (with_reducible repeat (first | apply Kd.R_alloc | apply Kd.R_drewN | apply Kd.R_drew)); exact (Kd.R_mono (Kd.R_far (p := ⟨gb361, 3, none⟩) (Kd.R_far (p := ⟨gb361, 2, none⟩) (Kd.R_far (p := ⟨gb361, 1, none⟩) (Kd.R_far (p := ⟨gb361, 0, none⟩) (Kd.R_types HO357.out BK361.out (by decide)) (fun _ hk => hk.2) (.int .i64 t353)) (fun _ hk => hk.2) (.int .i64 t354)) (fun _ hk => hk.2) (.slice Ao44 t355.length co44)) (fun _ hk => hk.2) (.slice Ao45 t358.length co45)) (fun _ h_ => h_.1))) hb); have n3_ := Aside0.mk (Kd.S_below (by (with_reducible repeat (first | apply Kd.S_alloc | apply Kd.S_drewN | apply Kd.S_drew)); exact (Kd.S_mono (Kd.S_far (p := ⟨gb361, 3, none⟩) (Kd.S_far (p := ⟨gb361, 2, none⟩) (Kd.S_far (p := ⟨gb361, 1, none⟩) (Kd.S_far (p := ⟨gb361, 0, none⟩) (Kd.S_types HO360.out BK361.out (by decide)) (fun _ hk => hk.2) (.int .i64 t353)) (fun _ hk => hk.2) (.int .i64 t354)) (fun _ hk => hk.2) (.slice Ao44 t355.length co44)) (fun _ hk => hk.2) (.slice Ao45 t358.length co45)) (fun _ h_ => h_.1))) hb); have n4_ := Aside0.mk (blk_below (g := gb342) (o := .cells #[.int .i64 a0_0, .int .i64 a0_1, .slice A0_2 l0_2.length c0_2, .slice A0_3 l0_3.length c0_3] 25 (0, 0)) (by (with_reducible repeat (first | refine blk_drewN ?_ _ | refine blk_drew ?_ | refine blk_alloc ?_ _)); refine blk_far ?_ NB342_361.out _; (with_reducible repeat (first | refine blk_drewN ?_ _ | refine blk_drew ?_ | refine blk_alloc ?_ _)); refine blk_far ?_ NB342_361.out _; (with_reducible repeat (first | refine blk_drewN ?_ _ | refine blk_drew ?_ | refine blk_alloc ?_ _)); refine blk_far ?_ NB342_361.out _; (with_reducible repeat (first | refine blk_drewN ?_ _ | refine blk_drew ?_ | refine blk_alloc ?_ _)); refine blk_far ?_ NB342_361.out _; (with_reducible repeat (first | refine blk_drewN ?_ _ | refine blk_drew ?_ | refine blk_alloc ?_ _)); exact BK342.out) hb); have n5_ := Aside0.mk (blk_below (g := gb361) (o := .cells #[.int .i64 t353, .int .i64 t354, .slice Ao44 t355.length co44, .slice Ao45 t358.length co45] 31 (0, 0)) (by (with_reducible repeat (first | refine blk_drewN ?_ _ | refine blk_drew ?_ | refine blk_alloc ?_ _)); refine blk_put (cs := #[.int .i64 t353, .int .i64 t354, .slice Ao44 t355.length co44, .slice none 0 0]) ?_ 3 _ rfl; (with_reducible repeat (first | refine blk_drewN ?_ _ | refine blk_drew ?_ | refine blk_alloc ?_ _)); refine blk_put (cs := #[.int .i64 t353, .int .i64 t354, .slice none 0 0, .slice none 0 0]) ?_ 2 _ rfl; (with_reducible repeat (first | refine blk_drewN ?_ _ | refine blk_drew ?_ | refine blk_alloc ?_ _)); refine blk_put (cs := #[.int .i64 t353, .int .i64 0, .slice none 0 0, .slice none 0 0]) ?_ 1 _ rfl; (with_reducible repeat (first | refine blk_drewN ?_ _ | refine blk_drew ?_ | refine blk_alloc ?_ _)); refine blk_put (cs := #[.int .i64 0, .int .i64 0, .slice none 0 0, .slice none 0 0]) ?_ 0 _ rfl; (with_reducible repeat (first | refine blk_drewN ?_ _ | refine blk_drew ?_ | refine blk_alloc ?_ _)); exact BK361.out) hb); have n6_ := sb hb; clear HO348; clear HO351; clear HO357; clear HO360; clear BK342; clear BK361; clear HB; have HO348 := n0_; have HO351 := n1_; have HO357 := n2_; have HO360 := n3_; have BK342 := n4_; have BK361 := n5_; have HB := n6_; clear n0_ n1_ n2_ n3_ n4_ n5_ n6_; (try clear hb); (try clear hb2); (try clear hk); (try clear hi)))
    have n0_ := Aside0.mk (Kd.R_drew HO348.out)
    have n1_ := Aside0.mk (Kd.S_drew HO351.out)
    have n2_ := Aside0.mk (Kd.R_drew HO357.out)
    have n3_ := Aside0.mk (Kd.S_drew HO360.out)
    have n4_ := Aside0.mk (blk_drew BK342.out)
    have n5_ := Aside0.mk (blk_drew BK361.out)
    have n6_ := Aside0.mk (below_drew1 HB.out)
    clear HO348
    clear HO351
    clear HO357
    clear HO360
    clear BK342
    clear BK361
    clear HB
    have HO348 := n0_
    have HO351 := n1_
    have HO357 := n2_
    have HO360 := n3_
    have BK342 := n4_
    have BK361 := n5_
    have HB := n6_
    clear n0_ n1_ n2_ n3_ n4_ n5_ n6_
    refine start_ (n := 5) (S := fun w' => w'.cell? ⟨gb361, 0, none⟩ = some (.int .i64 t353) ∧ w'.cell? ⟨gb361, 1, none⟩ = some (.int .i64 t354) ∧ w'.cell? ⟨gb361, 2, none⟩ = some (.slice Ao44 t355.length co44) ∧ w'.cell? ⟨gb361, 3, none⟩ = some (.slice Ao45 t358.length co45) ∧ w'.cell? ⟨gb342, 0, none⟩ = some (.int .i64 a0_0) ∧ w'.cell? ⟨gb342, 1, none⟩ = some (.int .i64 a0_1) ∧ w'.cell? ⟨gb342, 2, none⟩ = some (.slice A0_2 l0_2.length c0_2) ∧ w'.cell? ⟨gb342, 3, none⟩ = some (.slice A0_3 l0_3.length c0_3)) (ds := []) #[fF,fF,fF,fF,fF] (by kernel_rfl) rfl rfl ⟨(blk_cell BK361.out 0).trans rfl, (blk_cell BK361.out 1).trans rfl, (blk_cell BK361.out 2).trans rfl, (blk_cell BK361.out 3).trans rfl, (blk_cell BK342.out 0).trans rfl, (blk_cell BK342.out 1).trans rfl, (blk_cell BK342.out 2).trans rfl, (blk_cell BK342.out 3).trans rfl⟩ (fun hHeld => ?_)
    generalize w46.drew = w47 at HO348 HO351 HO357 HO360 BK342 BK361 HB hHeld ⊢
    refine take_ (i := 0) (N := some 22) (v := ?_) (a' := ?_) #[tT,fF,fF,fF,fF] rfl rfl (by kernel_rfl) (fun _ _ _ h => h) (Or.inl ⟨by rfl, ?_⟩) hHeld ?_ ?_
    rotate_left
    ·rintro w' ⟨s0, s1, s2, s3, s4, s5, s6, s7⟩
     go_simp
     with_reducible rfl
    rotate_left
    ·exact pa
    refine take_ (i := 1) (N := some 23) (v := ?_) (a' := ?_) #[tT,tT,fF,fF,fF] rfl rfl (by kernel_rfl) (fun _ _ _ h => h) (Or.inl ⟨by rfl, ?_⟩) hHeld ?_ ?_
    rotate_left
    ·rintro w' ⟨s0, s1, s2, s3, s4, s5, s6, s7⟩
     go_simp
     with_reducible rfl
    rotate_left
    ·exact pa
    refine one_ (i := 2) (N := some 24) #[tT,tT,tT,fF,fF] rfl rfl (by kernel_rfl) (by decide) (fun K hK => ?_)
    refine goes_ Try.func12 (by kernel_rfl) rfl #[.agg #[.int .i64 a0_0, .int .i64 a0_1, .slice A0_2 l0_2.length c0_2, .slice A0_3 l0_3.length c0_3]] (by rfl) rfl rfl (by (try simp only [List.map_toArray, List.map_cons, List.map_nil]); first | done | rfl | (simp only [List.length_drop, List.length_take]; rfl)) ?_
    with_reducible refine (laws_toDrawing.calls k a0_0 a0_1 _ _ l0_2 _ _ l0_3 t363 t364 t365 t368 _ ?side1 ?side2 ?side3 ?side4 A28.out).mono ?_
    (case side1 => repeat (first | exact (Kd.C_below HR0_2.out HB.out) | (with_reducible refine Kd.C_alloc ?_ _) | (with_reducible refine Kd.C_drewN ?_ _) | (with_reducible refine Kd.C_drew ?_)))
    (case side2 => exact HC0_2.out)
    (case side3 => repeat (first | exact (Kd.C_below HR0_3.out HB.out) | (with_reducible refine Kd.C_alloc ?_ _) | (with_reducible refine Kd.C_drewN ?_ _) | (with_reducible refine Kd.C_drew ?_)))
    (case side4 => exact HC0_3.out)
    rintro e w48 ⟨v366, v369, rfl, ho0, ho1, hb⟩
    refine ⟨_, rfl, ?_⟩
    have n0_ := Aside0.mk (Kd.R_elder' (by (with_reducible repeat (first | apply Kd.R_alloc | apply Kd.R_drewN | apply Kd.R_drew)); exact HO348.out) (Kd.R_base ho0) hb)
    have n1_ := Aside0.mk (Kd.S_elder' (by (with_reducible repeat (first | apply Kd.S_alloc | apply Kd.S_drewN | apply Kd.S_drew)); exact HO351.out) (Kd.S_base ho1) hb)
    have n2_ := Aside0.mk (Kd.R_elder' (by (with_reducible repeat (first | apply Kd.R_alloc | apply Kd.R_drewN | apply Kd.R_drew)); exact HO357.out) (Kd.R_base ho0) hb)
    have n3_ := Aside0.mk (Kd.S_elder' (by (with_reducible repeat (first | apply Kd.S_alloc | apply Kd.S_drewN | apply Kd.S_drew)); exact HO360.out) (Kd.S_base ho1) hb)
    have n4_ := Aside0.mk (Kd.R_lower (Kd.R_new' (Kd.R_new' ho0 (Kd.R_lt (by (with_reducible repeat (first | apply Kd.R_alloc | apply Kd.R_drewN | apply Kd.R_drew)); exact HO348.out))) (Kd.R_lt (by (with_reducible repeat (first | apply Kd.R_alloc | apply Kd.R_drewN | apply Kd.R_drew)); exact HO357.out))) (below_size ib))
    have n5_ := Aside0.mk (Kd.S_lower (Kd.S_new' (Kd.S_new' ho1 (Kd.S_lt (by (with_reducible repeat (first | apply Kd.S_alloc | apply Kd.S_drewN | apply Kd.S_drew)); exact HO351.out))) (Kd.S_lt (by (with_reducible repeat (first | apply Kd.S_alloc | apply Kd.S_drewN | apply Kd.S_drew)); exact HO360.out))) (below_size ib))
    have n6_ := kb BK342 hb
    have n7_ := kb BK361 hb
    have n8_ := sb hb
    clear HO348
    clear HO351
    clear HO357
    clear HO360
    clear BK342
    clear BK361
    clear HB
    have HO348 := n0_
    have HO351 := n1_
    have HO357 := n2_
    have HO360 := n3_
    have HO367 := n4_
    have HO370 := n5_
    have BK342 := n6_
    have BK361 := n7_
    have HB := n8_
    clear n0_ n1_ n2_ n3_ n4_ n5_ n6_ n7_ n8_
    (try clear hb)
    (try clear hb2)
    (try clear hk)
    (try clear hi)
    (try clear ho0)
    (try clear ho1)
    obtain ⟨Ao49, co49, eo49⟩ := Kd.R_slice HO367.out
    (first | subst eo49 | (injection eo49 with f1_ f2_ f3_; have f4_ := f1_.symm; have f5_ := f3_.symm; clear f1_ f2_ f3_; subst f4_; subst f5_))
    obtain ⟨Ao50, co50, eo50⟩ := Kd.S_slice HO370.out
    (first | subst eo50 | (injection eo50 with f1_ f2_ f3_; have f4_ := f1_.symm; have f5_ := f3_.symm; clear f1_ f2_ f3_; subst f4_; subst f5_))
    refine hK.out _ _ ⟨(blk_cell BK361.out 0).trans rfl, (blk_cell BK361.out 1).trans rfl, (blk_cell BK361.out 2).trans rfl, (blk_cell BK361.out 3).trans rfl, (blk_cell BK342.out 0).trans rfl, (blk_cell BK342.out 1).trans rfl, (blk_cell BK342.out 2).trans rfl, (blk_cell BK342.out 3).trans rfl⟩ (fun hHeld => ?_)
    clear hK K
    refine norm_ (a' := ?_) ?_ ?_
    rotate_left
    ·show Act.put _ (some 24) _ = _
     simp only [Act.put, List.setIfInBounds_toArray, List.set_cons_zero, List.set_cons_succ, i64_w, i32_w]
     rfl
    refine one_ (i := 3) (N := some 25) #[tT,tT,tT,tT,fF] rfl rfl (by kernel_rfl) (by decide) (fun K hK => ?_)
    refine goes_ Try.func14 (by kernel_rfl) rfl #[.agg #[.int .i64 t353, .int .i64 t354, .slice Ao44 t355.length co44, .slice Ao45 t358.length co45], .agg #[.int .i64 t363, .int .i64 t364, .slice Ao49 t365.length co49, .slice Ao50 t368.length co50]] (by rfl) rfl rfl (by (try simp only [List.map_toArray, List.map_cons, List.map_nil]); first | done | rfl | (simp only [List.length_drop, List.length_take]; rfl)) ?_
    with_reducible refine (laws_eqDrawing.calls k t353 t354 _ _ t355 _ _ t358 t363 t364 _ _ t365 _ _ t368 true _ ?side1 ?side2 ?side3 ?side4 ?side5 ?side6 ?side7 ?side8 A29.out).mono ?_
    (case side1 => repeat (first | exact (Kd.R_reads' HO357.out).2.2 | (with_reducible refine Kd.C_alloc ?_ _) | (with_reducible refine Kd.C_drewN ?_ _) | (with_reducible refine Kd.C_drew ?_)))
    (case side2 => exact (Kd.R_reads' HO357.out).2.1)
    (case side3 => repeat (first | exact (Kd.S_reads' HO360.out).2.2 | (with_reducible refine Kd.C_alloc ?_ _) | (with_reducible refine Kd.C_drewN ?_ _) | (with_reducible refine Kd.C_drew ?_)))
    (case side4 => exact (Kd.S_reads' HO360.out).2.1)
    (case side5 => repeat (first | exact (Kd.R_reads' HO367.out).2.2 | (with_reducible refine Kd.C_alloc ?_ _) | (with_reducible refine Kd.C_drewN ?_ _) | (with_reducible refine Kd.C_drew ?_)))
    (case side6 => exact (Kd.R_reads' HO367.out).2.1)
    (case side7 => repeat (first | exact (Kd.S_reads' HO370.out).2.2 | (with_reducible refine Kd.C_alloc ?_ _) | (with_reducible refine Kd.C_drewN ?_ _) | (with_reducible refine Kd.C_drew ?_)))
    (case side8 => exact (Kd.S_reads' HO370.out).2.1)
    rintro e w51 ⟨rfl, hb⟩
    refine ⟨_, rfl, ?_⟩
    have n0_ := Aside0.mk (Kd.R_below (by (with_reducible repeat (first | apply Kd.R_alloc | apply Kd.R_drewN | apply Kd.R_drew)); exact HO348.out) hb)
    have n1_ := Aside0.mk (Kd.S_below (by (with_reducible repeat (first | apply Kd.S_alloc | apply Kd.S_drewN | apply Kd.S_drew)); exact HO351.out) hb)
    have n2_ := Aside0.mk (Kd.R_below (by (with_reducible repeat (first | apply Kd.R_alloc | apply Kd.R_drewN | apply Kd.R_drew)); exact HO357.out) hb)
    have n3_ := Aside0.mk (Kd.S_below (by (with_reducible repeat (first | apply Kd.S_alloc | apply Kd.S_drewN | apply Kd.S_drew)); exact HO360.out) hb)
    have n4_ := Aside0.mk (Kd.R_below (by (with_reducible repeat (first | apply Kd.R_alloc | apply Kd.R_drewN | apply Kd.R_drew)); exact HO367.out) hb)
    have n5_ := Aside0.mk (Kd.S_below (by (with_reducible repeat (first | apply Kd.S_alloc | apply Kd.S_drewN | apply Kd.S_drew)); exact HO370.out) hb)
    have n6_ := kb BK342 hb
    have n7_ := kb BK361 hb
    have n8_ := sb hb
    clear HO348
    clear HO351
    clear HO357
    clear HO360
    clear HO367
    clear HO370
    clear BK342
    clear BK361
    clear HB
    have HO348 := n0_
    have HO351 := n1_
    have HO357 := n2_
    have HO360 := n3_
    have HO367 := n4_
    have HO370 := n5_
    have BK342 := n6_
    have BK361 := n7_
    have HB := n8_
    clear n0_ n1_ n2_ n3_ n4_ n5_ n6_ n7_ n8_
    (try clear hb)
    (try clear hb2)
    (try clear hk)
    (try clear hi)
    refine hK.out _ _ ⟨(blk_cell BK361.out 0).trans rfl, (blk_cell BK361.out 1).trans rfl, (blk_cell BK361.out 2).trans rfl, (blk_cell BK361.out 3).trans rfl, (blk_cell BK342.out 0).trans rfl, (blk_cell BK342.out 1).trans rfl, (blk_cell BK342.out 2).trans rfl, (blk_cell BK342.out 3).trans rfl⟩ (fun hHeld => ?_)
    clear hK K
    refine norm_ (a' := ?_) ?_ ?_
    rotate_left
    ·show Act.put _ (some 25) _ = _
     simp only [Act.put, List.setIfInBounds_toArray, List.set_cons_zero, List.set_cons_succ, i64_w, i32_w]
     rfl
    refine pure_ (i := 4) (N := some 26) (v := ?_) (a' := ?_) #[tT,tT,tT,tT,tT] rfl rfl (by kernel_rfl) (fun _ _ _ h => h) (Or.inl ⟨by rfl, ?_⟩) ?_ ?_
    rotate_left
    ·intro w'
     go_simp
     with_reducible rfl
    rotate_left
    ·exact pa
    refine done_ (by kernel_rfl) ?_
    try go_wp2
    go_ret
    exact ⟨by first | rfl | (simp [errW_none, errW_some] <;> rfl) | (simp [*, errW_none, errW_some] <;> rfl), by repeat (first | (with_reducible first | exact HB.out | apply below_alloc | apply pw_below_drewN | apply below_drew1 | refine below_set ?_ GE342.out | refine below_set ?_ GE361.out) | exact HB.out)⟩
   ·replace c30 := Bool.eq_false_iff.mpr c30
    subst c30
    have H1 : (some false) = some true := by rw [if_neg (show ¬ (false = true) by decide)] at H; exact H
    clear H
    have H := H1
    clear H1
    cases H
end Go.Proofs.Ytlfifbalakgfeaa.PFnExactValidDrawing
