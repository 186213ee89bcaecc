/- Contracts of functions that FnExactSameDrawing reaches, out of the lines of the kit's print. -/
import Derived.Test.YtfhgfdphdmlpbaaQFnExactSameDrawingx0
import Derived.Test.YtfhgfdphdmlpbaaQFnExactSameDrawingx2
import Derived.Test.YtfhgfdphdmlpbaaQFnExactSameDrawingx3
import Derived.Test.YtfhgfdphdmlpbaaQFnExactSameDrawingx4
import Derived.Test.YtfhgfdphdmlpbaaQFnExactSameDrawingx5
namespace Go.Proofs.Ytfhgfdphdmlpbaa.PFnExactSameDrawing
open Go.RowKit Go.Proofs.YtfhgfdphdmlpbaaW.PrintWords Go.Proofs.YtfhgfdphdmlpbaaW.PrintLast Go.Proofs.YtfhgfdphdmlpbaaW.PrintMore
open Bool renaming true → tT, false → fF
open Go.World renaming block_lt_of_cell? → bL
attribute [local go_sem] max2_int min2_int max_two min_two max_three min_three max_four min_four
set_option linter.unusedVariables false
set_option linter.unusedSimpArgs false
def laws_FnExactSameDrawing.f (k : Nat) (a0_0 : Int) (a0_1 : Int) (l0_2 : List (S53)) (l0_3 : List (S78)) (a1_0 : Int) (a1_1 : Int) (l1_2 : List (S53)) (l1_3 : List (S78)) : Option (Bool) := (laws_szDrawing.f k a0_0 a0_1 l0_2 l0_3 1048576).bind fun t172 => (if t172 < 0 then (some true) else ((laws_szDrawing.f k a1_0 a1_1 l1_2 l1_3 t172).bind fun t173 => (if t173 < 0 then (some true) else ((laws_toDrawing.f k a0_0 a0_1 l0_2 l0_3).bind fun bt174 => ((laws_toDrawing.f k a1_0 a1_1 l1_2 l1_3).bind fun bt182 => ((spec_SameDrawing.f k bt174.1 bt174.2.1 bt174.2.2.1 bt174.2.2.2 bt182.1 bt182.2.1 bt182.2.2.1 bt182.2.2.2).bind fun t190 => ((laws_toDrawing.f k a0_0 a0_1 l0_2 l0_3).bind fun bt191 => ((laws_toDrawing.f k a1_0 a1_1 l1_2 l1_3).bind fun bt200 => ((impl_SameDrawing.f k bt191.1 bt191.2.1 bt191.2.2.1 bt191.2.2.2 bt200.1 bt200.2.1 bt200.2.2.1 bt200.2.2.2).bind fun t209 => (if (t209 != t190) = true then (some false) else ((laws_toDrawing.f k a0_0 a0_1 l0_2 l0_3).bind fun bt210 => ((laws_eqDrawing.f k bt191.1 bt191.2.1 bt191.2.2.1 bt191.2.2.2 bt210.1 bt210.2.1 bt210.2.2.1 bt210.2.2.2).bind fun t218 => (if t218 = true then ((laws_toDrawing.f k a1_0 a1_1 l1_2 l1_3).bind fun bt219 => ((laws_eqDrawing.f k bt200.1 bt200.2.1 bt200.2.2.1 bt200.2.2.2 bt219.1 bt219.2.1 bt219.2.2.1 bt219.2.2.2).bind fun t227 => (if t227 = true then (some true) else (some false)))) else (some false))))))))))))))
theorem laws_FnExactSameDrawing.mono : ∀ a0 a1 a2 a3 a4 a5 a6 a7 k, LeO (laws_FnExactSameDrawing.f k a0 a1 a2 a3 a4 a5 a6 a7) (laws_FnExactSameDrawing.f (k + 1) a0 a1 a2 a3 a4 a5 a6 a7) := by
 intro a0 a1 a2 a3 a4 a5 a6 a7 k
 unfold laws_FnExactSameDrawing.f
 repeat' first
   | (with_reducible exact impl_SameDrawing.mono _ _ _ _ _ _ _ _ _)
   | (with_reducible exact laws_eqDrawing.mono _ _ _ _ _ _ _ _ _)
   | (with_reducible exact laws_szDrawing.mono _ _ _ _ _ _)
   | (with_reducible exact laws_toDrawing.mono _ _ _ _ _)
   | (with_reducible exact spec_SameDrawing.mono _ _ _ _ _ _ _ _ _)
   | (with_reducible exact LeO.refl _)
   | (with_reducible exact LeO.none _)
   | (with_reducible refine LeO.ite ?_ ?_)
   | (with_reducible refine LeO.bind ?_ (fun _ => ?_))
   | exact impl_SameDrawing.mono _ _ _ _ _ _ _ _ _
   | exact laws_eqDrawing.mono _ _ _ _ _ _ _ _ _
   | exact laws_szDrawing.mono _ _ _ _ _ _
   | exact laws_toDrawing.mono _ _ _ _ _
   | exact spec_SameDrawing.mono _ _ _ _ _ _ _ _ _
   | exact LeO.none _
   | refine LeO.ite ?_ ?_
   | refine LeO.bind ?_ (fun _ => ?_)
set_option maxHeartbeats 8000000 in
set_option maxRecDepth 100000 in
theorem laws_FnExactSameDrawing.calls (k : Nat) (a0_0 : Int) (a0_1 : Int) (A0_2 : Option Addr) (c0_2 : Nat) (l0_2 : List (S53)) (A0_3 : Option Addr) (c0_3 : Nat) (l0_3 : List (S78)) (a1_0 : Int) (a1_1 : Int) (A1_2 : Option Addr) (c1_2 : Nat) (l1_2 : List (S53)) (A1_3 : Option Addr) (c1_3 : Nat) (l1_3 : List (S78)) (w : World) (hr0_2 : Kd.C k53 w A0_2 l0_2.length l0_2) (hc0_2 : l0_2.length ≤ c0_2) (hr0_3 : Kd.C k78 w A0_3 l0_3.length l0_3) (hc0_3 : l0_3.length ≤ c0_3) (hr1_2 : Kd.C k53 w A1_2 l1_2.length l1_2) (hc1_2 : l1_2.length ≤ c1_2) (hr1_3 : Kd.C k78 w A1_3 l1_3.length l1_3) (hc1_3 : l1_3.length ≤ c1_3) (h : laws_FnExactSameDrawing.f k a0_0 a0_1 l0_2 l0_3 a1_0 a1_1 l1_2 l1_3 = some true) :
  Calls Try.prog 5 #[.agg #[.int .i64 a0_0, .int .i64 a0_1, .slice A0_2 l0_2.length c0_2, .slice A0_3 l0_3.length c0_3], .agg #[.int .i64 a1_0, .int .i64 a1_1, .slice A1_2 l1_2.length c1_2, .slice A1_3 l1_3.length c1_3]] w fun e w' => e = .returned (.bool true) ∧ Below w.heap.size w w' := by
 have hu39 := Try.underlying39
 have hu44 := Try.underlying44
 have HR0_2 := Aside0.mk hr0_2
 have HC0_2 := Aside0.mk hc0_2
 clear hr0_2 hc0_2
 have HR0_3 := Aside0.mk hr0_3
 have HC0_3 := Aside0.mk hc0_3
 clear hr0_3 hc0_3
 have HR1_2 := Aside0.mk hr1_2
 have HC1_2 := Aside0.mk hc1_2
 clear hr1_2 hc1_2
 have HR1_3 := Aside0.mk hr1_3
 have HC1_3 := Aside0.mk hc1_3
 clear hr1_3 hc1_3
 have HB := Aside0.mk (Below.refl w.heap.size w)
 have H : ((laws_szDrawing.f k a0_0 a0_1 l0_2 l0_3 1048576).bind fun t172 => (if t172 < 0 then (some true) else ((laws_szDrawing.f k a1_0 a1_1 l1_2 l1_3 t172).bind fun t173 => (if t173 < 0 then (some true) else ((laws_toDrawing.f k a0_0 a0_1 l0_2 l0_3).bind fun bt174 => ((laws_toDrawing.f k a1_0 a1_1 l1_2 l1_3).bind fun bt182 => ((spec_SameDrawing.f k bt174.1 bt174.2.1 bt174.2.2.1 bt174.2.2.2 bt182.1 bt182.2.1 bt182.2.2.1 bt182.2.2.2).bind fun t190 => ((laws_toDrawing.f k a0_0 a0_1 l0_2 l0_3).bind fun bt191 => ((laws_toDrawing.f k a1_0 a1_1 l1_2 l1_3).bind fun bt200 => ((impl_SameDrawing.f k bt191.1 bt191.2.1 bt191.2.2.1 bt191.2.2.2 bt200.1 bt200.2.1 bt200.2.2.1 bt200.2.2.2).bind fun t209 => (if (t209 != t190) = true then (some false) else ((laws_toDrawing.f k a0_0 a0_1 l0_2 l0_3).bind fun bt210 => ((laws_eqDrawing.f k bt191.1 bt191.2.1 bt191.2.2.1 bt191.2.2.2 bt210.1 bt210.2.1 bt210.2.2.1 bt210.2.2.2).bind fun t218 => (if t218 = true then ((laws_toDrawing.f k a1_0 a1_1 l1_2 l1_3).bind fun bt219 => ((laws_eqDrawing.f k bt200.1 bt200.2.1 bt200.2.2.1 bt200.2.2.2 bt219.1 bt219.2.1 bt219.2.2.1 bt219.2.2.2).bind fun t227 => (if t227 = true then (some true) else (some false)))) else (some false))))))))))))))) = some true := h
 clear h
 replace H := Option.bind_eq_some_iff.mp H
 obtain ⟨t172, A30, H⟩ := H
 replace H : (if t172 < 0 then (some true) else ((laws_szDrawing.f k a1_0 a1_1 l1_2 l1_3 t172).bind fun t173 => (if t173 < 0 then (some true) else ((laws_toDrawing.f k a0_0 a0_1 l0_2 l0_3).bind fun bt174 => ((laws_toDrawing.f k a1_0 a1_1 l1_2 l1_3).bind fun bt182 => ((spec_SameDrawing.f k bt174.1 bt174.2.1 bt174.2.2.1 bt174.2.2.2 bt182.1 bt182.2.1 bt182.2.2.1 bt182.2.2.2).bind fun t190 => ((laws_toDrawing.f k a0_0 a0_1 l0_2 l0_3).bind fun bt191 => ((laws_toDrawing.f k a1_0 a1_1 l1_2 l1_3).bind fun bt200 => ((impl_SameDrawing.f k bt191.1 bt191.2.1 bt191.2.2.1 bt191.2.2.2 bt200.1 bt200.2.1 bt200.2.2.1 bt200.2.2.2).bind fun t209 => (if (t209 != t190) = true then (some false) else ((laws_toDrawing.f k a0_0 a0_1 l0_2 l0_3).bind fun bt210 => ((laws_eqDrawing.f k bt191.1 bt191.2.1 bt191.2.2.1 bt191.2.2.2 bt210.1 bt210.2.1 bt210.2.2.1 bt210.2.2.2).bind fun t218 => (if t218 = true then ((laws_toDrawing.f k a1_0 a1_1 l1_2 l1_3).bind fun bt219 => ((laws_eqDrawing.f k bt200.1 bt200.2.1 bt200.2.2.1 bt200.2.2.2 bt219.1 bt219.2.1 bt219.2.2.1 bt219.2.2.2).bind fun t227 => (if t227 = true then (some true) else (some false)))) else (some false)))))))))))))) = some true := H
 have A3 := Aside0.mk A30
 clear A30
 by_cases c4 : t172 < 0
 ·rw [if_pos c4] at H
  have c4b0 : decide (t172 < 0) = true := decide_eq_true c4
  clear c4
  clear H
  go_enter Try.func5, Try.ntmps5
  go_wp2_with (first | ((with_reducible refine gate_dst (N := 2) rfl ?_); refine bx (cs := #[.int .i64 a0_0, .int .i64 a0_1, .slice A0_2 l0_2.length c0_2, .slice A0_3 l0_3.length c0_3]) (t := 39) ?_; intro gb170 hg w5 hbox hb; have n0_ := sb hb; have n1_ := Aside0.mk (hbox); have n2_ := zb hg; have n3_ := zb hg; clear HB; have HB := n0_; have BK170 := n1_; have GW170 := n2_; have GE170 := n3_; clear n0_ n1_ n2_ n3_; clear hb hbox hg) | ((with_reducible refine gate_dst (N := 3) rfl ?_); refine bx (cs := #[.int .i64 a1_0, .int .i64 a1_1, .slice A1_2 l1_2.length c1_2, .slice A1_3 l1_3.length c1_3]) (t := 39) ?_; intro gb171 hg w6 hbox hb; have n0_ := kb BK170 hb; have n1_ := sb hb; have n2_ := Aside0.mk (hbox); have n3_ := zb hg; have n4_ := zb hg; have n5_ := nl BK170 hg; have n6_ := ng BK170 hg; clear BK170; clear HB; have BK170 := n0_; have HB := n1_; have BK171 := n2_; have GW171 := n3_; have GE171 := n4_; have NB170_171 := n5_; have NB171_170 := n6_; clear n0_ n1_ n2_ n3_ n4_ n5_ n6_; clear hb hbox hg; have hnb7 := NB170_171.out; have hnc7 := NB171_170.out; have hcz8_0 := ck BK170 0; have hcz8_1 := ck BK170 1; have hcz8_2 := ck BK170 2; have hcz8_3 := ck BK170 3; have hfz8_0 := blk_frozen BK170.out 0; have hfz8_1 := blk_frozen BK170.out 1; have hfz8_2 := blk_frozen BK170.out 2; have hfz8_3 := blk_frozen BK170.out 3) | ((with_reducible refine gate_callee (f := 18) rfl ?_); refine goesL_ (some 12) rfl rfl Try.func18 (by kernel_rfl) rfl #[.agg #[.int .i64 a0_0, .int .i64 a0_1, .slice A0_2 l0_2.length c0_2, .slice A0_3 l0_3.length c0_3], .int .i64 1048576] rfl (by (try simp only [List.map_toArray, List.map_cons, List.map_nil]); first | done | rfl | (simp only [List.length_drop, List.length_take]; rfl)) ?_; (with_reducible refine (laws_szDrawing.calls k a0_0 a0_1 _ _ l0_2 _ _ l0_3 1048576 t172 _ ?side1 ?side2 ?side3 ?side4 A3.out).mono ?_); (case side1 => repeat (first | exact (Kd.C_below HR0_2.out HB.out) | (with_reducible refine Kd.C_alloc ?_ _) | (with_reducible refine Kd.C_drewN ?_ _) | (with_reducible refine Kd.C_drew ?_))); (case side2 => exact HC0_2.out); (case side3 => repeat (first | exact (Kd.C_below HR0_3.out HB.out) | (with_reducible refine Kd.C_alloc ?_ _) | (with_reducible refine Kd.C_drewN ?_ _) | (with_reducible refine Kd.C_drew ?_))); (case side4 => exact HC0_3.out); rintro e w9 ⟨rfl, hb⟩; refine ⟨_, rfl, ?_⟩; have n0_ := kb BK170 hb; have n1_ := kb BK171 hb; have n2_ := sb hb; clear BK170; clear BK171; clear HB; have BK170 := n0_; have BK171 := n1_; have HB := n2_; clear n0_ n1_ n2_; (try clear hb); (try clear hb2); (try clear hk); (try clear hi)))
  go_ret
  exact ⟨by first | rfl | (simp [errW_none, errW_some] <;> rfl) | (simp [*, errW_none, errW_some] <;> rfl), by repeat (first | (with_reducible first | exact HB.out | apply below_alloc | apply pw_below_drewN | apply below_drew1 | refine below_set ?_ GE170.out | refine below_set ?_ GE171.out) | exact HB.out)⟩
 ·rw [if_neg c4] at H
  have c4b0 : decide (t172 < 0) = false := decide_eq_false c4
  clear c4
  replace H := Option.bind_eq_some_iff.mp H
  obtain ⟨t173, A100, H⟩ := H
  replace H : (if t173 < 0 then (some true) else ((laws_toDrawing.f k a0_0 a0_1 l0_2 l0_3).bind fun bt174 => ((laws_toDrawing.f k a1_0 a1_1 l1_2 l1_3).bind fun bt182 => ((spec_SameDrawing.f k bt174.1 bt174.2.1 bt174.2.2.1 bt174.2.2.2 bt182.1 bt182.2.1 bt182.2.2.1 bt182.2.2.2).bind fun t190 => ((laws_toDrawing.f k a0_0 a0_1 l0_2 l0_3).bind fun bt191 => ((laws_toDrawing.f k a1_0 a1_1 l1_2 l1_3).bind fun bt200 => ((impl_SameDrawing.f k bt191.1 bt191.2.1 bt191.2.2.1 bt191.2.2.2 bt200.1 bt200.2.1 bt200.2.2.1 bt200.2.2.2).bind fun t209 => (if (t209 != t190) = true then (some false) else ((laws_toDrawing.f k a0_0 a0_1 l0_2 l0_3).bind fun bt210 => ((laws_eqDrawing.f k bt191.1 bt191.2.1 bt191.2.2.1 bt191.2.2.2 bt210.1 bt210.2.1 bt210.2.2.1 bt210.2.2.2).bind fun t218 => (if t218 = true then ((laws_toDrawing.f k a1_0 a1_1 l1_2 l1_3).bind fun bt219 => ((laws_eqDrawing.f k bt200.1 bt200.2.1 bt200.2.2.1 bt200.2.2.2 bt219.1 bt219.2.1 bt219.2.2.1 bt219.2.2.2).bind fun t227 => (if t227 = true then (some true) else (some false)))) else (some false)))))))))))) = some true := H
  have A10 := Aside0.mk A100
  clear A100
  by_cases c11 : t173 < 0
  ·rw [if_pos c11] at H
   have c11b0 : decide (t173 < 0) = true := decide_eq_true c11
   clear c11
   clear H
   go_enter Try.func5, Try.ntmps5
   go_wp2_with (first | ((with_reducible refine gate_dst (N := 2) rfl ?_); refine bx (cs := #[.int .i64 a0_0, .int .i64 a0_1, .slice A0_2 l0_2.length c0_2, .slice A0_3 l0_3.length c0_3]) (t := 39) ?_; intro gb170 hg w12 hbox hb; have n0_ := sb hb; have n1_ := Aside0.mk (hbox); have n2_ := zb hg; have n3_ := zb hg; clear HB; have HB := n0_; have BK170 := n1_; have GW170 := n2_; have GE170 := n3_; clear n0_ n1_ n2_ n3_; clear hb hbox hg) | ((with_reducible refine gate_dst (N := 3) rfl ?_); refine bx (cs := #[.int .i64 a1_0, .int .i64 a1_1, .slice A1_2 l1_2.length c1_2, .slice A1_3 l1_3.length c1_3]) (t := 39) ?_; intro gb171 hg w13 hbox hb; have n0_ := kb BK170 hb; have n1_ := sb hb; have n2_ := Aside0.mk (hbox); have n3_ := zb hg; have n4_ := zb hg; have n5_ := nl BK170 hg; have n6_ := ng BK170 hg; clear BK170; clear HB; have BK170 := n0_; have HB := n1_; have BK171 := n2_; have GW171 := n3_; have GE171 := n4_; have NB170_171 := n5_; have NB171_170 := n6_; clear n0_ n1_ n2_ n3_ n4_ n5_ n6_; clear hb hbox hg; have hnb14 := NB170_171.out; have hnc14 := NB171_170.out; have hcz15_0 := ck BK170 0; have hcz15_1 := ck BK170 1; have hcz15_2 := ck BK170 2; have hcz15_3 := ck BK170 3; have hfz15_0 := blk_frozen BK170.out 0; have hfz15_1 := blk_frozen BK170.out 1; have hfz15_2 := blk_frozen BK170.out 2; have hfz15_3 := blk_frozen BK170.out 3) | ((with_reducible refine gate_callee (f := 18) rfl ?_); refine goesL_ (some 12) rfl rfl Try.func18 (by kernel_rfl) rfl #[.agg #[.int .i64 a0_0, .int .i64 a0_1, .slice A0_2 l0_2.length c0_2, .slice A0_3 l0_3.length c0_3], .int .i64 1048576] rfl (by (try simp only [List.map_toArray, List.map_cons, List.map_nil]); first | done | rfl | (simp only [List.length_drop, List.length_take]; rfl)) ?_; (with_reducible refine (laws_szDrawing.calls k a0_0 a0_1 _ _ l0_2 _ _ l0_3 1048576 t172 _ ?side1 ?side2 ?side3 ?side4 A3.out).mono ?_); (case side1 => repeat (first | exact (Kd.C_below HR0_2.out HB.out) | (with_reducible refine Kd.C_alloc ?_ _) | (with_reducible refine Kd.C_drewN ?_ _) | (with_reducible refine Kd.C_drew ?_))); (case side2 => exact HC0_2.out); (case side3 => repeat (first | exact (Kd.C_below HR0_3.out HB.out) | (with_reducible refine Kd.C_alloc ?_ _) | (with_reducible refine Kd.C_drewN ?_ _) | (with_reducible refine Kd.C_drew ?_))); (case side4 => exact HC0_3.out); rintro e w16 ⟨rfl, hb⟩; refine ⟨_, rfl, ?_⟩; have n0_ := kb BK170 hb; have n1_ := kb BK171 hb; have n2_ := sb hb; clear BK170; clear BK171; clear HB; have BK170 := n0_; have BK171 := n1_; have HB := n2_; clear n0_ n1_ n2_; (try clear hb); (try clear hb2); (try clear hk); (try clear hi); have hcz17_0 := ck BK171 0; have hcz17_1 := ck BK171 1; have hcz17_2 := ck BK171 2; have hcz17_3 := ck BK171 3; have hfz17_0 := blk_frozen BK171.out 0; have hfz17_1 := blk_frozen BK171.out 1; have hfz17_2 := blk_frozen BK171.out 2; have hfz17_3 := blk_frozen BK171.out 3) | ((with_reducible refine gate_callee (f := 18) rfl ?_); refine goesL_ (some 17) rfl rfl Try.func18 (by kernel_rfl) rfl #[.agg #[.int .i64 a1_0, .int .i64 a1_1, .slice A1_2 l1_2.length c1_2, .slice A1_3 l1_3.length c1_3], .int .i64 t172] rfl (by (try simp only [List.map_toArray, List.map_cons, List.map_nil]); first | done | rfl | (simp only [List.length_drop, List.length_take]; rfl)) ?_; (with_reducible refine (laws_szDrawing.calls k a1_0 a1_1 _ _ l1_2 _ _ l1_3 t172 t173 _ ?side1 ?side2 ?side3 ?side4 A10.out).mono ?_); (case side1 => repeat (first | exact (Kd.C_below HR1_2.out HB.out) | (with_reducible refine Kd.C_alloc ?_ _) | (with_reducible refine Kd.C_drewN ?_ _) | (with_reducible refine Kd.C_drew ?_))); (case side2 => exact HC1_2.out); (case side3 => repeat (first | exact (Kd.C_below HR1_3.out HB.out) | (with_reducible refine Kd.C_alloc ?_ _) | (with_reducible refine Kd.C_drewN ?_ _) | (with_reducible refine Kd.C_drew ?_))); (case side4 => exact HC1_3.out); rintro e w18 ⟨rfl, hb⟩; refine ⟨_, rfl, ?_⟩; have n0_ := kb BK170 hb; have n1_ := kb BK171 hb; have n2_ := sb hb; clear BK170; clear BK171; clear HB; have BK170 := n0_; have BK171 := n1_; have HB := n2_; clear n0_ n1_ n2_; (try clear hb); (try clear hb2); (try clear hk); (try clear hi)))
   go_ret
   exact ⟨by first | rfl | (simp [errW_none, errW_some] <;> rfl) | (simp [*, errW_none, errW_some] <;> rfl), by repeat (first | (with_reducible first | exact HB.out | apply below_alloc | apply pw_below_drewN | apply below_drew1 | refine below_set ?_ GE170.out | refine below_set ?_ GE171.out) | exact HB.out)⟩
  ·rw [if_neg c11] at H
   have c11b0 : decide (t173 < 0) = false := decide_eq_false c11
   clear c11
   replace H := Option.bind_eq_some_iff.mp H
   obtain ⟨⟨t174, t175, t176, t179⟩, A190, H⟩ := H
   replace H : ((laws_toDrawing.f k a1_0 a1_1 l1_2 l1_3).bind fun bt182 => ((spec_SameDrawing.f k t174 t175 t176 t179 bt182.1 bt182.2.1 bt182.2.2.1 bt182.2.2.2).bind fun t190 => ((laws_toDrawing.f k a0_0 a0_1 l0_2 l0_3).bind fun bt191 => ((laws_toDrawing.f k a1_0 a1_1 l1_2 l1_3).bind fun bt200 => ((impl_SameDrawing.f k bt191.1 bt191.2.1 bt191.2.2.1 bt191.2.2.2 bt200.1 bt200.2.1 bt200.2.2.1 bt200.2.2.2).bind fun t209 => (if (t209 != t190) = true then (some false) else ((laws_toDrawing.f k a0_0 a0_1 l0_2 l0_3).bind fun bt210 => ((laws_eqDrawing.f k bt191.1 bt191.2.1 bt191.2.2.1 bt191.2.2.2 bt210.1 bt210.2.1 bt210.2.2.1 bt210.2.2.2).bind fun t218 => (if t218 = true then ((laws_toDrawing.f k a1_0 a1_1 l1_2 l1_3).bind fun bt219 => ((laws_eqDrawing.f k bt200.1 bt200.2.1 bt200.2.2.1 bt200.2.2.2 bt219.1 bt219.2.1 bt219.2.2.1 bt219.2.2.2).bind fun t227 => (if t227 = true then (some true) else (some false)))) else (some false)))))))))) = some true := H
   have A19 := Aside0.mk A190
   clear A190
   replace H := Option.bind_eq_some_iff.mp H
   obtain ⟨⟨t182, t183, t184, t187⟩, A200, H⟩ := H
   replace H : ((spec_SameDrawing.f k t174 t175 t176 t179 t182 t183 t184 t187).bind fun t190 => ((laws_toDrawing.f k a0_0 a0_1 l0_2 l0_3).bind fun bt191 => ((laws_toDrawing.f k a1_0 a1_1 l1_2 l1_3).bind fun bt200 => ((impl_SameDrawing.f k bt191.1 bt191.2.1 bt191.2.2.1 bt191.2.2.2 bt200.1 bt200.2.1 bt200.2.2.1 bt200.2.2.2).bind fun t209 => (if (t209 != t190) = true then (some false) else ((laws_toDrawing.f k a0_0 a0_1 l0_2 l0_3).bind fun bt210 => ((laws_eqDrawing.f k bt191.1 bt191.2.1 bt191.2.2.1 bt191.2.2.2 bt210.1 bt210.2.1 bt210.2.2.1 bt210.2.2.2).bind fun t218 => (if t218 = true then ((laws_toDrawing.f k a1_0 a1_1 l1_2 l1_3).bind fun bt219 => ((laws_eqDrawing.f k bt200.1 bt200.2.1 bt200.2.2.1 bt200.2.2.2 bt219.1 bt219.2.1 bt219.2.2.1 bt219.2.2.2).bind fun t227 => (if t227 = true then (some true) else (some false)))) else (some false))))))))) = some true := H
   have A20 := Aside0.mk A200
   clear A200
   replace H := Option.bind_eq_some_iff.mp H
   obtain ⟨t190, A210, H⟩ := H
   replace H : ((laws_toDrawing.f k a0_0 a0_1 l0_2 l0_3).bind fun bt191 => ((laws_toDrawing.f k a1_0 a1_1 l1_2 l1_3).bind fun bt200 => ((impl_SameDrawing.f k bt191.1 bt191.2.1 bt191.2.2.1 bt191.2.2.2 bt200.1 bt200.2.1 bt200.2.2.1 bt200.2.2.2).bind fun t209 => (if (t209 != t190) = true then (some false) else ((laws_toDrawing.f k a0_0 a0_1 l0_2 l0_3).bind fun bt210 => ((laws_eqDrawing.f k bt191.1 bt191.2.1 bt191.2.2.1 bt191.2.2.2 bt210.1 bt210.2.1 bt210.2.2.1 bt210.2.2.2).bind fun t218 => (if t218 = true then ((laws_toDrawing.f k a1_0 a1_1 l1_2 l1_3).bind fun bt219 => ((laws_eqDrawing.f k bt200.1 bt200.2.1 bt200.2.2.1 bt200.2.2.2 bt219.1 bt219.2.1 bt219.2.2.1 bt219.2.2.2).bind fun t227 => (if t227 = true then (some true) else (some false)))) else (some false)))))))) = some true := H
   have A21 := Aside0.mk A210
   clear A210
   replace H := Option.bind_eq_some_iff.mp H
   obtain ⟨⟨t191, t192, t193, t196⟩, A220, H⟩ := H
   replace H : ((laws_toDrawing.f k a1_0 a1_1 l1_2 l1_3).bind fun bt200 => ((impl_SameDrawing.f k t191 t192 t193 t196 bt200.1 bt200.2.1 bt200.2.2.1 bt200.2.2.2).bind fun t209 => (if (t209 != t190) = true then (some false) else ((laws_toDrawing.f k a0_0 a0_1 l0_2 l0_3).bind fun bt210 => ((laws_eqDrawing.f k t191 t192 t193 t196 bt210.1 bt210.2.1 bt210.2.2.1 bt210.2.2.2).bind fun t218 => (if t218 = true then ((laws_toDrawing.f k a1_0 a1_1 l1_2 l1_3).bind fun bt219 => ((laws_eqDrawing.f k bt200.1 bt200.2.1 bt200.2.2.1 bt200.2.2.2 bt219.1 bt219.2.1 bt219.2.2.1 bt219.2.2.2).bind fun t227 => (if t227 = true then (some true) else (some false)))) else (some false))))))) = some true := H
   have A22 := Aside0.mk A220
   clear A220
   replace H := Option.bind_eq_some_iff.mp H
   obtain ⟨⟨t200, t201, t202, t205⟩, A230, H⟩ := H
   replace H : ((impl_SameDrawing.f k t191 t192 t193 t196 t200 t201 t202 t205).bind fun t209 => (if (t209 != t190) = true then (some false) else ((laws_toDrawing.f k a0_0 a0_1 l0_2 l0_3).bind fun bt210 => ((laws_eqDrawing.f k t191 t192 t193 t196 bt210.1 bt210.2.1 bt210.2.2.1 bt210.2.2.2).bind fun t218 => (if t218 = true then ((laws_toDrawing.f k a1_0 a1_1 l1_2 l1_3).bind fun bt219 => ((laws_eqDrawing.f k t200 t201 t202 t205 bt219.1 bt219.2.1 bt219.2.2.1 bt219.2.2.2).bind fun t227 => (if t227 = true then (some true) else (some false)))) else (some false)))))) = some true := H
   have A23 := Aside0.mk A230
   clear A230
   replace H := Option.bind_eq_some_iff.mp H
   obtain ⟨t209, A240, H⟩ := H
   replace H : (if (t209 != t190) = true then (some false) else ((laws_toDrawing.f k a0_0 a0_1 l0_2 l0_3).bind fun bt210 => ((laws_eqDrawing.f k t191 t192 t193 t196 bt210.1 bt210.2.1 bt210.2.2.1 bt210.2.2.2).bind fun t218 => (if t218 = true then ((laws_toDrawing.f k a1_0 a1_1 l1_2 l1_3).bind fun bt219 => ((laws_eqDrawing.f k t200 t201 t202 t205 bt219.1 bt219.2.1 bt219.2.2.1 bt219.2.2.2).bind fun t227 => (if t227 = true then (some true) else (some false)))) else (some false))))) = some true := H
   have A24 := Aside0.mk A240
   clear A240
   by_cases c25 : (t209 != t190) = true
   ·rw [if_pos c25] at H
    have c25b0 : (t209 != t190) = true := c25
    (try (have c25b1 : decide (t209 = t190) = false := by simpa using c25))
    (try (have c25b2 : (t209 == t190) = false := by simpa using c25))
    (try (have c25b3 : ¬ (t209 = t190) := by simpa using c25))
    clear c25
    cases H
   ·rw [if_neg c25] at H
    have c25b0 : (t209 != t190) = false := by simpa using c25
    (try (have c25b1 : decide (t209 = t190) = true := by simpa using c25))
    (try (have c25b2 : (t209 == t190) = true := by simpa using c25))
    clear c25
    replace H := Option.bind_eq_some_iff.mp H
    obtain ⟨⟨t210, t211, t212, t215⟩, A600, H⟩ := H
    replace H : ((laws_eqDrawing.f k t191 t192 t193 t196 t210 t211 t212 t215).bind fun t218 => (if t218 = true then ((laws_toDrawing.f k a1_0 a1_1 l1_2 l1_3).bind fun bt219 => ((laws_eqDrawing.f k t200 t201 t202 t205 bt219.1 bt219.2.1 bt219.2.2.1 bt219.2.2.2).bind fun t227 => (if t227 = true then (some true) else (some false)))) else (some false))) = some true := H
    have A60 := Aside0.mk A600
    clear A600
    replace H := Option.bind_eq_some_iff.mp H
    obtain ⟨t218, A610, H⟩ := H
    replace H : (if t218 = true then ((laws_toDrawing.f k a1_0 a1_1 l1_2 l1_3).bind fun bt219 => ((laws_eqDrawing.f k t200 t201 t202 t205 bt219.1 bt219.2.1 bt219.2.2.1 bt219.2.2.2).bind fun t227 => (if t227 = true then (some true) else (some false)))) else (some false)) = some true := H
    have A61 := Aside0.mk A610
    clear A610
    by_cases c62 : t218 = true
    ·subst c62
     have H1 : ((laws_toDrawing.f k a1_0 a1_1 l1_2 l1_3).bind fun bt219 => ((laws_eqDrawing.f k t200 t201 t202 t205 bt219.1 bt219.2.1 bt219.2.2.1 bt219.2.2.2).bind fun t227 => (if t227 = true then (some true) else (some false)))) = some true := by rw [if_pos rfl] at H; exact H
     clear H
     have H := H1
     clear H1
     replace H := Option.bind_eq_some_iff.mp H
     obtain ⟨⟨t219, t220, t221, t224⟩, A630, H⟩ := H
     replace H : ((laws_eqDrawing.f k t200 t201 t202 t205 t219 t220 t221 t224).bind fun t227 => (if t227 = true then (some true) else (some false))) = some true := H
     have A63 := Aside0.mk A630
     clear A630
     replace H := Option.bind_eq_some_iff.mp H
     obtain ⟨t227, A640, H⟩ := H
     replace H : (if t227 = true then (some true) else (some false)) = some true := H
     have A64 := Aside0.mk A640
     clear A640
     by_cases c65 : t227 = true
     ·subst c65
      have H1 : (some true) = some true := rfl
      clear H
      have H := H1
      clear H1
      clear H
      go_enter Try.func5, Try.ntmps5
      try go_wp2_with (first | ((with_reducible refine gate_dst (N := 2) rfl ?_); refine bx (cs := #[.int .i64 a0_0, .int .i64 a0_1, .slice A0_2 l0_2.length c0_2, .slice A0_3 l0_3.length c0_3]) (t := 39) ?_; intro gb170 hg w66 hbox hb; have n0_ := sb hb; have n1_ := Aside0.mk (hbox); have n2_ := zb hg; have n3_ := zb hg; clear HB; have HB := n0_; have BK170 := n1_; have GW170 := n2_; have GE170 := n3_; clear n0_ n1_ n2_ n3_; clear hb hbox hg) | ((with_reducible refine gate_dst (N := 3) rfl ?_); refine bx (cs := #[.int .i64 a1_0, .int .i64 a1_1, .slice A1_2 l1_2.length c1_2, .slice A1_3 l1_3.length c1_3]) (t := 39) ?_; intro gb171 hg w67 hbox hb; have n0_ := kb BK170 hb; have n1_ := sb hb; have n2_ := Aside0.mk (hbox); have n3_ := zb hg; have n4_ := zb hg; have n5_ := nl BK170 hg; have n6_ := ng BK170 hg; clear BK170; clear HB; have BK170 := n0_; have HB := n1_; have BK171 := n2_; have GW171 := n3_; have GE171 := n4_; have NB170_171 := n5_; have NB171_170 := n6_; clear n0_ n1_ n2_ n3_ n4_ n5_ n6_; clear hb hbox hg; have hnb68 := NB170_171.out; have hnc68 := NB171_170.out; have hcz69_0 := ck BK170 0; have hcz69_1 := ck BK170 1; have hcz69_2 := ck BK170 2; have hcz69_3 := ck BK170 3; have hfz69_0 := blk_frozen BK170.out 0; have hfz69_1 := blk_frozen BK170.out 1; have hfz69_2 := blk_frozen BK170.out 2; have hfz69_3 := blk_frozen BK170.out 3) | ((with_reducible refine gate_callee (f := 18) rfl ?_); refine goesL_ (some 12) rfl rfl Try.func18 (by kernel_rfl) rfl #[.agg #[.int .i64 a0_0, .int .i64 a0_1, .slice A0_2 l0_2.length c0_2, .slice A0_3 l0_3.length c0_3], .int .i64 1048576] rfl (by (try simp only [List.map_toArray, List.map_cons, List.map_nil]); first | done | rfl | (simp only [List.length_drop, List.length_take]; rfl)) ?_; (with_reducible refine (laws_szDrawing.calls k a0_0 a0_1 _ _ l0_2 _ _ l0_3 1048576 t172 _ ?side1 ?side2 ?side3 ?side4 A3.out).mono ?_); (case side1 => repeat (first | exact (Kd.C_below HR0_2.out HB.out) | (with_reducible refine Kd.C_alloc ?_ _) | (with_reducible refine Kd.C_drewN ?_ _) | (with_reducible refine Kd.C_drew ?_))); (case side2 => exact HC0_2.out); (case side3 => repeat (first | exact (Kd.C_below HR0_3.out HB.out) | (with_reducible refine Kd.C_alloc ?_ _) | (with_reducible refine Kd.C_drewN ?_ _) | (with_reducible refine Kd.C_drew ?_))); (case side4 => exact HC0_3.out); rintro e w70 ⟨rfl, hb⟩; refine ⟨_, rfl, ?_⟩; have n0_ := kb BK170 hb; have n1_ := kb BK171 hb; have n2_ := sb hb; clear BK170; clear BK171; clear HB; have BK170 := n0_; have BK171 := n1_; have HB := n2_; clear n0_ n1_ n2_; (try clear hb); (try clear hb2); (try clear hk); (try clear hi); have hcz71_0 := ck BK171 0; have hcz71_1 := ck BK171 1; have hcz71_2 := ck BK171 2; have hcz71_3 := ck BK171 3; have hfz71_0 := blk_frozen BK171.out 0; have hfz71_1 := blk_frozen BK171.out 1; have hfz71_2 := blk_frozen BK171.out 2; have hfz71_3 := blk_frozen BK171.out 3) | ((with_reducible refine gate_callee (f := 18) rfl ?_); refine goesL_ (some 17) rfl rfl Try.func18 (by kernel_rfl) rfl #[.agg #[.int .i64 a1_0, .int .i64 a1_1, .slice A1_2 l1_2.length c1_2, .slice A1_3 l1_3.length c1_3], .int .i64 t172] rfl (by (try simp only [List.map_toArray, List.map_cons, List.map_nil]); first | done | rfl | (simp only [List.length_drop, List.length_take]; rfl)) ?_; (with_reducible refine (laws_szDrawing.calls k a1_0 a1_1 _ _ l1_2 _ _ l1_3 t172 t173 _ ?side1 ?side2 ?side3 ?side4 A10.out).mono ?_); (case side1 => repeat (first | exact (Kd.C_below HR1_2.out HB.out) | (with_reducible refine Kd.C_alloc ?_ _) | (with_reducible refine Kd.C_drewN ?_ _) | (with_reducible refine Kd.C_drew ?_))); (case side2 => exact HC1_2.out); (case side3 => repeat (first | exact (Kd.C_below HR1_3.out HB.out) | (with_reducible refine Kd.C_alloc ?_ _) | (with_reducible refine Kd.C_drewN ?_ _) | (with_reducible refine Kd.C_drew ?_))); (case side4 => exact HC1_3.out); rintro e w72 ⟨rfl, hb⟩; refine ⟨_, rfl, ?_⟩; have n0_ := kb BK170 hb; have n1_ := kb BK171 hb; have n2_ := sb hb; clear BK170; clear BK171; clear HB; have BK170 := n0_; have BK171 := n1_; have HB := n2_; clear n0_ n1_ n2_; (try clear hb); (try clear hb2); (try clear hk); (try clear hi)))
      have n0_ := Aside0.mk (blk_drew BK170.out)
      have n1_ := Aside0.mk (blk_drew BK171.out)
      have n2_ := Aside0.mk (below_drew1 HB.out)
      clear BK170
      clear BK171
      clear HB
      have BK170 := n0_
      have BK171 := n1_
      have HB := n2_
      clear n0_ n1_ n2_
      refine start_ (n := 6) (S := fun w' => w'.cell? ⟨gb170, 0, none⟩ = some (.int .i64 a0_0) ∧ w'.cell? ⟨gb170, 1, none⟩ = some (.int .i64 a0_1) ∧ w'.cell? ⟨gb170, 2, none⟩ = some (.slice A0_2 l0_2.length c0_2) ∧ w'.cell? ⟨gb170, 3, none⟩ = some (.slice A0_3 l0_3.length c0_3) ∧ w'.cell? ⟨gb171, 0, none⟩ = some (.int .i64 a1_0) ∧ w'.cell? ⟨gb171, 1, none⟩ = some (.int .i64 a1_1) ∧ w'.cell? ⟨gb171, 2, none⟩ = some (.slice A1_2 l1_2.length c1_2) ∧ w'.cell? ⟨gb171, 3, none⟩ = some (.slice A1_3 l1_3.length c1_3)) (ds := []) #[fF,fF,fF,fF,fF,fF] (by kernel_rfl) rfl rfl ⟨(blk_cell BK170.out 0).trans rfl, (blk_cell BK170.out 1).trans rfl, (blk_cell BK170.out 2).trans rfl, (blk_cell BK170.out 3).trans rfl, (blk_cell BK171.out 0).trans rfl, (blk_cell BK171.out 1).trans rfl, (blk_cell BK171.out 2).trans rfl, (blk_cell BK171.out 3).trans rfl⟩ (fun hHeld => ?_)
      generalize w72.drew = w73 at BK170 BK171 HB hHeld ⊢
      refine take_ (i := 0) (N := some 20) (v := ?_) (a' := ?_) #[tT,fF,fF,fF,fF,fF] rfl rfl (by kernel_rfl) (fun _ _ _ h => h) (Or.inl ⟨by rfl, ?_⟩) hHeld ?_ ?_
      rotate_left
      ·rintro w' ⟨s0, s1, s2, s3, s4, s5, s6, s7⟩
       go_simp
       with_reducible rfl
      rotate_left
      ·exact pa
      refine take_ (i := 2) (N := some 22) (v := ?_) (a' := ?_) #[tT,fF,tT,fF,fF,fF] rfl rfl (by kernel_rfl) (fun _ _ _ h => h) (Or.inl ⟨by rfl, ?_⟩) hHeld ?_ ?_
      rotate_left
      ·rintro w' ⟨s0, s1, s2, s3, s4, s5, s6, s7⟩
       go_simp
       with_reducible rfl
      rotate_left
      ·exact pa
      refine one_ (i := 1) (N := some 21) #[tT,tT,tT,fF,fF,fF] rfl rfl (by kernel_rfl) (by decide) (fun K hK => ?_)
      refine goes_ Try.func20 (by kernel_rfl) rfl #[.agg #[.int .i64 a0_0, .int .i64 a0_1, .slice A0_2 l0_2.length c0_2, .slice A0_3 l0_3.length c0_3]] (by rfl) rfl rfl (by (try simp only [List.map_toArray, List.map_cons, List.map_nil]); first | done | rfl | (simp only [List.length_drop, List.length_take]; rfl)) ?_
      with_reducible refine (laws_toDrawing.calls k a0_0 a0_1 _ _ l0_2 _ _ l0_3 t174 t175 t176 t179 _ ?side1 ?side2 ?side3 ?side4 A19.out).mono ?_
      (case side1 => repeat (first | exact (Kd.C_below HR0_2.out HB.out) | (with_reducible refine Kd.C_alloc ?_ _) | (with_reducible refine Kd.C_drewN ?_ _) | (with_reducible refine Kd.C_drew ?_)))
      (case side2 => exact HC0_2.out)
      (case side3 => repeat (first | exact (Kd.C_below HR0_3.out HB.out) | (with_reducible refine Kd.C_alloc ?_ _) | (with_reducible refine Kd.C_drewN ?_ _) | (with_reducible refine Kd.C_drew ?_)))
      (case side4 => exact HC0_3.out)
      rintro e w74 ⟨v177, v180, rfl, ho0, ho1, hb⟩
      refine ⟨_, rfl, ?_⟩
      have n0_ := Aside0.mk (Kd.R_lower ho0 (below_size ib))
      have n1_ := Aside0.mk (Kd.S_lower ho1 (below_size ib))
      have n2_ := kb BK170 hb
      have n3_ := kb BK171 hb
      have n4_ := sb hb
      clear BK170
      clear BK171
      clear HB
      have HO178 := n0_
      have HO181 := n1_
      have BK170 := n2_
      have BK171 := n3_
      have HB := n4_
      clear n0_ n1_ n2_ n3_ n4_
      (try clear hb)
      (try clear hb2)
      (try clear hk)
      (try clear hi)
      (try clear ho0)
      (try clear ho1)
      refine hK.out _ _ ⟨(blk_cell BK170.out 0).trans rfl, (blk_cell BK170.out 1).trans rfl, (blk_cell BK170.out 2).trans rfl, (blk_cell BK170.out 3).trans rfl, (blk_cell BK171.out 0).trans rfl, (blk_cell BK171.out 1).trans rfl, (blk_cell BK171.out 2).trans rfl, (blk_cell BK171.out 3).trans rfl⟩ (fun hHeld => ?_)
      clear hK K
      refine norm_ (a' := ?_) ?_ ?_
      rotate_left
      ·show Act.put _ (some 21) _ = _
       simp only [Act.put, List.setIfInBounds_toArray, List.set_cons_zero, List.set_cons_succ, i64_w, i32_w]
       rfl
      refine one_ (i := 3) (N := some 23) #[tT,tT,tT,tT,fF,fF] rfl rfl (by kernel_rfl) (by decide) (fun K hK => ?_)
      refine goes_ Try.func20 (by kernel_rfl) rfl #[.agg #[.int .i64 a1_0, .int .i64 a1_1, .slice A1_2 l1_2.length c1_2, .slice A1_3 l1_3.length c1_3]] (by rfl) rfl rfl (by (try simp only [List.map_toArray, List.map_cons, List.map_nil]); first | done | rfl | (simp only [List.length_drop, List.length_take]; rfl)) ?_
      with_reducible refine (laws_toDrawing.calls k a1_0 a1_1 _ _ l1_2 _ _ l1_3 t182 t183 t184 t187 _ ?side1 ?side2 ?side3 ?side4 A20.out).mono ?_
      (case side1 => repeat (first | exact (Kd.C_below HR1_2.out HB.out) | (with_reducible refine Kd.C_alloc ?_ _) | (with_reducible refine Kd.C_drewN ?_ _) | (with_reducible refine Kd.C_drew ?_)))
      (case side2 => exact HC1_2.out)
      (case side3 => repeat (first | exact (Kd.C_below HR1_3.out HB.out) | (with_reducible refine Kd.C_alloc ?_ _) | (with_reducible refine Kd.C_drewN ?_ _) | (with_reducible refine Kd.C_drew ?_)))
      (case side4 => exact HC1_3.out)
      rintro e w75 ⟨v185, v188, rfl, ho0, ho1, hb⟩
      refine ⟨_, rfl, ?_⟩
      have n0_ := Aside0.mk (Kd.R_elder' (by (with_reducible repeat (first | apply Kd.R_alloc | apply Kd.R_drewN | apply Kd.R_drew)); exact HO178.out) (Kd.R_base ho0) hb)
      have n1_ := Aside0.mk (Kd.S_elder' (by (with_reducible repeat (first | apply Kd.S_alloc | apply Kd.S_drewN | apply Kd.S_drew)); exact HO181.out) (Kd.S_base ho1) hb)
      have n2_ := Aside0.mk (Kd.R_lower (Kd.R_new' ho0 (Kd.R_lt (by (with_reducible repeat (first | apply Kd.R_alloc | apply Kd.R_drewN | apply Kd.R_drew)); exact HO178.out))) (below_size ib))
      have n3_ := Aside0.mk (Kd.S_lower (Kd.S_new' ho1 (Kd.S_lt (by (with_reducible repeat (first | apply Kd.S_alloc | apply Kd.S_drewN | apply Kd.S_drew)); exact HO181.out))) (below_size ib))
      have n4_ := kb BK170 hb
      have n5_ := kb BK171 hb
      have n6_ := sb hb
      clear HO178
      clear HO181
      clear BK170
      clear BK171
      clear HB
      have HO178 := n0_
      have HO181 := n1_
      have HO186 := n2_
      have HO189 := n3_
      have BK170 := n4_
      have BK171 := n5_
      have HB := n6_
      clear n0_ n1_ n2_ n3_ n4_ n5_ n6_
      (try clear hb)
      (try clear hb2)
      (try clear hk)
      (try clear hi)
      (try clear ho0)
      (try clear ho1)
      obtain ⟨Ao76, co76, eo76⟩ := Kd.R_slice HO178.out
      (first | subst eo76 | (injection eo76 with f1_ f2_ f3_; have f4_ := f1_.symm; have f5_ := f3_.symm; clear f1_ f2_ f3_; subst f4_; subst f5_))
      obtain ⟨Ao77, co77, eo77⟩ := Kd.S_slice HO181.out
      (first | subst eo77 | (injection eo77 with f1_ f2_ f3_; have f4_ := f1_.symm; have f5_ := f3_.symm; clear f1_ f2_ f3_; subst f4_; subst f5_))
      obtain ⟨Ao78, co78, eo78⟩ := Kd.R_slice HO186.out
      (first | subst eo78 | (injection eo78 with f1_ f2_ f3_; have f4_ := f1_.symm; have f5_ := f3_.symm; clear f1_ f2_ f3_; subst f4_; subst f5_))
      obtain ⟨Ao79, co79, eo79⟩ := Kd.S_slice HO189.out
      (first | subst eo79 | (injection eo79 with f1_ f2_ f3_; have f4_ := f1_.symm; have f5_ := f3_.symm; clear f1_ f2_ f3_; subst f4_; subst f5_))
      refine hK.out _ _ ⟨(blk_cell BK170.out 0).trans rfl, (blk_cell BK170.out 1).trans rfl, (blk_cell BK170.out 2).trans rfl, (blk_cell BK170.out 3).trans rfl, (blk_cell BK171.out 0).trans rfl, (blk_cell BK171.out 1).trans rfl, (blk_cell BK171.out 2).trans rfl, (blk_cell BK171.out 3).trans rfl⟩ (fun hHeld => ?_)
      clear hK K
      refine norm_ (a' := ?_) ?_ ?_
      rotate_left
      ·show Act.put _ (some 23) _ = _
       simp only [Act.put, List.setIfInBounds_toArray, List.set_cons_zero, List.set_cons_succ, i64_w, i32_w]
       rfl
      refine one_ (i := 4) (N := some 24) #[tT,tT,tT,tT,tT,fF] rfl rfl (by kernel_rfl) (by decide) (fun K hK => ?_)
      refine goes_ Try.func19 (by kernel_rfl) rfl #[.agg #[.int .i64 t174, .int .i64 t175, .slice Ao76 t176.length co76, .slice Ao77 t179.length co77], .agg #[.int .i64 t182, .int .i64 t183, .slice Ao78 t184.length co78, .slice Ao79 t187.length co79]] (by rfl) rfl rfl (by (try simp only [List.map_toArray, List.map_cons, List.map_nil]); first | done | rfl | (simp only [List.length_drop, List.length_take]; rfl)) ?_
      with_reducible refine (spec_SameDrawing.calls k t174 t175 _ _ t176 _ _ t179 t182 t183 _ _ t184 _ _ t187 t190 _ ?side1 ?side2 ?side3 ?side4 ?side5 ?side6 ?side7 ?side8 A21.out).mono ?_
      (case side1 => repeat (first | exact (Kd.R_reads' HO178.out).2.2 | (with_reducible refine Kd.C_alloc ?_ _) | (with_reducible refine Kd.C_drewN ?_ _) | (with_reducible refine Kd.C_drew ?_)))
      (case side2 => exact (Kd.R_reads' HO178.out).2.1)
      (case side3 => repeat (first | exact (Kd.S_reads' HO181.out).2.2 | (with_reducible refine Kd.C_alloc ?_ _) | (with_reducible refine Kd.C_drewN ?_ _) | (with_reducible refine Kd.C_drew ?_)))
      (case side4 => exact (Kd.S_reads' HO181.out).2.1)
      (case side5 => repeat (first | exact (Kd.R_reads' HO186.out).2.2 | (with_reducible refine Kd.C_alloc ?_ _) | (with_reducible refine Kd.C_drewN ?_ _) | (with_reducible refine Kd.C_drew ?_)))
      (case side6 => exact (Kd.R_reads' HO186.out).2.1)
      (case side7 => repeat (first | exact (Kd.S_reads' HO189.out).2.2 | (with_reducible refine Kd.C_alloc ?_ _) | (with_reducible refine Kd.C_drewN ?_ _) | (with_reducible refine Kd.C_drew ?_)))
      (case side8 => exact (Kd.S_reads' HO189.out).2.1)
      rintro e w80 ⟨rfl, hb⟩
      refine ⟨_, rfl, ?_⟩
      have n0_ := Aside0.mk (Kd.R_below (by (with_reducible repeat (first | apply Kd.R_alloc | apply Kd.R_drewN | apply Kd.R_drew)); exact HO178.out) hb)
      have n1_ := Aside0.mk (Kd.S_below (by (with_reducible repeat (first | apply Kd.S_alloc | apply Kd.S_drewN | apply Kd.S_drew)); exact HO181.out) hb)
      have n2_ := Aside0.mk (Kd.R_below (by (with_reducible repeat (first | apply Kd.R_alloc | apply Kd.R_drewN | apply Kd.R_drew)); exact HO186.out) hb)
      have n3_ := Aside0.mk (Kd.S_below (by (with_reducible repeat (first | apply Kd.S_alloc | apply Kd.S_drewN | apply Kd.S_drew)); exact HO189.out) hb)
      have n4_ := kb BK170 hb
      have n5_ := kb BK171 hb
      have n6_ := sb hb
      clear HO178
      clear HO181
      clear HO186
      clear HO189
      clear BK170
      clear BK171
      clear HB
      have HO178 := n0_
      have HO181 := n1_
      have HO186 := n2_
      have HO189 := n3_
      have BK170 := n4_
      have BK171 := n5_
      have HB := n6_
      clear n0_ n1_ n2_ n3_ n4_ n5_ n6_
      (try clear hb)
      (try clear hb2)
      (try clear hk)
      (try clear hi)
      refine hK.out _ _ ⟨(blk_cell BK170.out 0).trans rfl, (blk_cell BK170.out 1).trans rfl, (blk_cell BK170.out 2).trans rfl, (blk_cell BK170.out 3).trans rfl, (blk_cell BK171.out 0).trans rfl, (blk_cell BK171.out 1).trans rfl, (blk_cell BK171.out 2).trans rfl, (blk_cell BK171.out 3).trans rfl⟩ (fun hHeld => ?_)
      clear hK K
      refine norm_ (a' := ?_) ?_ ?_
      rotate_left
      ·show Act.put _ (some 24) _ = _
       simp only [Act.put, List.setIfInBounds_toArray, List.set_cons_zero, List.set_cons_succ, i64_w, i32_w]
       rfl
      refine pure_ (i := 5) (N := some 6) (v := ?_) (a' := ?_) #[tT,tT,tT,tT,tT,tT] rfl rfl (by kernel_rfl) (fun _ _ _ h => h) (Or.inl ⟨by rfl, ?_⟩) ?_ ?_
      rotate_left
      ·intro w'
       go_simp
       with_reducible rfl
      rotate_left
      ·exact pa
      refine done_ (by kernel_rfl) ?_
      have hcz81_0 := ck BK170 0
      have hcz81_1 := ck BK170 1
      have hcz81_2 := ck BK170 2
      have hcz81_3 := ck BK170 3
      have hfz81_0 := blk_frozen BK170.out 0
      have hfz81_1 := blk_frozen BK170.out 1
      have hfz81_2 := blk_frozen BK170.out 2
      have hfz81_3 := blk_frozen BK170.out 3
      try go_wp2_with (first | ((with_reducible refine gate_callee (f := 20) rfl ?_); refine goesL_ (some 26) rfl rfl Try.func20 (by kernel_rfl) rfl #[.agg #[.int .i64 a0_0, .int .i64 a0_1, .slice A0_2 l0_2.length c0_2, .slice A0_3 l0_3.length c0_3]] rfl (by (try simp only [List.map_toArray, List.map_cons, List.map_nil]); first | done | rfl | (simp only [List.length_drop, List.length_take]; rfl)) ?_; (with_reducible refine (laws_toDrawing.calls k a0_0 a0_1 _ _ l0_2 _ _ l0_3 t191 t192 t193 t196 _ ?side1 ?side2 ?side3 ?side4 A22.out).mono ?_); (case side1 => repeat (first | exact (Kd.C_below HR0_2.out HB.out) | (with_reducible refine Kd.C_alloc ?_ _) | (with_reducible refine Kd.C_drewN ?_ _) | (with_reducible refine Kd.C_drew ?_))); (case side2 => exact HC0_2.out); (case side3 => repeat (first | exact (Kd.C_below HR0_3.out HB.out) | (with_reducible refine Kd.C_alloc ?_ _) | (with_reducible refine Kd.C_drewN ?_ _) | (with_reducible refine Kd.C_drew ?_))); (case side4 => exact HC0_3.out); rintro e w82 ⟨v194, v197, rfl, ho0, ho1, hb⟩; refine ⟨_, rfl, ?_⟩; have n0_ := Aside0.mk (Kd.R_elder' (by (with_reducible repeat (first | apply Kd.R_alloc | apply Kd.R_drewN | apply Kd.R_drew)); exact HO178.out) (Kd.R_base ho0) hb); have n1_ := Aside0.mk (Kd.S_elder' (by (with_reducible repeat (first | apply Kd.S_alloc | apply Kd.S_drewN | apply Kd.S_drew)); exact HO181.out) (Kd.S_base ho1) hb); have n2_ := Aside0.mk (Kd.R_elder' (by (with_reducible repeat (first | apply Kd.R_alloc | apply Kd.R_drewN | apply Kd.R_drew)); exact HO186.out) (Kd.R_base ho0) hb); have n3_ := Aside0.mk (Kd.S_elder' (by (with_reducible repeat (first | apply Kd.S_alloc | apply Kd.S_drewN | apply Kd.S_drew)); exact HO189.out) (Kd.S_base ho1) hb); have n4_ := Aside0.mk (Kd.R_lower (Kd.R_new' (Kd.R_new' ho0 (Kd.R_lt (by (with_reducible repeat (first | apply Kd.R_alloc | apply Kd.R_drewN | apply Kd.R_drew)); exact HO178.out))) (Kd.R_lt (by (with_reducible repeat (first | apply Kd.R_alloc | apply Kd.R_drewN | apply Kd.R_drew)); exact HO186.out))) (below_size ib)); have n5_ := Aside0.mk (Kd.S_lower (Kd.S_new' (Kd.S_new' ho1 (Kd.S_lt (by (with_reducible repeat (first | apply Kd.S_alloc | apply Kd.S_drewN | apply Kd.S_drew)); exact HO181.out))) (Kd.S_lt (by (with_reducible repeat (first | apply Kd.S_alloc | apply Kd.S_drewN | apply Kd.S_drew)); exact HO189.out))) (below_size ib)); have n6_ := kb BK170 hb; have n7_ := kb BK171 hb; have n8_ := sb hb; clear HO178; clear HO181; clear HO186; clear HO189; clear BK170; clear BK171; clear HB; have HO178 := n0_; have HO181 := n1_; have HO186 := n2_; have HO189 := n3_; have HO195 := n4_; have HO198 := n5_; have BK170 := n6_; have BK171 := n7_; have HB := n8_; clear n0_ n1_ n2_ n3_ n4_ n5_ n6_ n7_ n8_; (try clear hb); (try clear hb2); (try clear hk); (try clear hi); (try clear ho0); (try clear ho1)) | ((with_reducible refine gate_dst (N := 7) rfl ?_); refine bx (cs := #[.int .i64 0, .int .i64 0, .slice none 0 0, .slice none 0 0]) (t := 44) ?_; intro gb199 hg w83 hbox hb; have n0_ := Aside0.mk (Kd.R_below (by (with_reducible repeat (first | apply Kd.R_alloc | apply Kd.R_drewN | apply Kd.R_drew)); exact HO178.out) hb); have n1_ := Aside0.mk (Kd.S_below (by (with_reducible repeat (first | apply Kd.S_alloc | apply Kd.S_drewN | apply Kd.S_drew)); exact HO181.out) hb); have n2_ := Aside0.mk (Kd.R_below (by (with_reducible repeat (first | apply Kd.R_alloc | apply Kd.R_drewN | apply Kd.R_drew)); exact HO186.out) hb); have n3_ := Aside0.mk (Kd.S_below (by (with_reducible repeat (first | apply Kd.S_alloc | apply Kd.S_drewN | apply Kd.S_drew)); exact HO189.out) hb); have n4_ := Aside0.mk (Kd.R_below (by (with_reducible repeat (first | apply Kd.R_alloc | apply Kd.R_drewN | apply Kd.R_drew)); exact HO195.out) hb); have n5_ := Aside0.mk (Kd.S_below (by (with_reducible repeat (first | apply Kd.S_alloc | apply Kd.S_drewN | apply Kd.S_drew)); exact HO198.out) hb); have n6_ := kb BK170 hb; have n7_ := kb BK171 hb; have n8_ := sb hb; have n9_ := Aside0.mk (hbox); have n10_ := zb hg; have n11_ := zb hg; have n12_ := nl BK170 hg; have n13_ := ng BK170 hg; have n14_ := nl BK171 hg; have n15_ := ng BK171 hg; clear HO178; clear HO181; clear HO186; clear HO189; clear HO195; clear HO198; clear BK170; clear BK171; clear HB; have HO178 := n0_; have HO181 := n1_; have HO186 := n2_; have HO189 := n3_; have HO195 := n4_; have HO198 := n5_; have BK170 := n6_; have BK171 := n7_; have HB := n8_; have BK199 := n9_; have GW199 := n10_; have GE199 := n11_; have NB170_199 := n12_; have NB199_170 := n13_; have NB171_199 := n14_; have NB199_171 := n15_; clear n0_ n1_ n2_ n3_ n4_ n5_ n6_ n7_ n8_ n9_ n10_ n11_ n12_ n13_ n14_ n15_; clear hb hbox hg; have hnb84 := NB199_170.out; have hnc84 := NB170_199.out; have hnb85 := NB199_171.out; have hnc85 := NB171_199.out; have hcz86_0 := ck BK199 0; have hcz86_1 := ck BK199 1; have hcz86_2 := ck BK199 2; have hcz86_3 := ck BK199 3; have hfz86_0 := blk_frozen BK199.out 0; have hfz86_1 := blk_frozen BK199.out 1; have hfz86_2 := blk_frozen BK199.out 2; have hfz86_3 := blk_frozen BK199.out 3; obtain ⟨Ao87, co87, eo87⟩ := Kd.R_slice HO195.out; subst eo87; obtain ⟨Ao88, co88, eo88⟩ := Kd.S_slice HO198.out; subst eo88; have hcz89_0 := ck BK171 0; have hcz89_1 := ck BK171 1; have hcz89_2 := ck BK171 2; have hcz89_3 := ck BK171 3; have hfz89_0 := blk_frozen BK171.out 0; have hfz89_1 := blk_frozen BK171.out 1; have hfz89_2 := blk_frozen BK171.out 2; have hfz89_3 := blk_frozen BK171.out 3) | ((with_reducible refine gate_callee (f := 20) rfl ?_); refine goesL_ (some 28) rfl rfl Try.func20 (by kernel_rfl) rfl #[.agg #[.int .i64 a1_0, .int .i64 a1_1, .slice A1_2 l1_2.length c1_2, .slice A1_3 l1_3.length c1_3]] rfl (by (try simp only [List.map_toArray, List.map_cons, List.map_nil]); first | done | rfl | (simp only [List.length_drop, List.length_take]; rfl)) ?_; (with_reducible refine (laws_toDrawing.calls k a1_0 a1_1 _ _ l1_2 _ _ l1_3 t200 t201 t202 t205 _ ?side1 ?side2 ?side3 ?side4 A23.out).mono ?_); (case side1 => exact Kd.C_below HR1_2.out ib); (case side2 => exact HC1_2.out); (case side3 => exact Kd.C_below HR1_3.out ib); (case side4 => exact HC1_3.out); rintro e w90 ⟨v203, v206, rfl, ho0, ho1, hb⟩; refine ⟨_, rfl, ?_⟩; have n0_ := Aside0.mk (Kd.R_elder' (by (with_reducible repeat (first | apply Kd.R_alloc | apply Kd.R_drewN | apply Kd.R_drew)); exact (Kd.R_mono (Kd.R_far (p := ⟨gb199, 3, none⟩) (Kd.R_far (p := ⟨gb199, 2, none⟩) (Kd.R_far (p := ⟨gb199, 1, none⟩) (Kd.R_far (p := ⟨gb199, 0, none⟩) (Kd.R_types HO178.out BK199.out (by decide)) (fun _ hk => hk.2) (.int .i64 t191)) (fun _ hk => hk.2) (.int .i64 t192)) (fun _ hk => hk.2) (.slice Ao87 t193.length co87)) (fun _ hk => hk.2) (.slice Ao88 t196.length co88)) (fun _ h_ => h_.1))) (Kd.R_base ho0) hb); have n1_ := Aside0.mk (Kd.S_elder' (by (with_reducible repeat (first | apply Kd.S_alloc | apply Kd.S_drewN | apply Kd.S_drew)); exact (Kd.S_mono (Kd.S_far (p := ⟨gb199, 3, none⟩) (Kd.S_far (p := ⟨gb199, 2, none⟩) (Kd.S_far (p := ⟨gb199, 1, none⟩) (Kd.S_far (p := ⟨gb199, 0, none⟩) (Kd.S_types HO181.out BK199.out (by decide)) (fun _ hk => hk.2) (.int .i64 t191)) (fun _ hk => hk.2) (.int .i64 t192)) (fun _ hk => hk.2) (.slice Ao87 t193.length co87)) (fun _ hk => hk.2) (.slice Ao88 t196.length co88)) (fun _ h_ => h_.1))) (Kd.S_base ho1) hb); have n2_ := Aside0.mk (Kd.R_elder' (by (with_reducible repeat (first | apply Kd.R_alloc | apply Kd.R_drewN | apply Kd.R_drew)); exact (Kd.R_mono (Kd.R_far (p := ⟨gb199, 3, none⟩) (Kd.R_far (p := ⟨gb199, 2, none⟩) (Kd.R_far (p := ⟨gb199, 1, none⟩) (Kd.R_far (p := ⟨gb199, 0, none⟩) (Kd.R_types HO186.out BK199.out (by decide)) (fun _ hk => hk.2) (.int .i64 t191)) (fun _ hk => hk.2) (.int .i64 t192)) (fun _ hk => hk.2) (.slice Ao87 t193.length co87)) (fun _ hk => hk.2) (.slice Ao88 t196.length co88)) (fun _ h_ => h_.1))) (Kd.R_base ho0) hb); have n3_ := Aside0.mk (Kd.S_elder' (by (with_reducible repeat (first | apply Kd.S_alloc | apply Kd.S_drewN | apply Kd.S_drew)); exact (Kd.S_mono (Kd.S_far (p := ⟨gb199, 3, none⟩) (Kd.S_far (p := ⟨gb199, 2, none⟩) (Kd.S_far (p := ⟨gb199, 1, none⟩) (Kd.S_far (p := ⟨gb199, 0, none⟩) (Kd.S_types HO189.out BK199.out (by decide)) (fun _ hk => hk.2) (.int .i64 t191)) (fun _ hk => hk.2) (.int .i64 t192)) (fun _ hk => hk.2) (.slice Ao87 t193.length co87)) (fun _ hk => hk.2) (.slice Ao88 t196.length co88)) (fun _ h_ => h_.1))) (Kd.S_base ho1) hb); have n4_ := Aside0.mk (Kd.R_elder' (by (with_reducible repeat (first | apply Kd.R_alloc | apply Kd.R_drewN | apply Kd.R_drew)); exact (Kd.R_mono (Kd.R_far (p := ⟨gb199, 3, none⟩) (Kd.R_far (p := ⟨gb199, 2, none⟩) (Kd.R_far (p := ⟨gb199, 1, none⟩) (Kd.R_far (p := ⟨gb199, 0, none⟩) (Kd.R_types HO195.out BK199.out (by decide)) (fun _ hk => hk.2) (.int .i64 t191)) (fun _ hk => hk.2) (.int .i64 t192)) (fun _ hk => hk.2) (.slice Ao87 t193.length co87)) (fun _ hk => hk.2) (.slice Ao88 t196.length co88)) (fun _ h_ => h_.1))) (Kd.R_base ho0) hb); have n5_ := Aside0.mk (Kd.S_elder' (by (with_reducible repeat (first | apply Kd.S_alloc | apply Kd.S_drewN | apply Kd.S_drew)); exact (Kd.S_mono (Kd.S_far (p := ⟨gb199, 3, none⟩) (Kd.S_far (p := ⟨gb199, 2, none⟩) (Kd.S_far (p := ⟨gb199, 1, none⟩) (Kd.S_far (p := ⟨gb199, 0, none⟩) (Kd.S_types HO198.out BK199.out (by decide)) (fun _ hk => hk.2) (.int .i64 t191)) (fun _ hk => hk.2) (.int .i64 t192)) (fun _ hk => hk.2) (.slice Ao87 t193.length co87)) (fun _ hk => hk.2) (.slice Ao88 t196.length co88)) (fun _ h_ => h_.1))) (Kd.S_base ho1) hb); have n6_ := Aside0.mk (Kd.R_lower (Kd.R_new' (Kd.R_new' (Kd.R_new' ho0 (Kd.R_lt (by (with_reducible repeat (first | apply Kd.R_alloc | apply Kd.R_drewN | apply Kd.R_drew)); exact (Kd.R_mono (Kd.R_far (p := ⟨gb199, 3, none⟩) (Kd.R_far (p := ⟨gb199, 2, none⟩) (Kd.R_far (p := ⟨gb199, 1, none⟩) (Kd.R_far (p := ⟨gb199, 0, none⟩) (Kd.R_types HO178.out BK199.out (by decide)) (fun _ hk => hk.2) (.int .i64 t191)) (fun _ hk => hk.2) (.int .i64 t192)) (fun _ hk => hk.2) (.slice Ao87 t193.length co87)) (fun _ hk => hk.2) (.slice Ao88 t196.length co88)) (fun _ h_ => h_.1))))) (Kd.R_lt (by (with_reducible repeat (first | apply Kd.R_alloc | apply Kd.R_drewN | apply Kd.R_drew)); exact (Kd.R_mono (Kd.R_far (p := ⟨gb199, 3, none⟩) (Kd.R_far (p := ⟨gb199, 2, none⟩) (Kd.R_far (p := ⟨gb199, 1, none⟩) (Kd.R_far (p := ⟨gb199, 0, none⟩) (Kd.R_types HO186.out BK199.out (by decide)) (fun _ hk => hk.2) (.int .i64 t191)) (fun _ hk => hk.2) (.int .i64 t192)) (fun _ hk => hk.2) (.slice Ao87 t193.length co87)) (fun _ hk => hk.2) (.slice Ao88 t196.length co88)) (fun _ h_ => h_.1))))) (Kd.R_lt (by (with_reducible repeat (first | apply Kd.R_alloc | apply Kd.R_drewN | apply Kd.R_drew)); exact (Kd.R_mono (Kd.R_far (p := ⟨gb199, 3, none⟩) (Kd.R_far (p := ⟨gb199, 2, none⟩) (Kd.R_far (p := ⟨gb199, 1, none⟩) (Kd.R_far (p := ⟨gb199, 0, none⟩) (Kd.R_types HO195.out BK199.out (by decide)) (fun _ hk => hk.2) (.int .i64 t191)) (fun _ hk => hk.2) (.int .i64 t192)) (fun _ hk => hk.2) (.slice Ao87 t193.length co87)) (fun _ hk => hk.2) (.slice Ao88 t196.length co88)) (fun _ h_ => h_.1))))) (below_size ib)); have n7_ := Aside0.mk (Kd.S_lower (Kd.S_new' (Kd.S_new' (Kd.S_new' ho1 (Kd.S_lt (by (with_reducible repeat (first | apply Kd.S_alloc | apply Kd.S_drewN | apply Kd.S_drew)); exact (Kd.S_mono (Kd.S_far (p := ⟨gb199, 3, none⟩) (Kd.S_far (p := ⟨gb199, 2, none⟩) (Kd.S_far (p := ⟨gb199, 1, none⟩) (Kd.S_far (p := ⟨gb199, 0, none⟩) (Kd.S_types HO181.out BK199.out (by decide)) (fun _ hk => hk.2) (.int .i64 t191)) (fun _ hk => hk.2) (.int .i64 t192)) (fun _ hk => hk.2) (.slice Ao87 t193.length co87)) (fun _ hk => hk.2) (.slice Ao88 t196.length co88)) (fun _ h_ => h_.1))))) (Kd.S_lt (by (with_reducible repeat (first | apply Kd.S_alloc | apply Kd.S_drewN | apply Kd.S_drew)); exact (Kd.S_mono (Kd.S_far (p := ⟨gb199, 3, none⟩) (Kd.S_far (p := ⟨gb199, 2, none⟩) (Kd.S_far (p := ⟨gb199, 1, none⟩) (Kd.S_far (p := ⟨gb199, 0, none⟩) (Kd.S_types HO189.out BK199.out (by decide)) (fun _ hk => hk.2) (.int .i64 t191)) (fun _ hk => hk.2) (.int .i64 t192)) (fun _ hk => hk.2) (.slice Ao87 t193.length co87)) (fun _ hk => hk.2) (.slice Ao88 t196.length co88)) (fun _ h_ => h_.1))))) (Kd.S_lt (by (with_reducible repeat (first | apply Kd.S_alloc | apply Kd.S_drewN | apply Kd.S_drew)); exact (Kd.S_mono (Kd.S_far (p := ⟨gb199, 3, none⟩) (Kd.S_far (p := ⟨gb199, 2, none⟩) (Kd.S_far (p := ⟨gb199, 1, none⟩) (Kd.S_far (p := ⟨gb199, 0, none⟩) (Kd.S_types HO198.out BK199.out (by decide)) (fun _ hk => hk.2) (.int .i64 t191)) (fun _ hk => hk.2) (.int .i64 t192)) (fun _ hk => hk.2) (.slice Ao87 t193.length co87)) (fun _ hk => hk.2) (.slice Ao88 t196.length co88)) (fun _ h_ => h_.1))))) (below_size ib)); have n8_ := Aside0.mk (blk_below (g := gb170) (o := .cells #[.int .i64 a0_0, .int .i64 a0_1, .slice A0_2 l0_2.length c0_2, .slice A0_3 l0_3.length c0_3] 39 (0, 0)) (by refine bF NB170_199.out ?_; refine bF NB170_199.out ?_; refine bF NB170_199.out ?_; refine bF NB170_199.out ?_; exact bk BK170) hb); have n9_ := Aside0.mk (blk_below (g := gb171) (o := .cells #[.int .i64 a1_0, .int .i64 a1_1, .slice A1_2 l1_2.length c1_2, .slice A1_3 l1_3.length c1_3] 39 (0, 0)) (by refine bF NB171_199.out ?_; refine bF NB171_199.out ?_; refine bF NB171_199.out ?_; refine bF NB171_199.out ?_; exact bk BK171) hb); have n10_ := Aside0.mk (blk_below (g := gb199) (o := .cells #[.int .i64 t191, .int .i64 t192, .slice Ao87 t193.length co87, .slice Ao88 t196.length co88] 44 (0, 0)) (by refine bP (cs := #[.int .i64 t191, .int .i64 t192, .slice Ao87 t193.length co87, .slice none 0 0]) 3 ?_; refine bP (cs := #[.int .i64 t191, .int .i64 t192, .slice none 0 0, .slice none 0 0]) 2 ?_; refine bP (cs := #[.int .i64 t191, .int .i64 0, .slice none 0 0, .slice none 0 0]) 1 ?_; refine bP (cs := #[.int .i64 0, .int .i64 0, .slice none 0 0, .slice none 0 0]) 0 ?_; exact bk BK199) hb); have n11_ := sb hb; clear HO178; clear HO181; clear HO186; clear HO189; clear HO195; clear HO198; clear BK170; clear BK171; clear BK199; clear HB; have HO178 := n0_; have HO181 := n1_; have HO186 := n2_; have HO189 := n3_; have HO195 := n4_; have HO198 := n5_; have HO204 := n6_; have HO207 := n7_; have BK170 := n8_; have BK171 := n9_; have BK199 := n10_; have HB := n11_; clear n0_ n1_ n2_ n3_ n4_ n5_ n6_ n7_ n8_ n9_ n10_ n11_; (try clear hb); (try clear hb2); (try clear hk); (try clear hi); (try clear ho0); (try clear ho1)) | ((with_reducible refine gate_dst (N := 8) rfl ?_); refine bx (cs := #[.int .i64 0, .int .i64 0, .slice none 0 0, .slice none 0 0]) (t := 44) ?_; intro gb208 hg w91 hbox hb; have n0_ := Aside0.mk (Kd.R_below (by (with_reducible repeat (first | apply Kd.R_alloc | apply Kd.R_drewN | apply Kd.R_drew)); exact HO178.out) hb); have n1_ := Aside0.mk (Kd.S_below (by (with_reducible repeat (first | apply Kd.S_alloc | apply Kd.S_drewN | apply Kd.S_drew)); exact HO181.out) hb); have n2_ := Aside0.mk (Kd.R_below (by (with_reducible repeat (first | apply Kd.R_alloc | apply Kd.R_drewN | apply Kd.R_drew)); exact HO186.out) hb); have n3_ := Aside0.mk (Kd.S_below (by (with_reducible repeat (first | apply Kd.S_alloc | apply Kd.S_drewN | apply Kd.S_drew)); exact HO189.out) hb); have n4_ := Aside0.mk (Kd.R_below (by (with_reducible repeat (first | apply Kd.R_alloc | apply Kd.R_drewN | apply Kd.R_drew)); exact HO195.out) hb); have n5_ := Aside0.mk (Kd.S_below (by (with_reducible repeat (first | apply Kd.S_alloc | apply Kd.S_drewN | apply Kd.S_drew)); exact HO198.out) hb); have n6_ := Aside0.mk (Kd.R_below (by (with_reducible repeat (first | apply Kd.R_alloc | apply Kd.R_drewN | apply Kd.R_drew)); exact HO204.out) hb); have n7_ := Aside0.mk (Kd.S_below (by (with_reducible repeat (first | apply Kd.S_alloc | apply Kd.S_drewN | apply Kd.S_drew)); exact HO207.out) hb); have n8_ := kb BK170 hb; have n9_ := kb BK171 hb; have n10_ := kb BK199 hb; have n11_ := sb hb; have n12_ := Aside0.mk (hbox); have n13_ := zb hg; have n14_ := zb hg; have n15_ := nl BK170 hg; have n16_ := ng BK170 hg; have n17_ := nl BK171 hg; have n18_ := ng BK171 hg; have n19_ := nl BK199 hg; have n20_ := ng BK199 hg; clear HO178; clear HO181; clear HO186; clear HO189; clear HO195; clear HO198; clear HO204; clear HO207; clear BK170; clear BK171; clear BK199; clear HB; have HO178 := n0_; have HO181 := n1_; have HO186 := n2_; have HO189 := n3_; have HO195 := n4_; have HO198 := n5_; have HO204 := n6_; have HO207 := n7_; have BK170 := n8_; have BK171 := n9_; have BK199 := n10_; have HB := n11_; have BK208 := n12_; have GW208 := n13_; have GE208 := n14_; have NB170_208 := n15_; have NB208_170 := n16_; have NB171_208 := n17_; have NB208_171 := n18_; have NB199_208 := n19_; have NB208_199 := n20_; clear n0_ n1_ n2_ n3_ n4_ n5_ n6_ n7_ n8_ n9_ n10_ n11_ n12_ n13_ n14_ n15_ n16_ n17_ n18_ n19_ n20_; clear hb hbox hg; have hnb92 := NB208_170.out; have hnc92 := NB170_208.out; have hnb93 := NB208_171.out; have hnc93 := NB171_208.out; have hnb94 := NB208_199.out; have hnc94 := NB199_208.out; have hcz95_0 := ck BK208 0; have hcz95_1 := ck BK208 1; have hcz95_2 := ck BK208 2; have hcz95_3 := ck BK208 3; have hfz95_0 := blk_frozen BK208.out 0; have hfz95_1 := blk_frozen BK208.out 1; have hfz95_2 := blk_frozen BK208.out 2; have hfz95_3 := blk_frozen BK208.out 3; obtain ⟨Ao96, co96, eo96⟩ := Kd.R_slice HO204.out; subst eo96; obtain ⟨Ao97, co97, eo97⟩ := Kd.S_slice HO207.out; subst eo97; have hcz98_0 := ck BK199 0; have hcz98_1 := ck BK199 1; have hcz98_2 := ck BK199 2; have hcz98_3 := ck BK199 3; have hfz98_0 := blk_frozen BK199.out 0; have hfz98_1 := blk_frozen BK199.out 1; have hfz98_2 := blk_frozen BK199.out 2; have hfz98_3 := blk_frozen BK199.out 3) | ((with_reducible refine gate_callee (f := 21) rfl ?_); refine goesL_ (some 31) rfl rfl Try.func21 (by kernel_rfl) rfl #[.agg #[.int .i64 t191, .int .i64 t192, .slice Ao87 t193.length co87, .slice Ao88 t196.length co88], .agg #[.int .i64 t200, .int .i64 t201, .slice Ao96 t202.length co96, .slice Ao97 t205.length co97]] rfl (by (try simp only [List.map_toArray, List.map_cons, List.map_nil]); first | done | rfl | (simp only [List.length_drop, List.length_take]; rfl)) ?_; (with_reducible refine (impl_SameDrawing.calls k t191 t192 _ _ t193 _ _ t196 t200 t201 _ _ t202 _ _ t205 t209 _ ?side1 ?side2 ?side3 ?side4 ?side5 ?side6 ?side7 ?side8 A24.out).mono ?_); (case side1 => refine (Kd.R_reads' (e := 51) (base := w.heap.size) (ok := fun k_ => (((True ∧ some k_ ≠ (.slice Ao76 t176.length co76 : Value).ownBlock) ∧ some k_ ≠ (.slice Ao78 t184.length co78 : Value).ownBlock) ∧ some k_ ≠ (.slice Ao96 t202.length co96 : Value).ownBlock)) (n := t193.length) (c := co87) ?_).2.2; exact (by (with_reducible repeat (first | apply Kd.R_alloc | apply Kd.R_drewN | apply Kd.R_drew)); exact (Kd.R_mono (Kd.R_far (p := ⟨gb208, 3, none⟩) (Kd.R_far (p := ⟨gb208, 2, none⟩) (Kd.R_far (p := ⟨gb208, 1, none⟩) (Kd.R_far (p := ⟨gb208, 0, none⟩) (Kd.R_types HO195.out BK208.out (by decide)) (fun _ hk => hk.2) (.int .i64 t200)) (fun _ hk => hk.2) (.int .i64 t201)) (fun _ hk => hk.2) (.slice Ao96 t202.length co96)) (fun _ hk => hk.2) (.slice Ao97 t205.length co97)) (fun _ h_ => h_.1)))); (case side2 => exact (Kd.R_reads' HO195.out).2.1); (case side3 => refine (Kd.S_reads' (e := 62) (base := w.heap.size) (ok := fun k_ => (((True ∧ some k_ ≠ (.slice Ao77 t179.length co77 : Value).ownBlock) ∧ some k_ ≠ (.slice Ao79 t187.length co79 : Value).ownBlock) ∧ some k_ ≠ (.slice Ao97 t205.length co97 : Value).ownBlock)) (n := t196.length) (c := co88) ?_).2.2; exact (by (with_reducible repeat (first | apply Kd.S_alloc | apply Kd.S_drewN | apply Kd.S_drew)); exact (Kd.S_mono (Kd.S_far (p := ⟨gb208, 3, none⟩) (Kd.S_far (p := ⟨gb208, 2, none⟩) (Kd.S_far (p := ⟨gb208, 1, none⟩) (Kd.S_far (p := ⟨gb208, 0, none⟩) (Kd.S_types HO198.out BK208.out (by decide)) (fun _ hk => hk.2) (.int .i64 t200)) (fun _ hk => hk.2) (.int .i64 t201)) (fun _ hk => hk.2) (.slice Ao96 t202.length co96)) (fun _ hk => hk.2) (.slice Ao97 t205.length co97)) (fun _ h_ => h_.1)))); (case side4 => exact (Kd.S_reads' HO198.out).2.1); (case side5 => refine (Kd.R_reads' (e := 51) (base := w.heap.size) (ok := fun k_ => (((True ∧ some k_ ≠ (.slice Ao76 t176.length co76 : Value).ownBlock) ∧ some k_ ≠ (.slice Ao78 t184.length co78 : Value).ownBlock) ∧ some k_ ≠ (.slice Ao87 t193.length co87 : Value).ownBlock)) (n := t202.length) (c := co96) ?_).2.2; exact (by (with_reducible repeat (first | apply Kd.R_alloc | apply Kd.R_drewN | apply Kd.R_drew)); exact (Kd.R_mono (Kd.R_far (p := ⟨gb208, 3, none⟩) (Kd.R_far (p := ⟨gb208, 2, none⟩) (Kd.R_far (p := ⟨gb208, 1, none⟩) (Kd.R_far (p := ⟨gb208, 0, none⟩) (Kd.R_types HO204.out BK208.out (by decide)) (fun _ hk => hk.2) (.int .i64 t200)) (fun _ hk => hk.2) (.int .i64 t201)) (fun _ hk => hk.2) (.slice Ao96 t202.length co96)) (fun _ hk => hk.2) (.slice Ao97 t205.length co97)) (fun _ h_ => h_.1)))); (case side6 => exact (Kd.R_reads' HO204.out).2.1); (case side7 => refine (Kd.S_reads' (e := 62) (base := w.heap.size) (ok := fun k_ => (((True ∧ some k_ ≠ (.slice Ao77 t179.length co77 : Value).ownBlock) ∧ some k_ ≠ (.slice Ao79 t187.length co79 : Value).ownBlock) ∧ some k_ ≠ (.slice Ao88 t196.length co88 : Value).ownBlock)) (n := t205.length) (c := co97) ?_).2.2; exact (by (with_reducible repeat (first | apply Kd.S_alloc | apply Kd.S_drewN | apply Kd.S_drew)); exact (Kd.S_mono (Kd.S_far (p := ⟨gb208, 3, none⟩) (Kd.S_far (p := ⟨gb208, 2, none⟩) (Kd.S_far (p := ⟨gb208, 1, none⟩) (Kd.S_far (p := ⟨gb208, 0, none⟩) (Kd.S_types HO207.out BK208.out (by decide)) (fun _ hk => hk.2) (.int .i64 t200)) (fun _ hk => hk.2) (.int .i64 t201)) (fun _ hk => hk.2) (.slice Ao96 t202.length co96)) (fun _ hk => hk.2) (.slice Ao97 t205.length co97)) (fun _ h_ => h_.1)))); (case side8 => exact (Kd.S_reads' HO207.out).2.1); rintro e w99 ⟨rfl, hb⟩; refine ⟨_, rfl, ?_⟩; have n0_ := Aside0.mk (Kd.R_below (by (with_reducible repeat (first | apply Kd.R_alloc | apply Kd.R_drewN | apply Kd.R_drew)); exact (Kd.R_mono (Kd.R_far (p := ⟨gb208, 3, none⟩) (Kd.R_far (p := ⟨gb208, 2, none⟩) (Kd.R_far (p := ⟨gb208, 1, none⟩) (Kd.R_far (p := ⟨gb208, 0, none⟩) (Kd.R_types HO178.out BK208.out (by decide)) (fun _ hk => hk.2) (.int .i64 t200)) (fun _ hk => hk.2) (.int .i64 t201)) (fun _ hk => hk.2) (.slice Ao96 t202.length co96)) (fun _ hk => hk.2) (.slice Ao97 t205.length co97)) (fun _ h_ => h_.1))) hb); have n1_ := Aside0.mk (Kd.S_below (by (with_reducible repeat (first | apply Kd.S_alloc | apply Kd.S_drewN | apply Kd.S_drew)); exact (Kd.S_mono (Kd.S_far (p := ⟨gb208, 3, none⟩) (Kd.S_far (p := ⟨gb208, 2, none⟩) (Kd.S_far (p := ⟨gb208, 1, none⟩) (Kd.S_far (p := ⟨gb208, 0, none⟩) (Kd.S_types HO181.out BK208.out (by decide)) (fun _ hk => hk.2) (.int .i64 t200)) (fun _ hk => hk.2) (.int .i64 t201)) (fun _ hk => hk.2) (.slice Ao96 t202.length co96)) (fun _ hk => hk.2) (.slice Ao97 t205.length co97)) (fun _ h_ => h_.1))) hb); have n2_ := Aside0.mk (Kd.R_below (by (with_reducible repeat (first | apply Kd.R_alloc | apply Kd.R_drewN | apply Kd.R_drew)); exact (Kd.R_mono (Kd.R_far (p := ⟨gb208, 3, none⟩) (Kd.R_far (p := ⟨gb208, 2, none⟩) (Kd.R_far (p := ⟨gb208, 1, none⟩) (Kd.R_far (p := ⟨gb208, 0, none⟩) (Kd.R_types HO186.out BK208.out (by decide)) (fun _ hk => hk.2) (.int .i64 t200)) (fun _ hk => hk.2) (.int .i64 t201)) (fun _ hk => hk.2) (.slice Ao96 t202.length co96)) (fun _ hk => hk.2) (.slice Ao97 t205.length co97)) (fun _ h_ => h_.1))) hb); have n3_ := Aside0.mk (Kd.S_below (by (with_reducible repeat (first | apply Kd.S_alloc | apply Kd.S_drewN | apply Kd.S_drew)); exact (Kd.S_mono (Kd.S_far (p := ⟨gb208, 3, none⟩) (Kd.S_far (p := ⟨gb208, 2, none⟩) (Kd.S_far (p := ⟨gb208, 1, none⟩) (Kd.S_far (p := ⟨gb208, 0, none⟩) (Kd.S_types HO189.out BK208.out (by decide)) (fun _ hk => hk.2) (.int .i64 t200)) (fun _ hk => hk.2) (.int .i64 t201)) (fun _ hk => hk.2) (.slice Ao96 t202.length co96)) (fun _ hk => hk.2) (.slice Ao97 t205.length co97)) (fun _ h_ => h_.1))) hb); have n4_ := Aside0.mk (Kd.R_below (by (with_reducible repeat (first | apply Kd.R_alloc | apply Kd.R_drewN | apply Kd.R_drew)); exact (Kd.R_mono (Kd.R_far (p := ⟨gb208, 3, none⟩) (Kd.R_far (p := ⟨gb208, 2, none⟩) (Kd.R_far (p := ⟨gb208, 1, none⟩) (Kd.R_far (p := ⟨gb208, 0, none⟩) (Kd.R_types HO195.out BK208.out (by decide)) (fun _ hk => hk.2) (.int .i64 t200)) (fun _ hk => hk.2) (.int .i64 t201)) (fun _ hk => hk.2) (.slice Ao96 t202.length co96)) (fun _ hk => hk.2) (.slice Ao97 t205.length co97)) (fun _ h_ => h_.1))) hb); have n5_ := Aside0.mk (Kd.S_below (by (with_reducible repeat (first | apply Kd.S_alloc | apply Kd.S_drewN | apply Kd.S_drew)); exact (Kd.S_mono (Kd.S_far (p := ⟨gb208, 3, none⟩) (Kd.S_far (p := ⟨gb208, 2, none⟩) (Kd.S_far (p := ⟨gb208, 1, none⟩) (Kd.S_far (p := ⟨gb208, 0, none⟩) (Kd.S_types HO198.out BK208.out (by decide)) (fun _ hk => hk.2) (.int .i64 t200)) (fun _ hk => hk.2) (.int .i64 t201)) (fun _ hk => hk.2) (.slice Ao96 t202.length co96)) (fun _ hk => hk.2) (.slice Ao97 t205.length co97)) (fun _ h_ => h_.1))) hb); have n6_ := Aside0.mk (Kd.R_below (by (with_reducible repeat (first | apply Kd.R_alloc | apply Kd.R_drewN | apply Kd.R_drew)); exact (Kd.R_mono (Kd.R_far (p := ⟨gb208, 3, none⟩) (Kd.R_far (p := ⟨gb208, 2, none⟩) (Kd.R_far (p := ⟨gb208, 1, none⟩) (Kd.R_far (p := ⟨gb208, 0, none⟩) (Kd.R_types HO204.out BK208.out (by decide)) (fun _ hk => hk.2) (.int .i64 t200)) (fun _ hk => hk.2) (.int .i64 t201)) (fun _ hk => hk.2) (.slice Ao96 t202.length co96)) (fun _ hk => hk.2) (.slice Ao97 t205.length co97)) (fun _ h_ => h_.1))) hb); have n7_ := Aside0.mk (Kd.S_below (by (with_reducible repeat (first | apply Kd.S_alloc | apply Kd.S_drewN | apply Kd.S_drew)); exact (Kd.S_mono (Kd.S_far (p := ⟨gb208, 3, none⟩) (Kd.S_far (p := ⟨gb208, 2, none⟩) (Kd.S_far (p := ⟨gb208, 1, none⟩) (Kd.S_far (p := ⟨gb208, 0, none⟩) (Kd.S_types HO207.out BK208.out (by decide)) (fun _ hk => hk.2) (.int .i64 t200)) (fun _ hk => hk.2) (.int .i64 t201)) (fun _ hk => hk.2) (.slice Ao96 t202.length co96)) (fun _ hk => hk.2) (.slice Ao97 t205.length co97)) (fun _ h_ => h_.1))) hb); have n8_ := Aside0.mk (blk_below (g := gb170) (o := .cells #[.int .i64 a0_0, .int .i64 a0_1, .slice A0_2 l0_2.length c0_2, .slice A0_3 l0_3.length c0_3] 39 (0, 0)) (by refine bF NB170_208.out ?_; refine bF NB170_208.out ?_; refine bF NB170_208.out ?_; refine bF NB170_208.out ?_; exact bk BK170) hb); have n9_ := Aside0.mk (blk_below (g := gb171) (o := .cells #[.int .i64 a1_0, .int .i64 a1_1, .slice A1_2 l1_2.length c1_2, .slice A1_3 l1_3.length c1_3] 39 (0, 0)) (by refine bF NB171_208.out ?_; refine bF NB171_208.out ?_; refine bF NB171_208.out ?_; refine bF NB171_208.out ?_; exact bk BK171) hb); have n10_ := Aside0.mk (blk_below (g := gb199) (o := .cells #[.int .i64 t191, .int .i64 t192, .slice Ao87 t193.length co87, .slice Ao88 t196.length co88] 44 (0, 0)) (by refine bF NB199_208.out ?_; refine bF NB199_208.out ?_; refine bF NB199_208.out ?_; refine bF NB199_208.out ?_; exact bk BK199) hb); have n11_ := Aside0.mk (blk_below (g := gb208) (o := .cells #[.int .i64 t200, .int .i64 t201, .slice Ao96 t202.length co96, .slice Ao97 t205.length co97] 44 (0, 0)) (by refine bP (cs := #[.int .i64 t200, .int .i64 t201, .slice Ao96 t202.length co96, .slice none 0 0]) 3 ?_; refine bP (cs := #[.int .i64 t200, .int .i64 t201, .slice none 0 0, .slice none 0 0]) 2 ?_; refine bP (cs := #[.int .i64 t200, .int .i64 0, .slice none 0 0, .slice none 0 0]) 1 ?_; refine bP (cs := #[.int .i64 0, .int .i64 0, .slice none 0 0, .slice none 0 0]) 0 ?_; exact bk BK208) hb); have n12_ := sb hb; clear HO178; clear HO181; clear HO186; clear HO189; clear HO195; clear HO198; clear HO204; clear HO207; clear BK170; clear BK171; clear BK199; clear BK208; clear HB; have HO178 := n0_; have HO181 := n1_; have HO186 := n2_; have HO189 := n3_; have HO195 := n4_; have HO198 := n5_; have HO204 := n6_; have HO207 := n7_; have BK170 := n8_; have BK171 := n9_; have BK199 := n10_; have BK208 := n11_; have HB := n12_; clear n0_ n1_ n2_ n3_ n4_ n5_ n6_ n7_ n8_ n9_ n10_ n11_ n12_; (try clear hb); (try clear hb2); (try clear hk); (try clear hi)))
      have n0_ := Aside0.mk (Kd.R_drew HO178.out)
      have n1_ := Aside0.mk (Kd.S_drew HO181.out)
      have n2_ := Aside0.mk (Kd.R_drew HO186.out)
      have n3_ := Aside0.mk (Kd.S_drew HO189.out)
      have n4_ := Aside0.mk (Kd.R_drew HO195.out)
      have n5_ := Aside0.mk (Kd.S_drew HO198.out)
      have n6_ := Aside0.mk (Kd.R_drew HO204.out)
      have n7_ := Aside0.mk (Kd.S_drew HO207.out)
      have n8_ := Aside0.mk (blk_drew BK170.out)
      have n9_ := Aside0.mk (blk_drew BK171.out)
      have n10_ := Aside0.mk (blk_drew BK199.out)
      have n11_ := Aside0.mk (blk_drew BK208.out)
      have n12_ := Aside0.mk (below_drew1 HB.out)
      clear HO178
      clear HO181
      clear HO186
      clear HO189
      clear HO195
      clear HO198
      clear HO204
      clear HO207
      clear BK170
      clear BK171
      clear BK199
      clear BK208
      clear HB
      have HO178 := n0_
      have HO181 := n1_
      have HO186 := n2_
      have HO189 := n3_
      have HO195 := n4_
      have HO198 := n5_
      have HO204 := n6_
      have HO207 := n7_
      have BK170 := n8_
      have BK171 := n9_
      have BK199 := n10_
      have BK208 := n11_
      have HB := n12_
      clear n0_ n1_ n2_ n3_ n4_ n5_ n6_ n7_ n8_ n9_ n10_ n11_ n12_
      refine start_ (n := 5) (S := fun w' => w'.cell? ⟨gb199, 0, none⟩ = some (.int .i64 t191) ∧ w'.cell? ⟨gb199, 1, none⟩ = some (.int .i64 t192) ∧ w'.cell? ⟨gb199, 2, none⟩ = some (.slice Ao87 t193.length co87) ∧ w'.cell? ⟨gb199, 3, none⟩ = some (.slice Ao88 t196.length co88) ∧ w'.cell? ⟨gb170, 0, none⟩ = some (.int .i64 a0_0) ∧ w'.cell? ⟨gb170, 1, none⟩ = some (.int .i64 a0_1) ∧ w'.cell? ⟨gb170, 2, none⟩ = some (.slice A0_2 l0_2.length c0_2) ∧ w'.cell? ⟨gb170, 3, none⟩ = some (.slice A0_3 l0_3.length c0_3)) (ds := []) #[fF,fF,fF,fF,fF] (by kernel_rfl) rfl rfl ⟨(blk_cell BK199.out 0).trans rfl, (blk_cell BK199.out 1).trans rfl, (blk_cell BK199.out 2).trans rfl, (blk_cell BK199.out 3).trans rfl, (blk_cell BK170.out 0).trans rfl, (blk_cell BK170.out 1).trans rfl, (blk_cell BK170.out 2).trans rfl, (blk_cell BK170.out 3).trans rfl⟩ (fun hHeld => ?_)
      generalize w99.drew = w100 at HO178 HO181 HO186 HO189 HO195 HO198 HO204 HO207 BK170 BK171 BK199 BK208 HB hHeld ⊢
      refine take_ (i := 0) (N := some 35) (v := ?_) (a' := ?_) #[tT,fF,fF,fF,fF] rfl rfl (by kernel_rfl) (fun _ _ _ h => h) (Or.inl ⟨by rfl, ?_⟩) hHeld ?_ ?_
      rotate_left
      ·rintro w' ⟨s0, s1, s2, s3, s4, s5, s6, s7⟩
       go_simp
       with_reducible rfl
      rotate_left
      ·exact pa
      refine take_ (i := 1) (N := some 36) (v := ?_) (a' := ?_) #[tT,tT,fF,fF,fF] rfl rfl (by kernel_rfl) (fun _ _ _ h => h) (Or.inl ⟨by rfl, ?_⟩) hHeld ?_ ?_
      rotate_left
      ·rintro w' ⟨s0, s1, s2, s3, s4, s5, s6, s7⟩
       go_simp
       with_reducible rfl
      rotate_left
      ·exact pa
      refine one_ (i := 2) (N := some 37) #[tT,tT,tT,fF,fF] rfl rfl (by kernel_rfl) (by decide) (fun K hK => ?_)
      refine goes_ Try.func20 (by kernel_rfl) rfl #[.agg #[.int .i64 a0_0, .int .i64 a0_1, .slice A0_2 l0_2.length c0_2, .slice A0_3 l0_3.length c0_3]] (by rfl) rfl rfl (by (try simp only [List.map_toArray, List.map_cons, List.map_nil]); first | done | rfl | (simp only [List.length_drop, List.length_take]; rfl)) ?_
      with_reducible refine (laws_toDrawing.calls k a0_0 a0_1 _ _ l0_2 _ _ l0_3 t210 t211 t212 t215 _ ?side1 ?side2 ?side3 ?side4 A60.out).mono ?_
      (case side1 => repeat (first | exact (Kd.C_below HR0_2.out HB.out) | (with_reducible refine Kd.C_alloc ?_ _) | (with_reducible refine Kd.C_drewN ?_ _) | (with_reducible refine Kd.C_drew ?_)))
      (case side2 => exact HC0_2.out)
      (case side3 => repeat (first | exact (Kd.C_below HR0_3.out HB.out) | (with_reducible refine Kd.C_alloc ?_ _) | (with_reducible refine Kd.C_drewN ?_ _) | (with_reducible refine Kd.C_drew ?_)))
      (case side4 => exact HC0_3.out)
      rintro e w101 ⟨v213, v216, rfl, ho0, ho1, hb⟩
      refine ⟨_, rfl, ?_⟩
      have n0_ := Aside0.mk (Kd.R_elder' (by (with_reducible repeat (first | apply Kd.R_alloc | apply Kd.R_drewN | apply Kd.R_drew)); exact HO178.out) (Kd.R_base ho0) hb)
      have n1_ := Aside0.mk (Kd.S_elder' (by (with_reducible repeat (first | apply Kd.S_alloc | apply Kd.S_drewN | apply Kd.S_drew)); exact HO181.out) (Kd.S_base ho1) hb)
      have n2_ := Aside0.mk (Kd.R_elder' (by (with_reducible repeat (first | apply Kd.R_alloc | apply Kd.R_drewN | apply Kd.R_drew)); exact HO186.out) (Kd.R_base ho0) hb)
      have n3_ := Aside0.mk (Kd.S_elder' (by (with_reducible repeat (first | apply Kd.S_alloc | apply Kd.S_drewN | apply Kd.S_drew)); exact HO189.out) (Kd.S_base ho1) hb)
      have n4_ := Aside0.mk (Kd.R_elder' (by (with_reducible repeat (first | apply Kd.R_alloc | apply Kd.R_drewN | apply Kd.R_drew)); exact HO195.out) (Kd.R_base ho0) hb)
      have n5_ := Aside0.mk (Kd.S_elder' (by (with_reducible repeat (first | apply Kd.S_alloc | apply Kd.S_drewN | apply Kd.S_drew)); exact HO198.out) (Kd.S_base ho1) hb)
      have n6_ := Aside0.mk (Kd.R_elder' (by (with_reducible repeat (first | apply Kd.R_alloc | apply Kd.R_drewN | apply Kd.R_drew)); exact HO204.out) (Kd.R_base ho0) hb)
      have n7_ := Aside0.mk (Kd.S_elder' (by (with_reducible repeat (first | apply Kd.S_alloc | apply Kd.S_drewN | apply Kd.S_drew)); exact HO207.out) (Kd.S_base ho1) hb)
      have n8_ := Aside0.mk (Kd.R_lower (Kd.R_new' (Kd.R_new' (Kd.R_new' (Kd.R_new' ho0 (Kd.R_lt (by (with_reducible repeat (first | apply Kd.R_alloc | apply Kd.R_drewN | apply Kd.R_drew)); exact HO178.out))) (Kd.R_lt (by (with_reducible repeat (first | apply Kd.R_alloc | apply Kd.R_drewN | apply Kd.R_drew)); exact HO186.out))) (Kd.R_lt (by (with_reducible repeat (first | apply Kd.R_alloc | apply Kd.R_drewN | apply Kd.R_drew)); exact HO195.out))) (Kd.R_lt (by (with_reducible repeat (first | apply Kd.R_alloc | apply Kd.R_drewN | apply Kd.R_drew)); exact HO204.out))) (below_size ib))
      have n9_ := Aside0.mk (Kd.S_lower (Kd.S_new' (Kd.S_new' (Kd.S_new' (Kd.S_new' ho1 (Kd.S_lt (by (with_reducible repeat (first | apply Kd.S_alloc | apply Kd.S_drewN | apply Kd.S_drew)); exact HO181.out))) (Kd.S_lt (by (with_reducible repeat (first | apply Kd.S_alloc | apply Kd.S_drewN | apply Kd.S_drew)); exact HO189.out))) (Kd.S_lt (by (with_reducible repeat (first | apply Kd.S_alloc | apply Kd.S_drewN | apply Kd.S_drew)); exact HO198.out))) (Kd.S_lt (by (with_reducible repeat (first | apply Kd.S_alloc | apply Kd.S_drewN | apply Kd.S_drew)); exact HO207.out))) (below_size ib))
      have n10_ := kb BK170 hb
      have n11_ := kb BK171 hb
      have n12_ := kb BK199 hb
      have n13_ := kb BK208 hb
      have n14_ := sb hb
      clear HO178
      clear HO181
      clear HO186
      clear HO189
      clear HO195
      clear HO198
      clear HO204
      clear HO207
      clear BK170
      clear BK171
      clear BK199
      clear BK208
      clear HB
      have HO178 := n0_
      have HO181 := n1_
      have HO186 := n2_
      have HO189 := n3_
      have HO195 := n4_
      have HO198 := n5_
      have HO204 := n6_
      have HO207 := n7_
      have HO214 := n8_
      have HO217 := n9_
      have BK170 := n10_
      have BK171 := n11_
      have BK199 := n12_
      have BK208 := n13_
      have HB := n14_
      clear n0_ n1_ n2_ n3_ n4_ n5_ n6_ n7_ n8_ n9_ n10_ n11_ n12_ n13_ n14_
      (try clear hb)
      (try clear hb2)
      (try clear hk)
      (try clear hi)
      (try clear ho0)
      (try clear ho1)
      obtain ⟨Ao102, co102, eo102⟩ := Kd.R_slice HO214.out
      (first | subst eo102 | (injection eo102 with f1_ f2_ f3_; have f4_ := f1_.symm; have f5_ := f3_.symm; clear f1_ f2_ f3_; subst f4_; subst f5_))
      obtain ⟨Ao103, co103, eo103⟩ := Kd.S_slice HO217.out
      (first | subst eo103 | (injection eo103 with f1_ f2_ f3_; have f4_ := f1_.symm; have f5_ := f3_.symm; clear f1_ f2_ f3_; subst f4_; subst f5_))
      refine hK.out _ _ ⟨(blk_cell BK199.out 0).trans rfl, (blk_cell BK199.out 1).trans rfl, (blk_cell BK199.out 2).trans rfl, (blk_cell BK199.out 3).trans rfl, (blk_cell BK170.out 0).trans rfl, (blk_cell BK170.out 1).trans rfl, (blk_cell BK170.out 2).trans rfl, (blk_cell BK170.out 3).trans rfl⟩ (fun hHeld => ?_)
      clear hK K
      refine norm_ (a' := ?_) ?_ ?_
      rotate_left
      ·show Act.put _ (some 37) _ = _
       simp only [Act.put, List.setIfInBounds_toArray, List.set_cons_zero, List.set_cons_succ, i64_w, i32_w]
       rfl
      refine one_ (i := 3) (N := some 38) #[tT,tT,tT,tT,fF] rfl rfl (by kernel_rfl) (by decide) (fun K hK => ?_)
      refine goes_ Try.func22 (by kernel_rfl) rfl #[.agg #[.int .i64 t191, .int .i64 t192, .slice Ao87 t193.length co87, .slice Ao88 t196.length co88], .agg #[.int .i64 t210, .int .i64 t211, .slice Ao102 t212.length co102, .slice Ao103 t215.length co103]] (by rfl) rfl rfl (by (try simp only [List.map_toArray, List.map_cons, List.map_nil]); first | done | rfl | (simp only [List.length_drop, List.length_take]; rfl)) ?_
      with_reducible refine (laws_eqDrawing.calls k t191 t192 _ _ t193 _ _ t196 t210 t211 _ _ t212 _ _ t215 true _ ?side1 ?side2 ?side3 ?side4 ?side5 ?side6 ?side7 ?side8 A61.out).mono ?_
      (case side1 => repeat (first | exact (Kd.R_reads' HO195.out).2.2 | (with_reducible refine Kd.C_alloc ?_ _) | (with_reducible refine Kd.C_drewN ?_ _) | (with_reducible refine Kd.C_drew ?_)))
      (case side2 => exact (Kd.R_reads' HO195.out).2.1)
      (case side3 => repeat (first | exact (Kd.S_reads' HO198.out).2.2 | (with_reducible refine Kd.C_alloc ?_ _) | (with_reducible refine Kd.C_drewN ?_ _) | (with_reducible refine Kd.C_drew ?_)))
      (case side4 => exact (Kd.S_reads' HO198.out).2.1)
      (case side5 => repeat (first | exact (Kd.R_reads' HO214.out).2.2 | (with_reducible refine Kd.C_alloc ?_ _) | (with_reducible refine Kd.C_drewN ?_ _) | (with_reducible refine Kd.C_drew ?_)))
      (case side6 => exact (Kd.R_reads' HO214.out).2.1)
      (case side7 => repeat (first | exact (Kd.S_reads' HO217.out).2.2 | (with_reducible refine Kd.C_alloc ?_ _) | (with_reducible refine Kd.C_drewN ?_ _) | (with_reducible refine Kd.C_drew ?_)))
      (case side8 => exact (Kd.S_reads' HO217.out).2.1)
      rintro e w104 ⟨rfl, hb⟩
      refine ⟨_, rfl, ?_⟩
      have n0_ := Aside0.mk (Kd.R_below (by (with_reducible repeat (first | apply Kd.R_alloc | apply Kd.R_drewN | apply Kd.R_drew)); exact HO178.out) hb)
      have n1_ := Aside0.mk (Kd.S_below (by (with_reducible repeat (first | apply Kd.S_alloc | apply Kd.S_drewN | apply Kd.S_drew)); exact HO181.out) hb)
      have n2_ := Aside0.mk (Kd.R_below (by (with_reducible repeat (first | apply Kd.R_alloc | apply Kd.R_drewN | apply Kd.R_drew)); exact HO186.out) hb)
      have n3_ := Aside0.mk (Kd.S_below (by (with_reducible repeat (first | apply Kd.S_alloc | apply Kd.S_drewN | apply Kd.S_drew)); exact HO189.out) hb)
      have n4_ := Aside0.mk (Kd.R_below (by (with_reducible repeat (first | apply Kd.R_alloc | apply Kd.R_drewN | apply Kd.R_drew)); exact HO195.out) hb)
      have n5_ := Aside0.mk (Kd.S_below (by (with_reducible repeat (first | apply Kd.S_alloc | apply Kd.S_drewN | apply Kd.S_drew)); exact HO198.out) hb)
      have n6_ := Aside0.mk (Kd.R_below (by (with_reducible repeat (first | apply Kd.R_alloc | apply Kd.R_drewN | apply Kd.R_drew)); exact HO204.out) hb)
      have n7_ := Aside0.mk (Kd.S_below (by (with_reducible repeat (first | apply Kd.S_alloc | apply Kd.S_drewN | apply Kd.S_drew)); exact HO207.out) hb)
      have n8_ := Aside0.mk (Kd.R_below (by (with_reducible repeat (first | apply Kd.R_alloc | apply Kd.R_drewN | apply Kd.R_drew)); exact HO214.out) hb)
      have n9_ := Aside0.mk (Kd.S_below (by (with_reducible repeat (first | apply Kd.S_alloc | apply Kd.S_drewN | apply Kd.S_drew)); exact HO217.out) hb)
      have n10_ := kb BK170 hb
      have n11_ := kb BK171 hb
      have n12_ := kb BK199 hb
      have n13_ := kb BK208 hb
      have n14_ := sb hb
      clear HO178
      clear HO181
      clear HO186
      clear HO189
      clear HO195
      clear HO198
      clear HO204
      clear HO207
      clear HO214
      clear HO217
      clear BK170
      clear BK171
      clear BK199
      clear BK208
      clear HB
      have HO178 := n0_
      have HO181 := n1_
      have HO186 := n2_
      have HO189 := n3_
      have HO195 := n4_
      have HO198 := n5_
      have HO204 := n6_
      have HO207 := n7_
      have HO214 := n8_
      have HO217 := n9_
      have BK170 := n10_
      have BK171 := n11_
      have BK199 := n12_
      have BK208 := n13_
      have HB := n14_
      clear n0_ n1_ n2_ n3_ n4_ n5_ n6_ n7_ n8_ n9_ n10_ n11_ n12_ n13_ n14_
      (try clear hb)
      (try clear hb2)
      (try clear hk)
      (try clear hi)
      refine hK.out _ _ ⟨(blk_cell BK199.out 0).trans rfl, (blk_cell BK199.out 1).trans rfl, (blk_cell BK199.out 2).trans rfl, (blk_cell BK199.out 3).trans rfl, (blk_cell BK170.out 0).trans rfl, (blk_cell BK170.out 1).trans rfl, (blk_cell BK170.out 2).trans rfl, (blk_cell BK170.out 3).trans rfl⟩ (fun hHeld => ?_)
      clear hK K
      refine norm_ (a' := ?_) ?_ ?_
      rotate_left
      ·show Act.put _ (some 38) _ = _
       simp only [Act.put, List.setIfInBounds_toArray, List.set_cons_zero, List.set_cons_succ, i64_w, i32_w]
       rfl
      refine pure_ (i := 4) (N := some 39) (v := ?_) (a' := ?_) #[tT,tT,tT,tT,tT] rfl rfl (by kernel_rfl) (fun _ _ _ h => h) (Or.inl ⟨by rfl, ?_⟩) ?_ ?_
      rotate_left
      ·intro w'
       go_simp
       with_reducible rfl
      rotate_left
      ·exact pa
      refine done_ (by kernel_rfl) ?_
      try go_wp2
      have n0_ := Aside0.mk (Kd.R_drew HO178.out)
      have n1_ := Aside0.mk (Kd.S_drew HO181.out)
      have n2_ := Aside0.mk (Kd.R_drew HO186.out)
      have n3_ := Aside0.mk (Kd.S_drew HO189.out)
      have n4_ := Aside0.mk (Kd.R_drew HO195.out)
      have n5_ := Aside0.mk (Kd.S_drew HO198.out)
      have n6_ := Aside0.mk (Kd.R_drew HO204.out)
      have n7_ := Aside0.mk (Kd.S_drew HO207.out)
      have n8_ := Aside0.mk (Kd.R_drew HO214.out)
      have n9_ := Aside0.mk (Kd.S_drew HO217.out)
      have n10_ := Aside0.mk (blk_drew BK170.out)
      have n11_ := Aside0.mk (blk_drew BK171.out)
      have n12_ := Aside0.mk (blk_drew BK199.out)
      have n13_ := Aside0.mk (blk_drew BK208.out)
      have n14_ := Aside0.mk (below_drew1 HB.out)
      clear HO178
      clear HO181
      clear HO186
      clear HO189
      clear HO195
      clear HO198
      clear HO204
      clear HO207
      clear HO214
      clear HO217
      clear BK170
      clear BK171
      clear BK199
      clear BK208
      clear HB
      have HO178 := n0_
      have HO181 := n1_
      have HO186 := n2_
      have HO189 := n3_
      have HO195 := n4_
      have HO198 := n5_
      have HO204 := n6_
      have HO207 := n7_
      have HO214 := n8_
      have HO217 := n9_
      have BK170 := n10_
      have BK171 := n11_
      have BK199 := n12_
      have BK208 := n13_
      have HB := n14_
      clear n0_ n1_ n2_ n3_ n4_ n5_ n6_ n7_ n8_ n9_ n10_ n11_ n12_ n13_ n14_
      refine start_ (n := 5) (S := fun w' => w'.cell? ⟨gb208, 0, none⟩ = some (.int .i64 t200) ∧ w'.cell? ⟨gb208, 1, none⟩ = some (.int .i64 t201) ∧ w'.cell? ⟨gb208, 2, none⟩ = some (.slice Ao96 t202.length co96) ∧ w'.cell? ⟨gb208, 3, none⟩ = some (.slice Ao97 t205.length co97) ∧ w'.cell? ⟨gb171, 0, none⟩ = some (.int .i64 a1_0) ∧ w'.cell? ⟨gb171, 1, none⟩ = some (.int .i64 a1_1) ∧ w'.cell? ⟨gb171, 2, none⟩ = some (.slice A1_2 l1_2.length c1_2) ∧ w'.cell? ⟨gb171, 3, none⟩ = some (.slice A1_3 l1_3.length c1_3)) (ds := []) #[fF,fF,fF,fF,fF] (by kernel_rfl) rfl rfl ⟨(blk_cell BK208.out 0).trans rfl, (blk_cell BK208.out 1).trans rfl, (blk_cell BK208.out 2).trans rfl, (blk_cell BK208.out 3).trans rfl, (blk_cell BK171.out 0).trans rfl, (blk_cell BK171.out 1).trans rfl, (blk_cell BK171.out 2).trans rfl, (blk_cell BK171.out 3).trans rfl⟩ (fun hHeld => ?_)
      generalize w104.drew = w105 at HO178 HO181 HO186 HO189 HO195 HO198 HO204 HO207 HO214 HO217 BK170 BK171 BK199 BK208 HB hHeld ⊢
      refine take_ (i := 0) (N := some 40) (v := ?_) (a' := ?_) #[tT,fF,fF,fF,fF] rfl rfl (by kernel_rfl) (fun _ _ _ h => h) (Or.inl ⟨by rfl, ?_⟩) hHeld ?_ ?_
      rotate_left
      ·rintro w' ⟨s0, s1, s2, s3, s4, s5, s6, s7⟩
       go_simp
       with_reducible rfl
      rotate_left
      ·exact pa
      refine take_ (i := 1) (N := some 41) (v := ?_) (a' := ?_) #[tT,tT,fF,fF,fF] rfl rfl (by kernel_rfl) (fun _ _ _ h => h) (Or.inl ⟨by rfl, ?_⟩) hHeld ?_ ?_
      rotate_left
      ·rintro w' ⟨s0, s1, s2, s3, s4, s5, s6, s7⟩
       go_simp
       with_reducible rfl
      rotate_left
      ·exact pa
      refine one_ (i := 2) (N := some 42) #[tT,tT,tT,fF,fF] rfl rfl (by kernel_rfl) (by decide) (fun K hK => ?_)
      refine goes_ Try.func20 (by kernel_rfl) rfl #[.agg #[.int .i64 a1_0, .int .i64 a1_1, .slice A1_2 l1_2.length c1_2, .slice A1_3 l1_3.length c1_3]] (by rfl) rfl rfl (by (try simp only [List.map_toArray, List.map_cons, List.map_nil]); first | done | rfl | (simp only [List.length_drop, List.length_take]; rfl)) ?_
      with_reducible refine (laws_toDrawing.calls k a1_0 a1_1 _ _ l1_2 _ _ l1_3 t219 t220 t221 t224 _ ?side1 ?side2 ?side3 ?side4 A63.out).mono ?_
      (case side1 => repeat (first | exact (Kd.C_below HR1_2.out HB.out) | (with_reducible refine Kd.C_alloc ?_ _) | (with_reducible refine Kd.C_drewN ?_ _) | (with_reducible refine Kd.C_drew ?_)))
      (case side2 => exact HC1_2.out)
      (case side3 => repeat (first | exact (Kd.C_below HR1_3.out HB.out) | (with_reducible refine Kd.C_alloc ?_ _) | (with_reducible refine Kd.C_drewN ?_ _) | (with_reducible refine Kd.C_drew ?_)))
      (case side4 => exact HC1_3.out)
      rintro e w106 ⟨v222, v225, rfl, ho0, ho1, hb⟩
      refine ⟨_, rfl, ?_⟩
      have n0_ := Aside0.mk (Kd.R_elder' (by (with_reducible repeat (first | apply Kd.R_alloc | apply Kd.R_drewN | apply Kd.R_drew)); exact HO178.out) (Kd.R_base ho0) hb)
      have n1_ := Aside0.mk (Kd.S_elder' (by (with_reducible repeat (first | apply Kd.S_alloc | apply Kd.S_drewN | apply Kd.S_drew)); exact HO181.out) (Kd.S_base ho1) hb)
      have n2_ := Aside0.mk (Kd.R_elder' (by (with_reducible repeat (first | apply Kd.R_alloc | apply Kd.R_drewN | apply Kd.R_drew)); exact HO186.out) (Kd.R_base ho0) hb)
      have n3_ := Aside0.mk (Kd.S_elder' (by (with_reducible repeat (first | apply Kd.S_alloc | apply Kd.S_drewN | apply Kd.S_drew)); exact HO189.out) (Kd.S_base ho1) hb)
      have n4_ := Aside0.mk (Kd.R_elder' (by (with_reducible repeat (first | apply Kd.R_alloc | apply Kd.R_drewN | apply Kd.R_drew)); exact HO195.out) (Kd.R_base ho0) hb)
      have n5_ := Aside0.mk (Kd.S_elder' (by (with_reducible repeat (first | apply Kd.S_alloc | apply Kd.S_drewN | apply Kd.S_drew)); exact HO198.out) (Kd.S_base ho1) hb)
      have n6_ := Aside0.mk (Kd.R_elder' (by (with_reducible repeat (first | apply Kd.R_alloc | apply Kd.R_drewN | apply Kd.R_drew)); exact HO204.out) (Kd.R_base ho0) hb)
      have n7_ := Aside0.mk (Kd.S_elder' (by (with_reducible repeat (first | apply Kd.S_alloc | apply Kd.S_drewN | apply Kd.S_drew)); exact HO207.out) (Kd.S_base ho1) hb)
      have n8_ := Aside0.mk (Kd.R_elder' (by (with_reducible repeat (first | apply Kd.R_alloc | apply Kd.R_drewN | apply Kd.R_drew)); exact HO214.out) (Kd.R_base ho0) hb)
      have n9_ := Aside0.mk (Kd.S_elder' (by (with_reducible repeat (first | apply Kd.S_alloc | apply Kd.S_drewN | apply Kd.S_drew)); exact HO217.out) (Kd.S_base ho1) hb)
      have n10_ := Aside0.mk (Kd.R_lower (Kd.R_new' (Kd.R_new' (Kd.R_new' (Kd.R_new' (Kd.R_new' ho0 (Kd.R_lt (by (with_reducible repeat (first | apply Kd.R_alloc | apply Kd.R_drewN | apply Kd.R_drew)); exact HO178.out))) (Kd.R_lt (by (with_reducible repeat (first | apply Kd.R_alloc | apply Kd.R_drewN | apply Kd.R_drew)); exact HO186.out))) (Kd.R_lt (by (with_reducible repeat (first | apply Kd.R_alloc | apply Kd.R_drewN | apply Kd.R_drew)); exact HO195.out))) (Kd.R_lt (by (with_reducible repeat (first | apply Kd.R_alloc | apply Kd.R_drewN | apply Kd.R_drew)); exact HO204.out))) (Kd.R_lt (by (with_reducible repeat (first | apply Kd.R_alloc | apply Kd.R_drewN | apply Kd.R_drew)); exact HO214.out))) (below_size ib))
      have n11_ := Aside0.mk (Kd.S_lower (Kd.S_new' (Kd.S_new' (Kd.S_new' (Kd.S_new' (Kd.S_new' ho1 (Kd.S_lt (by (with_reducible repeat (first | apply Kd.S_alloc | apply Kd.S_drewN | apply Kd.S_drew)); exact HO181.out))) (Kd.S_lt (by (with_reducible repeat (first | apply Kd.S_alloc | apply Kd.S_drewN | apply Kd.S_drew)); exact HO189.out))) (Kd.S_lt (by (with_reducible repeat (first | apply Kd.S_alloc | apply Kd.S_drewN | apply Kd.S_drew)); exact HO198.out))) (Kd.S_lt (by (with_reducible repeat (first | apply Kd.S_alloc | apply Kd.S_drewN | apply Kd.S_drew)); exact HO207.out))) (Kd.S_lt (by (with_reducible repeat (first | apply Kd.S_alloc | apply Kd.S_drewN | apply Kd.S_drew)); exact HO217.out))) (below_size ib))
      have n12_ := kb BK170 hb
      have n13_ := kb BK171 hb
      have n14_ := kb BK199 hb
      have n15_ := kb BK208 hb
      have n16_ := sb hb
      clear HO178
      clear HO181
      clear HO186
      clear HO189
      clear HO195
      clear HO198
      clear HO204
      clear HO207
      clear HO214
      clear HO217
      clear BK170
      clear BK171
      clear BK199
      clear BK208
      clear HB
      have HO178 := n0_
      have HO181 := n1_
      have HO186 := n2_
      have HO189 := n3_
      have HO195 := n4_
      have HO198 := n5_
      have HO204 := n6_
      have HO207 := n7_
      have HO214 := n8_
      have HO217 := n9_
      have HO223 := n10_
      have HO226 := n11_
      have BK170 := n12_
      have BK171 := n13_
      have BK199 := n14_
      have BK208 := n15_
      have HB := n16_
      clear n0_ n1_ n2_ n3_ n4_ n5_ n6_ n7_ n8_ n9_ n10_ n11_ n12_ n13_ n14_ n15_ n16_
      (try clear hb)
      (try clear hb2)
      (try clear hk)
      (try clear hi)
      (try clear ho0)
      (try clear ho1)
      obtain ⟨Ao107, co107, eo107⟩ := Kd.R_slice HO223.out
      (first | subst eo107 | (injection eo107 with f1_ f2_ f3_; have f4_ := f1_.symm; have f5_ := f3_.symm; clear f1_ f2_ f3_; subst f4_; subst f5_))
      obtain ⟨Ao108, co108, eo108⟩ := Kd.S_slice HO226.out
      (first | subst eo108 | (injection eo108 with f1_ f2_ f3_; have f4_ := f1_.symm; have f5_ := f3_.symm; clear f1_ f2_ f3_; subst f4_; subst f5_))
      refine hK.out _ _ ⟨(blk_cell BK208.out 0).trans rfl, (blk_cell BK208.out 1).trans rfl, (blk_cell BK208.out 2).trans rfl, (blk_cell BK208.out 3).trans rfl, (blk_cell BK171.out 0).trans rfl, (blk_cell BK171.out 1).trans rfl, (blk_cell BK171.out 2).trans rfl, (blk_cell BK171.out 3).trans rfl⟩ (fun hHeld => ?_)
      clear hK K
      refine norm_ (a' := ?_) ?_ ?_
      rotate_left
      ·show Act.put _ (some 42) _ = _
       simp only [Act.put, List.setIfInBounds_toArray, List.set_cons_zero, List.set_cons_succ, i64_w, i32_w]
       rfl
      refine one_ (i := 3) (N := some 43) #[tT,tT,tT,tT,fF] rfl rfl (by kernel_rfl) (by decide) (fun K hK => ?_)
      refine goes_ Try.func22 (by kernel_rfl) rfl #[.agg #[.int .i64 t200, .int .i64 t201, .slice Ao96 t202.length co96, .slice Ao97 t205.length co97], .agg #[.int .i64 t219, .int .i64 t220, .slice Ao107 t221.length co107, .slice Ao108 t224.length co108]] (by rfl) rfl rfl (by (try simp only [List.map_toArray, List.map_cons, List.map_nil]); first | done | rfl | (simp only [List.length_drop, List.length_take]; rfl)) ?_
      with_reducible refine (laws_eqDrawing.calls k t200 t201 _ _ t202 _ _ t205 t219 t220 _ _ t221 _ _ t224 true _ ?side1 ?side2 ?side3 ?side4 ?side5 ?side6 ?side7 ?side8 A64.out).mono ?_
      (case side1 => repeat (first | exact (Kd.R_reads' HO204.out).2.2 | (with_reducible refine Kd.C_alloc ?_ _) | (with_reducible refine Kd.C_drewN ?_ _) | (with_reducible refine Kd.C_drew ?_)))
      (case side2 => exact (Kd.R_reads' HO204.out).2.1)
      (case side3 => repeat (first | exact (Kd.S_reads' HO207.out).2.2 | (with_reducible refine Kd.C_alloc ?_ _) | (with_reducible refine Kd.C_drewN ?_ _) | (with_reducible refine Kd.C_drew ?_)))
      (case side4 => exact (Kd.S_reads' HO207.out).2.1)
      (case side5 => repeat (first | exact (Kd.R_reads' HO223.out).2.2 | (with_reducible refine Kd.C_alloc ?_ _) | (with_reducible refine Kd.C_drewN ?_ _) | (with_reducible refine Kd.C_drew ?_)))
      (case side6 => exact (Kd.R_reads' HO223.out).2.1)
      (case side7 => repeat (first | exact (Kd.S_reads' HO226.out).2.2 | (with_reducible refine Kd.C_alloc ?_ _) | (with_reducible refine Kd.C_drewN ?_ _) | (with_reducible refine Kd.C_drew ?_)))
      (case side8 => exact (Kd.S_reads' HO226.out).2.1)
      rintro e w109 ⟨rfl, hb⟩
      refine ⟨_, rfl, ?_⟩
      have n0_ := Aside0.mk (Kd.R_below (by (with_reducible repeat (first | apply Kd.R_alloc | apply Kd.R_drewN | apply Kd.R_drew)); exact HO178.out) hb)
      have n1_ := Aside0.mk (Kd.S_below (by (with_reducible repeat (first | apply Kd.S_alloc | apply Kd.S_drewN | apply Kd.S_drew)); exact HO181.out) hb)
      have n2_ := Aside0.mk (Kd.R_below (by (with_reducible repeat (first | apply Kd.R_alloc | apply Kd.R_drewN | apply Kd.R_drew)); exact HO186.out) hb)
      have n3_ := Aside0.mk (Kd.S_below (by (with_reducible repeat (first | apply Kd.S_alloc | apply Kd.S_drewN | apply Kd.S_drew)); exact HO189.out) hb)
      have n4_ := Aside0.mk (Kd.R_below (by (with_reducible repeat (first | apply Kd.R_alloc | apply Kd.R_drewN | apply Kd.R_drew)); exact HO195.out) hb)
      have n5_ := Aside0.mk (Kd.S_below (by (with_reducible repeat (first | apply Kd.S_alloc | apply Kd.S_drewN | apply Kd.S_drew)); exact HO198.out) hb)
      have n6_ := Aside0.mk (Kd.R_below (by (with_reducible repeat (first | apply Kd.R_alloc | apply Kd.R_drewN | apply Kd.R_drew)); exact HO204.out) hb)
      have n7_ := Aside0.mk (Kd.S_below (by (with_reducible repeat (first | apply Kd.S_alloc | apply Kd.S_drewN | apply Kd.S_drew)); exact HO207.out) hb)
      have n8_ := Aside0.mk (Kd.R_below (by (with_reducible repeat (first | apply Kd.R_alloc | apply Kd.R_drewN | apply Kd.R_drew)); exact HO214.out) hb)
      have n9_ := Aside0.mk (Kd.S_below (by (with_reducible repeat (first | apply Kd.S_alloc | apply Kd.S_drewN | apply Kd.S_drew)); exact HO217.out) hb)
      have n10_ := Aside0.mk (Kd.R_below (by (with_reducible repeat (first | apply Kd.R_alloc | apply Kd.R_drewN | apply Kd.R_drew)); exact HO223.out) hb)
      have n11_ := Aside0.mk (Kd.S_below (by (with_reducible repeat (first | apply Kd.S_alloc | apply Kd.S_drewN | apply Kd.S_drew)); exact HO226.out) hb)
      have n12_ := kb BK170 hb
      have n13_ := kb BK171 hb
      have n14_ := kb BK199 hb
      have n15_ := kb BK208 hb
      have n16_ := sb hb
      clear HO178
      clear HO181
      clear HO186
      clear HO189
      clear HO195
      clear HO198
      clear HO204
      clear HO207
      clear HO214
      clear HO217
      clear HO223
      clear HO226
      clear BK170
      clear BK171
      clear BK199
      clear BK208
      clear HB
      have HO178 := n0_
      have HO181 := n1_
      have HO186 := n2_
      have HO189 := n3_
      have HO195 := n4_
      have HO198 := n5_
      have HO204 := n6_
      have HO207 := n7_
      have HO214 := n8_
      have HO217 := n9_
      have HO223 := n10_
      have HO226 := n11_
      have BK170 := n12_
      have BK171 := n13_
      have BK199 := n14_
      have BK208 := n15_
      have HB := n16_
      clear n0_ n1_ n2_ n3_ n4_ n5_ n6_ n7_ n8_ n9_ n10_ n11_ n12_ n13_ n14_ n15_ n16_
      (try clear hb)
      (try clear hb2)
      (try clear hk)
      (try clear hi)
      refine hK.out _ _ ⟨(blk_cell BK208.out 0).trans rfl, (blk_cell BK208.out 1).trans rfl, (blk_cell BK208.out 2).trans rfl, (blk_cell BK208.out 3).trans rfl, (blk_cell BK171.out 0).trans rfl, (blk_cell BK171.out 1).trans rfl, (blk_cell BK171.out 2).trans rfl, (blk_cell BK171.out 3).trans rfl⟩ (fun hHeld => ?_)
      clear hK K
      refine norm_ (a' := ?_) ?_ ?_
      rotate_left
      ·show Act.put _ (some 43) _ = _
       simp only [Act.put, List.setIfInBounds_toArray, List.set_cons_zero, List.set_cons_succ, i64_w, i32_w]
       rfl
      refine pure_ (i := 4) (N := some 44) (v := ?_) (a' := ?_) #[tT,tT,tT,tT,tT] rfl rfl (by kernel_rfl) (fun _ _ _ h => h) (Or.inl ⟨by rfl, ?_⟩) ?_ ?_
      rotate_left
      ·intro w'
       go_simp
       with_reducible rfl
      rotate_left
      ·exact pa
      refine done_ (by kernel_rfl) ?_
      try go_wp2
      go_ret
      exact ⟨by first | rfl | (simp [errW_none, errW_some] <;> rfl) | (simp [*, errW_none, errW_some] <;> rfl), by repeat (first | (with_reducible first | exact HB.out | apply below_alloc | apply pw_below_drewN | apply below_drew1 | refine below_set ?_ GE170.out | refine below_set ?_ GE171.out | refine below_set ?_ GE199.out | refine below_set ?_ GE208.out) | exact HB.out)⟩
     ·replace c65 := Bool.eq_false_iff.mpr c65
      subst c65
      have H1 : (some false) = some true := by rw [if_neg (show ¬ (false = true) by decide)] at H; exact H
      clear H
      have H := H1
      clear H1
      cases H
    ·replace c62 := Bool.eq_false_iff.mpr c62
     subst c62
     have H1 : (some false) = some true := by rw [if_neg (show ¬ (false = true) by decide)] at H; exact H
     clear H
     have H := H1
     clear H1
     cases H
end Go.Proofs.Ytfhgfdphdmlpbaa.PFnExactSameDrawing
