/- Contracts of functions that FnExactTurnsOf reaches, out of the lines of the kit's print. -/
import Derived.Test.YtfhgfdphdmlpbaaQFnExactTurnsOfx0
import Derived.Test.YtfhgfdphdmlpbaaQFnExactTurnsOfx9
namespace Go.Proofs.Ytfhgfdphdmlpbaa.PFnExactTurnsOf
open Go.RowKit Go.Proofs.YtfhgfdphdmlpbaaW.PrintWords Go.Proofs.YtfhgfdphdmlpbaaW.PrintLast Go.Proofs.YtfhgfdphdmlpbaaW.PrintMore
open Bool renaming true → tT, false → fF
open Go.World renaming block_lt_of_cell? → bL
attribute [local go_sem] max2_int min2_int max_two min_two max_three min_three max_four min_four
set_option linter.unusedVariables false
set_option linter.unusedSimpArgs false
mutual
def impl_Turned.j0 : Nat → Int → Bool → Int → Int → Option (Int × Int)
 | 0, _, _, _, _ => none
 | k + 1, x1, x20, x308000, x308001 => if x20 = true then (some (0, 0)) else (if x1 > 3 then (impl_Turned.j1 k x1 (wrap64 (-x308000)) x308001) else (impl_Turned.j1 k x1 x308000 x308001))
def impl_Turned.j1 : Nat → Int → Int → Int → Option (Int × Int)
 | 0, _, _, _ => none
 | k + 1, x1, x308000, x308001 => impl_Turned.l0 k (Int.tmod x1 4) x308000 x308001
def impl_Turned.l0 : Nat → Int → Int → Int → Option (Int × Int)
 | 0, _, _, _ => none
 | k + 1, x5, x308000, x308001 => if x5 > 0 then (impl_Turned.l0 k (wrap64 (x5 - 1)) (wrap64 (-x308001)) x308000) else (some (x308000, x308001))
end
def impl_Turned.f (k : Nat) (a0_0 : Int) (a0_1 : Int) (a1 : Int) : Option (Int × Int) := (impl_within.f a1 0 7).bind fun t309 => (if t309 = true then ((impl_within.f a0_0 (-20000) 20000).bind fun t310 => (if t310 = true then ((impl_within.f a0_1 (-20000) 20000).bind fun t311 => (impl_Turned.j0 k a1 (!t311) a0_0 a0_1)) else (impl_Turned.j0 k a1 true a0_0 a0_1))) else (impl_Turned.j0 k a1 true a0_0 a0_1))
theorem impl_Turned.mono_l : ∀ k, (∀ y0 y1 y2 y3, LeO (impl_Turned.j0 k y0 y1 y2 y3) (impl_Turned.j0 (k + 1) y0 y1 y2 y3)) ∧ (∀ y0 y1 y2, LeO (impl_Turned.j1 k y0 y1 y2) (impl_Turned.j1 (k + 1) y0 y1 y2)) ∧ (∀ y0 y1 y2, LeO (impl_Turned.l0 k y0 y1 y2) (impl_Turned.l0 (k + 1) y0 y1 y2))
 | 0 => ⟨fun _ _ _ _ r h => by simp [impl_Turned.j0] at h, fun _ _ _ r h => by simp [impl_Turned.j1] at h, fun _ _ _ r h => by simp [impl_Turned.l0] at h⟩
 | k + 1 => by
  obtain ⟨ih0, ih1, ih2⟩ := impl_Turned.mono_l k
  refine ⟨?_, ?_, ?_⟩
  ·intro y0 y1 y2 y3
   unfold impl_Turned.j0
   repeat' first
   | (with_reducible exact ih0 _ _ _ _)
   | (with_reducible exact ih1 _ _ _)
   | (with_reducible exact ih2 _ _ _)
   | (with_reducible exact LeO.refl _)
   | (with_reducible exact LeO.none _)
   | (with_reducible refine LeO.ite ?_ ?_)
   | (with_reducible refine LeO.bind ?_ (fun _ => ?_))
   | exact ih0 _ _ _ _
   | exact ih1 _ _ _
   | exact ih2 _ _ _
   | exact LeO.none _
   | refine LeO.ite ?_ ?_
   | refine LeO.bind ?_ (fun _ => ?_)
  ·intro y0 y1 y2
   unfold impl_Turned.j1
   repeat' first
   | (with_reducible exact ih0 _ _ _ _)
   | (with_reducible exact ih1 _ _ _)
   | (with_reducible exact ih2 _ _ _)
   | (with_reducible exact LeO.refl _)
   | (with_reducible exact LeO.none _)
   | (with_reducible refine LeO.ite ?_ ?_)
   | (with_reducible refine LeO.bind ?_ (fun _ => ?_))
   | exact ih0 _ _ _ _
   | exact ih1 _ _ _
   | exact ih2 _ _ _
   | exact LeO.none _
   | refine LeO.ite ?_ ?_
   | refine LeO.bind ?_ (fun _ => ?_)
  ·intro y0 y1 y2
   unfold impl_Turned.l0
   repeat' first
   | (with_reducible exact ih0 _ _ _ _)
   | (with_reducible exact ih1 _ _ _)
   | (with_reducible exact ih2 _ _ _)
   | (with_reducible exact LeO.refl _)
   | (with_reducible exact LeO.none _)
   | (with_reducible refine LeO.ite ?_ ?_)
   | (with_reducible refine LeO.bind ?_ (fun _ => ?_))
   | exact ih0 _ _ _ _
   | exact ih1 _ _ _
   | exact ih2 _ _ _
   | exact LeO.none _
   | refine LeO.ite ?_ ?_
   | refine LeO.bind ?_ (fun _ => ?_)
theorem impl_Turned.mono : ∀ a0 a1 a2 k, LeO (impl_Turned.f k a0 a1 a2) (impl_Turned.f (k + 1) a0 a1 a2) := by
 intro a0 a1 a2 k
 obtain ⟨ih0, ih1, ih2⟩ := impl_Turned.mono_l k
 unfold impl_Turned.f
 repeat' first
   | (with_reducible exact ih0 _ _ _ _)
   | (with_reducible exact ih1 _ _ _)
   | (with_reducible exact ih2 _ _ _)
   | (with_reducible exact LeO.refl _)
   | (with_reducible exact LeO.none _)
   | (with_reducible refine LeO.ite ?_ ?_)
   | (with_reducible refine LeO.bind ?_ (fun _ => ?_))
   | exact ih0 _ _ _ _
   | exact ih1 _ _ _
   | exact ih2 _ _ _
   | exact LeO.none _
   | refine LeO.ite ?_ ?_
   | refine LeO.bind ?_ (fun _ => ?_)
set_option maxHeartbeats 8000000 in
set_option maxRecDepth 100000 in
theorem impl_Turned.calls (k : Nat) (a0_0 : Int) (a0_1 : Int) (a1 : Int) (r1 : Int) (r2 : Int) (w : World) (h : impl_Turned.f k a0_0 a0_1 a1 = some (r1, r2)) :
  Calls Try.prog 53 #[.agg #[.int .i64 a0_0, .int .i64 a0_1], .int .i64 a1] w fun e w' => e = .returned (.agg #[.int .i64 r1, .int .i64 r2]) ∧ Below w.heap.size w w' := by
 have hu51 := Try.underlying51
 have HB := Aside0.mk (Below.refl w.heap.size w)
 have H : ((impl_within.f a1 0 7).bind fun t309 => (if t309 = true then ((impl_within.f a0_0 (-20000) 20000).bind fun t310 => (if t310 = true then ((impl_within.f a0_1 (-20000) 20000).bind fun t311 => (impl_Turned.j0 k a1 (!t311) a0_0 a0_1)) else (impl_Turned.j0 k a1 true a0_0 a0_1))) else (impl_Turned.j0 k a1 true a0_0 a0_1))) = some (r1, r2) := h
 clear h
 have HC3 := Aside0.mk H
 clear H
 go_enter Try.func53, Try.ntmps53
 go_upto_region 1 with (first | ((with_reducible refine gate_dst (N := 2) rfl ?_); refine bx (cs := #[.int .i64 a0_0, .int .i64 a0_1]) (t := 51) ?_; intro gb307 hg w4 hbox hb; have n0_ := sb hb; have n1_ := Aside0.mk (hbox); have n2_ := zb hg; have n3_ := zb hg; clear HB; have HB := n0_; have BK307 := n1_; have GW307 := n2_; have GE307 := n3_; clear n0_ n1_ n2_ n3_; clear hb hbox hg) | ((with_reducible refine gate_dst (N := 4) rfl ?_); refine bx (cs := #[.int .i64 0, .int .i64 0]) (t := 51) ?_; intro gb308 hg w5 hbox hb; have n0_ := kb BK307 hb; have n1_ := sb hb; have n2_ := Aside0.mk (hbox); have n3_ := zb hg; have n4_ := zb hg; have n5_ := nl BK307 hg; have n6_ := ng BK307 hg; clear BK307; clear HB; have BK307 := n0_; have HB := n1_; have BK308 := n2_; have GW308 := n3_; have GE308 := n4_; have NB307_308 := n5_; have NB308_307 := n6_; clear n0_ n1_ n2_ n3_ n4_ n5_ n6_; clear hb hbox hg))
 (try simp only [Act.put, List.setIfInBounds_toArray, List.set_cons_zero, List.set_cons_succ])
 go_cut [20] (fun v20 wc => ∃ (kq : Nat) (x20_2 : Bool), v20 = .bool x20_2 ∧ Aside0 (impl_Turned.j0 kq a1 x20_2 a0_0 a0_1 = some (r1, r2)) ∧ Aside0 (kq ≤ k) ∧ Aside0 (wc.heap[gb307]? = some (.cells #[.int .i64 a0_0, .int .i64 a0_1] 51 (0, 0))) ∧ Aside0 (wc.heap[gb308]? = some (.cells #[.int .i64 0, .int .i64 0] 51 (0, 0))) ∧ Aside0 (Below w.heap.size w wc))
 case first =>
  have H := HC3.out
  clear HC3
  replace H := Option.bind_eq_some_iff.mp H
  obtain ⟨t309, A60, H⟩ := H
  replace H : (if t309 = true then ((impl_within.f a0_0 (-20000) 20000).bind fun t310 => (if t310 = true then ((impl_within.f a0_1 (-20000) 20000).bind fun t311 => (impl_Turned.j0 k a1 (!t311) a0_0 a0_1)) else (impl_Turned.j0 k a1 true a0_0 a0_1))) else (impl_Turned.j0 k a1 true a0_0 a0_1)) = some (r1, r2) := H
  have A6 := Aside0.mk A60
  clear A60
  by_cases c7 : t309 = true
  ·subst c7
   have H1 : ((impl_within.f a0_0 (-20000) 20000).bind fun t310 => (if t310 = true then ((impl_within.f a0_1 (-20000) 20000).bind fun t311 => (impl_Turned.j0 k a1 (!t311) a0_0 a0_1)) else (impl_Turned.j0 k a1 true a0_0 a0_1))) = some (r1, r2) := by rw [if_pos rfl] at H; exact H
   clear H
   have H := H1
   clear H1
   replace H := Option.bind_eq_some_iff.mp H
   obtain ⟨t310, A80, H⟩ := H
   replace H : (if t310 = true then ((impl_within.f a0_1 (-20000) 20000).bind fun t311 => (impl_Turned.j0 k a1 (!t311) a0_0 a0_1)) else (impl_Turned.j0 k a1 true a0_0 a0_1)) = some (r1, r2) := H
   have A8 := Aside0.mk A80
   clear A80
   by_cases c9 : t310 = true
   ·subst c9
    have H1 : ((impl_within.f a0_1 (-20000) 20000).bind fun t311 => (impl_Turned.j0 k a1 (!t311) a0_0 a0_1)) = some (r1, r2) := by rw [if_pos rfl] at H; exact H
    clear H
    have H := H1
    clear H1
    replace H := Option.bind_eq_some_iff.mp H
    obtain ⟨t311, A100, H⟩ := H
    replace H : (impl_Turned.j0 k a1 (!t311) a0_0 a0_1) = some (r1, r2) := H
    have A10 := Aside0.mk A100
    clear A100
    have H' := Aside0.mk H
    clear H
    go_wp2_with (first | ((with_reducible refine gate_callee (f := 28) rfl ?_); refine goesL_ (some 7) rfl rfl Try.func28 (by kernel_rfl) rfl #[.int .i64 a1, .int .i64 0, .int .i64 7] rfl (by (try simp only [List.map_toArray, List.map_cons, List.map_nil]); first | done | rfl | (simp only [List.length_drop, List.length_take]; rfl)) ?_; (with_reducible refine (impl_within.calls a1 0 7 true _ A6.out).mono ?_); rintro e w' ⟨rfl, ⟨nd, rfl⟩⟩; refine ⟨_, rfl, ?_⟩; have hnb11 := NB307_308.out; have hnc11 := NB308_307.out; have hcz12_0 := ck BK307 0; have hcz12_1 := ck BK307 1; have hfz12_0 := blk_frozen BK307.out 0; have hfz12_1 := blk_frozen BK307.out 1) | (go_at_call 28; (with_reducible refine (impl_within.calls a0_0 (-20000) 20000 true _ A8.out).mono ?_); rintro e w' ⟨rfl, ⟨nd, rfl⟩⟩) | (go_at_call 28; (with_reducible refine (impl_within.calls a0_1 (-20000) 20000 t311 _ A10.out).mono ?_); rintro e w' ⟨rfl, ⟨nd, rfl⟩⟩))
    go_meet
    case rel => exact ⟨_, (!t311), (by first | rfl | (simp; done) | (simp [*]; done)), H', ⟨by first | omega | exact Nat.le_refl _⟩, ⟨by exact bk BK307⟩, ⟨by exact bk BK308⟩, ⟨by repeat (first | (with_reducible first | exact HB.out | apply below_alloc | apply pw_below_drewN | apply below_drew1 | refine below_set ?_ GE307.out | refine below_set ?_ GE308.out) | exact HB.out)⟩⟩
   ·replace c9 := Bool.eq_false_iff.mpr c9
    subst c9
    have H1 : (impl_Turned.j0 k a1 true a0_0 a0_1) = some (r1, r2) := by rw [if_neg (show ¬ (false = true) by decide)] at H; exact H
    clear H
    have H := H1
    clear H1
    have H' := Aside0.mk H
    clear H
    go_wp2_with (first | ((with_reducible refine gate_callee (f := 28) rfl ?_); refine goesL_ (some 7) rfl rfl Try.func28 (by kernel_rfl) rfl #[.int .i64 a1, .int .i64 0, .int .i64 7] rfl (by (try simp only [List.map_toArray, List.map_cons, List.map_nil]); first | done | rfl | (simp only [List.length_drop, List.length_take]; rfl)) ?_; (with_reducible refine (impl_within.calls a1 0 7 true _ A6.out).mono ?_); rintro e w' ⟨rfl, ⟨nd, rfl⟩⟩; refine ⟨_, rfl, ?_⟩; have hnb13 := NB307_308.out; have hnc13 := NB308_307.out; have hcz14_0 := ck BK307 0; have hcz14_1 := ck BK307 1; have hfz14_0 := blk_frozen BK307.out 0; have hfz14_1 := blk_frozen BK307.out 1) | (go_at_call 28; (with_reducible refine (impl_within.calls a0_0 (-20000) 20000 false _ A8.out).mono ?_); rintro e w' ⟨rfl, ⟨nd, rfl⟩⟩))
    go_meet
    case rel => exact ⟨_, (true), (by first | rfl | (simp; done) | (simp [*]; done)), H', ⟨by first | omega | exact Nat.le_refl _⟩, ⟨by exact bk BK307⟩, ⟨by exact bk BK308⟩, ⟨by repeat (first | (with_reducible first | exact HB.out | apply below_alloc | apply pw_below_drewN | apply below_drew1 | refine below_set ?_ GE307.out | refine below_set ?_ GE308.out) | exact HB.out)⟩⟩
  ·replace c7 := Bool.eq_false_iff.mpr c7
   subst c7
   have H1 : (impl_Turned.j0 k a1 true a0_0 a0_1) = some (r1, r2) := by rw [if_neg (show ¬ (false = true) by decide)] at H; exact H
   clear H
   have H := H1
   clear H1
   have H' := Aside0.mk H
   clear H
   go_wp2_with (first | ((with_reducible refine gate_callee (f := 28) rfl ?_); refine goesL_ (some 7) rfl rfl Try.func28 (by kernel_rfl) rfl #[.int .i64 a1, .int .i64 0, .int .i64 7] rfl (by (try simp only [List.map_toArray, List.map_cons, List.map_nil]); first | done | rfl | (simp only [List.length_drop, List.length_take]; rfl)) ?_; (with_reducible refine (impl_within.calls a1 0 7 false _ A6.out).mono ?_); rintro e w' ⟨rfl, ⟨nd, rfl⟩⟩; refine ⟨_, rfl, ?_⟩))
   go_meet
   case rel => exact ⟨_, (true), (by first | rfl | (simp; done) | (simp [*]; done)), H', ⟨by first | omega | exact Nat.le_refl _⟩, ⟨by exact bk BK307⟩, ⟨by exact bk BK308⟩, ⟨by repeat (first | (with_reducible first | exact HB.out | apply below_alloc | apply pw_below_drewN | apply below_drew1 | refine below_set ?_ GE307.out | refine below_set ?_ GE308.out) | exact HB.out)⟩⟩
 case rest =>
  clear HC3
  try clear c1
  try clear c2
  try clear p2
  try clear c5
  try clear c7
  try clear c9
  try clear c11
  try clear c13
  try clear hcz12_0
  try clear hcz12_1
  try clear hcz14_0
  try clear hcz14_1
  try clear hfz12_0
  try clear hfz12_1
  try clear hfz14_0
  try clear hfz14_1
  obtain ⟨kq, x20_2, rfl, HA, HJ2, BK307, BK308, HB⟩ := hcut
  cases kq with
  | zero => exact absurd HA.out (by simp [impl_Turned.j0])
  | succ kj2 =>
   have H := HA.out
   clear HA
   simp only [impl_Turned.j0] at H
   by_cases c15 : x20_2 = true
   ·subst c15
    have H1 : (some (0, 0)) = some (r1, r2) := by rw [if_pos rfl] at H; exact H
    clear H
    have H := H1
    clear H1
    simp only [Option.some.injEq, Prod.mk.injEq] at H
    obtain ⟨rfl, rfl⟩ := H
    have hnb16 := NB308_307.out
    have hnc16 := NB307_308.out
    have hcz17_0 : wc.cell? ⟨gb308, 0, none⟩ = some (.int .i64 0) := (blk_cell BK308.out 0).trans rfl
    have hcz17_1 : wc.cell? ⟨gb308, 1, none⟩ = some (.int .i64 0) := (blk_cell BK308.out 1).trans rfl
    have hfz17_0 := blk_frozen BK308.out 0
    have hfz17_1 := blk_frozen BK308.out 1
    go_wp2
    refine bodyPost_ret (results_cell_row rfl _ _ gb308 51 #[.int .i64 0, .int .i64 0] (0, 0) _ rfl (by refine bP (cs := #[.int .i64 0, .int .i64 0]) 1 ?_; refine bP (cs := #[.int .i64 0, .int .i64 0]) 0 ?_; exact bk BK308) Try.underlying51 rfl (by kernel_rfl)) rfl ?_
    exact ⟨by first | rfl | (simp [errW_none, errW_some] <;> rfl) | (simp [*, errW_none, errW_some] <;> rfl), by repeat (first | (with_reducible first | exact HB.out | apply below_alloc | apply pw_below_drewN | apply below_drew1 | refine below_set ?_ GE307.out | refine below_set ?_ GE308.out) | exact HB.out)⟩
   ·replace c15 := Bool.eq_false_iff.mpr c15
    subst c15
    have H1 : (if a1 > 3 then (impl_Turned.j1 kj2 a1 (wrap64 (-a0_0)) a0_1) else (impl_Turned.j1 kj2 a1 a0_0 a0_1)) = some (r1, r2) := by rw [if_neg (show ¬ (false = true) by decide)] at H; exact H
    clear H
    have H := H1
    clear H1
    have HC18 := Aside0.mk H
    clear H
    go_upto_if 23 with (fail)
    go_cut [] (fun wc => ∃ (kq : Nat) (x308000_17 : Int), Aside0 (impl_Turned.j1 kq a1 x308000_17 a0_1 = some (r1, r2)) ∧ Aside0 (kq ≤ kj2) ∧ Aside0 (wc.heap[gb307]? = some (.cells #[.int .i64 x308000_17, .int .i64 a0_1] 51 (0, 0))) ∧ Aside0 (wc.heap[gb308]? = some (.cells #[.int .i64 0, .int .i64 0] 51 (0, 0))) ∧ Aside0 (Below w.heap.size w wc))
    case first =>
     have H := HC18.out
     clear HC18
     by_cases c19 : a1 > 3
     ·rw [if_pos c19] at H
      have c19b0 : decide (3 < a1) = true := decide_eq_true c19
      clear c19
      (first | rw [c19b0] | (simp only [i64_w, i32_w]; rw [c19b0]) | skip)
      have H' := Aside0.mk H
      clear H
      have hnb20 := NB307_308.out
      have hnc20 := NB308_307.out
      have hcz21_0 : wc.cell? ⟨gb307, 0, none⟩ = some (.int .i64 a0_0) := (blk_cell BK307.out 0).trans rfl
      have hcz21_1 : wc.cell? ⟨gb307, 1, none⟩ = some (.int .i64 a0_1) := (blk_cell BK307.out 1).trans rfl
      have hfz21_0 := blk_frozen BK307.out 0
      have hfz21_1 := blk_frozen BK307.out 1
      go_wp2
      go_meet
      case rel => exact ⟨_, (wrap64 (-a0_0)), H', ⟨by have := HJ2.out; first | omega | exact Nat.le_refl _⟩, ⟨by refine bP (cs := #[.int .i64 a0_0, .int .i64 a0_1]) 0 ?_; exact bk BK307⟩, ⟨by refine bF NB308_307.out ?_; exact bk BK308⟩, ⟨by repeat (first | (with_reducible first | exact HB.out | apply below_alloc | apply pw_below_drewN | apply below_drew1 | refine below_set ?_ GE307.out | refine below_set ?_ GE308.out) | exact HB.out)⟩⟩
     ·rw [if_neg c19] at H
      have c19b0 : decide (3 < a1) = false := decide_eq_false c19
      clear c19
      (first | rw [c19b0] | (simp only [i64_w, i32_w]; rw [c19b0]) | skip)
      have H' := Aside0.mk H
      clear H
      go_wp2
      go_meet
      case rel => exact ⟨_, (a0_0), H', ⟨by have := HJ2.out; first | omega | exact Nat.le_refl _⟩, ⟨by exact bk BK307⟩, ⟨by exact bk BK308⟩, ⟨by repeat (first | (with_reducible first | exact HB.out | apply below_alloc | apply pw_below_drewN | apply below_drew1 | refine below_set ?_ GE307.out | refine below_set ?_ GE308.out) | exact HB.out)⟩⟩
    case rest =>
     clear HC18
     try clear c1
     try clear c2
     try clear p2
     try clear c5
     try clear p6
     try clear c7
     try clear c9
     try clear c11
     try clear c13
     try clear c15
     try clear c16
     try clear c19
     try clear c19b0
     try clear c20
     try clear hcz12_0
     try clear hcz12_1
     try clear hcz14_0
     try clear hcz14_1
     try clear hcz17_0
     try clear hcz17_1
     try clear hcz21_0
     try clear hcz21_1
     try clear hfz12_0
     try clear hfz12_1
     try clear hfz14_0
     try clear hfz14_1
     try clear hfz17_0
     try clear hfz17_1
     try clear hfz21_0
     try clear hfz21_1
     try clear p2
     obtain ⟨kq, x308000_17, HA, HJ17, BK307, BK308, HB⟩ := hcut
     cases kq with
     | zero => exact absurd HA.out (by simp [impl_Turned.j1])
     | succ kj17 =>
      have H := HA.out
      clear HA
      simp only [impl_Turned.j1] at H
      have H' := Aside0.mk H
      clear H
      go_wp2
      go_loopg [5] kj17 (fun kq v5 w' => ∃ (x5_3 : Int) (x308000_3 : Int) (x308001_3 : Int), v5 = .int .i64 x5_3 ∧ Aside0 (impl_Turned.l0 kq x5_3 x308000_3 x308001_3 = some (r1, r2)) ∧ Aside0 (kq ≤ kj17) ∧ Aside0 (w'.heap[gb307]? = some (.cells #[.int .i64 x308000_3, .int .i64 x308001_3] 51 (0, 0))) ∧ Aside0 (w'.heap[gb308]? = some (.cells #[.int .i64 0, .int .i64 0] 51 (0, 0))) ∧ Aside0 (Below w.heap.size w w'))
      case atStart => exact ⟨(Int.tmod a1 4), (x308000_17), (a0_1), (by first | rfl | (simp; done) | (simp [*]; done)), H', ⟨Nat.le_refl _⟩, ⟨by exact bk BK307⟩, ⟨by exact bk BK308⟩, ⟨by repeat (first | (with_reducible first | exact HB.out | apply below_alloc | apply pw_below_drewN | apply below_drew1 | refine below_set ?_ GE307.out | refine below_set ?_ GE308.out) | exact HB.out)⟩⟩
      case round =>
       clear H'
       try clear c1
       try clear c2
       try clear p2
       try clear c5
       try clear p6
       try clear c7
       try clear c9
       try clear c11
       try clear c13
       try clear c15
       try clear c16
       try clear c19
       try clear c19b0
       try clear c20
       try clear hcz12_0
       try clear hcz12_1
       try clear hcz14_0
       try clear hcz14_1
       try clear hcz17_0
       try clear hcz17_1
       try clear hcz21_0
       try clear hcz21_1
       try clear hfz12_0
       try clear hfz12_1
       try clear hfz14_0
       try clear hfz14_1
       try clear hfz17_0
       try clear hfz17_1
       try clear hfz21_0
       try clear hfz21_1
       try clear p2
       try clear p6
       obtain ⟨x5_3, x308000_3, x308001_3, rfl, HA, HK3, BK307, BK308, HB⟩ := hrel
       cases gk with
       | zero => exact absurd HA.out (by simp [impl_Turned.l0])
       | succ k3 =>
        have H := HA.out
        clear HA
        simp only [impl_Turned.l0] at H
        by_cases c22 : x5_3 > 0
        ·rw [if_pos c22] at H
         have c22b0 : decide (0 < x5_3) = true := decide_eq_true c22
         clear c22
         have H' := Aside0.mk H
         clear H
         have hnb23 := NB307_308.out
         have hnc23 := NB308_307.out
         have hcz24_0 : wr.cell? ⟨gb307, 0, none⟩ = some (.int .i64 x308000_3) := (blk_cell BK307.out 0).trans rfl
         have hcz24_1 : wr.cell? ⟨gb307, 1, none⟩ = some (.int .i64 x308001_3) := (blk_cell BK307.out 1).trans rfl
         have hfz24_0 := blk_frozen BK307.out 0
         have hfz24_1 := blk_frozen BK307.out 1
         go_wp2
         go_roundg k3
         case measure => have := HJ2.out; have := HJ17.out; have := HK3.out; omega
         case rel => exact ⟨(wrap64 (x5_3 - 1)), (wrap64 (-x308001_3)), (x308000_3), (by first | rfl | (simp; done) | (simp [*]; done)), H', ⟨by have := HJ2.out; have := HJ17.out; have := HK3.out; omega⟩, ⟨by refine bP (cs := #[.int .i64 (wrap64 (-x308001_3)), .int .i64 x308001_3]) 1 ?_; refine bP (cs := #[.int .i64 x308000_3, .int .i64 x308001_3]) 0 ?_; exact bk BK307⟩, ⟨by refine bF NB308_307.out ?_; refine bF NB308_307.out ?_; exact bk BK308⟩, ⟨by repeat (first | (with_reducible first | exact HB.out | apply below_alloc | apply pw_below_drewN | apply below_drew1 | refine below_set ?_ GE307.out | refine below_set ?_ GE308.out) | exact HB.out)⟩⟩
        ·rw [if_neg c22] at H
         have c22b0 : decide (0 < x5_3) = false := decide_eq_false c22
         clear c22
         simp only [Option.some.injEq, Prod.mk.injEq] at H
         obtain ⟨rfl, rfl⟩ := H
         have hnb25 := NB307_308.out
         have hnc25 := NB308_307.out
         have hcz26_0 : wr.cell? ⟨gb307, 0, none⟩ = some (.int .i64 x308000_3) := (blk_cell BK307.out 0).trans rfl
         have hcz26_1 : wr.cell? ⟨gb307, 1, none⟩ = some (.int .i64 x308001_3) := (blk_cell BK307.out 1).trans rfl
         have hfz26_0 := blk_frozen BK307.out 0
         have hfz26_1 := blk_frozen BK307.out 1
         have hcz27_0 : wr.cell? ⟨gb308, 0, none⟩ = some (.int .i64 0) := (blk_cell BK308.out 0).trans rfl
         have hcz27_1 : wr.cell? ⟨gb308, 1, none⟩ = some (.int .i64 0) := (blk_cell BK308.out 1).trans rfl
         have hfz27_0 := blk_frozen BK308.out 0
         have hfz27_1 := blk_frozen BK308.out 1
         go_wp2
         refine bodyPost_ret (results_cell_row rfl _ _ gb308 51 #[.int .i64 x308000_3, .int .i64 x308001_3] (0, 0) _ rfl (by refine bP (cs := #[.int .i64 x308000_3, .int .i64 0]) 1 ?_; refine bP (cs := #[.int .i64 0, .int .i64 0]) 0 ?_; exact bk BK308) Try.underlying51 rfl (by kernel_rfl)) rfl ?_
         exact ⟨by first | rfl | (simp [errW_none, errW_some] <;> rfl) | (simp [*, errW_none, errW_some] <;> rfl), by repeat (first | (with_reducible first | exact HB.out | apply below_alloc | apply pw_below_drewN | apply below_drew1 | refine below_set ?_ GE307.out | refine below_set ?_ GE308.out) | exact HB.out)⟩
end Go.Proofs.Ytfhgfdphdmlpbaa.PFnExactTurnsOf
