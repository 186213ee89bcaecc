/- Contracts of functions that FnExactTurnsOf reaches, out of the lines of the kit's print. -/
import Derived.Test.YtfhgfdphdmlpbaaQFnExactTurnsOfx0
namespace Go.Proofs.Ytfhgfdphdmlpbaa.PFnExactTurnsOf
open Go.RowKit Go.Proofs.YtfhgfdphdmlpbaaW.PrintWords Go.Proofs.YtfhgfdphdmlpbaaW.PrintLast Go.Proofs.YtfhgfdphdmlpbaaW.PrintMore
open Bool renaming true → tT, false → fF
open Go.World renaming block_lt_of_cell? → bL
attribute [local go_sem] max2_int min2_int max_two min_two max_three min_three max_four min_four
set_option linter.unusedVariables false
set_option linter.unusedSimpArgs false
def impl_bounds.l0 : Nat → List (S51) → Int → Int → Int → Int → Int → Int → Option (Int × Int × Int × Int)
 | 0, _, _, _, _, _, _, _ => none
 | k + 1, x14, x15, x16, x317000, x317001, x318000, x318001 => if x16 < x15 then (if 0 ≤ x16 then (if x16 < (x14.length : Int) then (impl_bounds.l0 k x14 x15 (wrap64 (x16 + 1)) (mn x317000 ((rd_T51 x14 x16).f0)) (mn x317001 ((rd_T51 x14 x16).f1)) (mx x318000 ((rd_T51 x14 x16).f0)) (mx x318001 ((rd_T51 x14 x16).f1))) else (none)) else (none)) else (some (x317000, x317001, x318000, x318001))
def impl_bounds.f (k : Nat) (l0 : List (S51)) : Option (Int × Int × Int × Int) := if 0 < (l0.length : Int) then (impl_bounds.l0 k l0 (l0.length : Int) 0 ((rd_T51 l0 0).f0) ((rd_T51 l0 0).f1) ((rd_T51 l0 0).f0) ((rd_T51 l0 0).f1)) else (none)
theorem impl_bounds.mono_l : ∀ k, (∀ y0 y1 y2 y3 y4 y5 y6, LeO (impl_bounds.l0 k y0 y1 y2 y3 y4 y5 y6) (impl_bounds.l0 (k + 1) y0 y1 y2 y3 y4 y5 y6))
 | 0 => fun _ _ _ _ _ _ _ r h => by simp [impl_bounds.l0] at h
 | k + 1 => by
  have ih0 := impl_bounds.mono_l k
  ·intro y0 y1 y2 y3 y4 y5 y6
   unfold impl_bounds.l0
   repeat' first
   | (with_reducible exact ih0 _ _ _ _ _ _ _)
   | (with_reducible exact LeO.refl _)
   | (with_reducible exact LeO.none _)
   | (with_reducible refine LeO.ite ?_ ?_)
   | (with_reducible refine LeO.bind ?_ (fun _ => ?_))
   | exact ih0 _ _ _ _ _ _ _
   | exact LeO.none _
   | refine LeO.ite ?_ ?_
   | refine LeO.bind ?_ (fun _ => ?_)
theorem impl_bounds.mono : ∀ a0 k, LeO (impl_bounds.f k a0) (impl_bounds.f (k + 1) a0) := by
 intro a0 k
 have ih0 := impl_bounds.mono_l k
 unfold impl_bounds.f
 repeat' first
   | (with_reducible exact ih0 _ _ _ _ _ _ _)
   | (with_reducible exact LeO.refl _)
   | (with_reducible exact LeO.none _)
   | (with_reducible refine LeO.ite ?_ ?_)
   | (with_reducible refine LeO.bind ?_ (fun _ => ?_))
   | exact ih0 _ _ _ _ _ _ _
   | exact LeO.none _
   | refine LeO.ite ?_ ?_
   | refine LeO.bind ?_ (fun _ => ?_)
def impl_bounds.T1 : Bool × List (List Nat × List Nat) := (true, [([], []), ([0], [0]), ([1], [1]), ([], []), ([3], [3]), ([4], [4]), ([], []), ([], []), ([6, 2, 0, 1, 2, 6, 7], [2, 6]), ([7, 5, 8, 0, 1, 2, 3, 4, 5, 6, 7, 8], [5, 7])])
def impl_bounds.B1 : List Nat := [0, 1, 3, 0, 8, 24, 0, 0, 199, 511]
theorem impl_bounds.tab1 : rtab .any (opsOf Try.f55 1) = impl_bounds.T1 := by kernel_rfl
theorem impl_bounds.bits1 : waitsOk impl_bounds.T1.2 impl_bounds.B1 = true := by kernel_rfl
set_option maxHeartbeats 8000000 in
set_option maxRecDepth 100000 in
theorem impl_bounds.calls (k : Nat) (A0 : Option Addr) (c0 : Nat) (l0 : List (S51)) (r1 : Int) (r2 : Int) (r3 : Int) (r4 : Int) (w : World) (hr0 : Kd.C k51 w A0 l0.length l0) (hc0 : l0.length ≤ c0) (h : impl_bounds.f k l0 = some (r1, r2, r3, r4)) :
  Calls Try.prog 55 #[.slice A0 l0.length c0] w fun e w' => e = .returned (.tuple #[.agg #[.int .i64 r1, .int .i64 r2], .agg #[.int .i64 r3, .int .i64 r4]]) ∧ Below w.heap.size w w' := by
 have hu51 := Try.underlying51
 have HR0 := Aside0.mk hr0
 have HC0 := Aside0.mk hc0
 clear hr0 hc0
 have HB := Aside0.mk (Below.refl w.heap.size w)
 have H : (if 0 < (l0.length : Int) then (impl_bounds.l0 k l0 (l0.length : Int) 0 ((rd_T51 l0 0).f0) ((rd_T51 l0 0).f1) ((rd_T51 l0 0).f0) ((rd_T51 l0 0).f1)) else (none)) = some (r1, r2, r3, r4) := h
 clear h
 by_cases c2 : 0 < (l0.length : Int)
 ·rw [if_pos c2] at H
  have c2b0 : decide (0 < (l0.length : Int)) = true := decide_eq_true c2
  have c2b1 : decide (0 < l0.length) = true := decide_eq_true (by omega)
  clear c2
  have H' := Aside0.mk H
  clear H
  go_enter Try.func55, Try.ntmps55
  try go_wp2_with (first | ((with_reducible refine gate_dst (N := 2) rfl ?_); refine bx (cs := #[.int .i64 0, .int .i64 0]) (t := 51) ?_; intro gb312 hg w3 hbox hb; have n0_ := sb hb; have n1_ := Aside0.mk (hbox); have n2_ := zb hg; have n3_ := zb hg; clear HB; have HB := n0_; have BK312 := n1_; have GW312 := n2_; have GE312 := n3_; clear n0_ n1_ n2_ n3_; clear hb hbox hg) | ((with_reducible refine gate_dst (N := 3) rfl ?_); refine bx (cs := #[.int .i64 0, .int .i64 0]) (t := 51) ?_; intro gb313 hg w4 hbox hb; have n0_ := kb BK312 hb; have n1_ := sb hb; have n2_ := Aside0.mk (hbox); have n3_ := zb hg; have n4_ := zb hg; have n5_ := nl BK312 hg; have n6_ := ng BK312 hg; clear BK312; clear HB; have BK312 := n0_; have HB := n1_; have BK313 := n2_; have GW313 := n3_; have GE313 := n4_; have NB312_313 := n5_; have NB313_312 := n6_; clear n0_ n1_ n2_ n3_ n4_ n5_ n6_; clear hb hbox hg))
  have n0_ := Aside0.mk (blk_drew BK312.out)
  have n1_ := Aside0.mk (blk_drew BK313.out)
  have n2_ := Aside0.mk (below_drew1 HB.out)
  clear BK312
  clear BK313
  clear HB
  have BK312 := n0_
  have BK313 := n1_
  have HB := n2_
  clear n0_ n1_ n2_
  have p314 : 0 ≤ (0 : Int) := (by omega)
  have q314 : 0 < (l0.length : Int) := da
  obtain ⟨ad314, e314, hx314_0, hx314_1⟩ := at_T51 HR0.out 0 p314 q314
  have hw314_1 := hx314_1
  (try rw [show ((0 : Int)).toNat = 0 from rfl] at hw314_1)
  (try rw [show 0 * 2 = 0 from rfl] at hw314_1)
  (try rw [Addr.add_zero'] at hw314_1)
  have hw314_0 := hx314_0
  (try rw [show ((0 : Int)).toNat = 0 from rfl] at hw314_0)
  (try rw [show 0 * 2 = 0 from rfl] at hw314_0)
  (try rw [Addr.add_zero'] at hw314_0)
  cases e314
  have qi314 : (0 < l0.length) = True := eq_true (by omega)
  (try rw [show ((0 : Int)).toNat = 0 from rfl] at hx314_0)
  (try rw [show 0 * 2 = 0 from rfl] at hx314_0)
  (try rw [Addr.add_zero'] at hx314_0)
  (try rw [show ((0 : Int)).toNat = 0 from rfl] at hx314_1)
  (try rw [show 0 * 2 = 0 from rfl] at hx314_1)
  (try rw [Addr.add_zero'] at hx314_1)
  replace hx314_0 := (HB.out.cell (bL w _ hx314_0)).trans hx314_0
  replace hx314_1 := (HB.out.cell (bL w _ hx314_1)).trans hx314_1
  replace p314 := eq_true p314
  replace q314 := eq_true q314
  have p315 : 0 ≤ (0 : Int) := (by omega)
  have q315 : 0 < (l0.length : Int) := da
  obtain ⟨ad315, e315, hx315_0, hx315_1⟩ := at_T51 HR0.out 0 p315 q315
  have hw315_1 := hx315_1
  (try rw [show ((0 : Int)).toNat = 0 from rfl] at hw315_1)
  (try rw [show 0 * 2 = 0 from rfl] at hw315_1)
  (try rw [Addr.add_zero'] at hw315_1)
  have hw315_0 := hx315_0
  (try rw [show ((0 : Int)).toNat = 0 from rfl] at hw315_0)
  (try rw [show 0 * 2 = 0 from rfl] at hw315_0)
  (try rw [Addr.add_zero'] at hw315_0)
  obtain rfl : ad314 = ad315 := (by injection e315)
  have qi315 : (0 < l0.length) = True := eq_true (by omega)
  (try rw [show ((0 : Int)).toNat = 0 from rfl] at hx315_0)
  (try rw [show 0 * 2 = 0 from rfl] at hx315_0)
  (try rw [Addr.add_zero'] at hx315_0)
  (try rw [show ((0 : Int)).toNat = 0 from rfl] at hx315_1)
  (try rw [show 0 * 2 = 0 from rfl] at hx315_1)
  (try rw [Addr.add_zero'] at hx315_1)
  replace hx315_0 := (HB.out.cell (bL w _ hx315_0)).trans hx315_0
  replace hx315_1 := (HB.out.cell (bL w _ hx315_1)).trans hx315_1
  replace p315 := eq_true p315
  replace q315 := eq_true q315
  refine start_ (n := 10) (S := fun w' => w'.cell? ad314 = some (.int .i64 ((rd_T51 l0 0).f0)) ∧ w'.cell? ⟨ad314.block, ad314.off + 1, none⟩ = some (.int .i64 ((rd_T51 l0 0).f1)) ∧ w'.cell? ad314 = some (.int .i64 ((rd_T51 l0 0).f0)) ∧ w'.cell? ⟨ad314.block, ad314.off + 1, none⟩ = some (.int .i64 ((rd_T51 l0 0).f1))) (ds := []) #[fF,fF,fF,fF,fF,fF,fF,fF,fF,fF] (by kernel_rfl) rfl rfl ⟨((HB.out.cell (bL w _ hw314_0)).trans hw314_0), ((HB.out.cell (bL w _ hw314_1)).trans hw314_1), ((HB.out.cell (bL w _ hw315_0)).trans hw315_0), ((HB.out.cell (bL w _ hw315_1)).trans hw315_1)⟩ (fun hHeld => ?_); refine with_tabW impl_bounds.tab1 impl_bounds.bits1 (fun HT_ HW_ => ?_)
  generalize w4.drew = w5 at BK312 BK313 HB hx314_0 hx314_1 hx315_0 hx315_1 hHeld ⊢
  refine pu 0 8 HT_ ?_
  refine pu 1 9 HT_ ?_
  refine pu 3 11 HT_ ?_
  refine pu 4 12 HT_ ?_
  refine tk 2 10 HT_ HW_ hHeld ?_
  refine tk 5 13 HT_ HW_ hHeld ?_
  refine join_ (σ := Nat × Nat) 2 #[tT,tT,tT,tT,tT,tT,tT,tT,fF,fF] (fun s_ => [(4, .pointer (some ⟨s_.1, 0, none⟩)), (5, .pointer (some ⟨s_.2, 0, none⟩))]) (fun s_ w' => (w'.cell? ad314 = some (.int .i64 ((rd_T51 l0 0).f0)) ∧ w'.cell? ⟨ad314.block, ad314.off + 1, none⟩ = some (.int .i64 ((rd_T51 l0 0).f1)) ∧ w'.cell? ad314 = some (.int .i64 ((rd_T51 l0 0).f0)) ∧ w'.cell? ⟨ad314.block, ad314.off + 1, none⟩ = some (.int .i64 ((rd_T51 l0 0).f1))) ∧ (w'.heap[gb312]? = some (.cells #[.int .i64 0, .int .i64 0] 51 (0, 0))) ∧ (w'.heap[gb313]? = some (.cells #[.int .i64 0, .int .i64 0] 51 (0, 0))) ∧ (w'.heap[s_.1]? = some (.cells #[.int .i64 0, .int .i64 0] 51 (0, 0))) ∧ (w'.heap[s_.2]? = some (.cells #[.int .i64 0, .int .i64 0] 51 (0, 0))) ∧ (w.heap.size ≤ s_.1) ∧ (w.heap.size ≤ s_.1) ∧ (gb312 ≠ s_.1) ∧ (s_.1 ≠ gb312) ∧ (gb313 ≠ s_.1) ∧ (s_.1 ≠ gb313) ∧ (s_.2 ≠ s_.1) ∧ (s_.1 ≠ s_.2) ∧ (w.heap.size ≤ s_.2) ∧ (w.heap.size ≤ s_.2) ∧ (gb312 ≠ s_.2) ∧ (s_.2 ≠ gb312) ∧ (gb313 ≠ s_.2) ∧ (s_.2 ≠ gb313) ∧ (Below w.heap.size w w')) ?_ ?_
  rotate_left
  ·intro hCont
   refine two_ (i := 6) (j := 7) (Ni := some 4) (Nj := some 5) #[tT,tT,tT,tT,tT,tT,tT,fF,fF,fF] #[tT,tT,tT,tT,tT,tT,fF,tT,fF,fF] rfl rfl rfl rfl (two_of HT_.out (by kernel_rfl)) (by decide) (by decide) (fun K hK => ?_) (fun K hK => ?_)
   ·skip
    refine box_step ?hg (N := 4) ?hd (cs := #[.int .i64 0, .int .i64 0]) (t := 51) ?hr ?_; (case hd => rfl); (case hg => rfl); (case hr => first | (go_simp; done) | (go_simp; rfl))
    intro gb316 hg w6 hbox hb
    have n0_ := kb BK312 hb
    have n1_ := kb BK313 hb
    have n2_ := sb hb
    have n3_ := Aside0.mk (hbox)
    have n4_ := zb hg
    have n5_ := zb hg
    have n6_ := nl BK312 hg
    have n7_ := ng BK312 hg
    have n8_ := nl BK313 hg
    have n9_ := ng BK313 hg
    clear BK312
    clear BK313
    clear HB
    have BK312 := n0_
    have BK313 := n1_
    have HB := n2_
    have BK316 := n3_
    have GW316 := n4_
    have GE316 := n5_
    have NB312_316 := n6_
    have NB316_312 := n7_
    have NB313_316 := n8_
    have NB316_313 := n9_
    clear n0_ n1_ n2_ n3_ n4_ n5_ n6_ n7_ n8_ n9_
    clear hb hbox hg
    refine hK.out _ _ ⟨((HB.out.cell (bL w _ hw314_0)).trans hw314_0), ((HB.out.cell (bL w _ hw314_1)).trans hw314_1), ((HB.out.cell (bL w _ hw315_0)).trans hw315_0), ((HB.out.cell (bL w _ hw315_1)).trans hw315_1)⟩ (fun hHeld => ?_)
    clear hK K
    refine norm_ (a' := ?_) ?_ ?_
    rotate_left
    ·show Act.put _ (some 4) _ = _
     simp only [Act.put, List.setIfInBounds_toArray, List.set_cons_zero, List.set_cons_succ, i64_w, i32_w]
     rfl
    refine on 7 5 HT_ (fun K hK => ?_)
    refine box_step ?hg (N := 5) ?hd (cs := #[.int .i64 0, .int .i64 0]) (t := 51) ?hr ?_; (case hd => rfl); (case hg => rfl); (case hr => first | (go_simp; done) | (go_simp; rfl))
    intro gb317 hg w7 hbox hb
    have n0_ := kb BK312 hb
    have n1_ := kb BK313 hb
    have n2_ := kb BK316 hb
    have n3_ := sb hb
    have n4_ := Aside0.mk (hbox)
    have n5_ := zb hg
    have n6_ := zb hg
    have n7_ := nl BK312 hg
    have n8_ := ng BK312 hg
    have n9_ := nl BK313 hg
    have n10_ := ng BK313 hg
    have n11_ := nl BK316 hg
    have n12_ := ng BK316 hg
    clear BK312
    clear BK313
    clear BK316
    clear HB
    have BK312 := n0_
    have BK313 := n1_
    have BK316 := n2_
    have HB := n3_
    have BK317 := n4_
    have GW317 := n5_
    have GE317 := n6_
    have NB312_317 := n7_
    have NB317_312 := n8_
    have NB313_317 := n9_
    have NB317_313 := n10_
    have NB316_317 := n11_
    have NB317_316 := n12_
    clear n0_ n1_ n2_ n3_ n4_ n5_ n6_ n7_ n8_ n9_ n10_ n11_ n12_
    clear hb hbox hg
    refine hK.out _ _ ⟨((HB.out.cell (bL w _ hw314_0)).trans hw314_0), ((HB.out.cell (bL w _ hw314_1)).trans hw314_1), ((HB.out.cell (bL w _ hw315_0)).trans hw315_0), ((HB.out.cell (bL w _ hw315_1)).trans hw315_1)⟩ (fun hHeld => ?_)
    clear hK K
    refine norm_ (a' := ?_) ?_ ?_
    rotate_left
    ·show Act.put _ (some 5) _ = _
     simp only [Act.put, List.setIfInBounds_toArray, List.set_cons_zero, List.set_cons_succ, i64_w, i32_w]
     rfl
    exact norm_ (by simp only [putAll, Act.put, List.setIfInBounds_toArray, List.set_cons_zero, List.set_cons_succ]) (hCont (gb316, gb317) _ ⟨hHeld, (bk BK312), (bk BK313), (bk BK316), (bk BK317), GW316.out, GE316.out, NB312_316.out, NB316_312.out, NB313_316.out, NB316_313.out, NB317_316.out, NB316_317.out, GW317.out, GE317.out, NB312_317.out, NB317_312.out, NB313_317.out, NB317_313.out, ib⟩)
   ·skip
    refine box_step ?hg (N := 5) ?hd (cs := #[.int .i64 0, .int .i64 0]) (t := 51) ?hr ?_; (case hd => rfl); (case hg => rfl); (case hr => first | (go_simp; done) | (go_simp; rfl))
    intro gb317 hg w6 hbox hb
    have n0_ := kb BK312 hb
    have n1_ := kb BK313 hb
    have n2_ := sb hb
    have n3_ := Aside0.mk (hbox)
    have n4_ := zb hg
    have n5_ := zb hg
    have n6_ := nl BK312 hg
    have n7_ := ng BK312 hg
    have n8_ := nl BK313 hg
    have n9_ := ng BK313 hg
    clear BK312
    clear BK313
    clear HB
    have BK312 := n0_
    have BK313 := n1_
    have HB := n2_
    have BK317 := n3_
    have GW317 := n4_
    have GE317 := n5_
    have NB312_317 := n6_
    have NB317_312 := n7_
    have NB313_317 := n8_
    have NB317_313 := n9_
    clear n0_ n1_ n2_ n3_ n4_ n5_ n6_ n7_ n8_ n9_
    clear hb hbox hg
    refine hK.out _ _ ⟨((HB.out.cell (bL w _ hw314_0)).trans hw314_0), ((HB.out.cell (bL w _ hw314_1)).trans hw314_1), ((HB.out.cell (bL w _ hw315_0)).trans hw315_0), ((HB.out.cell (bL w _ hw315_1)).trans hw315_1)⟩ (fun hHeld => ?_)
    clear hK K
    refine norm_ (a' := ?_) ?_ ?_
    rotate_left
    ·show Act.put _ (some 5) _ = _
     simp only [Act.put, List.setIfInBounds_toArray, List.set_cons_zero, List.set_cons_succ, i64_w, i32_w]
     rfl
    refine on 6 4 HT_ (fun K hK => ?_)
    refine box_step ?hg (N := 4) ?hd (cs := #[.int .i64 0, .int .i64 0]) (t := 51) ?hr ?_; (case hd => rfl); (case hg => rfl); (case hr => first | (go_simp; done) | (go_simp; rfl))
    intro gb316 hg w7 hbox hb
    have n0_ := kb BK312 hb
    have n1_ := kb BK313 hb
    have n2_ := kb BK317 hb
    have n3_ := sb hb
    have n4_ := Aside0.mk (hbox)
    have n5_ := zb hg
    have n6_ := zb hg
    have n7_ := nl BK312 hg
    have n8_ := ng BK312 hg
    have n9_ := nl BK313 hg
    have n10_ := ng BK313 hg
    have n11_ := nl BK317 hg
    have n12_ := ng BK317 hg
    clear BK312
    clear BK313
    clear BK317
    clear HB
    have BK312 := n0_
    have BK313 := n1_
    have BK317 := n2_
    have HB := n3_
    have BK316 := n4_
    have GW316 := n5_
    have GE316 := n6_
    have NB312_316 := n7_
    have NB316_312 := n8_
    have NB313_316 := n9_
    have NB316_313 := n10_
    have NB317_316 := n11_
    have NB316_317 := n12_
    clear n0_ n1_ n2_ n3_ n4_ n5_ n6_ n7_ n8_ n9_ n10_ n11_ n12_
    clear hb hbox hg
    refine hK.out _ _ ⟨((HB.out.cell (bL w _ hw314_0)).trans hw314_0), ((HB.out.cell (bL w _ hw314_1)).trans hw314_1), ((HB.out.cell (bL w _ hw315_0)).trans hw315_0), ((HB.out.cell (bL w _ hw315_1)).trans hw315_1)⟩ (fun hHeld => ?_)
    clear hK K
    refine norm_ (a' := ?_) ?_ ?_
    rotate_left
    ·show Act.put _ (some 4) _ = _
     simp only [Act.put, List.setIfInBounds_toArray, List.set_cons_zero, List.set_cons_succ, i64_w, i32_w]
     rfl
    exact norm_ (by simp only [putAll, Act.put, List.setIfInBounds_toArray, List.set_cons_zero, List.set_cons_succ]) (hCont (gb316, gb317) _ ⟨hHeld, (bk BK312), (bk BK313), (bk BK316), (bk BK317), GW316.out, GE316.out, NB312_316.out, NB316_312.out, NB313_316.out, NB316_313.out, NB317_316.out, NB316_317.out, GW317.out, GE317.out, NB312_317.out, NB317_312.out, NB313_317.out, NB317_313.out, ib⟩)
  rintro ⟨gb316, gb317⟩ w8 ⟨hS_, h0_, h1_, h2_, h3_, h4_, h5_, h6_, h7_, h8_, h9_, h10_, h11_, h12_, h13_, h14_, h15_, h16_, h17_, h18_⟩
  have n0_ : Aside0 (w8.heap[gb312]? = some (.cells #[.int .i64 0, .int .i64 0] 51 (0, 0))) := ⟨h0_⟩
  have n1_ : Aside0 (w8.heap[gb313]? = some (.cells #[.int .i64 0, .int .i64 0] 51 (0, 0))) := ⟨h1_⟩
  have n2_ : Aside0 (w8.heap[gb316]? = some (.cells #[.int .i64 0, .int .i64 0] 51 (0, 0))) := ⟨h2_⟩
  have n3_ : Aside0 (w8.heap[gb317]? = some (.cells #[.int .i64 0, .int .i64 0] 51 (0, 0))) := ⟨h3_⟩
  have n4_ : Aside0 (w.heap.size ≤ gb316) := ⟨h4_⟩
  have n5_ : Aside0 (w.heap.size ≤ gb316) := ⟨h5_⟩
  have n6_ : Aside0 (gb312 ≠ gb316) := ⟨h6_⟩
  have n7_ : Aside0 (gb316 ≠ gb312) := ⟨h7_⟩
  have n8_ : Aside0 (gb313 ≠ gb316) := ⟨h8_⟩
  have n9_ : Aside0 (gb316 ≠ gb313) := ⟨h9_⟩
  have n10_ : Aside0 (gb317 ≠ gb316) := ⟨h10_⟩
  have n11_ : Aside0 (gb316 ≠ gb317) := ⟨h11_⟩
  have n12_ : Aside0 (w.heap.size ≤ gb317) := ⟨h12_⟩
  have n13_ : Aside0 (w.heap.size ≤ gb317) := ⟨h13_⟩
  have n14_ : Aside0 (gb312 ≠ gb317) := ⟨h14_⟩
  have n15_ : Aside0 (gb317 ≠ gb312) := ⟨h15_⟩
  have n16_ : Aside0 (gb313 ≠ gb317) := ⟨h16_⟩
  have n17_ : Aside0 (gb317 ≠ gb313) := ⟨h17_⟩
  have n18_ : Aside0 (Below w.heap.size w w8) := ⟨h18_⟩
  clear BK312
  clear BK313
  clear HB
  clear h0_ h1_ h2_ h3_ h4_ h5_ h6_ h7_ h8_ h9_ h10_ h11_ h12_ h13_ h14_ h15_ h16_ h17_ h18_
  have BK312 := n0_
  have BK313 := n1_
  have BK316 := n2_
  have BK317 := n3_
  have GW316 := n4_
  have GE316 := n5_
  have NB312_316 := n6_
  have NB316_312 := n7_
  have NB313_316 := n8_
  have NB316_313 := n9_
  have NB317_316 := n10_
  have NB316_317 := n11_
  have GW317 := n12_
  have GE317 := n13_
  have NB312_317 := n14_
  have NB317_312 := n15_
  have NB313_317 := n16_
  have NB317_313 := n17_
  have HB := n18_
  clear n0_ n1_ n2_ n3_ n4_ n5_ n6_ n7_ n8_ n9_ n10_ n11_ n12_ n13_ n14_ n15_ n16_ n17_ n18_
  have hHeld : w8.cell? ad314 = some (.int .i64 ((rd_T51 l0 0).f0)) ∧ w8.cell? ⟨ad314.block, ad314.off + 1, none⟩ = some (.int .i64 ((rd_T51 l0 0).f1)) ∧ w8.cell? ad314 = some (.int .i64 ((rd_T51 l0 0).f0)) ∧ w8.cell? ⟨ad314.block, ad314.off + 1, none⟩ = some (.int .i64 ((rd_T51 l0 0).f1)) := hS_
  refine norm_ (a' := ?_) ?_ ?_
  rotate_left
  ·simp only [putAll, Act.put, List.setIfInBounds_toArray, List.set_cons_zero, List.set_cons_succ]
   rfl
  refine one_ (i := 8) (N := none) #[tT,tT,tT,tT,tT,tT,tT,tT,tT,fF] rfl rfl (one_of HT_.out (by kernel_rfl)) (by decide) (fun K hK => ?_)
  have hs9 : w8.cell? ⟨gb316, 0, none⟩ = some (.int .i64 0) := (blk_cell BK316.out 0).trans rfl
  have hfs9 := blk_frozen BK316.out 0
  have hns9_0 := NB312_316.out
  have hns9_1 := NB313_316.out
  have hns9_3 := NB317_316.out
  have hms9_0 := NB316_312.out
  have hms9_1 := NB316_313.out
  have hms9_3 := NB316_317.out
  have hs10 : w8.cell? ⟨gb316, 1, none⟩ = some (.int .i64 0) := (blk_cell BK316.out 1).trans rfl
  have hfs10 := blk_frozen BK316.out 1
  have hns10_0 := NB312_316.out
  have hns10_1 := NB313_316.out
  have hns10_3 := NB317_316.out
  have hms10_0 := NB316_312.out
  have hms10_1 := NB316_313.out
  have hms10_3 := NB316_317.out
  refine skip_ (w1 := ?_) (by rfl) rfl ?_ ?_
  rotate_left
  ·go_simp
   rfl
  refine hK.out _ _ ⟨(cg hw314_0 GW316 ((cg hw314_0 GW316 (hHeld.1)))), (cg hw314_1 GW316 ((cg hw314_1 GW316 (hHeld.2.1)))), (cg hw315_0 GW316 ((cg hw315_0 GW316 (hHeld.2.2.1)))), (cg hw315_1 GW316 ((cg hw315_1 GW316 (hHeld.2.2.2))))⟩ (fun hHeld => ?_)
  clear hK K
  refine one_ (i := 9) (N := none) #[tT,tT,tT,tT,tT,tT,tT,tT,tT,tT] rfl rfl (one_of HT_.out (by kernel_rfl)) (by decide) (fun K hK => ?_)
  have hs11 : w8.cell? ⟨gb317, 0, none⟩ = some (.int .i64 0) := (blk_cell BK317.out 0).trans rfl
  have hfs11 := blk_frozen BK317.out 0
  have hns11_0 := NB312_317.out
  have hns11_1 := NB313_317.out
  have hns11_2 := NB316_317.out
  have hms11_0 := NB317_312.out
  have hms11_1 := NB317_313.out
  have hms11_2 := NB317_316.out
  have hs12 : w8.cell? ⟨gb317, 1, none⟩ = some (.int .i64 0) := (blk_cell BK317.out 1).trans rfl
  have hfs12 := blk_frozen BK317.out 1
  have hns12_0 := NB312_317.out
  have hns12_1 := NB313_317.out
  have hns12_2 := NB316_317.out
  have hms12_0 := NB317_312.out
  have hms12_1 := NB317_313.out
  have hms12_2 := NB317_316.out
  refine skip_ (w1 := ?_) (by rfl) rfl ?_ ?_
  rotate_left
  ·go_simp
   rfl
  refine hK.out _ _ ⟨(cg hw314_0 GW317 ((cg hw314_0 GW317 (hHeld.1)))), (cg hw314_1 GW317 ((cg hw314_1 GW317 (hHeld.2.1)))), (cg hw315_0 GW317 ((cg hw315_0 GW317 (hHeld.2.2.1)))), (cg hw315_1 GW317 ((cg hw315_1 GW317 (hHeld.2.2.2))))⟩ (fun hHeld => ?_)
  clear hK K
  refine done_ (done_of HT_.out (by kernel_rfl)) ?_
  try go_wp2
  go_loopg [16] k (fun kq v16 w' => ∃ (x16_1 : Int) (x317000_1 : Int) (x317001_1 : Int) (x318000_1 : Int) (x318001_1 : Int), v16 = .int .i64 x16_1 ∧ Aside0 (impl_bounds.l0 kq l0 (l0.length : Int) x16_1 x317000_1 x317001_1 x318000_1 x318001_1 = some (r1, r2, r3, r4)) ∧ Aside0 (kq ≤ k) ∧ Aside0 (w'.heap[gb312]? = some (.cells #[.int .i64 0, .int .i64 0] 51 (0, 0))) ∧ Aside0 (w'.heap[gb313]? = some (.cells #[.int .i64 0, .int .i64 0] 51 (0, 0))) ∧ Aside0 (w'.heap[gb316]? = some (.cells #[.int .i64 x317000_1, .int .i64 x317001_1] 51 (0, 0))) ∧ Aside0 (w'.heap[gb317]? = some (.cells #[.int .i64 x318000_1, .int .i64 x318001_1] 51 (0, 0))) ∧ Aside0 (Below w.heap.size w w'))
  case atStart => exact ⟨(0), ((rd_T51 l0 0).f0), ((rd_T51 l0 0).f1), ((rd_T51 l0 0).f0), ((rd_T51 l0 0).f1), (by first | rfl | (simp; done) | (simp [*]; done)), H', ⟨Nat.le_refl _⟩, ⟨by refine bF NB312_317.out ?_; refine bF NB312_317.out ?_; refine bF NB312_316.out ?_; refine bF NB312_316.out ?_; exact bk BK312⟩, ⟨by refine bF NB313_317.out ?_; refine bF NB313_317.out ?_; refine bF NB313_316.out ?_; refine bF NB313_316.out ?_; exact bk BK313⟩, ⟨by refine bF NB316_317.out ?_; refine bF NB316_317.out ?_; refine bP (cs := #[.int .i64 ((rd_T51 l0 0).f0), .int .i64 0]) 1 ?_; refine bP (cs := #[.int .i64 0, .int .i64 0]) 0 ?_; exact bk BK316⟩, ⟨by refine bP (cs := #[.int .i64 ((rd_T51 l0 0).f0), .int .i64 0]) 1 ?_; refine bP (cs := #[.int .i64 0, .int .i64 0]) 0 ?_; refine bF NB317_316.out ?_; refine bF NB317_316.out ?_; exact bk BK317⟩, ⟨by repeat (first | (with_reducible first | exact HB.out | apply below_alloc | apply pw_below_drewN | apply below_drew1 | refine below_set ?_ GE312.out | refine below_set ?_ GE313.out | refine below_set ?_ GE316.out | refine below_set ?_ GE317.out) | exact HB.out)⟩⟩
  case round =>
   clear H'
   try clear c2
   try clear c2b0
   try clear c2b1
   try clear p2
   try clear p3
   try clear q3
   try clear hx3
   try clear qi3
   try clear c5
   try clear hx314_0
   try clear hx314_1
   try clear hx315_0
   try clear hx315_1
   try clear p314
   try clear p315
   try clear q314
   try clear q315
   obtain ⟨x16_1, x317000_1, x317001_1, x318000_1, x318001_1, rfl, HA, HK1, BK312, BK313, BK316, BK317, HB⟩ := hrel
   cases gk with
   | zero => exact absurd HA.out (by simp [impl_bounds.l0])
   | succ k1 =>
    have H := HA.out
    clear HA
    simp only [impl_bounds.l0] at H
    by_cases c13 : x16_1 < (l0.length : Int)
    ·rw [if_pos c13] at H
     have c13b0 : decide (x16_1 < (l0.length : Int)) = true := decide_eq_true c13
     clear c13
     by_cases c14 : 0 ≤ x16_1
     ·rw [if_pos c14] at H
      have c14b0 : decide (0 ≤ x16_1) = true := decide_eq_true c14
      clear c14
      by_cases c15 : x16_1 < (l0.length : Int)
      ·rw [if_pos c15] at H
       have c15b0 : decide (x16_1 < (l0.length : Int)) = true := decide_eq_true c15
       clear c15
       obtain ⟨ji16, hji16⟩ : ∃ j_ : Int, (mn x317000_1 ((rd_T51 l0 x16_1).f0)) = j_ := ⟨_, rfl⟩
       replace H : (impl_bounds.l0 k1 l0 (l0.length : Int) (wrap64 (x16_1 + 1)) ji16 (mn x317001_1 ((rd_T51 l0 x16_1).f1)) (mx x318000_1 ((rd_T51 l0 x16_1).f0)) (mx x318001_1 ((rd_T51 l0 x16_1).f1))) = some (r1, r2, r3, r4) := by first | (rw [hji16] at H; exact H) | (simp only [hji16] at H ⊢; exact H)
       have hji16_ : (if ((rd_T51 l0 x16_1).f0) < x317000_1 then ((rd_T51 l0 x16_1).f0) else x317000_1) = ji16 := hji16
       obtain ⟨ji17, hji17⟩ : ∃ j_ : Int, (mn x317001_1 ((rd_T51 l0 x16_1).f1)) = j_ := ⟨_, rfl⟩
       replace H : (impl_bounds.l0 k1 l0 (l0.length : Int) (wrap64 (x16_1 + 1)) ji16 ji17 (mx x318000_1 ((rd_T51 l0 x16_1).f0)) (mx x318001_1 ((rd_T51 l0 x16_1).f1))) = some (r1, r2, r3, r4) := by first | (rw [hji17] at H; exact H) | (simp only [hji17] at H ⊢; exact H)
       have hji17_ : (if ((rd_T51 l0 x16_1).f1) < x317001_1 then ((rd_T51 l0 x16_1).f1) else x317001_1) = ji17 := hji17
       obtain ⟨ji18, hji18⟩ : ∃ j_ : Int, (mx x318000_1 ((rd_T51 l0 x16_1).f0)) = j_ := ⟨_, rfl⟩
       replace H : (impl_bounds.l0 k1 l0 (l0.length : Int) (wrap64 (x16_1 + 1)) ji16 ji17 ji18 (mx x318001_1 ((rd_T51 l0 x16_1).f1))) = some (r1, r2, r3, r4) := by first | (rw [hji18] at H; exact H) | (simp only [hji18] at H ⊢; exact H)
       have hji18_ : (if x318000_1 < ((rd_T51 l0 x16_1).f0) then ((rd_T51 l0 x16_1).f0) else x318000_1) = ji18 := hji18
       obtain ⟨ji19, hji19⟩ : ∃ j_ : Int, (mx x318001_1 ((rd_T51 l0 x16_1).f1)) = j_ := ⟨_, rfl⟩
       replace H : (impl_bounds.l0 k1 l0 (l0.length : Int) (wrap64 (x16_1 + 1)) ji16 ji17 ji18 ji19) = some (r1, r2, r3, r4) := by first | (rw [hji19] at H; exact H) | (simp only [hji19] at H ⊢; exact H)
       have hji19_ : (if x318001_1 < ((rd_T51 l0 x16_1).f1) then ((rd_T51 l0 x16_1).f1) else x318001_1) = ji19 := hji19
       have H' := Aside0.mk H
       clear H
       have p318 : 0 ≤ (x16_1 : Int) := da
       have q318 : x16_1 < (l0.length : Int) := da
       obtain ⟨ad318, e318, hx318_0, hx318_1⟩ := at_T51 HR0.out x16_1 p318 q318
       obtain rfl : ad314 = ad318 := (by injection e318)
       replace hx318_0 := (HB.out.cell (bL w _ hx318_0)).trans hx318_0
       replace hx318_1 := (HB.out.cell (bL w _ hx318_1)).trans hx318_1
       replace p318 := eq_true p318
       replace q318 := eq_true q318
       go_wp2_with (first | ((with_reducible refine gate_dst (N := 7) rfl ?_); refine bx (cs := #[.int .i64 0, .int .i64 0]) (t := 51) ?_; intro gb319 hg w20 hbox hb; have n0_ := kb BK312 hb; have n1_ := kb BK313 hb; have n2_ := kb BK316 hb; have n3_ := kb BK317 hb; have n4_ := sb hb; have n5_ := Aside0.mk (hbox); have n6_ := zb hg; have n7_ := zb hg; have n8_ := nl BK312 hg; have n9_ := ng BK312 hg; have n10_ := nl BK313 hg; have n11_ := ng BK313 hg; have n12_ := nl BK316 hg; have n13_ := ng BK316 hg; have n14_ := nl BK317 hg; have n15_ := ng BK317 hg; clear BK312; clear BK313; clear BK316; clear BK317; clear HB; have BK312 := n0_; have BK313 := n1_; have BK316 := n2_; have BK317 := n3_; have HB := n4_; have BK319 := n5_; have GW319 := n6_; have GE319 := n7_; have NB312_319 := n8_; have NB319_312 := n9_; have NB313_319 := n10_; have NB319_313 := n11_; have NB316_319 := n12_; have NB319_316 := n13_; have NB317_319 := n14_; have NB319_317 := n15_; clear n0_ n1_ n2_ n3_ n4_ n5_ n6_ n7_ n8_ n9_ n10_ n11_ n12_ n13_ n14_ n15_; clear hb hbox hg; have hnb21 := NB319_312.out; have hnc21 := NB312_319.out; have hnb22 := NB319_313.out; have hnc22 := NB313_319.out; have hnb23 := NB319_316.out; have hnc23 := NB316_319.out; have hnb24 := NB319_317.out; have hnc24 := NB317_319.out; have hcz25_0 := ck BK319 0; have hcz25_1 := ck BK319 1; have hfz25_0 := blk_frozen BK319.out 0; have hfz25_1 := blk_frozen BK319.out 1; have hnb26 := NB316_312.out; have hnc26 := NB312_316.out; have hnb27 := NB316_313.out; have hnc27 := NB313_316.out; have hnb28 := NB316_317.out; have hnc28 := NB317_316.out; have hcz29_0 := ck BK316 0; have hcz29_1 := ck BK316 1; have hfz29_0 := blk_frozen BK316.out 0; have hfz29_1 := blk_frozen BK316.out 1; have hnb30 := NB317_312.out; have hnc30 := NB312_317.out; have hnb31 := NB317_313.out; have hnc31 := NB313_317.out; have hcz32_0 := ck BK317 0; have hcz32_1 := ck BK317 1; have hfz32_0 := blk_frozen BK317.out 0; have hfz32_1 := blk_frozen BK317.out 1))
       go_roundg k1
       case measure => have := HK1.out; omega
       case rel => exact ⟨(wrap64 (x16_1 + 1)), (ji16), (ji17), (ji18), (ji19), (by first | rfl | (simp; done) | (simp [*]; done)), H', ⟨by have := HK1.out; omega⟩, ⟨by refine bF NB312_317.out ?_; refine bF NB312_317.out ?_; refine bF NB312_316.out ?_; refine bF NB312_316.out ?_; refine bF NB312_319.out ?_; refine bF NB312_319.out ?_; exact bk BK312⟩, ⟨by refine bF NB313_317.out ?_; refine bF NB313_317.out ?_; refine bF NB313_316.out ?_; refine bF NB313_316.out ?_; refine bF NB313_319.out ?_; refine bF NB313_319.out ?_; exact bk BK313⟩, ⟨by refine bF NB316_317.out ?_; refine bF NB316_317.out ?_; refine bP (cs := #[.int .i64 ji16, .int .i64 x317001_1]) 1 ?_; refine bP (cs := #[.int .i64 x317000_1, .int .i64 x317001_1]) 0 ?_; refine bF NB316_319.out ?_; refine bF NB316_319.out ?_; exact bk BK316⟩, ⟨by refine bP (cs := #[.int .i64 ji18, .int .i64 x318001_1]) 1 ?_; refine bP (cs := #[.int .i64 x318000_1, .int .i64 x318001_1]) 0 ?_; refine bF NB317_316.out ?_; refine bF NB317_316.out ?_; refine bF NB317_319.out ?_; refine bF NB317_319.out ?_; exact bk BK317⟩, ⟨by repeat (first | (with_reducible first | exact HB.out | apply below_alloc | apply pw_below_drewN | apply below_drew1 | refine below_set ?_ GE312.out | refine below_set ?_ GE313.out | refine below_set ?_ GE316.out | refine below_set ?_ GE317.out | refine below_set ?_ GE319.out) | exact HB.out)⟩⟩
      ·first | (exfalso; have z_ := of_decide_eq_true c13b0; omega) | (rw [if_neg c15] at H; exact absurd H (by simp))
     ·rw [if_neg c14] at H
      exact absurd H (by simp)
    ·rw [if_neg c13] at H
     have c13b0 : decide (x16_1 < (l0.length : Int)) = false := decide_eq_false c13
     clear c13
     simp only [Option.some.injEq, Prod.mk.injEq] at H
     obtain ⟨rfl, rfl, rfl, rfl⟩ := H
     try go_wp2
     have n0_ := Aside0.mk (blk_drew BK312.out)
     have n1_ := Aside0.mk (blk_drew BK313.out)
     have n2_ := Aside0.mk (blk_drew BK316.out)
     have n3_ := Aside0.mk (blk_drew BK317.out)
     have n4_ := Aside0.mk (below_drew1 HB.out)
     clear BK312
     clear BK313
     clear BK316
     clear BK317
     clear HB
     have BK312 := n0_
     have BK313 := n1_
     have BK316 := n2_
     have BK317 := n3_
     have HB := n4_
     clear n0_ n1_ n2_ n3_ n4_
     refine start_ (n := 4) (S := fun w' => w'.cell? ⟨gb316, 0, none⟩ = some (.int .i64 x317000_1) ∧ w'.cell? ⟨gb316, 1, none⟩ = some (.int .i64 x317001_1) ∧ w'.cell? ⟨gb317, 0, none⟩ = some (.int .i64 x318000_1) ∧ w'.cell? ⟨gb317, 1, none⟩ = some (.int .i64 x318001_1)) (ds := []) #[fF,fF,fF,fF] (by kernel_rfl) rfl rfl ⟨(blk_cell BK316.out 0).trans rfl, (blk_cell BK316.out 1).trans rfl, (blk_cell BK317.out 0).trans rfl, (blk_cell BK317.out 1).trans rfl⟩ (fun hHeld => ?_)
     generalize wr.drew = w33 at BK312 BK313 BK316 BK317 HB hHeld ⊢
     refine take_ (i := 0) (N := some 43) (v := ?_) (a' := ?_) #[tT,fF,fF,fF] rfl rfl (by kernel_rfl) (fun _ _ _ h => h) (Or.inl ⟨by rfl, ?_⟩) hHeld ?_ ?_
     rotate_left
     ·rintro w' ⟨s0, s1, s2, s3⟩
      go_simp
      with_reducible rfl
     rotate_left
     ·exact pa
     refine take_ (i := 1) (N := some 44) (v := ?_) (a' := ?_) #[tT,tT,fF,fF] rfl rfl (by kernel_rfl) (fun _ _ _ h => h) (Or.inl ⟨by rfl, ?_⟩) hHeld ?_ ?_
     rotate_left
     ·rintro w' ⟨s0, s1, s2, s3⟩
      go_simp
      with_reducible rfl
     rotate_left
     ·exact pa
     refine one_ (i := 2) (N := none) #[tT,tT,tT,fF] rfl rfl (by kernel_rfl) (by decide) (fun K hK => ?_)
     have hs34 : w33.cell? ⟨gb312, 0, none⟩ = some (.int .i64 0) := (blk_cell BK312.out 0).trans rfl
     have hfs34 := blk_frozen BK312.out 0
     have hns34_1 := NB313_312.out
     have hns34_2 := NB316_312.out
     have hns34_3 := NB317_312.out
     have hms34_1 := NB312_313.out
     have hms34_2 := NB312_316.out
     have hms34_3 := NB312_317.out
     have hs35 : w33.cell? ⟨gb312, 1, none⟩ = some (.int .i64 0) := (blk_cell BK312.out 1).trans rfl
     have hfs35 := blk_frozen BK312.out 1
     have hns35_1 := NB313_312.out
     have hns35_2 := NB316_312.out
     have hns35_3 := NB317_312.out
     have hms35_1 := NB312_313.out
     have hms35_2 := NB312_316.out
     have hms35_3 := NB312_317.out
     refine skip_ (w1 := ?_) (by rfl) rfl ?_ ?_
     rotate_left
     ·go_simp
      rfl
     refine hK.out _ _ ⟨((cell_far (p := ⟨gb312, _, none⟩) NB316_312.out _).trans (((cell_far (p := ⟨gb312, _, none⟩) NB316_312.out _).trans (hHeld.1)))), ((cell_far (p := ⟨gb312, _, none⟩) NB316_312.out _).trans (((cell_far (p := ⟨gb312, _, none⟩) NB316_312.out _).trans (hHeld.2.1)))), ((cell_far (p := ⟨gb312, _, none⟩) NB317_312.out _).trans (((cell_far (p := ⟨gb312, _, none⟩) NB317_312.out _).trans (hHeld.2.2.1)))), ((cell_far (p := ⟨gb312, _, none⟩) NB317_312.out _).trans (((cell_far (p := ⟨gb312, _, none⟩) NB317_312.out _).trans (hHeld.2.2.2))))⟩ (fun hHeld => ?_)
     clear hK K
     refine one_ (i := 3) (N := none) #[tT,tT,tT,tT] rfl rfl (by kernel_rfl) (by decide) (fun K hK => ?_)
     have hs36 : w33.cell? ⟨gb313, 0, none⟩ = some (.int .i64 0) := (blk_cell BK313.out 0).trans rfl
     have hfs36 := blk_frozen BK313.out 0
     have hns36_0 := NB312_313.out
     have hns36_2 := NB316_313.out
     have hns36_3 := NB317_313.out
     have hms36_0 := NB313_312.out
     have hms36_2 := NB313_316.out
     have hms36_3 := NB313_317.out
     have hs37 : w33.cell? ⟨gb313, 1, none⟩ = some (.int .i64 0) := (blk_cell BK313.out 1).trans rfl
     have hfs37 := blk_frozen BK313.out 1
     have hns37_0 := NB312_313.out
     have hns37_2 := NB316_313.out
     have hns37_3 := NB317_313.out
     have hms37_0 := NB313_312.out
     have hms37_2 := NB313_316.out
     have hms37_3 := NB313_317.out
     refine skip_ (w1 := ?_) (by rfl) rfl ?_ ?_
     rotate_left
     ·go_simp
      rfl
     refine hK.out _ _ ⟨((cell_far (p := ⟨gb313, _, none⟩) NB316_313.out _).trans (((cell_far (p := ⟨gb313, _, none⟩) NB316_313.out _).trans (hHeld.1)))), ((cell_far (p := ⟨gb313, _, none⟩) NB316_313.out _).trans (((cell_far (p := ⟨gb313, _, none⟩) NB316_313.out _).trans (hHeld.2.1)))), ((cell_far (p := ⟨gb313, _, none⟩) NB317_313.out _).trans (((cell_far (p := ⟨gb313, _, none⟩) NB317_313.out _).trans (hHeld.2.2.1)))), ((cell_far (p := ⟨gb313, _, none⟩) NB317_313.out _).trans (((cell_far (p := ⟨gb313, _, none⟩) NB317_313.out _).trans (hHeld.2.2.2))))⟩ (fun hHeld => ?_)
     clear hK K
     refine done_ (by kernel_rfl) ?_
     try go_wp2
     refine bodyPost_ret (results_cc rfl _ _ gb312 gb313 51 51 #[.int .i64 x317000_1, .int .i64 x317001_1] #[.int .i64 x318000_1, .int .i64 x318001_1] (0, 0) (0, 0) _ _ rfl (by refine bF NB312_313.out ?_; refine bF NB312_313.out ?_; refine bP (cs := #[.int .i64 x317000_1, .int .i64 0]) 1 ?_; refine bP (cs := #[.int .i64 0, .int .i64 0]) 0 ?_; exact bk BK312) Try.underlying51 rfl (by kernel_rfl) rfl (by refine bP (cs := #[.int .i64 x318000_1, .int .i64 0]) 1 ?_; refine bP (cs := #[.int .i64 0, .int .i64 0]) 0 ?_; refine bF NB313_312.out ?_; refine bF NB313_312.out ?_; exact bk BK313) Try.underlying51 rfl (by kernel_rfl)) rfl ?_
     exact ⟨by first | rfl | (simp [errW_none, errW_some] <;> rfl) | (simp [*, errW_none, errW_some] <;> rfl), by repeat (first | (with_reducible first | exact HB.out | apply below_alloc | apply pw_below_drewN | apply below_drew1 | refine below_set ?_ GE312.out | refine below_set ?_ GE313.out | refine below_set ?_ GE316.out | refine below_set ?_ GE317.out) | exact HB.out)⟩
 ·rw [if_neg c2] at H
  exact absurd H (by simp)
def impl_shifted.l0 : Nat → Int → Int → List (S51) → List (S51) → Int → Int → Option ((List (S51)))
 | 0, _, _, _, _, _, _ => none
 | k + 1, x1, x2, x7, x11, x12, x13 => if x13 < x12 then (if 0 ≤ x13 then (if x13 < (x11.length : Int) then (if x7.length < 8796093022208 then (impl_shifted.l0 k x1 x2 (x7 ++ [(⟨wrap64 (((rd_T51 x11 x13).f0) + x1), wrap64 (((rd_T51 x11 x13).f1) + x2)⟩ : S51)]) x11 x12 (wrap64 (x13 + 1))) else (none)) else (none)) else (none)) else (some x7)
def impl_shifted.f (k : Nat) (l0 : List (S51)) (a1 : Int) (a2 : Int) : Option ((List (S51))) := impl_shifted.l0 k a1 a2 (([] : List (S51))) l0 (l0.length : Int) 0
theorem impl_shifted.mono_l : ∀ k, (∀ y0 y1 y2 y3 y4 y5, LeO (impl_shifted.l0 k y0 y1 y2 y3 y4 y5) (impl_shifted.l0 (k + 1) y0 y1 y2 y3 y4 y5))
 | 0 => fun _ _ _ _ _ _ r h => by simp [impl_shifted.l0] at h
 | k + 1 => by
  have ih0 := impl_shifted.mono_l k
  ·intro y0 y1 y2 y3 y4 y5
   unfold impl_shifted.l0
   repeat' first
   | (with_reducible exact ih0 _ _ _ _ _ _)
   | (with_reducible exact LeO.refl _)
   | (with_reducible exact LeO.none _)
   | (with_reducible refine LeO.ite ?_ ?_)
   | (with_reducible refine LeO.bind ?_ (fun _ => ?_))
   | exact ih0 _ _ _ _ _ _
   | exact LeO.none _
   | refine LeO.ite ?_ ?_
   | refine LeO.bind ?_ (fun _ => ?_)
theorem impl_shifted.mono : ∀ a0 a1 a2 k, LeO (impl_shifted.f k a0 a1 a2) (impl_shifted.f (k + 1) a0 a1 a2) := by
 intro a0 a1 a2 k
 have ih0 := impl_shifted.mono_l k
 unfold impl_shifted.f
 repeat' first
   | (with_reducible exact ih0 _ _ _ _ _ _)
   | (with_reducible exact LeO.refl _)
   | (with_reducible exact LeO.none _)
   | (with_reducible refine LeO.ite ?_ ?_)
   | (with_reducible refine LeO.bind ?_ (fun _ => ?_))
   | exact ih0 _ _ _ _ _ _
   | exact LeO.none _
   | refine LeO.ite ?_ ?_
   | refine LeO.bind ?_ (fun _ => ?_)
set_option maxHeartbeats 8000000 in
set_option maxRecDepth 100000 in
theorem impl_shifted.calls (k : Nat) (A0 : Option Addr) (c0 : Nat) (l0 : List (S51)) (a1 : Int) (a2 : Int) (r : List (S51)) (w : World) (hr0 : Kd.C k51 w A0 l0.length l0) (hc0 : l0.length ≤ c0) (h : impl_shifted.f k l0 a1 a2 = some r) :
  Calls Try.prog 56 #[.slice A0 l0.length c0, .int .i64 a1, .int .i64 a2] w fun e w' => ∃ v0_ : Value, e = .returned (v0_) ∧ Kd.R k51 51 w' w.heap.size (fun _ => True) v0_ r ∧ Below w.heap.size w w' := by
 have hu51 := Try.underlying51
 have HR0 := Aside0.mk hr0
 have HC0 := Aside0.mk hc0
 clear hr0 hc0
 have HB := Aside0.mk (Below.refl w.heap.size w)
 have H : (impl_shifted.l0 k a1 a2 (([] : List (S51))) l0 (l0.length : Int) 0) = some r := h
 clear h
 obtain ⟨y320, hy320⟩ : ∃ y_ : List (S51), y_ = (([] : List (S51))) := ⟨_, rfl⟩
 replace H : (impl_shifted.l0 k a1 a2 y320 l0 (l0.length : Int) 0) = some r := by first | (rw [hy320]; with_reducible exact H) | (have H2_ := (Option.bind_some _ _).symm.trans H; rw [hy320]; with_reducible exact H2_) | (have H2_ := (Option.bind_some _ _).symm.trans H; with_reducible exact H2_) | with_reducible exact H | (rw [hy320]; exact H) | exact H
 have Ny320 := Aside0.mk hy320
 clear hy320
 have H' := Aside0.mk H
 clear H
 go_enter Try.func56, Try.ntmps56
 go_wp2_with (first | ((with_reducible refine gate_dst (N := 10) rfl ?_); refine Kd.R_lit k51 _ 51 ?hg (N := 10) ?hd (xs := ([] : List (S51))) (inner := []) (ok := fun _ => True) (okp := fun _ => True) ?hr ?hp (fun _ hk => hk) trivial (Below.refl _ _) (Nat.le_refl _) (by simp) ?_; (case hd => rfl); (case hg => rfl); (case hr => first | (go_simp; done) | (go_simp; rfl)); (case hp => exact (Reps.none _ _)); intro v321 w4 ho5 hb hg_ hnew_; clear hg_ hnew_; (first | rw [← Ny320.out] at ho5 | (simp only [Int.reduceToNat] at ho5; rw [← Ny320.out] at ho5)); have n0_ := Aside0.mk (Kd.R_lower ho5 (below_size ib)); have n1_ := sb hb; clear HB; have HO322 := n0_; have HB := n1_; clear n0_ n1_; clear hb ho5))
 go_loopg [7, 13] k (fun kq v7 v13 w' => ∃ (x7_1 : List (S51)) (x13_1 : Int), v13 = .int .i64 x13_1 ∧ Aside0 (impl_shifted.l0 kq a1 a2 x7_1 l0 (l0.length : Int) x13_1 = some r) ∧ Aside0 (kq ≤ k) ∧ Aside0 (Kd.R k51 51 w' w.heap.size (fun _ => True) v7 x7_1) ∧ Aside0 (Below w.heap.size w w'))
 case atStart => exact ⟨(y320), (0), (by first | rfl | (simp; done) | (simp [*]; done)), H', ⟨Nat.le_refl _⟩, ⟨by (with_reducible repeat (first | apply Kd.R_alloc | apply Kd.R_drewN | apply Kd.R_drew)); exact HO322.out⟩, ⟨by repeat (first | (with_reducible first | exact HB.out | apply below_alloc | apply pw_below_drewN | apply below_drew1) | exact HB.out)⟩⟩
 case round =>
  clear H'
  try clear p2
  try clear c5
  obtain ⟨x7_1, x13_1, rfl, HA, HK1, HO_7, HB⟩ := hrel
  cases gk with
  | zero => exact absurd HA.out (by simp [impl_shifted.l0])
  | succ k1 =>
   have H := HA.out
   clear HA
   simp only [impl_shifted.l0] at H
   by_cases c6 : x13_1 < (l0.length : Int)
   ·rw [if_pos c6] at H
    have c6b0 : decide (x13_1 < (l0.length : Int)) = true := decide_eq_true c6
    clear c6
    by_cases c7 : 0 ≤ x13_1
    ·rw [if_pos c7] at H
     have c7b0 : decide (0 ≤ x13_1) = true := decide_eq_true c7
     clear c7
     by_cases c8 : x13_1 < (l0.length : Int)
     ·rw [if_pos c8] at H
      have c8b0 : decide (x13_1 < (l0.length : Int)) = true := decide_eq_true c8
      clear c8
      by_cases c9 : x7_1.length < 8796093022208
      ·rw [if_pos c9] at H
       have LMc9 := Aside0.mk c9
       clear c9
       obtain ⟨y325, hy325⟩ : ∃ y_ : List (S51), y_ = (x7_1 ++ [(⟨wrap64 (((rd_T51 l0 x13_1).f0) + a1), wrap64 (((rd_T51 l0 x13_1).f1) + a2)⟩ : S51)]) := ⟨_, rfl⟩
       replace H : (impl_shifted.l0 k1 a1 a2 y325 l0 (l0.length : Int) (wrap64 (x13_1 + 1))) = some r := by first | (rw [hy325]; with_reducible exact H) | (have H2_ := (Option.bind_some _ _).symm.trans H; rw [hy325]; with_reducible exact H2_) | (have H2_ := (Option.bind_some _ _).symm.trans H; with_reducible exact H2_) | with_reducible exact H | (rw [hy325]; exact H) | exact H
       have Ny325 := Aside0.mk hy325
       clear hy325
       have H' := Aside0.mk H
       clear H
       have p323 : 0 ≤ (x13_1 : Int) := da
       have q323 : x13_1 < (l0.length : Int) := da
       obtain ⟨ad323, e323, hx323_0, hx323_1⟩ := at_T51 HR0.out x13_1 p323 q323
       cases e323
       replace hx323_0 := (HB.out.cell (bL w _ hx323_0)).trans hx323_0
       replace hx323_1 := (HB.out.cell (bL w _ hx323_1)).trans hx323_1
       replace p323 := eq_true p323
       replace q323 := eq_true q323
       go_wp2_with (first | ((with_reducible refine gate_dst (N := 9) rfl ?_); refine bx (cs := #[.int .i64 0, .int .i64 0]) (t := 51) ?_; intro gb324 hg w10 hbox hb; have n0_ := Aside0.mk (Kd.R_below (Kd.R_elderB (by (with_reducible repeat (first | apply Kd.R_alloc | apply Kd.R_drewN | apply Kd.R_drew)); exact HO_7.out) gb324 (Nat.le_of_eq hg.symm)) hb); have n1_ := sb hb; have n2_ := Aside0.mk (hbox); have n3_ := zb hg; have n4_ := zb hg; clear HO_7; clear HB; have HO_7 := n0_; have HB := n1_; have BK324 := n2_; have GW324 := n3_; have GE324 := n4_; clear n0_ n1_ n2_ n3_ n4_; clear hb hbox hg; have hcz11_0 := ck BK324 0; have hcz11_1 := ck BK324 1; have hfz11_0 := blk_frozen BK324.out 0; have hfz11_1 := blk_frozen BK324.out 1) | ((with_reducible refine gate_builtin (b := .append) (xs := #[.tmp 17, .tmp 27]) rfl ?_); at_builtin; refine Kd.R_append k51 (w0 := w) w.heap.size rfl (.tmp 17) (.tmp 27) 24 51 (.agg #[(.int .i64 0), (.int .i64 0)]) 16 rfl Try.underlying24 info51 rfl (by decide) (by omega) u7 x7_1 (⟨wrap64 (((rd_T51 l0 x13_1).f0) + a1), wrap64 (((rd_T51 l0 x13_1).f1) + a2)⟩ : S51) [.int .i64 (wrap64 (((rd_T51 l0 x13_1).f0) + a1)), .int .i64 (wrap64 (((rd_T51 l0 x13_1).f1) + a2))] (fun k_ => k_ ≠ gb324) (fun _ => False) rfl (by first | (go_simp; done) | (go_simp; rfl)) ?aP (fun _ hk => hk.elim) ?aF ?aO ?aB ?aS ?aL ?_; (case aP => exact k51_mkM _ _ _ (⟨wrap64 (((rd_T51 l0 x13_1).f0) + a1), wrap64 (((rd_T51 l0 x13_1).f1) + a2)⟩ : S51)); (case aB => exact ib); (case aF => exact (fun k_ hk => Kd.freshB (g := gb324) (o := .cells #[.int .i64 ((rd_T51 l0 x13_1).f0), .int .i64 ((rd_T51 l0 x13_1).f1)] 51 (0, 0)) (by refine bP (cs := #[.int .i64 ((rd_T51 l0 x13_1).f0), .int .i64 0]) 1 ?_; refine bP (cs := #[.int .i64 0, .int .i64 0]) 0 ?_; exact bk BK324) k_ hk)); (case aO => exact (by (with_reducible repeat (first | apply Kd.R_alloc | apply Kd.R_drewN | apply Kd.R_drew)); exact Kd.R_mono (Kd.R_far (p := ⟨gb324, 1, none⟩) (Kd.R_far (p := ⟨gb324, 0, none⟩) (Kd.R_mono HO_7.out (fun k_ hk => (⟨hk, hk.2⟩ : _ ∧ k_ ≠ gb324))) (fun _ hk => hk.2) (.int .i64 ((rd_T51 l0 x13_1).f0))) (fun _ hk => hk.2) (.int .i64 ((rd_T51 l0 x13_1).f1))) (fun _ hk => hk.1.2))); (case aS => exact (below_size ib)); (case aL => have := LMc9.out; omega); intro v326 w12 ho hb hg hat; rw [← Ny325.out] at ho; have n0_ := Aside0.mk (blk_grown (g := gb324) (o := .cells #[.int .i64 ((rd_T51 l0 x13_1).f0), .int .i64 ((rd_T51 l0 x13_1).f1)] 51 (0, 0)) (by refine bP (cs := #[.int .i64 ((rd_T51 l0 x13_1).f0), .int .i64 0]) 1 ?_; refine bP (cs := #[.int .i64 0, .int .i64 0]) 0 ?_; exact bk BK324) hg (Kd.R_away HO_7.out (fun _ hk => hk.2))); have n1_ := Aside0.mk (hb); have n2_ := Aside0.mk (ho); clear BK324; clear HB; clear HO_7; have BK324 := n0_; have HB := n1_; have HO327 := n2_; clear n0_ n1_ n2_; clear ho hb hg hat))
       go_roundg k1
       case measure => have := HK1.out; omega
       case rel => exact ⟨(y325), (wrap64 (x13_1 + 1)), (by first | rfl | (simp; done) | (simp [*]; done)), H', ⟨by have := HK1.out; omega⟩, ⟨by (with_reducible repeat (first | apply Kd.R_alloc | apply Kd.R_drewN | apply Kd.R_drew)); exact Kd.R_mono HO327.out (fun _ hk => trivial)⟩, ⟨by repeat (first | (with_reducible first | exact HB.out | apply below_alloc | apply pw_below_drewN | apply below_drew1 | refine below_set ?_ GE324.out) | exact HB.out)⟩⟩
      ·rw [if_neg c9] at H
       exact absurd H (by simp)
     ·first | (exfalso; have z_ := of_decide_eq_true c6b0; omega) | (rw [if_neg c8] at H; exact absurd H (by simp))
    ·rw [if_neg c7] at H
     exact absurd H (by simp)
   ·rw [if_neg c6] at H
    have c6b0 : decide (x13_1 < (l0.length : Int)) = false := decide_eq_false c6
    clear c6
    obtain rfl := Option.some.inj H
    go_wp2
    go_ret
    exact ⟨_, by first | rfl | (simp [errW_none, errW_some] <;> rfl) | (simp [*, errW_none, errW_some] <;> rfl), by (with_reducible repeat (first | apply Kd.R_alloc | apply Kd.R_drewN | apply Kd.R_drew)); exact HO_7.out, by repeat (first | (with_reducible first | exact HB.out | apply below_alloc | apply pw_below_drewN | apply below_drew1) | exact HB.out)⟩
end Go.Proofs.Ytfhgfdphdmlpbaa.PFnExactTurnsOf
