/- Contracts of functions that FnExactSegmentDistance reaches, out of the lines of the kit's print. -/
import Derived.Test.YtolccaaoimjbdaaQFnExactSegmentDistancex0
import Derived.Test.YtolccaaoimjbdaaQFnExactSegmentDistancex1
import Derived.Test.YtolccaaoimjbdaaQFnExactSegmentDistancex4
import Derived.Test.YtolccaaoimjbdaaQFnExactSegmentDistancex6
namespace Go.Proofs.Ytolccaaoimjbdaa.PFnExactSegmentDistance
open Go.RowKit Go.Proofs.YtolccaaoimjbdaaW.PrintWords Go.Proofs.YtolccaaoimjbdaaW.PrintLast Go.Proofs.YtolccaaoimjbdaaW.PrintMore
attribute [local go_sem] max2_int min2_int max_two min_two max_three min_three max_four min_four
set_option linter.unusedVariables false
set_option linter.unusedSimpArgs false
def laws_FnExactSegmentDistance.f (k : Nat) (a0_0 : Int) (a0_1 : Int) (a1_0 : Int) (a1_1 : Int) (a2_0 : Int) (a2_1 : Int) (a3_0 : Int) (a3_1 : Int) : Option (Bool) := (laws_toPoint.f a0_0 a0_1).bind fun bt250 => ((laws_toPoint.f a1_0 a1_1).bind fun bt252 => ((laws_toPoint.f a2_0 a2_1).bind fun bt254 => ((laws_toPoint.f a3_0 a3_1).bind fun bt256 => ((spec_SegmentDistance.f k bt250.1 bt250.2 bt252.1 bt252.2 bt254.1 bt254.2 bt256.1 bt256.2).bind fun t258 => ((laws_toPoint.f a0_0 a0_1).bind fun bt259 => ((laws_toPoint.f a1_0 a1_1).bind fun bt261 => ((laws_toPoint.f a2_0 a2_1).bind fun bt263 => ((laws_toPoint.f a3_0 a3_1).bind fun bt265 => ((impl_SegmentDistance.f k bt259.1 bt259.2 bt261.1 bt261.2 bt263.1 bt263.2 bt265.1 bt265.2).bind fun t267 => (if t267 = t258 then (some true) else (some false)))))))))))
theorem laws_FnExactSegmentDistance.mono : ∀ a0 a1 a2 a3 a4 a5 a6 a7 k, LeO (laws_FnExactSegmentDistance.f k a0 a1 a2 a3 a4 a5 a6 a7) (laws_FnExactSegmentDistance.f (k + 1) a0 a1 a2 a3 a4 a5 a6 a7) := by
  intro a0 a1 a2 a3 a4 a5 a6 a7 k
  unfold laws_FnExactSegmentDistance.f
  repeat' first
      | (with_reducible exact impl_SegmentDistance.mono _ _ _ _ _ _ _ _ _)
      | (with_reducible exact spec_SegmentDistance.mono _ _ _ _ _ _ _ _ _)
      | (with_reducible exact LeO.refl _)
      | (with_reducible exact LeO.none _)
      | (with_reducible refine LeO.ite ?_ ?_)
      | (with_reducible refine LeO.bind ?_ (fun _ => ?_))
      | exact impl_SegmentDistance.mono _ _ _ _ _ _ _ _ _
      | exact spec_SegmentDistance.mono _ _ _ _ _ _ _ _ _
      | exact LeO.none _
      | refine LeO.ite ?_ ?_
      | refine LeO.bind ?_ (fun _ => ?_)
def laws_FnExactSegmentDistance.T1 : Bool × List (List Nat × List Nat) := (true, [([], []), ([0], [0]), ([], []), ([2, 1], [2]), ([], []), ([4, 3], [4]), ([], []), ([6, 5], [6]), ([1, 3, 5, 7, 7], [1, 3, 5, 7]), ([8, 8, 0, 1, 2, 3, 4, 5, 6, 7, 8], [8])])
def laws_FnExactSegmentDistance.B1 : List Nat := [0, 1, 0, 7, 0, 31, 0, 127, 255, 511]
theorem laws_FnExactSegmentDistance.tab1 : rtab .any (opsOf Try.f10 1) = laws_FnExactSegmentDistance.T1 := by kernel_rfl
theorem laws_FnExactSegmentDistance.bits1 : waitsOk laws_FnExactSegmentDistance.T1.2 laws_FnExactSegmentDistance.B1 = true := by kernel_rfl
def laws_FnExactSegmentDistance.T2 : Bool × List (List Nat × List Nat) := (true, [([], []), ([0], [0]), ([], []), ([2, 1], [2]), ([], []), ([4, 3], [4]), ([], []), ([6, 5], [6]), ([1, 3, 5, 7, 7], [1, 3, 5, 7]), ([8, 8, 0, 1, 2, 3, 4, 5, 6, 7, 8], [8])])
def laws_FnExactSegmentDistance.B2 : List Nat := [0, 1, 0, 7, 0, 31, 0, 127, 255, 511]
theorem laws_FnExactSegmentDistance.tab2 : rtab .any (opsOf Try.f10 2) = laws_FnExactSegmentDistance.T2 := by kernel_rfl
theorem laws_FnExactSegmentDistance.bits2 : waitsOk laws_FnExactSegmentDistance.T2.2 laws_FnExactSegmentDistance.B2 = true := by kernel_rfl
set_option maxHeartbeats 8000000 in
set_option maxRecDepth 100000 in
theorem laws_FnExactSegmentDistance.calls (k : Nat) (a0_0 : Int) (a0_1 : Int) (a1_0 : Int) (a1_1 : Int) (a2_0 : Int) (a2_1 : Int) (a3_0 : Int) (a3_1 : Int) (w : World) (h : laws_FnExactSegmentDistance.f k a0_0 a0_1 a1_0 a1_1 a2_0 a2_1 a3_0 a3_1 = some true) :
    Calls Try.prog 10 #[.agg #[.int .i64 a0_0, .int .i64 a0_1], .agg #[.int .i64 a1_0, .int .i64 a1_1], .agg #[.int .i64 a2_0, .int .i64 a2_1], .agg #[.int .i64 a3_0, .int .i64 a3_1]] w fun e w' => e = .returned (.bool true) ∧ Below w.heap.size w w' := by
  have hu23 := Try.underlying23
  have HB := Aside0.mk (Below.refl w.heap.size w)
  have H : ((laws_toPoint.f a0_0 a0_1).bind fun bt250 => ((laws_toPoint.f a1_0 a1_1).bind fun bt252 => ((laws_toPoint.f a2_0 a2_1).bind fun bt254 => ((laws_toPoint.f a3_0 a3_1).bind fun bt256 => ((spec_SegmentDistance.f k bt250.1 bt250.2 bt252.1 bt252.2 bt254.1 bt254.2 bt256.1 bt256.2).bind fun t258 => ((laws_toPoint.f a0_0 a0_1).bind fun bt259 => ((laws_toPoint.f a1_0 a1_1).bind fun bt261 => ((laws_toPoint.f a2_0 a2_1).bind fun bt263 => ((laws_toPoint.f a3_0 a3_1).bind fun bt265 => ((impl_SegmentDistance.f k bt259.1 bt259.2 bt261.1 bt261.2 bt263.1 bt263.2 bt265.1 bt265.2).bind fun t267 => (if t267 = t258 then (some true) else (some false)))))))))))) = some true := h
  clear h
  replace H := Option.bind_eq_some_iff.mp H
  obtain ⟨⟨t250, t251⟩, A50, H⟩ := H
  replace H : ((laws_toPoint.f a1_0 a1_1).bind fun bt252 => ((laws_toPoint.f a2_0 a2_1).bind fun bt254 => ((laws_toPoint.f a3_0 a3_1).bind fun bt256 => ((spec_SegmentDistance.f k t250 t251 bt252.1 bt252.2 bt254.1 bt254.2 bt256.1 bt256.2).bind fun t258 => ((laws_toPoint.f a0_0 a0_1).bind fun bt259 => ((laws_toPoint.f a1_0 a1_1).bind fun bt261 => ((laws_toPoint.f a2_0 a2_1).bind fun bt263 => ((laws_toPoint.f a3_0 a3_1).bind fun bt265 => ((impl_SegmentDistance.f k bt259.1 bt259.2 bt261.1 bt261.2 bt263.1 bt263.2 bt265.1 bt265.2).bind fun t267 => (if t267 = t258 then (some true) else (some false))))))))))) = some true := H
  have A5 := Aside0.mk A50
  clear A50
  replace H := Option.bind_eq_some_iff.mp H
  obtain ⟨⟨t252, t253⟩, A60, H⟩ := H
  replace H : ((laws_toPoint.f a2_0 a2_1).bind fun bt254 => ((laws_toPoint.f a3_0 a3_1).bind fun bt256 => ((spec_SegmentDistance.f k t250 t251 t252 t253 bt254.1 bt254.2 bt256.1 bt256.2).bind fun t258 => ((laws_toPoint.f a0_0 a0_1).bind fun bt259 => ((laws_toPoint.f a1_0 a1_1).bind fun bt261 => ((laws_toPoint.f a2_0 a2_1).bind fun bt263 => ((laws_toPoint.f a3_0 a3_1).bind fun bt265 => ((impl_SegmentDistance.f k bt259.1 bt259.2 bt261.1 bt261.2 bt263.1 bt263.2 bt265.1 bt265.2).bind fun t267 => (if t267 = t258 then (some true) else (some false)))))))))) = some true := H
  have A6 := Aside0.mk A60
  clear A60
  replace H := Option.bind_eq_some_iff.mp H
  obtain ⟨⟨t254, t255⟩, A70, H⟩ := H
  replace H : ((laws_toPoint.f a3_0 a3_1).bind fun bt256 => ((spec_SegmentDistance.f k t250 t251 t252 t253 t254 t255 bt256.1 bt256.2).bind fun t258 => ((laws_toPoint.f a0_0 a0_1).bind fun bt259 => ((laws_toPoint.f a1_0 a1_1).bind fun bt261 => ((laws_toPoint.f a2_0 a2_1).bind fun bt263 => ((laws_toPoint.f a3_0 a3_1).bind fun bt265 => ((impl_SegmentDistance.f k bt259.1 bt259.2 bt261.1 bt261.2 bt263.1 bt263.2 bt265.1 bt265.2).bind fun t267 => (if t267 = t258 then (some true) else (some false))))))))) = some true := H
  have A7 := Aside0.mk A70
  clear A70
  replace H := Option.bind_eq_some_iff.mp H
  obtain ⟨⟨t256, t257⟩, A80, H⟩ := H
  replace H : ((spec_SegmentDistance.f k t250 t251 t252 t253 t254 t255 t256 t257).bind fun t258 => ((laws_toPoint.f a0_0 a0_1).bind fun bt259 => ((laws_toPoint.f a1_0 a1_1).bind fun bt261 => ((laws_toPoint.f a2_0 a2_1).bind fun bt263 => ((laws_toPoint.f a3_0 a3_1).bind fun bt265 => ((impl_SegmentDistance.f k bt259.1 bt259.2 bt261.1 bt261.2 bt263.1 bt263.2 bt265.1 bt265.2).bind fun t267 => (if t267 = t258 then (some true) else (some false)))))))) = some true := H
  have A8 := Aside0.mk A80
  clear A80
  replace H := Option.bind_eq_some_iff.mp H
  obtain ⟨t258, A90, H⟩ := H
  replace H : ((laws_toPoint.f a0_0 a0_1).bind fun bt259 => ((laws_toPoint.f a1_0 a1_1).bind fun bt261 => ((laws_toPoint.f a2_0 a2_1).bind fun bt263 => ((laws_toPoint.f a3_0 a3_1).bind fun bt265 => ((impl_SegmentDistance.f k bt259.1 bt259.2 bt261.1 bt261.2 bt263.1 bt263.2 bt265.1 bt265.2).bind fun t267 => (if t267 = t258 then (some true) else (some false))))))) = some true := H
  have A9 := Aside0.mk A90
  clear A90
  replace H := Option.bind_eq_some_iff.mp H
  obtain ⟨⟨t259, t260⟩, A100, H⟩ := H
  replace H : ((laws_toPoint.f a1_0 a1_1).bind fun bt261 => ((laws_toPoint.f a2_0 a2_1).bind fun bt263 => ((laws_toPoint.f a3_0 a3_1).bind fun bt265 => ((impl_SegmentDistance.f k t259 t260 bt261.1 bt261.2 bt263.1 bt263.2 bt265.1 bt265.2).bind fun t267 => (if t267 = t258 then (some true) else (some false)))))) = some true := H
  have A10 := Aside0.mk A100
  clear A100
  replace H := Option.bind_eq_some_iff.mp H
  obtain ⟨⟨t261, t262⟩, A110, H⟩ := H
  replace H : ((laws_toPoint.f a2_0 a2_1).bind fun bt263 => ((laws_toPoint.f a3_0 a3_1).bind fun bt265 => ((impl_SegmentDistance.f k t259 t260 t261 t262 bt263.1 bt263.2 bt265.1 bt265.2).bind fun t267 => (if t267 = t258 then (some true) else (some false))))) = some true := H
  have A11 := Aside0.mk A110
  clear A110
  replace H := Option.bind_eq_some_iff.mp H
  obtain ⟨⟨t263, t264⟩, A120, H⟩ := H
  replace H : ((laws_toPoint.f a3_0 a3_1).bind fun bt265 => ((impl_SegmentDistance.f k t259 t260 t261 t262 t263 t264 bt265.1 bt265.2).bind fun t267 => (if t267 = t258 then (some true) else (some false)))) = some true := H
  have A12 := Aside0.mk A120
  clear A120
  replace H := Option.bind_eq_some_iff.mp H
  obtain ⟨⟨t265, t266⟩, A130, H⟩ := H
  replace H : ((impl_SegmentDistance.f k t259 t260 t261 t262 t263 t264 t265 t266).bind fun t267 => (if t267 = t258 then (some true) else (some false))) = some true := H
  have A13 := Aside0.mk A130
  clear A130
  replace H := Option.bind_eq_some_iff.mp H
  obtain ⟨t267, A140, H⟩ := H
  replace H : (if t267 = t258 then (some true) else (some false)) = some true := H
  have A14 := Aside0.mk A140
  clear A140
  by_cases c15 : t267 = t258
  · rw [if_pos c15] at H
    have c15b0 : (t267 == t258) = true := beq_iff_eq.mpr c15
    have c15b1 : (t267 != t258) = false := bne_eq_false_iff_eq.mpr c15
    clear c15
    clear H
    go_enter Try.func10, Try.ntmps10
    try go_wp2_with (first | ((with_reducible refine gate_dst (N := 4) rfl ?_); refine box_event ?hg (N := 4) ?hd (cs := #[.int .i64 a0_0, .int .i64 a0_1]) (t := 23) ?hr ?_; (case hd => rfl); (case hg => rfl); (case hr => first | (go_simp; done) | (go_simp; rfl)); intro gb246 hg w16 hbox hb; have n0_ := sb hb; have n1_ := Aside0.mk (hbox); have n2_ := zb hg; have n3_ := zb hg; clear HB; have HB := n0_; have BK246 := n1_; have GW246 := n2_; have GE246 := n3_; clear n0_ n1_ n2_ n3_; clear hb hbox hg) | ((with_reducible refine gate_dst (N := 5) rfl ?_); refine box_event ?hg (N := 5) ?hd (cs := #[.int .i64 a1_0, .int .i64 a1_1]) (t := 23) ?hr ?_; (case hd => rfl); (case hg => rfl); (case hr => first | (go_simp; done) | (go_simp; rfl)); intro gb247 hg w17 hbox hb; have n0_ := kb BK246 hb; have n1_ := sb hb; have n2_ := Aside0.mk (hbox); have n3_ := zb hg; have n4_ := zb hg; have n5_ := nl BK246 hg; have n6_ := ng BK246 hg; clear BK246; clear HB; have BK246 := n0_; have HB := n1_; have BK247 := n2_; have GW247 := n3_; have GE247 := n4_; have NB246_247 := n5_; have NB247_246 := n6_; clear n0_ n1_ n2_ n3_ n4_ n5_ n6_; clear hb hbox hg) | ((with_reducible refine gate_dst (N := 6) rfl ?_); refine box_event ?hg (N := 6) ?hd (cs := #[.int .i64 a2_0, .int .i64 a2_1]) (t := 23) ?hr ?_; (case hd => rfl); (case hg => rfl); (case hr => first | (go_simp; done) | (go_simp; rfl)); intro gb248 hg w18 hbox hb; have n0_ := kb BK246 hb; have n1_ := kb BK247 hb; have n2_ := sb hb; have n3_ := Aside0.mk (hbox); have n4_ := zb hg; have n5_ := zb hg; have n6_ := nl BK246 hg; have n7_ := ng BK246 hg; have n8_ := nl BK247 hg; have n9_ := ng BK247 hg; clear BK246; clear BK247; clear HB; have BK246 := n0_; have BK247 := n1_; have HB := n2_; have BK248 := n3_; have GW248 := n4_; have GE248 := n5_; have NB246_248 := n6_; have NB248_246 := n7_; have NB247_248 := n8_; have NB248_247 := n9_; clear n0_ n1_ n2_ n3_ n4_ n5_ n6_ n7_ n8_ n9_; clear hb hbox hg) | ((with_reducible refine gate_dst (N := 7) rfl ?_); refine box_event ?hg (N := 7) ?hd (cs := #[.int .i64 a3_0, .int .i64 a3_1]) (t := 23) ?hr ?_; (case hd => rfl); (case hg => rfl); (case hr => first | (go_simp; done) | (go_simp; rfl)); intro gb249 hg w19 hbox hb; have n0_ := kb BK246 hb; have n1_ := kb BK247 hb; have n2_ := kb BK248 hb; have n3_ := sb hb; have n4_ := Aside0.mk (hbox); have n5_ := zb hg; have n6_ := zb hg; have n7_ := nl BK246 hg; have n8_ := ng BK246 hg; have n9_ := nl BK247 hg; have n10_ := ng BK247 hg; have n11_ := nl BK248 hg; have n12_ := ng BK248 hg; clear BK246; clear BK247; clear BK248; clear HB; have BK246 := n0_; have BK247 := n1_; have BK248 := n2_; have HB := n3_; have BK249 := n4_; have GW249 := n5_; have GE249 := n6_; have NB246_249 := n7_; have NB249_246 := n8_; have NB247_249 := n9_; have NB249_247 := n10_; have NB248_249 := n11_; have NB249_248 := n12_; clear n0_ n1_ n2_ n3_ n4_ n5_ n6_ n7_ n8_ n9_ n10_ n11_ n12_; clear hb hbox hg))
    have n0_ := Aside0.mk (blk_drew BK246.out)
    have n1_ := Aside0.mk (blk_drew BK247.out)
    have n2_ := Aside0.mk (blk_drew BK248.out)
    have n3_ := Aside0.mk (blk_drew BK249.out)
    have n4_ := Aside0.mk (below_drew1 HB.out)
    clear BK246
    clear BK247
    clear BK248
    clear BK249
    clear HB
    have BK246 := n0_
    have BK247 := n1_
    have BK248 := n2_
    have BK249 := n3_
    have HB := n4_
    clear n0_ n1_ n2_ n3_ n4_
    refine start_ (n := 10) (S := fun w' => w'.cell? ⟨gb246, 0, none⟩ = some (.int .i64 a0_0) ∧ w'.cell? ⟨gb246, 1, none⟩ = some (.int .i64 a0_1) ∧ w'.cell? ⟨gb247, 0, none⟩ = some (.int .i64 a1_0) ∧ w'.cell? ⟨gb247, 1, none⟩ = some (.int .i64 a1_1) ∧ w'.cell? ⟨gb248, 0, none⟩ = some (.int .i64 a2_0) ∧ w'.cell? ⟨gb248, 1, none⟩ = some (.int .i64 a2_1) ∧ w'.cell? ⟨gb249, 0, none⟩ = some (.int .i64 a3_0) ∧ w'.cell? ⟨gb249, 1, none⟩ = some (.int .i64 a3_1)) (ds := []) #[false, false, false, false, false, false, false, false, false, false] (by kernel_rfl) rfl rfl ⟨(blk_cell BK246.out 0).trans rfl, (blk_cell BK246.out 1).trans rfl, (blk_cell BK247.out 0).trans rfl, (blk_cell BK247.out 1).trans rfl, (blk_cell BK248.out 0).trans rfl, (blk_cell BK248.out 1).trans rfl, (blk_cell BK249.out 0).trans rfl, (blk_cell BK249.out 1).trans rfl⟩ (fun hHeld => ?_); refine with_tabW laws_FnExactSegmentDistance.tab1 laws_FnExactSegmentDistance.bits1 (fun HT_ HW_ => ?_)
    generalize w19.drew = w20 at BK246 BK247 BK248 BK249 HB hHeld ⊢
    refine take_ (i := 0) (N := some 11) (v := ?_) (a' := ?_) #[true, false, false, false, false, false, false, false, false, false] rfl rfl (take_ofW HT_.out HW_.out (by kernel_rfl)) (fun _ _ _ h => h) (Or.inl ⟨by rfl, ?_⟩) hHeld ?_ ?_
    rotate_left
    · rintro w' ⟨s0, s1, s2, s3, s4, s5, s6, s7⟩
      go_simp
      with_reducible rfl
    rotate_left
    · exact pa
    refine take_ (i := 2) (N := some 13) (v := ?_) (a' := ?_) #[true, false, true, false, false, false, false, false, false, false] rfl rfl (take_ofW HT_.out HW_.out (by kernel_rfl)) (fun _ _ _ h => h) (Or.inl ⟨by rfl, ?_⟩) hHeld ?_ ?_
    rotate_left
    · rintro w' ⟨s0, s1, s2, s3, s4, s5, s6, s7⟩
      go_simp
      with_reducible rfl
    rotate_left
    · exact pa
    refine take_ (i := 4) (N := some 15) (v := ?_) (a' := ?_) #[true, false, true, false, true, false, false, false, false, false] rfl rfl (take_ofW HT_.out HW_.out (by kernel_rfl)) (fun _ _ _ h => h) (Or.inl ⟨by rfl, ?_⟩) hHeld ?_ ?_
    rotate_left
    · rintro w' ⟨s0, s1, s2, s3, s4, s5, s6, s7⟩
      go_simp
      with_reducible rfl
    rotate_left
    · exact pa
    refine take_ (i := 6) (N := some 17) (v := ?_) (a' := ?_) #[true, false, true, false, true, false, true, false, false, false] rfl rfl (take_ofW HT_.out HW_.out (by kernel_rfl)) (fun _ _ _ h => h) (Or.inl ⟨by rfl, ?_⟩) hHeld ?_ ?_
    rotate_left
    · rintro w' ⟨s0, s1, s2, s3, s4, s5, s6, s7⟩
      go_simp
      with_reducible rfl
    rotate_left
    · exact pa
    refine one_ (i := 1) (N := some 12) #[true, true, true, false, true, false, true, false, false, false] rfl rfl (one_of HT_.out (by kernel_rfl)) (by decide) (fun K hK => ?_)
    refine goes_ Try.func16 (by kernel_rfl) rfl #[.agg #[.int .i64 a0_0, .int .i64 a0_1]] (by rfl) rfl rfl (by (try simp only [List.map_toArray, List.map_cons, List.map_nil]); first | done | rfl | (simp only [List.length_drop, List.length_take]; rfl)) ?_
    with_reducible refine (laws_toPoint.calls a0_0 a0_1 t250 t251 _ A5.out).mono ?_
    rintro e w21 ⟨rfl, hb⟩
    refine ⟨_, rfl, ?_⟩
    have n0_ := kb BK246 hb
    have n1_ := kb BK247 hb
    have n2_ := kb BK248 hb
    have n3_ := kb BK249 hb
    have n4_ := sb hb
    clear BK246
    clear BK247
    clear BK248
    clear BK249
    clear HB
    have BK246 := n0_
    have BK247 := n1_
    have BK248 := n2_
    have BK249 := n3_
    have HB := n4_
    clear n0_ n1_ n2_ n3_ n4_
    (try clear hb)
    (try clear hb2)
    (try clear hk)
    (try clear hi)
    refine hK.out _ _ ⟨(blk_cell BK246.out 0).trans rfl, (blk_cell BK246.out 1).trans rfl, (blk_cell BK247.out 0).trans rfl, (blk_cell BK247.out 1).trans rfl, (blk_cell BK248.out 0).trans rfl, (blk_cell BK248.out 1).trans rfl, (blk_cell BK249.out 0).trans rfl, (blk_cell BK249.out 1).trans rfl⟩ (fun hHeld => ?_)
    clear hK K
    refine norm_ (a' := ?_) ?_ ?_
    rotate_left
    · show Act.put _ (some 12) _ = _
      simp only [Act.put, List.setIfInBounds_toArray, List.set_cons_zero, List.set_cons_succ, i64_w, i32_w]
      rfl
    refine one_ (i := 3) (N := some 14) #[true, true, true, true, true, false, true, false, false, false] rfl rfl (one_of HT_.out (by kernel_rfl)) (by decide) (fun K hK => ?_)
    refine goes_ Try.func16 (by kernel_rfl) rfl #[.agg #[.int .i64 a1_0, .int .i64 a1_1]] (by rfl) rfl rfl (by (try simp only [List.map_toArray, List.map_cons, List.map_nil]); first | done | rfl | (simp only [List.length_drop, List.length_take]; rfl)) ?_
    with_reducible refine (laws_toPoint.calls a1_0 a1_1 t252 t253 _ A6.out).mono ?_
    rintro e w22 ⟨rfl, hb⟩
    refine ⟨_, rfl, ?_⟩
    have n0_ := kb BK246 hb
    have n1_ := kb BK247 hb
    have n2_ := kb BK248 hb
    have n3_ := kb BK249 hb
    have n4_ := sb hb
    clear BK246
    clear BK247
    clear BK248
    clear BK249
    clear HB
    have BK246 := n0_
    have BK247 := n1_
    have BK248 := n2_
    have BK249 := n3_
    have HB := n4_
    clear n0_ n1_ n2_ n3_ n4_
    (try clear hb)
    (try clear hb2)
    (try clear hk)
    (try clear hi)
    refine hK.out _ _ ⟨(blk_cell BK246.out 0).trans rfl, (blk_cell BK246.out 1).trans rfl, (blk_cell BK247.out 0).trans rfl, (blk_cell BK247.out 1).trans rfl, (blk_cell BK248.out 0).trans rfl, (blk_cell BK248.out 1).trans rfl, (blk_cell BK249.out 0).trans rfl, (blk_cell BK249.out 1).trans rfl⟩ (fun hHeld => ?_)
    clear hK K
    refine norm_ (a' := ?_) ?_ ?_
    rotate_left
    · show Act.put _ (some 14) _ = _
      simp only [Act.put, List.setIfInBounds_toArray, List.set_cons_zero, List.set_cons_succ, i64_w, i32_w]
      rfl
    refine one_ (i := 5) (N := some 16) #[true, true, true, true, true, true, true, false, false, false] rfl rfl (one_of HT_.out (by kernel_rfl)) (by decide) (fun K hK => ?_)
    refine goes_ Try.func16 (by kernel_rfl) rfl #[.agg #[.int .i64 a2_0, .int .i64 a2_1]] (by rfl) rfl rfl (by (try simp only [List.map_toArray, List.map_cons, List.map_nil]); first | done | rfl | (simp only [List.length_drop, List.length_take]; rfl)) ?_
    with_reducible refine (laws_toPoint.calls a2_0 a2_1 t254 t255 _ A7.out).mono ?_
    rintro e w23 ⟨rfl, hb⟩
    refine ⟨_, rfl, ?_⟩
    have n0_ := kb BK246 hb
    have n1_ := kb BK247 hb
    have n2_ := kb BK248 hb
    have n3_ := kb BK249 hb
    have n4_ := sb hb
    clear BK246
    clear BK247
    clear BK248
    clear BK249
    clear HB
    have BK246 := n0_
    have BK247 := n1_
    have BK248 := n2_
    have BK249 := n3_
    have HB := n4_
    clear n0_ n1_ n2_ n3_ n4_
    (try clear hb)
    (try clear hb2)
    (try clear hk)
    (try clear hi)
    refine hK.out _ _ ⟨(blk_cell BK246.out 0).trans rfl, (blk_cell BK246.out 1).trans rfl, (blk_cell BK247.out 0).trans rfl, (blk_cell BK247.out 1).trans rfl, (blk_cell BK248.out 0).trans rfl, (blk_cell BK248.out 1).trans rfl, (blk_cell BK249.out 0).trans rfl, (blk_cell BK249.out 1).trans rfl⟩ (fun hHeld => ?_)
    clear hK K
    refine norm_ (a' := ?_) ?_ ?_
    rotate_left
    · show Act.put _ (some 16) _ = _
      simp only [Act.put, List.setIfInBounds_toArray, List.set_cons_zero, List.set_cons_succ, i64_w, i32_w]
      rfl
    refine one_ (i := 7) (N := some 18) #[true, true, true, true, true, true, true, true, false, false] rfl rfl (one_of HT_.out (by kernel_rfl)) (by decide) (fun K hK => ?_)
    refine goes_ Try.func16 (by kernel_rfl) rfl #[.agg #[.int .i64 a3_0, .int .i64 a3_1]] (by rfl) rfl rfl (by (try simp only [List.map_toArray, List.map_cons, List.map_nil]); first | done | rfl | (simp only [List.length_drop, List.length_take]; rfl)) ?_
    with_reducible refine (laws_toPoint.calls a3_0 a3_1 t256 t257 _ A8.out).mono ?_
    rintro e w24 ⟨rfl, hb⟩
    refine ⟨_, rfl, ?_⟩
    have n0_ := kb BK246 hb
    have n1_ := kb BK247 hb
    have n2_ := kb BK248 hb
    have n3_ := kb BK249 hb
    have n4_ := sb hb
    clear BK246
    clear BK247
    clear BK248
    clear BK249
    clear HB
    have BK246 := n0_
    have BK247 := n1_
    have BK248 := n2_
    have BK249 := n3_
    have HB := n4_
    clear n0_ n1_ n2_ n3_ n4_
    (try clear hb)
    (try clear hb2)
    (try clear hk)
    (try clear hi)
    refine hK.out _ _ ⟨(blk_cell BK246.out 0).trans rfl, (blk_cell BK246.out 1).trans rfl, (blk_cell BK247.out 0).trans rfl, (blk_cell BK247.out 1).trans rfl, (blk_cell BK248.out 0).trans rfl, (blk_cell BK248.out 1).trans rfl, (blk_cell BK249.out 0).trans rfl, (blk_cell BK249.out 1).trans rfl⟩ (fun hHeld => ?_)
    clear hK K
    refine norm_ (a' := ?_) ?_ ?_
    rotate_left
    · show Act.put _ (some 18) _ = _
      simp only [Act.put, List.setIfInBounds_toArray, List.set_cons_zero, List.set_cons_succ, i64_w, i32_w]
      rfl
    refine one_ (i := 8) (N := some 19) #[true, true, true, true, true, true, true, true, true, false] rfl rfl (one_of HT_.out (by kernel_rfl)) (by decide) (fun K hK => ?_)
    refine goes_ Try.func31 (by kernel_rfl) rfl #[.agg #[.int .i64 t250, .int .i64 t251], .agg #[.int .i64 t252, .int .i64 t253], .agg #[.int .i64 t254, .int .i64 t255], .agg #[.int .i64 t256, .int .i64 t257]] (by rfl) rfl rfl (by (try simp only [List.map_toArray, List.map_cons, List.map_nil]); first | done | rfl | (simp only [List.length_drop, List.length_take]; rfl)) ?_
    with_reducible refine (spec_SegmentDistance.calls k t250 t251 t252 t253 t254 t255 t256 t257 t258 _ A9.out).mono ?_
    rintro e w25 ⟨rfl, hb⟩
    refine ⟨_, rfl, ?_⟩
    have n0_ := kb BK246 hb
    have n1_ := kb BK247 hb
    have n2_ := kb BK248 hb
    have n3_ := kb BK249 hb
    have n4_ := sb hb
    clear BK246
    clear BK247
    clear BK248
    clear BK249
    clear HB
    have BK246 := n0_
    have BK247 := n1_
    have BK248 := n2_
    have BK249 := n3_
    have HB := n4_
    clear n0_ n1_ n2_ n3_ n4_
    (try clear hb)
    (try clear hb2)
    (try clear hk)
    (try clear hi)
    refine hK.out _ _ ⟨(blk_cell BK246.out 0).trans rfl, (blk_cell BK246.out 1).trans rfl, (blk_cell BK247.out 0).trans rfl, (blk_cell BK247.out 1).trans rfl, (blk_cell BK248.out 0).trans rfl, (blk_cell BK248.out 1).trans rfl, (blk_cell BK249.out 0).trans rfl, (blk_cell BK249.out 1).trans rfl⟩ (fun hHeld => ?_)
    clear hK K
    refine norm_ (a' := ?_) ?_ ?_
    rotate_left
    · show Act.put _ (some 19) _ = _
      simp only [Act.put, List.setIfInBounds_toArray, List.set_cons_zero, List.set_cons_succ, i64_w, i32_w]
      rfl
    refine pure_ (i := 9) (N := some 9) (v := ?_) (a' := ?_) #[true, true, true, true, true, true, true, true, true, true] rfl rfl (any_of HT_.out (by kernel_rfl)) (fun _ _ _ h => h) (Or.inl ⟨by rfl, ?_⟩) ?_ ?_
    rotate_left
    · intro w'
      go_simp
      with_reducible rfl
    rotate_left
    · exact pa
    refine done_ (done_of HT_.out (by kernel_rfl)) ?_
    try go_wp2
    have n0_ := Aside0.mk (blk_drew BK246.out)
    have n1_ := Aside0.mk (blk_drew BK247.out)
    have n2_ := Aside0.mk (blk_drew BK248.out)
    have n3_ := Aside0.mk (blk_drew BK249.out)
    have n4_ := Aside0.mk (below_drew1 HB.out)
    clear BK246
    clear BK247
    clear BK248
    clear BK249
    clear HB
    have BK246 := n0_
    have BK247 := n1_
    have BK248 := n2_
    have BK249 := n3_
    have HB := n4_
    clear n0_ n1_ n2_ n3_ n4_
    refine start_ (n := 10) (S := fun w' => w'.cell? ⟨gb246, 0, none⟩ = some (.int .i64 a0_0) ∧ w'.cell? ⟨gb246, 1, none⟩ = some (.int .i64 a0_1) ∧ w'.cell? ⟨gb247, 0, none⟩ = some (.int .i64 a1_0) ∧ w'.cell? ⟨gb247, 1, none⟩ = some (.int .i64 a1_1) ∧ w'.cell? ⟨gb248, 0, none⟩ = some (.int .i64 a2_0) ∧ w'.cell? ⟨gb248, 1, none⟩ = some (.int .i64 a2_1) ∧ w'.cell? ⟨gb249, 0, none⟩ = some (.int .i64 a3_0) ∧ w'.cell? ⟨gb249, 1, none⟩ = some (.int .i64 a3_1)) (ds := []) #[false, false, false, false, false, false, false, false, false, false] (by kernel_rfl) rfl rfl ⟨(blk_cell BK246.out 0).trans rfl, (blk_cell BK246.out 1).trans rfl, (blk_cell BK247.out 0).trans rfl, (blk_cell BK247.out 1).trans rfl, (blk_cell BK248.out 0).trans rfl, (blk_cell BK248.out 1).trans rfl, (blk_cell BK249.out 0).trans rfl, (blk_cell BK249.out 1).trans rfl⟩ (fun hHeld => ?_); refine with_tabW laws_FnExactSegmentDistance.tab2 laws_FnExactSegmentDistance.bits2 (fun HT_ HW_ => ?_)
    generalize w25.drew = w26 at BK246 BK247 BK248 BK249 HB hHeld ⊢
    refine take_ (i := 0) (N := some 20) (v := ?_) (a' := ?_) #[true, false, false, false, false, false, false, false, false, false] rfl rfl (take_ofW HT_.out HW_.out (by kernel_rfl)) (fun _ _ _ h => h) (Or.inl ⟨by rfl, ?_⟩) hHeld ?_ ?_
    rotate_left
    · rintro w' ⟨s0, s1, s2, s3, s4, s5, s6, s7⟩
      go_simp
      with_reducible rfl
    rotate_left
    · exact pa
    refine take_ (i := 2) (N := some 22) (v := ?_) (a' := ?_) #[true, false, true, false, false, false, false, false, false, false] rfl rfl (take_ofW HT_.out HW_.out (by kernel_rfl)) (fun _ _ _ h => h) (Or.inl ⟨by rfl, ?_⟩) hHeld ?_ ?_
    rotate_left
    · rintro w' ⟨s0, s1, s2, s3, s4, s5, s6, s7⟩
      go_simp
      with_reducible rfl
    rotate_left
    · exact pa
    refine take_ (i := 4) (N := some 24) (v := ?_) (a' := ?_) #[true, false, true, false, true, false, false, false, false, false] rfl rfl (take_ofW HT_.out HW_.out (by kernel_rfl)) (fun _ _ _ h => h) (Or.inl ⟨by rfl, ?_⟩) hHeld ?_ ?_
    rotate_left
    · rintro w' ⟨s0, s1, s2, s3, s4, s5, s6, s7⟩
      go_simp
      with_reducible rfl
    rotate_left
    · exact pa
    refine take_ (i := 6) (N := some 26) (v := ?_) (a' := ?_) #[true, false, true, false, true, false, true, false, false, false] rfl rfl (take_ofW HT_.out HW_.out (by kernel_rfl)) (fun _ _ _ h => h) (Or.inl ⟨by rfl, ?_⟩) hHeld ?_ ?_
    rotate_left
    · rintro w' ⟨s0, s1, s2, s3, s4, s5, s6, s7⟩
      go_simp
      with_reducible rfl
    rotate_left
    · exact pa
    refine one_ (i := 1) (N := some 21) #[true, true, true, false, true, false, true, false, false, false] rfl rfl (one_of HT_.out (by kernel_rfl)) (by decide) (fun K hK => ?_)
    refine goes_ Try.func16 (by kernel_rfl) rfl #[.agg #[.int .i64 a0_0, .int .i64 a0_1]] (by rfl) rfl rfl (by (try simp only [List.map_toArray, List.map_cons, List.map_nil]); first | done | rfl | (simp only [List.length_drop, List.length_take]; rfl)) ?_
    with_reducible refine (laws_toPoint.calls a0_0 a0_1 t259 t260 _ A10.out).mono ?_
    rintro e w27 ⟨rfl, hb⟩
    refine ⟨_, rfl, ?_⟩
    have n0_ := kb BK246 hb
    have n1_ := kb BK247 hb
    have n2_ := kb BK248 hb
    have n3_ := kb BK249 hb
    have n4_ := sb hb
    clear BK246
    clear BK247
    clear BK248
    clear BK249
    clear HB
    have BK246 := n0_
    have BK247 := n1_
    have BK248 := n2_
    have BK249 := n3_
    have HB := n4_
    clear n0_ n1_ n2_ n3_ n4_
    (try clear hb)
    (try clear hb2)
    (try clear hk)
    (try clear hi)
    refine hK.out _ _ ⟨(blk_cell BK246.out 0).trans rfl, (blk_cell BK246.out 1).trans rfl, (blk_cell BK247.out 0).trans rfl, (blk_cell BK247.out 1).trans rfl, (blk_cell BK248.out 0).trans rfl, (blk_cell BK248.out 1).trans rfl, (blk_cell BK249.out 0).trans rfl, (blk_cell BK249.out 1).trans rfl⟩ (fun hHeld => ?_)
    clear hK K
    refine norm_ (a' := ?_) ?_ ?_
    rotate_left
    · show Act.put _ (some 21) _ = _
      simp only [Act.put, List.setIfInBounds_toArray, List.set_cons_zero, List.set_cons_succ, i64_w, i32_w]
      rfl
    refine one_ (i := 3) (N := some 23) #[true, true, true, true, true, false, true, false, false, false] rfl rfl (one_of HT_.out (by kernel_rfl)) (by decide) (fun K hK => ?_)
    refine goes_ Try.func16 (by kernel_rfl) rfl #[.agg #[.int .i64 a1_0, .int .i64 a1_1]] (by rfl) rfl rfl (by (try simp only [List.map_toArray, List.map_cons, List.map_nil]); first | done | rfl | (simp only [List.length_drop, List.length_take]; rfl)) ?_
    with_reducible refine (laws_toPoint.calls a1_0 a1_1 t261 t262 _ A11.out).mono ?_
    rintro e w28 ⟨rfl, hb⟩
    refine ⟨_, rfl, ?_⟩
    have n0_ := kb BK246 hb
    have n1_ := kb BK247 hb
    have n2_ := kb BK248 hb
    have n3_ := kb BK249 hb
    have n4_ := sb hb
    clear BK246
    clear BK247
    clear BK248
    clear BK249
    clear HB
    have BK246 := n0_
    have BK247 := n1_
    have BK248 := n2_
    have BK249 := n3_
    have HB := n4_
    clear n0_ n1_ n2_ n3_ n4_
    (try clear hb)
    (try clear hb2)
    (try clear hk)
    (try clear hi)
    refine hK.out _ _ ⟨(blk_cell BK246.out 0).trans rfl, (blk_cell BK246.out 1).trans rfl, (blk_cell BK247.out 0).trans rfl, (blk_cell BK247.out 1).trans rfl, (blk_cell BK248.out 0).trans rfl, (blk_cell BK248.out 1).trans rfl, (blk_cell BK249.out 0).trans rfl, (blk_cell BK249.out 1).trans rfl⟩ (fun hHeld => ?_)
    clear hK K
    refine norm_ (a' := ?_) ?_ ?_
    rotate_left
    · show Act.put _ (some 23) _ = _
      simp only [Act.put, List.setIfInBounds_toArray, List.set_cons_zero, List.set_cons_succ, i64_w, i32_w]
      rfl
    refine one_ (i := 5) (N := some 25) #[true, true, true, true, true, true, true, false, false, false] rfl rfl (one_of HT_.out (by kernel_rfl)) (by decide) (fun K hK => ?_)
    refine goes_ Try.func16 (by kernel_rfl) rfl #[.agg #[.int .i64 a2_0, .int .i64 a2_1]] (by rfl) rfl rfl (by (try simp only [List.map_toArray, List.map_cons, List.map_nil]); first | done | rfl | (simp only [List.length_drop, List.length_take]; rfl)) ?_
    with_reducible refine (laws_toPoint.calls a2_0 a2_1 t263 t264 _ A12.out).mono ?_
    rintro e w29 ⟨rfl, hb⟩
    refine ⟨_, rfl, ?_⟩
    have n0_ := kb BK246 hb
    have n1_ := kb BK247 hb
    have n2_ := kb BK248 hb
    have n3_ := kb BK249 hb
    have n4_ := sb hb
    clear BK246
    clear BK247
    clear BK248
    clear BK249
    clear HB
    have BK246 := n0_
    have BK247 := n1_
    have BK248 := n2_
    have BK249 := n3_
    have HB := n4_
    clear n0_ n1_ n2_ n3_ n4_
    (try clear hb)
    (try clear hb2)
    (try clear hk)
    (try clear hi)
    refine hK.out _ _ ⟨(blk_cell BK246.out 0).trans rfl, (blk_cell BK246.out 1).trans rfl, (blk_cell BK247.out 0).trans rfl, (blk_cell BK247.out 1).trans rfl, (blk_cell BK248.out 0).trans rfl, (blk_cell BK248.out 1).trans rfl, (blk_cell BK249.out 0).trans rfl, (blk_cell BK249.out 1).trans rfl⟩ (fun hHeld => ?_)
    clear hK K
    refine norm_ (a' := ?_) ?_ ?_
    rotate_left
    · show Act.put _ (some 25) _ = _
      simp only [Act.put, List.setIfInBounds_toArray, List.set_cons_zero, List.set_cons_succ, i64_w, i32_w]
      rfl
    refine one_ (i := 7) (N := some 27) #[true, true, true, true, true, true, true, true, false, false] rfl rfl (one_of HT_.out (by kernel_rfl)) (by decide) (fun K hK => ?_)
    refine goes_ Try.func16 (by kernel_rfl) rfl #[.agg #[.int .i64 a3_0, .int .i64 a3_1]] (by rfl) rfl rfl (by (try simp only [List.map_toArray, List.map_cons, List.map_nil]); first | done | rfl | (simp only [List.length_drop, List.length_take]; rfl)) ?_
    with_reducible refine (laws_toPoint.calls a3_0 a3_1 t265 t266 _ A13.out).mono ?_
    rintro e w30 ⟨rfl, hb⟩
    refine ⟨_, rfl, ?_⟩
    have n0_ := kb BK246 hb
    have n1_ := kb BK247 hb
    have n2_ := kb BK248 hb
    have n3_ := kb BK249 hb
    have n4_ := sb hb
    clear BK246
    clear BK247
    clear BK248
    clear BK249
    clear HB
    have BK246 := n0_
    have BK247 := n1_
    have BK248 := n2_
    have BK249 := n3_
    have HB := n4_
    clear n0_ n1_ n2_ n3_ n4_
    (try clear hb)
    (try clear hb2)
    (try clear hk)
    (try clear hi)
    refine hK.out _ _ ⟨(blk_cell BK246.out 0).trans rfl, (blk_cell BK246.out 1).trans rfl, (blk_cell BK247.out 0).trans rfl, (blk_cell BK247.out 1).trans rfl, (blk_cell BK248.out 0).trans rfl, (blk_cell BK248.out 1).trans rfl, (blk_cell BK249.out 0).trans rfl, (blk_cell BK249.out 1).trans rfl⟩ (fun hHeld => ?_)
    clear hK K
    refine norm_ (a' := ?_) ?_ ?_
    rotate_left
    · show Act.put _ (some 27) _ = _
      simp only [Act.put, List.setIfInBounds_toArray, List.set_cons_zero, List.set_cons_succ, i64_w, i32_w]
      rfl
    refine one_ (i := 8) (N := some 28) #[true, true, true, true, true, true, true, true, true, false] rfl rfl (one_of HT_.out (by kernel_rfl)) (by decide) (fun K hK => ?_)
    refine goes_ Try.func32 (by kernel_rfl) rfl #[.agg #[.int .i64 t259, .int .i64 t260], .agg #[.int .i64 t261, .int .i64 t262], .agg #[.int .i64 t263, .int .i64 t264], .agg #[.int .i64 t265, .int .i64 t266]] (by rfl) rfl rfl (by (try simp only [List.map_toArray, List.map_cons, List.map_nil]); first | done | rfl | (simp only [List.length_drop, List.length_take]; rfl)) ?_
    with_reducible refine (impl_SegmentDistance.calls k t259 t260 t261 t262 t263 t264 t265 t266 t267 _ A14.out).mono ?_
    rintro e w31 ⟨rfl, hb⟩
    refine ⟨_, rfl, ?_⟩
    have n0_ := kb BK246 hb
    have n1_ := kb BK247 hb
    have n2_ := kb BK248 hb
    have n3_ := kb BK249 hb
    have n4_ := sb hb
    clear BK246
    clear BK247
    clear BK248
    clear BK249
    clear HB
    have BK246 := n0_
    have BK247 := n1_
    have BK248 := n2_
    have BK249 := n3_
    have HB := n4_
    clear n0_ n1_ n2_ n3_ n4_
    (try clear hb)
    (try clear hb2)
    (try clear hk)
    (try clear hi)
    refine hK.out _ _ ⟨(blk_cell BK246.out 0).trans rfl, (blk_cell BK246.out 1).trans rfl, (blk_cell BK247.out 0).trans rfl, (blk_cell BK247.out 1).trans rfl, (blk_cell BK248.out 0).trans rfl, (blk_cell BK248.out 1).trans rfl, (blk_cell BK249.out 0).trans rfl, (blk_cell BK249.out 1).trans rfl⟩ (fun hHeld => ?_)
    clear hK K
    refine norm_ (a' := ?_) ?_ ?_
    rotate_left
    · show Act.put _ (some 28) _ = _
      simp only [Act.put, List.setIfInBounds_toArray, List.set_cons_zero, List.set_cons_succ, i64_w, i32_w]
      rfl
    refine pure_ (i := 9) (N := some 10) (v := ?_) (a' := ?_) #[true, true, true, true, true, true, true, true, true, true] rfl rfl (any_of HT_.out (by kernel_rfl)) (fun _ _ _ h => h) (Or.inl ⟨by rfl, ?_⟩) ?_ ?_
    rotate_left
    · intro w'
      go_simp
      with_reducible rfl
    rotate_left
    · exact pa
    refine done_ (done_of HT_.out (by kernel_rfl)) ?_
    try go_wp2
    go_ret
    exact ⟨by first | rfl | (simp [errW_none, errW_some] <;> rfl) | (simp [*, errW_none, errW_some] <;> rfl), by repeat (first | (with_reducible first | exact HB.out | apply below_alloc | apply pw_below_drewN | apply below_drew1 | refine below_set ?_ GE246.out | refine below_set ?_ GE247.out | refine below_set ?_ GE248.out | refine below_set ?_ GE249.out) | exact HB.out)⟩
  · rw [if_neg c15] at H
    have c15b0 : (t267 == t258) = false := beq_eq_false_iff_ne.mpr c15
    have c15b1 : (t267 != t258) = true := bne_iff_ne.mpr c15
    cases H
end Go.Proofs.Ytolccaaoimjbdaa.PFnExactSegmentDistance
