/- Contracts of functions that FnExactReadPolygon reaches, out of the lines of the kit's print. -/
import Derived.Test.YtdegladckdnhiaaDoorQFnExactReadPolygonx0
import Derived.Test.YtdegladckdnhiaaDoorQFnExactReadPolygonx3
import Derived.Test.YtdegladckdnhiaaDoorQFnExactReadPolygonx4
namespace Go.Proofs.YtdegladckdnhiaaDoor.PFnExactReadPolygon
open Go.RowKit Go.Proofs.YtdegladckdnhiaaDoorW.PrintWords Go.Proofs.YtdegladckdnhiaaDoorW.PrintLast Go.Proofs.YtdegladckdnhiaaDoorW.PrintMore
attribute [local go_sem] max2_int min2_int max_two min_two max_three min_three max_four min_four
set_option linter.unusedVariables false
set_option linter.unusedSimpArgs false
def spec_l02Crosses.f (a0_0 : Int) (a0_1 : Int) (a1_0 : Int) (a1_1 : Int) (a2_0 : Int) (a2_1 : Int) (a3_0 : Int) (a3_1 : Int) : Option (Bool) := (spec_l02Side.f a0_0 a0_1 a1_0 a1_1 a2_0 a2_1).bind fun t152 => ((spec_l02Side.f a0_0 a0_1 a1_0 a1_1 a3_0 a3_1).bind fun t153 => (if (wrap64 (t152 * t153)) < 0 then ((spec_l02Side.f a2_0 a2_1 a3_0 a3_1 a0_0 a0_1).bind fun t154 => ((spec_l02Side.f a2_0 a2_1 a3_0 a3_1 a1_0 a1_1).bind fun t155 => (some (decide ((wrap64 (t154 * t155)) < 0))))) else (some false)))
def spec_l02Crosses.T1 : Bool × List (List Nat × List Nat) := (true, [([], []), ([], []), ([], []), ([0, 1, 2], [0, 1, 2]), ([], []), ([], []), ([], []), ([4, 5, 6, 3], [4, 5, 6]), ([3, 7], [3, 7]), ([8], [8]), ([9, 7], [9]), ([10], [10]), ([10], [10]), ([10], [10]), ([11, 12, 13, 10, 10], [10, 11, 12, 13]), ([10], [10]), ([10], [10]), ([10], [10]), ([15, 16, 17, 14, 10], [10, 15, 16, 17]), ([14, 18, 10], [10, 14, 18]), ([19, 10], [10, 19]), ([10, 20], [10, 20]), ([21, 18, 0, 1, 2, 3, 4, 5, 6, 7, 8, 9, 10, 11, 12, 13, 14, 15, 16, 17, 18, 19, 20, 21], [21])])
def spec_l02Crosses.B1 : List Nat := [0, 0, 0, 7, 0, 0, 0, 127, 255, 511, 1023, 2047, 2047, 2047, 16383, 2047, 2047, 2047, 262143, 524287, 1048575, 2097151, 4194303]
theorem spec_l02Crosses.tab1 : rtab .any (opsOf Tryd.f108 1) = spec_l02Crosses.T1 := by kernel_rfl
theorem spec_l02Crosses.bits1 : waitsOk spec_l02Crosses.T1.2 spec_l02Crosses.B1 = true := by kernel_rfl
set_option maxHeartbeats 8000000 in
set_option maxRecDepth 100000 in
theorem spec_l02Crosses.calls (a0_0 : Int) (a0_1 : Int) (a1_0 : Int) (a1_1 : Int) (a2_0 : Int) (a2_1 : Int) (a3_0 : Int) (a3_1 : Int) (r : Bool) (w : World) (h : spec_l02Crosses.f a0_0 a0_1 a1_0 a1_1 a2_0 a2_1 a3_0 a3_1 = some r) :
    Calls Tryd.prog 108 #[.agg #[.int .i64 a0_0, .int .i64 a0_1], .agg #[.int .i64 a1_0, .int .i64 a1_1], .agg #[.int .i64 a2_0, .int .i64 a2_1], .agg #[.int .i64 a3_0, .int .i64 a3_1]] w fun e w' => e = .returned (.bool r) ∧ Below w.heap.size w w' := by
  have hu40 := Tryd.underlying40
  have HB := Aside0.mk (Below.refl w.heap.size w)
  have H : ((spec_l02Side.f a0_0 a0_1 a1_0 a1_1 a2_0 a2_1).bind fun t152 => ((spec_l02Side.f a0_0 a0_1 a1_0 a1_1 a3_0 a3_1).bind fun t153 => (if (wrap64 (t152 * t153)) < 0 then ((spec_l02Side.f a2_0 a2_1 a3_0 a3_1 a0_0 a0_1).bind fun t154 => ((spec_l02Side.f a2_0 a2_1 a3_0 a3_1 a1_0 a1_1).bind fun t155 => (some (decide ((wrap64 (t154 * t155)) < 0))))) else (some false)))) = some r := h
  clear h
  replace H := Option.bind_eq_some_iff.mp H
  obtain ⟨t152, A50, H⟩ := H
  replace H : ((spec_l02Side.f a0_0 a0_1 a1_0 a1_1 a3_0 a3_1).bind fun t153 => (if (wrap64 (t152 * t153)) < 0 then ((spec_l02Side.f a2_0 a2_1 a3_0 a3_1 a0_0 a0_1).bind fun t154 => ((spec_l02Side.f a2_0 a2_1 a3_0 a3_1 a1_0 a1_1).bind fun t155 => (some (decide ((wrap64 (t154 * t155)) < 0))))) else (some false))) = some r := H
  have A5 := Aside0.mk A50
  clear A50
  replace H := Option.bind_eq_some_iff.mp H
  obtain ⟨t153, A60, H⟩ := H
  replace H : (if (wrap64 (t152 * t153)) < 0 then ((spec_l02Side.f a2_0 a2_1 a3_0 a3_1 a0_0 a0_1).bind fun t154 => ((spec_l02Side.f a2_0 a2_1 a3_0 a3_1 a1_0 a1_1).bind fun t155 => (some (decide ((wrap64 (t154 * t155)) < 0))))) else (some false)) = some r := H
  have A6 := Aside0.mk A60
  clear A60
  by_cases c7 : (wrap64 (t152 * t153)) < 0
  · rw [if_pos c7] at H
    have c7b0 : decide ((wrap64 (t152 * t153)) < 0) = true := decide_eq_true c7
    clear c7
    replace H := Option.bind_eq_some_iff.mp H
    obtain ⟨t154, A80, H⟩ := H
    replace H : ((spec_l02Side.f a2_0 a2_1 a3_0 a3_1 a1_0 a1_1).bind fun t155 => (some (decide ((wrap64 (t154 * t155)) < 0)))) = some r := H
    have A8 := Aside0.mk A80
    clear A80
    replace H := Option.bind_eq_some_iff.mp H
    obtain ⟨t155, A90, H⟩ := H
    replace H : (some (decide ((wrap64 (t154 * t155)) < 0))) = some r := H
    have A9 := Aside0.mk A90
    clear A90
    obtain rfl := Option.some.inj H
    go_enter Tryd.func108, Tryd.ntmps108
    try go_wp2_with (first | ((with_reducible refine gate_dst (N := 4) rfl ?_); refine box_event ?hg (N := 4) ?hd (cs := #[.int .i64 a0_0, .int .i64 a0_1]) (t := 40) ?hr ?_; (case hd => rfl); (case hg => rfl); (case hr => first | (go_simp; done) | (go_simp; rfl)); intro gb148 hg w10 hbox hb; have n0_ := sb hb; have n1_ := Aside0.mk (hbox); have n2_ := zb hg; have n3_ := zb hg; clear HB; have HB := n0_; have BK148 := n1_; have GW148 := n2_; have GE148 := n3_; clear n0_ n1_ n2_ n3_; clear hb hbox hg) | ((with_reducible refine gate_dst (N := 5) rfl ?_); refine box_event ?hg (N := 5) ?hd (cs := #[.int .i64 a1_0, .int .i64 a1_1]) (t := 40) ?hr ?_; (case hd => rfl); (case hg => rfl); (case hr => first | (go_simp; done) | (go_simp; rfl)); intro gb149 hg w11 hbox hb; have n0_ := kb BK148 hb; have n1_ := sb hb; have n2_ := Aside0.mk (hbox); have n3_ := zb hg; have n4_ := zb hg; have n5_ := nl BK148 hg; have n6_ := ng BK148 hg; clear BK148; clear HB; have BK148 := n0_; have HB := n1_; have BK149 := n2_; have GW149 := n3_; have GE149 := n4_; have NB148_149 := n5_; have NB149_148 := n6_; clear n0_ n1_ n2_ n3_ n4_ n5_ n6_; clear hb hbox hg) | ((with_reducible refine gate_dst (N := 6) rfl ?_); refine box_event ?hg (N := 6) ?hd (cs := #[.int .i64 a2_0, .int .i64 a2_1]) (t := 40) ?hr ?_; (case hd => rfl); (case hg => rfl); (case hr => first | (go_simp; done) | (go_simp; rfl)); intro gb150 hg w12 hbox hb; have n0_ := kb BK148 hb; have n1_ := kb BK149 hb; have n2_ := sb hb; have n3_ := Aside0.mk (hbox); have n4_ := zb hg; have n5_ := zb hg; have n6_ := nl BK148 hg; have n7_ := ng BK148 hg; have n8_ := nl BK149 hg; have n9_ := ng BK149 hg; clear BK148; clear BK149; clear HB; have BK148 := n0_; have BK149 := n1_; have HB := n2_; have BK150 := n3_; have GW150 := n4_; have GE150 := n5_; have NB148_150 := n6_; have NB150_148 := n7_; have NB149_150 := n8_; have NB150_149 := n9_; clear n0_ n1_ n2_ n3_ n4_ n5_ n6_ n7_ n8_ n9_; clear hb hbox hg) | ((with_reducible refine gate_dst (N := 7) rfl ?_); refine box_event ?hg (N := 7) ?hd (cs := #[.int .i64 a3_0, .int .i64 a3_1]) (t := 40) ?hr ?_; (case hd => rfl); (case hg => rfl); (case hr => first | (go_simp; done) | (go_simp; rfl)); intro gb151 hg w13 hbox hb; have n0_ := kb BK148 hb; have n1_ := kb BK149 hb; have n2_ := kb BK150 hb; have n3_ := sb hb; have n4_ := Aside0.mk (hbox); have n5_ := zb hg; have n6_ := zb hg; have n7_ := nl BK148 hg; have n8_ := ng BK148 hg; have n9_ := nl BK149 hg; have n10_ := ng BK149 hg; have n11_ := nl BK150 hg; have n12_ := ng BK150 hg; clear BK148; clear BK149; clear BK150; clear HB; have BK148 := n0_; have BK149 := n1_; have BK150 := n2_; have HB := n3_; have BK151 := n4_; have GW151 := n5_; have GE151 := n6_; have NB148_151 := n7_; have NB151_148 := n8_; have NB149_151 := n9_; have NB151_149 := n10_; have NB150_151 := n11_; have NB151_150 := n12_; clear n0_ n1_ n2_ n3_ n4_ n5_ n6_ n7_ n8_ n9_ n10_ n11_ n12_; clear hb hbox hg))
    have n0_ := Aside0.mk (blk_drew BK148.out)
    have n1_ := Aside0.mk (blk_drew BK149.out)
    have n2_ := Aside0.mk (blk_drew BK150.out)
    have n3_ := Aside0.mk (blk_drew BK151.out)
    have n4_ := Aside0.mk (below_drew1 HB.out)
    clear BK148
    clear BK149
    clear BK150
    clear BK151
    clear HB
    have BK148 := n0_
    have BK149 := n1_
    have BK150 := n2_
    have BK151 := n3_
    have HB := n4_
    clear n0_ n1_ n2_ n3_ n4_
    refine start_ (n := 23) (S := fun w' => w'.cell? ⟨gb148, 0, none⟩ = some (.int .i64 a0_0) ∧ w'.cell? ⟨gb148, 1, none⟩ = some (.int .i64 a0_1) ∧ w'.cell? ⟨gb149, 0, none⟩ = some (.int .i64 a1_0) ∧ w'.cell? ⟨gb149, 1, none⟩ = some (.int .i64 a1_1) ∧ w'.cell? ⟨gb150, 0, none⟩ = some (.int .i64 a2_0) ∧ w'.cell? ⟨gb150, 1, none⟩ = some (.int .i64 a2_1) ∧ w'.cell? ⟨gb151, 0, none⟩ = some (.int .i64 a3_0) ∧ w'.cell? ⟨gb151, 1, none⟩ = some (.int .i64 a3_1)) (ds := []) #[false, false, false, false, false, false, false, false, false, false, false, false, false, false, false, false, false, false, false, false, false, false, false] (by kernel_rfl) rfl rfl ⟨(blk_cell BK148.out 0).trans rfl, (blk_cell BK148.out 1).trans rfl, (blk_cell BK149.out 0).trans rfl, (blk_cell BK149.out 1).trans rfl, (blk_cell BK150.out 0).trans rfl, (blk_cell BK150.out 1).trans rfl, (blk_cell BK151.out 0).trans rfl, (blk_cell BK151.out 1).trans rfl⟩ (fun hHeld => ?_); refine with_tabW spec_l02Crosses.tab1 spec_l02Crosses.bits1 (fun HT_ HW_ => ?_)
    generalize w13.drew = w14 at BK148 BK149 BK150 BK151 HB hHeld ⊢
    refine take_ (i := 0) (N := some 9) (v := ?_) (a' := ?_) #[true, false, false, false, false, false, false, false, false, false, false, false, false, false, false, false, false, false, false, false, false, false, false] rfl rfl (take_ofW HT_.out HW_.out (by kernel_rfl)) (fun _ _ _ h => h) (Or.inl ⟨by rfl, ?_⟩) hHeld ?_ ?_
    rotate_left
    · rintro w' ⟨s0, s1, s2, s3, s4, s5, s6, s7⟩
      go_simp
      with_reducible rfl
    rotate_left
    · exact pa
    refine take_ (i := 1) (N := some 10) (v := ?_) (a' := ?_) #[true, true, false, false, false, false, false, false, false, false, false, false, false, false, false, false, false, false, false, false, false, false, false] rfl rfl (take_ofW HT_.out HW_.out (by kernel_rfl)) (fun _ _ _ h => h) (Or.inl ⟨by rfl, ?_⟩) hHeld ?_ ?_
    rotate_left
    · rintro w' ⟨s0, s1, s2, s3, s4, s5, s6, s7⟩
      go_simp
      with_reducible rfl
    rotate_left
    · exact pa
    refine take_ (i := 2) (N := some 11) (v := ?_) (a' := ?_) #[true, true, true, false, false, false, false, false, false, false, false, false, false, false, false, false, false, false, false, false, false, false, false] rfl rfl (take_ofW HT_.out HW_.out (by kernel_rfl)) (fun _ _ _ h => h) (Or.inl ⟨by rfl, ?_⟩) hHeld ?_ ?_
    rotate_left
    · rintro w' ⟨s0, s1, s2, s3, s4, s5, s6, s7⟩
      go_simp
      with_reducible rfl
    rotate_left
    · exact pa
    refine take_ (i := 4) (N := some 13) (v := ?_) (a' := ?_) #[true, true, true, false, true, false, false, false, false, false, false, false, false, false, false, false, false, false, false, false, false, false, false] rfl rfl (take_ofW HT_.out HW_.out (by kernel_rfl)) (fun _ _ _ h => h) (Or.inl ⟨by rfl, ?_⟩) hHeld ?_ ?_
    rotate_left
    · rintro w' ⟨s0, s1, s2, s3, s4, s5, s6, s7⟩
      go_simp
      with_reducible rfl
    rotate_left
    · exact pa
    refine take_ (i := 5) (N := some 14) (v := ?_) (a' := ?_) #[true, true, true, false, true, true, false, false, false, false, false, false, false, false, false, false, false, false, false, false, false, false, false] rfl rfl (take_ofW HT_.out HW_.out (by kernel_rfl)) (fun _ _ _ h => h) (Or.inl ⟨by rfl, ?_⟩) hHeld ?_ ?_
    rotate_left
    · rintro w' ⟨s0, s1, s2, s3, s4, s5, s6, s7⟩
      go_simp
      with_reducible rfl
    rotate_left
    · exact pa
    refine take_ (i := 6) (N := some 15) (v := ?_) (a' := ?_) #[true, true, true, false, true, true, true, false, false, false, false, false, false, false, false, false, false, false, false, false, false, false, false] rfl rfl (take_ofW HT_.out HW_.out (by kernel_rfl)) (fun _ _ _ h => h) (Or.inl ⟨by rfl, ?_⟩) hHeld ?_ ?_
    rotate_left
    · rintro w' ⟨s0, s1, s2, s3, s4, s5, s6, s7⟩
      go_simp
      with_reducible rfl
    rotate_left
    · exact pa
    refine one_ (i := 3) (N := some 12) #[true, true, true, true, true, true, true, false, false, false, false, false, false, false, false, false, false, false, false, false, false, false, false] rfl rfl (one_of HT_.out (by kernel_rfl)) (by decide) (fun K hK => ?_)
    refine goes_ Tryd.func105 (by kernel_rfl) rfl #[.agg #[.int .i64 a0_0, .int .i64 a0_1], .agg #[.int .i64 a1_0, .int .i64 a1_1], .agg #[.int .i64 a2_0, .int .i64 a2_1]] (by rfl) rfl rfl (by (try simp only [List.map_toArray, List.map_cons, List.map_nil]); first | done | rfl | (simp only [List.length_drop, List.length_take]; rfl)) ?_
    with_reducible refine (spec_l02Side.calls a0_0 a0_1 a1_0 a1_1 a2_0 a2_1 t152 _ A5.out).mono ?_
    rintro e w15 ⟨rfl, hb⟩
    refine ⟨_, rfl, ?_⟩
    have n0_ := kb BK148 hb
    have n1_ := kb BK149 hb
    have n2_ := kb BK150 hb
    have n3_ := kb BK151 hb
    have n4_ := sb hb
    clear BK148
    clear BK149
    clear BK150
    clear BK151
    clear HB
    have BK148 := n0_
    have BK149 := n1_
    have BK150 := n2_
    have BK151 := n3_
    have HB := n4_
    clear n0_ n1_ n2_ n3_ n4_
    (try clear hb)
    (try clear hb2)
    (try clear hk)
    (try clear hi)
    refine hK.out _ _ ⟨(blk_cell BK148.out 0).trans rfl, (blk_cell BK148.out 1).trans rfl, (blk_cell BK149.out 0).trans rfl, (blk_cell BK149.out 1).trans rfl, (blk_cell BK150.out 0).trans rfl, (blk_cell BK150.out 1).trans rfl, (blk_cell BK151.out 0).trans rfl, (blk_cell BK151.out 1).trans rfl⟩ (fun hHeld => ?_)
    clear hK K
    refine norm_ (a' := ?_) ?_ ?_
    rotate_left
    · show Act.put _ (some 12) _ = _
      simp only [Act.put, List.setIfInBounds_toArray, List.set_cons_zero, List.set_cons_succ, i64_w, i32_w]
      rfl
    refine one_ (i := 7) (N := some 16) #[true, true, true, true, true, true, true, true, false, false, false, false, false, false, false, false, false, false, false, false, false, false, false] rfl rfl (one_of HT_.out (by kernel_rfl)) (by decide) (fun K hK => ?_)
    refine goes_ Tryd.func105 (by kernel_rfl) rfl #[.agg #[.int .i64 a0_0, .int .i64 a0_1], .agg #[.int .i64 a1_0, .int .i64 a1_1], .agg #[.int .i64 a3_0, .int .i64 a3_1]] (by rfl) rfl rfl (by (try simp only [List.map_toArray, List.map_cons, List.map_nil]); first | done | rfl | (simp only [List.length_drop, List.length_take]; rfl)) ?_
    with_reducible refine (spec_l02Side.calls a0_0 a0_1 a1_0 a1_1 a3_0 a3_1 t153 _ A6.out).mono ?_
    rintro e w16 ⟨rfl, hb⟩
    refine ⟨_, rfl, ?_⟩
    have n0_ := kb BK148 hb
    have n1_ := kb BK149 hb
    have n2_ := kb BK150 hb
    have n3_ := kb BK151 hb
    have n4_ := sb hb
    clear BK148
    clear BK149
    clear BK150
    clear BK151
    clear HB
    have BK148 := n0_
    have BK149 := n1_
    have BK150 := n2_
    have BK151 := n3_
    have HB := n4_
    clear n0_ n1_ n2_ n3_ n4_
    (try clear hb)
    (try clear hb2)
    (try clear hk)
    (try clear hi)
    refine hK.out _ _ ⟨(blk_cell BK148.out 0).trans rfl, (blk_cell BK148.out 1).trans rfl, (blk_cell BK149.out 0).trans rfl, (blk_cell BK149.out 1).trans rfl, (blk_cell BK150.out 0).trans rfl, (blk_cell BK150.out 1).trans rfl, (blk_cell BK151.out 0).trans rfl, (blk_cell BK151.out 1).trans rfl⟩ (fun hHeld => ?_)
    clear hK K
    refine norm_ (a' := ?_) ?_ ?_
    rotate_left
    · show Act.put _ (some 16) _ = _
      simp only [Act.put, List.setIfInBounds_toArray, List.set_cons_zero, List.set_cons_succ, i64_w, i32_w]
      rfl
    refine pure_ (i := 8) (N := some 17) (v := ?_) (a' := ?_) #[true, true, true, true, true, true, true, true, true, false, false, false, false, false, false, false, false, false, false, false, false, false, false] rfl rfl (any_of HT_.out (by kernel_rfl)) (fun _ _ _ h => h) (Or.inl ⟨by rfl, ?_⟩) ?_ ?_
    rotate_left
    · intro w'
      go_simp
      with_reducible rfl
    rotate_left
    · exact pa
    refine pure_ (i := 9) (N := some 18) (v := ?_) (a' := ?_) #[true, true, true, true, true, true, true, true, true, true, false, false, false, false, false, false, false, false, false, false, false, false, false] rfl rfl (any_of HT_.out (by kernel_rfl)) (fun _ _ _ h => h) (Or.inl ⟨by rfl, ?_⟩) ?_ ?_
    rotate_left
    · intro w'
      go_simp
      with_reducible rfl
    rotate_left
    · exact pa
    refine pure_ (i := 10) (N := some 19) (v := ?_) (a' := ?_) #[true, true, true, true, true, true, true, true, true, true, true, false, false, false, false, false, false, false, false, false, false, false, false] rfl rfl (any_of HT_.out (by kernel_rfl)) (fun _ _ _ h => h) (Or.inl ⟨by rfl, ?_⟩) ?_ ?_
    rotate_left
    · intro w'
      go_simp
      with_reducible rfl
    rotate_left
    · exact pa
    refine take_ (i := 11) (N := some 20) (v := ?_) (a' := ?_) #[true, true, true, true, true, true, true, true, true, true, true, true, false, false, false, false, false, false, false, false, false, false, false] rfl rfl (take_ofW HT_.out HW_.out (by kernel_rfl)) (fun _ _ _ h => h) (Or.inl ⟨by rfl, ?_⟩) hHeld ?_ ?_
    rotate_left
    · rintro w' ⟨s0, s1, s2, s3, s4, s5, s6, s7⟩
      go_simp
      with_reducible rfl
    rotate_left
    · exact pa
    refine take_ (i := 12) (N := some 21) (v := ?_) (a' := ?_) #[true, true, true, true, true, true, true, true, true, true, true, true, true, false, false, false, false, false, false, false, false, false, false] rfl rfl (take_ofW HT_.out HW_.out (by kernel_rfl)) (fun _ _ _ h => h) (Or.inl ⟨by rfl, ?_⟩) hHeld ?_ ?_
    rotate_left
    · rintro w' ⟨s0, s1, s2, s3, s4, s5, s6, s7⟩
      go_simp
      with_reducible rfl
    rotate_left
    · exact pa
    refine take_ (i := 13) (N := some 22) (v := ?_) (a' := ?_) #[true, true, true, true, true, true, true, true, true, true, true, true, true, true, false, false, false, false, false, false, false, false, false] rfl rfl (take_ofW HT_.out HW_.out (by kernel_rfl)) (fun _ _ _ h => h) (Or.inl ⟨by rfl, ?_⟩) hHeld ?_ ?_
    rotate_left
    · rintro w' ⟨s0, s1, s2, s3, s4, s5, s6, s7⟩
      go_simp
      with_reducible rfl
    rotate_left
    · exact pa
    refine take_ (i := 15) (N := some 24) (v := ?_) (a' := ?_) #[true, true, true, true, true, true, true, true, true, true, true, true, true, true, false, true, false, false, false, false, false, false, false] rfl rfl (take_ofW HT_.out HW_.out (by kernel_rfl)) (fun _ _ _ h => h) (Or.inl ⟨by rfl, ?_⟩) hHeld ?_ ?_
    rotate_left
    · rintro w' ⟨s0, s1, s2, s3, s4, s5, s6, s7⟩
      go_simp
      with_reducible rfl
    rotate_left
    · exact pa
    refine take_ (i := 16) (N := some 25) (v := ?_) (a' := ?_) #[true, true, true, true, true, true, true, true, true, true, true, true, true, true, false, true, true, false, false, false, false, false, false] rfl rfl (take_ofW HT_.out HW_.out (by kernel_rfl)) (fun _ _ _ h => h) (Or.inl ⟨by rfl, ?_⟩) hHeld ?_ ?_
    rotate_left
    · rintro w' ⟨s0, s1, s2, s3, s4, s5, s6, s7⟩
      go_simp
      with_reducible rfl
    rotate_left
    · exact pa
    refine take_ (i := 17) (N := some 26) (v := ?_) (a' := ?_) #[true, true, true, true, true, true, true, true, true, true, true, true, true, true, false, true, true, true, false, false, false, false, false] rfl rfl (take_ofW HT_.out HW_.out (by kernel_rfl)) (fun _ _ _ h => h) (Or.inl ⟨by rfl, ?_⟩) hHeld ?_ ?_
    rotate_left
    · rintro w' ⟨s0, s1, s2, s3, s4, s5, s6, s7⟩
      go_simp
      with_reducible rfl
    rotate_left
    · exact pa
    refine one_ (i := 14) (N := some 23) #[true, true, true, true, true, true, true, true, true, true, true, true, true, true, true, true, true, true, false, false, false, false, false] rfl rfl (one_of HT_.out (by kernel_rfl)) (by decide) (fun K hK => ?_)
    refine goes_ Tryd.func105 (by kernel_rfl) rfl #[.agg #[.int .i64 a2_0, .int .i64 a2_1], .agg #[.int .i64 a3_0, .int .i64 a3_1], .agg #[.int .i64 a0_0, .int .i64 a0_1]] (by rfl) rfl rfl (by (try simp only [List.map_toArray, List.map_cons, List.map_nil]); first | done | rfl | (simp only [List.length_drop, List.length_take]; rfl)) ?_
    with_reducible refine (spec_l02Side.calls a2_0 a2_1 a3_0 a3_1 a0_0 a0_1 t154 _ A8.out).mono ?_
    rintro e w17 ⟨rfl, hb⟩
    refine ⟨_, rfl, ?_⟩
    have n0_ := kb BK148 hb
    have n1_ := kb BK149 hb
    have n2_ := kb BK150 hb
    have n3_ := kb BK151 hb
    have n4_ := sb hb
    clear BK148
    clear BK149
    clear BK150
    clear BK151
    clear HB
    have BK148 := n0_
    have BK149 := n1_
    have BK150 := n2_
    have BK151 := n3_
    have HB := n4_
    clear n0_ n1_ n2_ n3_ n4_
    (try clear hb)
    (try clear hb2)
    (try clear hk)
    (try clear hi)
    refine hK.out _ _ ⟨(blk_cell BK148.out 0).trans rfl, (blk_cell BK148.out 1).trans rfl, (blk_cell BK149.out 0).trans rfl, (blk_cell BK149.out 1).trans rfl, (blk_cell BK150.out 0).trans rfl, (blk_cell BK150.out 1).trans rfl, (blk_cell BK151.out 0).trans rfl, (blk_cell BK151.out 1).trans rfl⟩ (fun hHeld => ?_)
    clear hK K
    refine norm_ (a' := ?_) ?_ ?_
    rotate_left
    · show Act.put _ (some 23) _ = _
      simp only [Act.put, List.setIfInBounds_toArray, List.set_cons_zero, List.set_cons_succ, i64_w, i32_w]
      rfl
    refine one_ (i := 18) (N := some 27) #[true, true, true, true, true, true, true, true, true, true, true, true, true, true, true, true, true, true, true, false, false, false, false] rfl rfl (one_of HT_.out (by kernel_rfl)) (by decide) (fun K hK => ?_)
    refine goes_ Tryd.func105 (by kernel_rfl) rfl #[.agg #[.int .i64 a2_0, .int .i64 a2_1], .agg #[.int .i64 a3_0, .int .i64 a3_1], .agg #[.int .i64 a1_0, .int .i64 a1_1]] (by rfl) rfl rfl (by (try simp only [List.map_toArray, List.map_cons, List.map_nil]); first | done | rfl | (simp only [List.length_drop, List.length_take]; rfl)) ?_
    with_reducible refine (spec_l02Side.calls a2_0 a2_1 a3_0 a3_1 a1_0 a1_1 t155 _ A9.out).mono ?_
    rintro e w18 ⟨rfl, hb⟩
    refine ⟨_, rfl, ?_⟩
    have n0_ := kb BK148 hb
    have n1_ := kb BK149 hb
    have n2_ := kb BK150 hb
    have n3_ := kb BK151 hb
    have n4_ := sb hb
    clear BK148
    clear BK149
    clear BK150
    clear BK151
    clear HB
    have BK148 := n0_
    have BK149 := n1_
    have BK150 := n2_
    have BK151 := n3_
    have HB := n4_
    clear n0_ n1_ n2_ n3_ n4_
    (try clear hb)
    (try clear hb2)
    (try clear hk)
    (try clear hi)
    refine hK.out _ _ ⟨(blk_cell BK148.out 0).trans rfl, (blk_cell BK148.out 1).trans rfl, (blk_cell BK149.out 0).trans rfl, (blk_cell BK149.out 1).trans rfl, (blk_cell BK150.out 0).trans rfl, (blk_cell BK150.out 1).trans rfl, (blk_cell BK151.out 0).trans rfl, (blk_cell BK151.out 1).trans rfl⟩ (fun hHeld => ?_)
    clear hK K
    refine norm_ (a' := ?_) ?_ ?_
    rotate_left
    · show Act.put _ (some 27) _ = _
      simp only [Act.put, List.setIfInBounds_toArray, List.set_cons_zero, List.set_cons_succ, i64_w, i32_w]
      rfl
    refine pure_ (i := 19) (N := some 28) (v := ?_) (a' := ?_) #[true, true, true, true, true, true, true, true, true, true, true, true, true, true, true, true, true, true, true, true, false, false, false] rfl rfl (any_of HT_.out (by kernel_rfl)) (fun _ _ _ h => h) (Or.inl ⟨by rfl, ?_⟩) ?_ ?_
    rotate_left
    · intro w'
      go_simp
      with_reducible rfl
    rotate_left
    · exact pa
    refine pure_ (i := 20) (N := some 29) (v := ?_) (a' := ?_) #[true, true, true, true, true, true, true, true, true, true, true, true, true, true, true, true, true, true, true, true, true, false, false] rfl rfl (any_of HT_.out (by kernel_rfl)) (fun _ _ _ h => h) (Or.inl ⟨by rfl, ?_⟩) ?_ ?_
    rotate_left
    · intro w'
      go_simp
      with_reducible rfl
    rotate_left
    · exact pa
    refine pure_ (i := 21) (N := some 30) (v := ?_) (a' := ?_) #[true, true, true, true, true, true, true, true, true, true, true, true, true, true, true, true, true, true, true, true, true, true, false] rfl rfl (any_of HT_.out (by kernel_rfl)) (fun _ _ _ h => h) (Or.inl ⟨by rfl, ?_⟩) ?_ ?_
    rotate_left
    · intro w'
      go_simp
      with_reducible rfl
    rotate_left
    · exact pa
    refine pure_ (i := 22) (N := some 8) (v := ?_) (a' := ?_) #[true, true, true, true, true, true, true, true, true, true, true, true, true, true, true, true, true, true, true, true, true, true, true] rfl rfl (any_of HT_.out (by kernel_rfl)) (fun _ _ _ h => h) (Or.inl ⟨by rfl, ?_⟩) ?_ ?_
    rotate_left
    · intro w'
      go_simp
      with_reducible rfl
    rotate_left
    · exact pa
    refine done_ (done_of HT_.out (by kernel_rfl)) ?_
    try go_wp2
    go_ret
    exact ⟨by first | rfl | (simp [errW_none, errW_some] <;> rfl) | (simp [*, errW_none, errW_some] <;> rfl), by repeat (first | (with_reducible first | exact HB.out | apply below_alloc | apply pw_below_drewN | apply below_drew1 | refine below_set ?_ GE148.out | refine below_set ?_ GE149.out | refine below_set ?_ GE150.out | refine below_set ?_ GE151.out) | exact HB.out)⟩
  · rw [if_neg c7] at H
    have c7b0 : decide ((wrap64 (t152 * t153)) < 0) = false := decide_eq_false c7
    clear c7
    obtain rfl := Option.some.inj H
    go_enter Tryd.func108, Tryd.ntmps108
    try go_wp2_with (first | ((with_reducible refine gate_dst (N := 4) rfl ?_); refine box_event ?hg (N := 4) ?hd (cs := #[.int .i64 a0_0, .int .i64 a0_1]) (t := 40) ?hr ?_; (case hd => rfl); (case hg => rfl); (case hr => first | (go_simp; done) | (go_simp; rfl)); intro gb148 hg w19 hbox hb; have n0_ := sb hb; have n1_ := Aside0.mk (hbox); have n2_ := zb hg; have n3_ := zb hg; clear HB; have HB := n0_; have BK148 := n1_; have GW148 := n2_; have GE148 := n3_; clear n0_ n1_ n2_ n3_; clear hb hbox hg) | ((with_reducible refine gate_dst (N := 5) rfl ?_); refine box_event ?hg (N := 5) ?hd (cs := #[.int .i64 a1_0, .int .i64 a1_1]) (t := 40) ?hr ?_; (case hd => rfl); (case hg => rfl); (case hr => first | (go_simp; done) | (go_simp; rfl)); intro gb149 hg w20 hbox hb; have n0_ := kb BK148 hb; have n1_ := sb hb; have n2_ := Aside0.mk (hbox); have n3_ := zb hg; have n4_ := zb hg; have n5_ := nl BK148 hg; have n6_ := ng BK148 hg; clear BK148; clear HB; have BK148 := n0_; have HB := n1_; have BK149 := n2_; have GW149 := n3_; have GE149 := n4_; have NB148_149 := n5_; have NB149_148 := n6_; clear n0_ n1_ n2_ n3_ n4_ n5_ n6_; clear hb hbox hg) | ((with_reducible refine gate_dst (N := 6) rfl ?_); refine box_event ?hg (N := 6) ?hd (cs := #[.int .i64 a2_0, .int .i64 a2_1]) (t := 40) ?hr ?_; (case hd => rfl); (case hg => rfl); (case hr => first | (go_simp; done) | (go_simp; rfl)); intro gb150 hg w21 hbox hb; have n0_ := kb BK148 hb; have n1_ := kb BK149 hb; have n2_ := sb hb; have n3_ := Aside0.mk (hbox); have n4_ := zb hg; have n5_ := zb hg; have n6_ := nl BK148 hg; have n7_ := ng BK148 hg; have n8_ := nl BK149 hg; have n9_ := ng BK149 hg; clear BK148; clear BK149; clear HB; have BK148 := n0_; have BK149 := n1_; have HB := n2_; have BK150 := n3_; have GW150 := n4_; have GE150 := n5_; have NB148_150 := n6_; have NB150_148 := n7_; have NB149_150 := n8_; have NB150_149 := n9_; clear n0_ n1_ n2_ n3_ n4_ n5_ n6_ n7_ n8_ n9_; clear hb hbox hg) | ((with_reducible refine gate_dst (N := 7) rfl ?_); refine box_event ?hg (N := 7) ?hd (cs := #[.int .i64 a3_0, .int .i64 a3_1]) (t := 40) ?hr ?_; (case hd => rfl); (case hg => rfl); (case hr => first | (go_simp; done) | (go_simp; rfl)); intro gb151 hg w22 hbox hb; have n0_ := kb BK148 hb; have n1_ := kb BK149 hb; have n2_ := kb BK150 hb; have n3_ := sb hb; have n4_ := Aside0.mk (hbox); have n5_ := zb hg; have n6_ := zb hg; have n7_ := nl BK148 hg; have n8_ := ng BK148 hg; have n9_ := nl BK149 hg; have n10_ := ng BK149 hg; have n11_ := nl BK150 hg; have n12_ := ng BK150 hg; clear BK148; clear BK149; clear BK150; clear HB; have BK148 := n0_; have BK149 := n1_; have BK150 := n2_; have HB := n3_; have BK151 := n4_; have GW151 := n5_; have GE151 := n6_; have NB148_151 := n7_; have NB151_148 := n8_; have NB149_151 := n9_; have NB151_149 := n10_; have NB150_151 := n11_; have NB151_150 := n12_; clear n0_ n1_ n2_ n3_ n4_ n5_ n6_ n7_ n8_ n9_ n10_ n11_ n12_; clear hb hbox hg))
    have n0_ := Aside0.mk (blk_drew BK148.out)
    have n1_ := Aside0.mk (blk_drew BK149.out)
    have n2_ := Aside0.mk (blk_drew BK150.out)
    have n3_ := Aside0.mk (blk_drew BK151.out)
    have n4_ := Aside0.mk (below_drew1 HB.out)
    clear BK148
    clear BK149
    clear BK150
    clear BK151
    clear HB
    have BK148 := n0_
    have BK149 := n1_
    have BK150 := n2_
    have BK151 := n3_
    have HB := n4_
    clear n0_ n1_ n2_ n3_ n4_
    refine start_ (n := 23) (S := fun w' => w'.cell? ⟨gb148, 0, none⟩ = some (.int .i64 a0_0) ∧ w'.cell? ⟨gb148, 1, none⟩ = some (.int .i64 a0_1) ∧ w'.cell? ⟨gb149, 0, none⟩ = some (.int .i64 a1_0) ∧ w'.cell? ⟨gb149, 1, none⟩ = some (.int .i64 a1_1) ∧ w'.cell? ⟨gb150, 0, none⟩ = some (.int .i64 a2_0) ∧ w'.cell? ⟨gb150, 1, none⟩ = some (.int .i64 a2_1) ∧ w'.cell? ⟨gb151, 0, none⟩ = some (.int .i64 a3_0) ∧ w'.cell? ⟨gb151, 1, none⟩ = some (.int .i64 a3_1)) (ds := []) #[false, false, false, false, false, false, false, false, false, false, false, false, false, false, false, false, false, false, false, false, false, false, false] (by kernel_rfl) rfl rfl ⟨(blk_cell BK148.out 0).trans rfl, (blk_cell BK148.out 1).trans rfl, (blk_cell BK149.out 0).trans rfl, (blk_cell BK149.out 1).trans rfl, (blk_cell BK150.out 0).trans rfl, (blk_cell BK150.out 1).trans rfl, (blk_cell BK151.out 0).trans rfl, (blk_cell BK151.out 1).trans rfl⟩ (fun hHeld => ?_); refine with_tabW spec_l02Crosses.tab1 spec_l02Crosses.bits1 (fun HT_ HW_ => ?_)
    generalize w22.drew = w23 at BK148 BK149 BK150 BK151 HB hHeld ⊢
    refine take_ (i := 0) (N := some 9) (v := ?_) (a' := ?_) #[true, false, false, false, false, false, false, false, false, false, false, false, false, false, false, false, false, false, false, false, false, false, false] rfl rfl (take_ofW HT_.out HW_.out (by kernel_rfl)) (fun _ _ _ h => h) (Or.inl ⟨by rfl, ?_⟩) hHeld ?_ ?_
    rotate_left
    · rintro w' ⟨s0, s1, s2, s3, s4, s5, s6, s7⟩
      go_simp
      with_reducible rfl
    rotate_left
    · exact pa
    refine take_ (i := 1) (N := some 10) (v := ?_) (a' := ?_) #[true, true, false, false, false, false, false, false, false, false, false, false, false, false, false, false, false, false, false, false, false, false, false] rfl rfl (take_ofW HT_.out HW_.out (by kernel_rfl)) (fun _ _ _ h => h) (Or.inl ⟨by rfl, ?_⟩) hHeld ?_ ?_
    rotate_left
    · rintro w' ⟨s0, s1, s2, s3, s4, s5, s6, s7⟩
      go_simp
      with_reducible rfl
    rotate_left
    · exact pa
    refine take_ (i := 2) (N := some 11) (v := ?_) (a' := ?_) #[true, true, true, false, false, false, false, false, false, false, false, false, false, false, false, false, false, false, false, false, false, false, false] rfl rfl (take_ofW HT_.out HW_.out (by kernel_rfl)) (fun _ _ _ h => h) (Or.inl ⟨by rfl, ?_⟩) hHeld ?_ ?_
    rotate_left
    · rintro w' ⟨s0, s1, s2, s3, s4, s5, s6, s7⟩
      go_simp
      with_reducible rfl
    rotate_left
    · exact pa
    refine take_ (i := 4) (N := some 13) (v := ?_) (a' := ?_) #[true, true, true, false, true, false, false, false, false, false, false, false, false, false, false, false, false, false, false, false, false, false, false] rfl rfl (take_ofW HT_.out HW_.out (by kernel_rfl)) (fun _ _ _ h => h) (Or.inl ⟨by rfl, ?_⟩) hHeld ?_ ?_
    rotate_left
    · rintro w' ⟨s0, s1, s2, s3, s4, s5, s6, s7⟩
      go_simp
      with_reducible rfl
    rotate_left
    · exact pa
    refine take_ (i := 5) (N := some 14) (v := ?_) (a' := ?_) #[true, true, true, false, true, true, false, false, false, false, false, false, false, false, false, false, false, false, false, false, false, false, false] rfl rfl (take_ofW HT_.out HW_.out (by kernel_rfl)) (fun _ _ _ h => h) (Or.inl ⟨by rfl, ?_⟩) hHeld ?_ ?_
    rotate_left
    · rintro w' ⟨s0, s1, s2, s3, s4, s5, s6, s7⟩
      go_simp
      with_reducible rfl
    rotate_left
    · exact pa
    refine take_ (i := 6) (N := some 15) (v := ?_) (a' := ?_) #[true, true, true, false, true, true, true, false, false, false, false, false, false, false, false, false, false, false, false, false, false, false, false] rfl rfl (take_ofW HT_.out HW_.out (by kernel_rfl)) (fun _ _ _ h => h) (Or.inl ⟨by rfl, ?_⟩) hHeld ?_ ?_
    rotate_left
    · rintro w' ⟨s0, s1, s2, s3, s4, s5, s6, s7⟩
      go_simp
      with_reducible rfl
    rotate_left
    · exact pa
    refine one_ (i := 3) (N := some 12) #[true, true, true, true, true, true, true, false, false, false, false, false, false, false, false, false, false, false, false, false, false, false, false] rfl rfl (one_of HT_.out (by kernel_rfl)) (by decide) (fun K hK => ?_)
    refine goes_ Tryd.func105 (by kernel_rfl) rfl #[.agg #[.int .i64 a0_0, .int .i64 a0_1], .agg #[.int .i64 a1_0, .int .i64 a1_1], .agg #[.int .i64 a2_0, .int .i64 a2_1]] (by rfl) rfl rfl (by (try simp only [List.map_toArray, List.map_cons, List.map_nil]); first | done | rfl | (simp only [List.length_drop, List.length_take]; rfl)) ?_
    with_reducible refine (spec_l02Side.calls a0_0 a0_1 a1_0 a1_1 a2_0 a2_1 t152 _ A5.out).mono ?_
    rintro e w24 ⟨rfl, hb⟩
    refine ⟨_, rfl, ?_⟩
    have n0_ := kb BK148 hb
    have n1_ := kb BK149 hb
    have n2_ := kb BK150 hb
    have n3_ := kb BK151 hb
    have n4_ := sb hb
    clear BK148
    clear BK149
    clear BK150
    clear BK151
    clear HB
    have BK148 := n0_
    have BK149 := n1_
    have BK150 := n2_
    have BK151 := n3_
    have HB := n4_
    clear n0_ n1_ n2_ n3_ n4_
    (try clear hb)
    (try clear hb2)
    (try clear hk)
    (try clear hi)
    refine hK.out _ _ ⟨(blk_cell BK148.out 0).trans rfl, (blk_cell BK148.out 1).trans rfl, (blk_cell BK149.out 0).trans rfl, (blk_cell BK149.out 1).trans rfl, (blk_cell BK150.out 0).trans rfl, (blk_cell BK150.out 1).trans rfl, (blk_cell BK151.out 0).trans rfl, (blk_cell BK151.out 1).trans rfl⟩ (fun hHeld => ?_)
    clear hK K
    refine norm_ (a' := ?_) ?_ ?_
    rotate_left
    · show Act.put _ (some 12) _ = _
      simp only [Act.put, List.setIfInBounds_toArray, List.set_cons_zero, List.set_cons_succ, i64_w, i32_w]
      rfl
    refine one_ (i := 7) (N := some 16) #[true, true, true, true, true, true, true, true, false, false, false, false, false, false, false, false, false, false, false, false, false, false, false] rfl rfl (one_of HT_.out (by kernel_rfl)) (by decide) (fun K hK => ?_)
    refine goes_ Tryd.func105 (by kernel_rfl) rfl #[.agg #[.int .i64 a0_0, .int .i64 a0_1], .agg #[.int .i64 a1_0, .int .i64 a1_1], .agg #[.int .i64 a3_0, .int .i64 a3_1]] (by rfl) rfl rfl (by (try simp only [List.map_toArray, List.map_cons, List.map_nil]); first | done | rfl | (simp only [List.length_drop, List.length_take]; rfl)) ?_
    with_reducible refine (spec_l02Side.calls a0_0 a0_1 a1_0 a1_1 a3_0 a3_1 t153 _ A6.out).mono ?_
    rintro e w25 ⟨rfl, hb⟩
    refine ⟨_, rfl, ?_⟩
    have n0_ := kb BK148 hb
    have n1_ := kb BK149 hb
    have n2_ := kb BK150 hb
    have n3_ := kb BK151 hb
    have n4_ := sb hb
    clear BK148
    clear BK149
    clear BK150
    clear BK151
    clear HB
    have BK148 := n0_
    have BK149 := n1_
    have BK150 := n2_
    have BK151 := n3_
    have HB := n4_
    clear n0_ n1_ n2_ n3_ n4_
    (try clear hb)
    (try clear hb2)
    (try clear hk)
    (try clear hi)
    refine hK.out _ _ ⟨(blk_cell BK148.out 0).trans rfl, (blk_cell BK148.out 1).trans rfl, (blk_cell BK149.out 0).trans rfl, (blk_cell BK149.out 1).trans rfl, (blk_cell BK150.out 0).trans rfl, (blk_cell BK150.out 1).trans rfl, (blk_cell BK151.out 0).trans rfl, (blk_cell BK151.out 1).trans rfl⟩ (fun hHeld => ?_)
    clear hK K
    refine norm_ (a' := ?_) ?_ ?_
    rotate_left
    · show Act.put _ (some 16) _ = _
      simp only [Act.put, List.setIfInBounds_toArray, List.set_cons_zero, List.set_cons_succ, i64_w, i32_w]
      rfl
    refine pure_ (i := 8) (N := some 17) (v := ?_) (a' := ?_) #[true, true, true, true, true, true, true, true, true, false, false, false, false, false, false, false, false, false, false, false, false, false, false] rfl rfl (any_of HT_.out (by kernel_rfl)) (fun _ _ _ h => h) (Or.inl ⟨by rfl, ?_⟩) ?_ ?_
    rotate_left
    · intro w'
      go_simp
      with_reducible rfl
    rotate_left
    · exact pa
    refine pure_ (i := 9) (N := some 18) (v := ?_) (a' := ?_) #[true, true, true, true, true, true, true, true, true, true, false, false, false, false, false, false, false, false, false, false, false, false, false] rfl rfl (any_of HT_.out (by kernel_rfl)) (fun _ _ _ h => h) (Or.inl ⟨by rfl, ?_⟩) ?_ ?_
    rotate_left
    · intro w'
      go_simp
      with_reducible rfl
    rotate_left
    · exact pa
    refine pure_ (i := 10) (N := some 19) (v := ?_) (a' := ?_) #[true, true, true, true, true, true, true, true, true, true, true, false, false, false, false, false, false, false, false, false, false, false, false] rfl rfl (any_of HT_.out (by kernel_rfl)) (fun _ _ _ h => h) (Or.inl ⟨by rfl, ?_⟩) ?_ ?_
    rotate_left
    · intro w'
      go_simp
      with_reducible rfl
    rotate_left
    · exact pa
    refine pure_ (i := 11) (N := some 20) (v := undef) (a' := ?_) #[true, true, true, true, true, true, true, true, true, true, true, true, false, false, false, false, false, false, false, false, false, false, false] rfl rfl (any_of HT_.out (by kernel_rfl)) (fun _ _ _ h => h) (Or.inr ⟨by rfl, rfl⟩) ?_ ?_
    rotate_left
    · exact pa
    refine pure_ (i := 12) (N := some 21) (v := undef) (a' := ?_) #[true, true, true, true, true, true, true, true, true, true, true, true, true, false, false, false, false, false, false, false, false, false, false] rfl rfl (any_of HT_.out (by kernel_rfl)) (fun _ _ _ h => h) (Or.inr ⟨by rfl, rfl⟩) ?_ ?_
    rotate_left
    · exact pa
    refine pure_ (i := 13) (N := some 22) (v := undef) (a' := ?_) #[true, true, true, true, true, true, true, true, true, true, true, true, true, true, false, false, false, false, false, false, false, false, false] rfl rfl (any_of HT_.out (by kernel_rfl)) (fun _ _ _ h => h) (Or.inr ⟨by rfl, rfl⟩) ?_ ?_
    rotate_left
    · exact pa
    refine pure_ (i := 14) (N := some 23) (v := undef) (a' := ?_) #[true, true, true, true, true, true, true, true, true, true, true, true, true, true, true, false, false, false, false, false, false, false, false] rfl rfl (any_of HT_.out (by kernel_rfl)) (fun _ _ _ h => h) (Or.inr ⟨by rfl, rfl⟩) ?_ ?_
    rotate_left
    · exact pa
    refine pure_ (i := 15) (N := some 24) (v := undef) (a' := ?_) #[true, true, true, true, true, true, true, true, true, true, true, true, true, true, true, true, false, false, false, false, false, false, false] rfl rfl (any_of HT_.out (by kernel_rfl)) (fun _ _ _ h => h) (Or.inr ⟨by rfl, rfl⟩) ?_ ?_
    rotate_left
    · exact pa
    refine pure_ (i := 16) (N := some 25) (v := undef) (a' := ?_) #[true, true, true, true, true, true, true, true, true, true, true, true, true, true, true, true, true, false, false, false, false, false, false] rfl rfl (any_of HT_.out (by kernel_rfl)) (fun _ _ _ h => h) (Or.inr ⟨by rfl, rfl⟩) ?_ ?_
    rotate_left
    · exact pa
    refine pure_ (i := 17) (N := some 26) (v := undef) (a' := ?_) #[true, true, true, true, true, true, true, true, true, true, true, true, true, true, true, true, true, true, false, false, false, false, false] rfl rfl (any_of HT_.out (by kernel_rfl)) (fun _ _ _ h => h) (Or.inr ⟨by rfl, rfl⟩) ?_ ?_
    rotate_left
    · exact pa
    refine pure_ (i := 18) (N := some 27) (v := undef) (a' := ?_) #[true, true, true, true, true, true, true, true, true, true, true, true, true, true, true, true, true, true, true, false, false, false, false] rfl rfl (any_of HT_.out (by kernel_rfl)) (fun _ _ _ h => h) (Or.inr ⟨by rfl, rfl⟩) ?_ ?_
    rotate_left
    · exact pa
    refine pure_ (i := 19) (N := some 28) (v := undef) (a' := ?_) #[true, true, true, true, true, true, true, true, true, true, true, true, true, true, true, true, true, true, true, true, false, false, false] rfl rfl (any_of HT_.out (by kernel_rfl)) (fun _ _ _ h => h) (Or.inr ⟨by rfl, rfl⟩) ?_ ?_
    rotate_left
    · exact pa
    refine pure_ (i := 20) (N := some 29) (v := undef) (a' := ?_) #[true, true, true, true, true, true, true, true, true, true, true, true, true, true, true, true, true, true, true, true, true, false, false] rfl rfl (any_of HT_.out (by kernel_rfl)) (fun _ _ _ h => h) (Or.inr ⟨by rfl, rfl⟩) ?_ ?_
    rotate_left
    · exact pa
    refine pure_ (i := 21) (N := some 30) (v := ?_) (a' := ?_) #[true, true, true, true, true, true, true, true, true, true, true, true, true, true, true, true, true, true, true, true, true, true, false] rfl rfl (any_of HT_.out (by kernel_rfl)) (fun _ _ _ h => h) (Or.inl ⟨by rfl, ?_⟩) ?_ ?_
    rotate_left
    · intro w'
      go_simp
      with_reducible rfl
    rotate_left
    · exact pa
    refine pure_ (i := 22) (N := some 8) (v := ?_) (a' := ?_) #[true, true, true, true, true, true, true, true, true, true, true, true, true, true, true, true, true, true, true, true, true, true, true] rfl rfl (any_of HT_.out (by kernel_rfl)) (fun _ _ _ h => h) (Or.inl ⟨by rfl, ?_⟩) ?_ ?_
    rotate_left
    · intro w'
      go_simp
      with_reducible rfl
    rotate_left
    · exact pa
    refine done_ (done_of HT_.out (by kernel_rfl)) ?_
    try go_wp2
    go_ret
    exact ⟨by first | rfl | (simp [errW_none, errW_some] <;> rfl) | (simp [*, errW_none, errW_some] <;> rfl), by repeat (first | (with_reducible first | exact HB.out | apply below_alloc | apply pw_below_drewN | apply below_drew1 | refine below_set ?_ GE148.out | refine below_set ?_ GE149.out | refine below_set ?_ GE150.out | refine below_set ?_ GE151.out) | exact HB.out)⟩
def spec_l03Meet.f (a0_0 : Int) (a0_1 : Int) (a1_0 : Int) (a1_1 : Int) (a2_0 : Int) (a2_1 : Int) (a3_0 : Int) (a3_1 : Int) : Option (Bool) := (spec_l02Crosses.f a0_0 a0_1 a1_0 a1_1 a2_0 a2_1 a3_0 a3_1).bind fun t160 => (if t160 = true then (some true) else ((spec_l02On.f a0_0 a0_1 a1_0 a1_1 a2_0 a2_1).bind fun t161 => (if t161 = true then (some true) else ((spec_l02On.f a0_0 a0_1 a1_0 a1_1 a3_0 a3_1).bind fun t162 => (if t162 = true then (some true) else ((spec_l02On.f a2_0 a2_1 a3_0 a3_1 a0_0 a0_1).bind fun t163 => (if t163 = true then (some true) else ((spec_l02On.f a2_0 a2_1 a3_0 a3_1 a1_0 a1_1).bind fun t164 => (some t164)))))))))
set_option maxHeartbeats 8000000 in
set_option maxRecDepth 100000 in
theorem spec_l03Meet.calls (a0_0 : Int) (a0_1 : Int) (a1_0 : Int) (a1_1 : Int) (a2_0 : Int) (a2_1 : Int) (a3_0 : Int) (a3_1 : Int) (r : Bool) (w : World) (h : spec_l03Meet.f a0_0 a0_1 a1_0 a1_1 a2_0 a2_1 a3_0 a3_1 = some r) :
    Calls Tryd.prog 83 #[.agg #[.int .i64 a0_0, .int .i64 a0_1], .agg #[.int .i64 a1_0, .int .i64 a1_1], .agg #[.int .i64 a2_0, .int .i64 a2_1], .agg #[.int .i64 a3_0, .int .i64 a3_1]] w fun e w' => e = .returned (.bool r) ∧ Below w.heap.size w w' := by
  have hu40 := Tryd.underlying40
  have HB := Aside0.mk (Below.refl w.heap.size w)
  have H : ((spec_l02Crosses.f a0_0 a0_1 a1_0 a1_1 a2_0 a2_1 a3_0 a3_1).bind fun t160 => (if t160 = true then (some true) else ((spec_l02On.f a0_0 a0_1 a1_0 a1_1 a2_0 a2_1).bind fun t161 => (if t161 = true then (some true) else ((spec_l02On.f a0_0 a0_1 a1_0 a1_1 a3_0 a3_1).bind fun t162 => (if t162 = true then (some true) else ((spec_l02On.f a2_0 a2_1 a3_0 a3_1 a0_0 a0_1).bind fun t163 => (if t163 = true then (some true) else ((spec_l02On.f a2_0 a2_1 a3_0 a3_1 a1_0 a1_1).bind fun t164 => (some t164)))))))))) = some r := h
  clear h
  replace H := Option.bind_eq_some_iff.mp H
  obtain ⟨t160, A50, H⟩ := H
  replace H : (if t160 = true then (some true) else ((spec_l02On.f a0_0 a0_1 a1_0 a1_1 a2_0 a2_1).bind fun t161 => (if t161 = true then (some true) else ((spec_l02On.f a0_0 a0_1 a1_0 a1_1 a3_0 a3_1).bind fun t162 => (if t162 = true then (some true) else ((spec_l02On.f a2_0 a2_1 a3_0 a3_1 a0_0 a0_1).bind fun t163 => (if t163 = true then (some true) else ((spec_l02On.f a2_0 a2_1 a3_0 a3_1 a1_0 a1_1).bind fun t164 => (some t164))))))))) = some r := H
  have A5 := Aside0.mk A50
  clear A50
  by_cases c6 : t160 = true
  · subst c6
    have H1 : (some true) = some r := by rw [if_pos rfl] at H; exact H
    clear H
    have H := H1
    clear H1
    obtain rfl := Option.some.inj H
    go_enter Tryd.func83, Tryd.ntmps83
    go_wp2_with (first | ((with_reducible refine gate_dst (N := 4) rfl ?_); refine box_event ?hg (N := 4) ?hd (cs := #[.int .i64 a0_0, .int .i64 a0_1]) (t := 40) ?hr ?_; (case hd => rfl); (case hg => rfl); (case hr => first | (go_simp; done) | (go_simp; rfl)); intro gb156 hg w7 hbox hb; have n0_ := sb hb; have n1_ := Aside0.mk (hbox); have n2_ := zb hg; have n3_ := zb hg; clear HB; have HB := n0_; have BK156 := n1_; have GW156 := n2_; have GE156 := n3_; clear n0_ n1_ n2_ n3_; clear hb hbox hg) | ((with_reducible refine gate_dst (N := 5) rfl ?_); refine box_event ?hg (N := 5) ?hd (cs := #[.int .i64 a1_0, .int .i64 a1_1]) (t := 40) ?hr ?_; (case hd => rfl); (case hg => rfl); (case hr => first | (go_simp; done) | (go_simp; rfl)); intro gb157 hg w8 hbox hb; have n0_ := kb BK156 hb; have n1_ := sb hb; have n2_ := Aside0.mk (hbox); have n3_ := zb hg; have n4_ := zb hg; have n5_ := nl BK156 hg; have n6_ := ng BK156 hg; clear BK156; clear HB; have BK156 := n0_; have HB := n1_; have BK157 := n2_; have GW157 := n3_; have GE157 := n4_; have NB156_157 := n5_; have NB157_156 := n6_; clear n0_ n1_ n2_ n3_ n4_ n5_ n6_; clear hb hbox hg) | ((with_reducible refine gate_dst (N := 6) rfl ?_); refine box_event ?hg (N := 6) ?hd (cs := #[.int .i64 a2_0, .int .i64 a2_1]) (t := 40) ?hr ?_; (case hd => rfl); (case hg => rfl); (case hr => first | (go_simp; done) | (go_simp; rfl)); intro gb158 hg w9 hbox hb; have n0_ := kb BK156 hb; have n1_ := kb BK157 hb; have n2_ := sb hb; have n3_ := Aside0.mk (hbox); have n4_ := zb hg; have n5_ := zb hg; have n6_ := nl BK156 hg; have n7_ := ng BK156 hg; have n8_ := nl BK157 hg; have n9_ := ng BK157 hg; clear BK156; clear BK157; clear HB; have BK156 := n0_; have BK157 := n1_; have HB := n2_; have BK158 := n3_; have GW158 := n4_; have GE158 := n5_; have NB156_158 := n6_; have NB158_156 := n7_; have NB157_158 := n8_; have NB158_157 := n9_; clear n0_ n1_ n2_ n3_ n4_ n5_ n6_ n7_ n8_ n9_; clear hb hbox hg) | ((with_reducible refine gate_dst (N := 7) rfl ?_); refine box_event ?hg (N := 7) ?hd (cs := #[.int .i64 a3_0, .int .i64 a3_1]) (t := 40) ?hr ?_; (case hd => rfl); (case hg => rfl); (case hr => first | (go_simp; done) | (go_simp; rfl)); intro gb159 hg w10 hbox hb; have n0_ := kb BK156 hb; have n1_ := kb BK157 hb; have n2_ := kb BK158 hb; have n3_ := sb hb; have n4_ := Aside0.mk (hbox); have n5_ := zb hg; have n6_ := zb hg; have n7_ := nl BK156 hg; have n8_ := ng BK156 hg; have n9_ := nl BK157 hg; have n10_ := ng BK157 hg; have n11_ := nl BK158 hg; have n12_ := ng BK158 hg; clear BK156; clear BK157; clear BK158; clear HB; have BK156 := n0_; have BK157 := n1_; have BK158 := n2_; have HB := n3_; have BK159 := n4_; have GW159 := n5_; have GE159 := n6_; have NB156_159 := n7_; have NB159_156 := n8_; have NB157_159 := n9_; have NB159_157 := n10_; have NB158_159 := n11_; have NB159_158 := n12_; clear n0_ n1_ n2_ n3_ n4_ n5_ n6_ n7_ n8_ n9_ n10_ n11_ n12_; clear hb hbox hg; have hnb11 := NB156_157.out; have hnc11 := NB157_156.out; have hnb12 := NB156_158.out; have hnc12 := NB158_156.out; have hnb13 := NB156_159.out; have hnc13 := NB159_156.out; have hcz14_0 := ck BK156 0; have hcz14_1 := ck BK156 1; have hfz14_0 := blk_frozen BK156.out 0; have hfz14_1 := blk_frozen BK156.out 1; have hnb15 := NB157_158.out; have hnc15 := NB158_157.out; have hnb16 := NB157_159.out; have hnc16 := NB159_157.out; have hcz17_0 := ck BK157 0; have hcz17_1 := ck BK157 1; have hfz17_0 := blk_frozen BK157.out 0; have hfz17_1 := blk_frozen BK157.out 1; have hnb18 := NB158_159.out; have hnc18 := NB159_158.out; have hcz19_0 := ck BK158 0; have hcz19_1 := ck BK158 1; have hfz19_0 := blk_frozen BK158.out 0; have hfz19_1 := blk_frozen BK158.out 1; have hcz20_0 := ck BK159 0; have hcz20_1 := ck BK159 1; have hfz20_0 := blk_frozen BK159.out 0; have hfz20_1 := blk_frozen BK159.out 1) | ((with_reducible refine gate_callee (f := 108) rfl ?_); refine goesL_ (some 13) rfl rfl Tryd.func108 (by kernel_rfl) rfl #[.agg #[.int .i64 a0_0, .int .i64 a0_1], .agg #[.int .i64 a1_0, .int .i64 a1_1], .agg #[.int .i64 a2_0, .int .i64 a2_1], .agg #[.int .i64 a3_0, .int .i64 a3_1]] rfl (by (try simp only [List.map_toArray, List.map_cons, List.map_nil]); first | done | rfl | (simp only [List.length_drop, List.length_take]; rfl)) ?_; (with_reducible refine (spec_l02Crosses.calls a0_0 a0_1 a1_0 a1_1 a2_0 a2_1 a3_0 a3_1 true _ A5.out).mono ?_); rintro e w21 ⟨rfl, hb⟩; refine ⟨_, rfl, ?_⟩; have n0_ := kb BK156 hb; have n1_ := kb BK157 hb; have n2_ := kb BK158 hb; have n3_ := kb BK159 hb; have n4_ := sb hb; clear BK156; clear BK157; clear BK158; clear BK159; clear HB; have BK156 := n0_; have BK157 := n1_; have BK158 := n2_; have BK159 := n3_; have HB := n4_; clear n0_ n1_ n2_ n3_ n4_; (try clear hb); (try clear hb2); (try clear hk); (try clear hi)))
    go_ret
    exact ⟨by first | rfl | (simp [errW_none, errW_some] <;> rfl) | (simp [*, errW_none, errW_some] <;> rfl), by repeat (first | (with_reducible first | exact HB.out | apply below_alloc | apply pw_below_drewN | apply below_drew1 | refine below_set ?_ GE156.out | refine below_set ?_ GE157.out | refine below_set ?_ GE158.out | refine below_set ?_ GE159.out) | exact HB.out)⟩
  · replace c6 := Bool.eq_false_iff.mpr c6
    subst c6
    have H1 : ((spec_l02On.f a0_0 a0_1 a1_0 a1_1 a2_0 a2_1).bind fun t161 => (if t161 = true then (some true) else ((spec_l02On.f a0_0 a0_1 a1_0 a1_1 a3_0 a3_1).bind fun t162 => (if t162 = true then (some true) else ((spec_l02On.f a2_0 a2_1 a3_0 a3_1 a0_0 a0_1).bind fun t163 => (if t163 = true then (some true) else ((spec_l02On.f a2_0 a2_1 a3_0 a3_1 a1_0 a1_1).bind fun t164 => (some t164)))))))) = some r := by rw [if_neg (show ¬ (false = true) by decide)] at H; exact H
    clear H
    have H := H1
    clear H1
    replace H := Option.bind_eq_some_iff.mp H
    obtain ⟨t161, A220, H⟩ := H
    replace H : (if t161 = true then (some true) else ((spec_l02On.f a0_0 a0_1 a1_0 a1_1 a3_0 a3_1).bind fun t162 => (if t162 = true then (some true) else ((spec_l02On.f a2_0 a2_1 a3_0 a3_1 a0_0 a0_1).bind fun t163 => (if t163 = true then (some true) else ((spec_l02On.f a2_0 a2_1 a3_0 a3_1 a1_0 a1_1).bind fun t164 => (some t164))))))) = some r := H
    have A22 := Aside0.mk A220
    clear A220
    by_cases c23 : t161 = true
    · subst c23
      have H1 : (some true) = some r := by rw [if_pos rfl] at H; exact H
      clear H
      have H := H1
      clear H1
      obtain rfl := Option.some.inj H
      go_enter Tryd.func83, Tryd.ntmps83
      go_wp2_with (first | ((with_reducible refine gate_dst (N := 4) rfl ?_); refine box_event ?hg (N := 4) ?hd (cs := #[.int .i64 a0_0, .int .i64 a0_1]) (t := 40) ?hr ?_; (case hd => rfl); (case hg => rfl); (case hr => first | (go_simp; done) | (go_simp; rfl)); intro gb156 hg w24 hbox hb; have n0_ := sb hb; have n1_ := Aside0.mk (hbox); have n2_ := zb hg; have n3_ := zb hg; clear HB; have HB := n0_; have BK156 := n1_; have GW156 := n2_; have GE156 := n3_; clear n0_ n1_ n2_ n3_; clear hb hbox hg) | ((with_reducible refine gate_dst (N := 5) rfl ?_); refine box_event ?hg (N := 5) ?hd (cs := #[.int .i64 a1_0, .int .i64 a1_1]) (t := 40) ?hr ?_; (case hd => rfl); (case hg => rfl); (case hr => first | (go_simp; done) | (go_simp; rfl)); intro gb157 hg w25 hbox hb; have n0_ := kb BK156 hb; have n1_ := sb hb; have n2_ := Aside0.mk (hbox); have n3_ := zb hg; have n4_ := zb hg; have n5_ := nl BK156 hg; have n6_ := ng BK156 hg; clear BK156; clear HB; have BK156 := n0_; have HB := n1_; have BK157 := n2_; have GW157 := n3_; have GE157 := n4_; have NB156_157 := n5_; have NB157_156 := n6_; clear n0_ n1_ n2_ n3_ n4_ n5_ n6_; clear hb hbox hg) | ((with_reducible refine gate_dst (N := 6) rfl ?_); refine box_event ?hg (N := 6) ?hd (cs := #[.int .i64 a2_0, .int .i64 a2_1]) (t := 40) ?hr ?_; (case hd => rfl); (case hg => rfl); (case hr => first | (go_simp; done) | (go_simp; rfl)); intro gb158 hg w26 hbox hb; have n0_ := kb BK156 hb; have n1_ := kb BK157 hb; have n2_ := sb hb; have n3_ := Aside0.mk (hbox); have n4_ := zb hg; have n5_ := zb hg; have n6_ := nl BK156 hg; have n7_ := ng BK156 hg; have n8_ := nl BK157 hg; have n9_ := ng BK157 hg; clear BK156; clear BK157; clear HB; have BK156 := n0_; have BK157 := n1_; have HB := n2_; have BK158 := n3_; have GW158 := n4_; have GE158 := n5_; have NB156_158 := n6_; have NB158_156 := n7_; have NB157_158 := n8_; have NB158_157 := n9_; clear n0_ n1_ n2_ n3_ n4_ n5_ n6_ n7_ n8_ n9_; clear hb hbox hg) | ((with_reducible refine gate_dst (N := 7) rfl ?_); refine box_event ?hg (N := 7) ?hd (cs := #[.int .i64 a3_0, .int .i64 a3_1]) (t := 40) ?hr ?_; (case hd => rfl); (case hg => rfl); (case hr => first | (go_simp; done) | (go_simp; rfl)); intro gb159 hg w27 hbox hb; have n0_ := kb BK156 hb; have n1_ := kb BK157 hb; have n2_ := kb BK158 hb; have n3_ := sb hb; have n4_ := Aside0.mk (hbox); have n5_ := zb hg; have n6_ := zb hg; have n7_ := nl BK156 hg; have n8_ := ng BK156 hg; have n9_ := nl BK157 hg; have n10_ := ng BK157 hg; have n11_ := nl BK158 hg; have n12_ := ng BK158 hg; clear BK156; clear BK157; clear BK158; clear HB; have BK156 := n0_; have BK157 := n1_; have BK158 := n2_; have HB := n3_; have BK159 := n4_; have GW159 := n5_; have GE159 := n6_; have NB156_159 := n7_; have NB159_156 := n8_; have NB157_159 := n9_; have NB159_157 := n10_; have NB158_159 := n11_; have NB159_158 := n12_; clear n0_ n1_ n2_ n3_ n4_ n5_ n6_ n7_ n8_ n9_ n10_ n11_ n12_; clear hb hbox hg; have hnb28 := NB156_157.out; have hnc28 := NB157_156.out; have hnb29 := NB156_158.out; have hnc29 := NB158_156.out; have hnb30 := NB156_159.out; have hnc30 := NB159_156.out; have hcz31_0 := ck BK156 0; have hcz31_1 := ck BK156 1; have hfz31_0 := blk_frozen BK156.out 0; have hfz31_1 := blk_frozen BK156.out 1; have hnb32 := NB157_158.out; have hnc32 := NB158_157.out; have hnb33 := NB157_159.out; have hnc33 := NB159_157.out; have hcz34_0 := ck BK157 0; have hcz34_1 := ck BK157 1; have hfz34_0 := blk_frozen BK157.out 0; have hfz34_1 := blk_frozen BK157.out 1; have hnb35 := NB158_159.out; have hnc35 := NB159_158.out; have hcz36_0 := ck BK158 0; have hcz36_1 := ck BK158 1; have hfz36_0 := blk_frozen BK158.out 0; have hfz36_1 := blk_frozen BK158.out 1; have hcz37_0 := ck BK159 0; have hcz37_1 := ck BK159 1; have hfz37_0 := blk_frozen BK159.out 0; have hfz37_1 := blk_frozen BK159.out 1) | ((with_reducible refine gate_callee (f := 108) rfl ?_); refine goesL_ (some 13) rfl rfl Tryd.func108 (by kernel_rfl) rfl #[.agg #[.int .i64 a0_0, .int .i64 a0_1], .agg #[.int .i64 a1_0, .int .i64 a1_1], .agg #[.int .i64 a2_0, .int .i64 a2_1], .agg #[.int .i64 a3_0, .int .i64 a3_1]] rfl (by (try simp only [List.map_toArray, List.map_cons, List.map_nil]); first | done | rfl | (simp only [List.length_drop, List.length_take]; rfl)) ?_; (with_reducible refine (spec_l02Crosses.calls a0_0 a0_1 a1_0 a1_1 a2_0 a2_1 a3_0 a3_1 false _ A5.out).mono ?_); rintro e w38 ⟨rfl, hb⟩; refine ⟨_, rfl, ?_⟩; have n0_ := kb BK156 hb; have n1_ := kb BK157 hb; have n2_ := kb BK158 hb; have n3_ := kb BK159 hb; have n4_ := sb hb; clear BK156; clear BK157; clear BK158; clear BK159; clear HB; have BK156 := n0_; have BK157 := n1_; have BK158 := n2_; have BK159 := n3_; have HB := n4_; clear n0_ n1_ n2_ n3_ n4_; (try clear hb); (try clear hb2); (try clear hk); (try clear hi); have hcz39_0 := ck BK156 0; have hcz39_1 := ck BK156 1; have hfz39_0 := blk_frozen BK156.out 0; have hfz39_1 := blk_frozen BK156.out 1; have hcz40_0 := ck BK157 0; have hcz40_1 := ck BK157 1; have hfz40_0 := blk_frozen BK157.out 0; have hfz40_1 := blk_frozen BK157.out 1; have hcz41_0 := ck BK158 0; have hcz41_1 := ck BK158 1; have hfz41_0 := blk_frozen BK158.out 0; have hfz41_1 := blk_frozen BK158.out 1) | (go_at_call 82; (with_reducible refine (spec_l02On.calls a0_0 a0_1 a1_0 a1_1 a2_0 a2_1 true _ A22.out).mono ?_); rintro e w42 ⟨rfl, hb⟩; have n0_ := kb BK156 hb; have n1_ := kb BK157 hb; have n2_ := kb BK158 hb; have n3_ := kb BK159 hb; have n4_ := sb hb; clear BK156; clear BK157; clear BK158; clear BK159; clear HB; have BK156 := n0_; have BK157 := n1_; have BK158 := n2_; have BK159 := n3_; have HB := n4_; clear n0_ n1_ n2_ n3_ n4_; (try clear hb); (try clear hb2); (try clear hk); (try clear hi)))
      go_ret
      exact ⟨by first | rfl | (simp [errW_none, errW_some] <;> rfl) | (simp [*, errW_none, errW_some] <;> rfl), by repeat (first | (with_reducible first | exact HB.out | apply below_alloc | apply pw_below_drewN | apply below_drew1 | refine below_set ?_ GE156.out | refine below_set ?_ GE157.out | refine below_set ?_ GE158.out | refine below_set ?_ GE159.out) | exact HB.out)⟩
    · replace c23 := Bool.eq_false_iff.mpr c23
      subst c23
      have H1 : ((spec_l02On.f a0_0 a0_1 a1_0 a1_1 a3_0 a3_1).bind fun t162 => (if t162 = true then (some true) else ((spec_l02On.f a2_0 a2_1 a3_0 a3_1 a0_0 a0_1).bind fun t163 => (if t163 = true then (some true) else ((spec_l02On.f a2_0 a2_1 a3_0 a3_1 a1_0 a1_1).bind fun t164 => (some t164)))))) = some r := by rw [if_neg (show ¬ (false = true) by decide)] at H; exact H
      clear H
      have H := H1
      clear H1
      replace H := Option.bind_eq_some_iff.mp H
      obtain ⟨t162, A430, H⟩ := H
      replace H : (if t162 = true then (some true) else ((spec_l02On.f a2_0 a2_1 a3_0 a3_1 a0_0 a0_1).bind fun t163 => (if t163 = true then (some true) else ((spec_l02On.f a2_0 a2_1 a3_0 a3_1 a1_0 a1_1).bind fun t164 => (some t164))))) = some r := H
      have A43 := Aside0.mk A430
      clear A430
      by_cases c44 : t162 = true
      · subst c44
        have H1 : (some true) = some r := by rw [if_pos rfl] at H; exact H
        clear H
        have H := H1
        clear H1
        obtain rfl := Option.some.inj H
        go_enter Tryd.func83, Tryd.ntmps83
        go_wp2_with (first | ((with_reducible refine gate_dst (N := 4) rfl ?_); refine box_event ?hg (N := 4) ?hd (cs := #[.int .i64 a0_0, .int .i64 a0_1]) (t := 40) ?hr ?_; (case hd => rfl); (case hg => rfl); (case hr => first | (go_simp; done) | (go_simp; rfl)); intro gb156 hg w45 hbox hb; have n0_ := sb hb; have n1_ := Aside0.mk (hbox); have n2_ := zb hg; have n3_ := zb hg; clear HB; have HB := n0_; have BK156 := n1_; have GW156 := n2_; have GE156 := n3_; clear n0_ n1_ n2_ n3_; clear hb hbox hg) | ((with_reducible refine gate_dst (N := 5) rfl ?_); refine box_event ?hg (N := 5) ?hd (cs := #[.int .i64 a1_0, .int .i64 a1_1]) (t := 40) ?hr ?_; (case hd => rfl); (case hg => rfl); (case hr => first | (go_simp; done) | (go_simp; rfl)); intro gb157 hg w46 hbox hb; have n0_ := kb BK156 hb; have n1_ := sb hb; have n2_ := Aside0.mk (hbox); have n3_ := zb hg; have n4_ := zb hg; have n5_ := nl BK156 hg; have n6_ := ng BK156 hg; clear BK156; clear HB; have BK156 := n0_; have HB := n1_; have BK157 := n2_; have GW157 := n3_; have GE157 := n4_; have NB156_157 := n5_; have NB157_156 := n6_; clear n0_ n1_ n2_ n3_ n4_ n5_ n6_; clear hb hbox hg) | ((with_reducible refine gate_dst (N := 6) rfl ?_); refine box_event ?hg (N := 6) ?hd (cs := #[.int .i64 a2_0, .int .i64 a2_1]) (t := 40) ?hr ?_; (case hd => rfl); (case hg => rfl); (case hr => first | (go_simp; done) | (go_simp; rfl)); intro gb158 hg w47 hbox hb; have n0_ := kb BK156 hb; have n1_ := kb BK157 hb; have n2_ := sb hb; have n3_ := Aside0.mk (hbox); have n4_ := zb hg; have n5_ := zb hg; have n6_ := nl BK156 hg; have n7_ := ng BK156 hg; have n8_ := nl BK157 hg; have n9_ := ng BK157 hg; clear BK156; clear BK157; clear HB; have BK156 := n0_; have BK157 := n1_; have HB := n2_; have BK158 := n3_; have GW158 := n4_; have GE158 := n5_; have NB156_158 := n6_; have NB158_156 := n7_; have NB157_158 := n8_; have NB158_157 := n9_; clear n0_ n1_ n2_ n3_ n4_ n5_ n6_ n7_ n8_ n9_; clear hb hbox hg) | ((with_reducible refine gate_dst (N := 7) rfl ?_); refine box_event ?hg (N := 7) ?hd (cs := #[.int .i64 a3_0, .int .i64 a3_1]) (t := 40) ?hr ?_; (case hd => rfl); (case hg => rfl); (case hr => first | (go_simp; done) | (go_simp; rfl)); intro gb159 hg w48 hbox hb; have n0_ := kb BK156 hb; have n1_ := kb BK157 hb; have n2_ := kb BK158 hb; have n3_ := sb hb; have n4_ := Aside0.mk (hbox); have n5_ := zb hg; have n6_ := zb hg; have n7_ := nl BK156 hg; have n8_ := ng BK156 hg; have n9_ := nl BK157 hg; have n10_ := ng BK157 hg; have n11_ := nl BK158 hg; have n12_ := ng BK158 hg; clear BK156; clear BK157; clear BK158; clear HB; have BK156 := n0_; have BK157 := n1_; have BK158 := n2_; have HB := n3_; have BK159 := n4_; have GW159 := n5_; have GE159 := n6_; have NB156_159 := n7_; have NB159_156 := n8_; have NB157_159 := n9_; have NB159_157 := n10_; have NB158_159 := n11_; have NB159_158 := n12_; clear n0_ n1_ n2_ n3_ n4_ n5_ n6_ n7_ n8_ n9_ n10_ n11_ n12_; clear hb hbox hg; have hnb49 := NB156_157.out; have hnc49 := NB157_156.out; have hnb50 := NB156_158.out; have hnc50 := NB158_156.out; have hnb51 := NB156_159.out; have hnc51 := NB159_156.out; have hcz52_0 := ck BK156 0; have hcz52_1 := ck BK156 1; have hfz52_0 := blk_frozen BK156.out 0; have hfz52_1 := blk_frozen BK156.out 1; have hnb53 := NB157_158.out; have hnc53 := NB158_157.out; have hnb54 := NB157_159.out; have hnc54 := NB159_157.out; have hcz55_0 := ck BK157 0; have hcz55_1 := ck BK157 1; have hfz55_0 := blk_frozen BK157.out 0; have hfz55_1 := blk_frozen BK157.out 1; have hnb56 := NB158_159.out; have hnc56 := NB159_158.out; have hcz57_0 := ck BK158 0; have hcz57_1 := ck BK158 1; have hfz57_0 := blk_frozen BK158.out 0; have hfz57_1 := blk_frozen BK158.out 1; have hcz58_0 := ck BK159 0; have hcz58_1 := ck BK159 1; have hfz58_0 := blk_frozen BK159.out 0; have hfz58_1 := blk_frozen BK159.out 1) | ((with_reducible refine gate_callee (f := 108) rfl ?_); refine goesL_ (some 13) rfl rfl Tryd.func108 (by kernel_rfl) rfl #[.agg #[.int .i64 a0_0, .int .i64 a0_1], .agg #[.int .i64 a1_0, .int .i64 a1_1], .agg #[.int .i64 a2_0, .int .i64 a2_1], .agg #[.int .i64 a3_0, .int .i64 a3_1]] rfl (by (try simp only [List.map_toArray, List.map_cons, List.map_nil]); first | done | rfl | (simp only [List.length_drop, List.length_take]; rfl)) ?_; (with_reducible refine (spec_l02Crosses.calls a0_0 a0_1 a1_0 a1_1 a2_0 a2_1 a3_0 a3_1 false _ A5.out).mono ?_); rintro e w59 ⟨rfl, hb⟩; refine ⟨_, rfl, ?_⟩; have n0_ := kb BK156 hb; have n1_ := kb BK157 hb; have n2_ := kb BK158 hb; have n3_ := kb BK159 hb; have n4_ := sb hb; clear BK156; clear BK157; clear BK158; clear BK159; clear HB; have BK156 := n0_; have BK157 := n1_; have BK158 := n2_; have BK159 := n3_; have HB := n4_; clear n0_ n1_ n2_ n3_ n4_; (try clear hb); (try clear hb2); (try clear hk); (try clear hi); have hcz60_0 := ck BK156 0; have hcz60_1 := ck BK156 1; have hfz60_0 := blk_frozen BK156.out 0; have hfz60_1 := blk_frozen BK156.out 1; have hcz61_0 := ck BK157 0; have hcz61_1 := ck BK157 1; have hfz61_0 := blk_frozen BK157.out 0; have hfz61_1 := blk_frozen BK157.out 1; have hcz62_0 := ck BK158 0; have hcz62_1 := ck BK158 1; have hfz62_0 := blk_frozen BK158.out 0; have hfz62_1 := blk_frozen BK158.out 1) | (go_at_call 82; (with_reducible refine (spec_l02On.calls a0_0 a0_1 a1_0 a1_1 a2_0 a2_1 false _ A22.out).mono ?_); rintro e w63 ⟨rfl, hb⟩; have n0_ := kb BK156 hb; have n1_ := kb BK157 hb; have n2_ := kb BK158 hb; have n3_ := kb BK159 hb; have n4_ := sb hb; clear BK156; clear BK157; clear BK158; clear BK159; clear HB; have BK156 := n0_; have BK157 := n1_; have BK158 := n2_; have BK159 := n3_; have HB := n4_; clear n0_ n1_ n2_ n3_ n4_; (try clear hb); (try clear hb2); (try clear hk); (try clear hi); have hcz64_0 := ck BK156 0; have hcz64_1 := ck BK156 1; have hfz64_0 := blk_frozen BK156.out 0; have hfz64_1 := blk_frozen BK156.out 1; have hcz65_0 := ck BK157 0; have hcz65_1 := ck BK157 1; have hfz65_0 := blk_frozen BK157.out 0; have hfz65_1 := blk_frozen BK157.out 1; have hcz66_0 := ck BK159 0; have hcz66_1 := ck BK159 1; have hfz66_0 := blk_frozen BK159.out 0; have hfz66_1 := blk_frozen BK159.out 1) | (go_at_call 82; (with_reducible refine (spec_l02On.calls a0_0 a0_1 a1_0 a1_1 a3_0 a3_1 true _ A43.out).mono ?_); rintro e w67 ⟨rfl, hb⟩; have n0_ := kb BK156 hb; have n1_ := kb BK157 hb; have n2_ := kb BK158 hb; have n3_ := kb BK159 hb; have n4_ := sb hb; clear BK156; clear BK157; clear BK158; clear BK159; clear HB; have BK156 := n0_; have BK157 := n1_; have BK158 := n2_; have BK159 := n3_; have HB := n4_; clear n0_ n1_ n2_ n3_ n4_; (try clear hb); (try clear hb2); (try clear hk); (try clear hi)))
        go_ret
        exact ⟨by first | rfl | (simp [errW_none, errW_some] <;> rfl) | (simp [*, errW_none, errW_some] <;> rfl), by repeat (first | (with_reducible first | exact HB.out | apply below_alloc | apply pw_below_drewN | apply below_drew1 | refine below_set ?_ GE156.out | refine below_set ?_ GE157.out | refine below_set ?_ GE158.out | refine below_set ?_ GE159.out) | exact HB.out)⟩
      · replace c44 := Bool.eq_false_iff.mpr c44
        subst c44
        have H1 : ((spec_l02On.f a2_0 a2_1 a3_0 a3_1 a0_0 a0_1).bind fun t163 => (if t163 = true then (some true) else ((spec_l02On.f a2_0 a2_1 a3_0 a3_1 a1_0 a1_1).bind fun t164 => (some t164)))) = some r := by rw [if_neg (show ¬ (false = true) by decide)] at H; exact H
        clear H
        have H := H1
        clear H1
        replace H := Option.bind_eq_some_iff.mp H
        obtain ⟨t163, A680, H⟩ := H
        replace H : (if t163 = true then (some true) else ((spec_l02On.f a2_0 a2_1 a3_0 a3_1 a1_0 a1_1).bind fun t164 => (some t164))) = some r := H
        have A68 := Aside0.mk A680
        clear A680
        by_cases c69 : t163 = true
        · subst c69
          have H1 : (some true) = some r := by rw [if_pos rfl] at H; exact H
          clear H
          have H := H1
          clear H1
          obtain rfl := Option.some.inj H
          go_enter Tryd.func83, Tryd.ntmps83
          go_wp2_with (first | ((with_reducible refine gate_dst (N := 4) rfl ?_); refine box_event ?hg (N := 4) ?hd (cs := #[.int .i64 a0_0, .int .i64 a0_1]) (t := 40) ?hr ?_; (case hd => rfl); (case hg => rfl); (case hr => first | (go_simp; done) | (go_simp; rfl)); intro gb156 hg w70 hbox hb; have n0_ := sb hb; have n1_ := Aside0.mk (hbox); have n2_ := zb hg; have n3_ := zb hg; clear HB; have HB := n0_; have BK156 := n1_; have GW156 := n2_; have GE156 := n3_; clear n0_ n1_ n2_ n3_; clear hb hbox hg) | ((with_reducible refine gate_dst (N := 5) rfl ?_); refine box_event ?hg (N := 5) ?hd (cs := #[.int .i64 a1_0, .int .i64 a1_1]) (t := 40) ?hr ?_; (case hd => rfl); (case hg => rfl); (case hr => first | (go_simp; done) | (go_simp; rfl)); intro gb157 hg w71 hbox hb; have n0_ := kb BK156 hb; have n1_ := sb hb; have n2_ := Aside0.mk (hbox); have n3_ := zb hg; have n4_ := zb hg; have n5_ := nl BK156 hg; have n6_ := ng BK156 hg; clear BK156; clear HB; have BK156 := n0_; have HB := n1_; have BK157 := n2_; have GW157 := n3_; have GE157 := n4_; have NB156_157 := n5_; have NB157_156 := n6_; clear n0_ n1_ n2_ n3_ n4_ n5_ n6_; clear hb hbox hg) | ((with_reducible refine gate_dst (N := 6) rfl ?_); refine box_event ?hg (N := 6) ?hd (cs := #[.int .i64 a2_0, .int .i64 a2_1]) (t := 40) ?hr ?_; (case hd => rfl); (case hg => rfl); (case hr => first | (go_simp; done) | (go_simp; rfl)); intro gb158 hg w72 hbox hb; have n0_ := kb BK156 hb; have n1_ := kb BK157 hb; have n2_ := sb hb; have n3_ := Aside0.mk (hbox); have n4_ := zb hg; have n5_ := zb hg; have n6_ := nl BK156 hg; have n7_ := ng BK156 hg; have n8_ := nl BK157 hg; have n9_ := ng BK157 hg; clear BK156; clear BK157; clear HB; have BK156 := n0_; have BK157 := n1_; have HB := n2_; have BK158 := n3_; have GW158 := n4_; have GE158 := n5_; have NB156_158 := n6_; have NB158_156 := n7_; have NB157_158 := n8_; have NB158_157 := n9_; clear n0_ n1_ n2_ n3_ n4_ n5_ n6_ n7_ n8_ n9_; clear hb hbox hg) | ((with_reducible refine gate_dst (N := 7) rfl ?_); refine box_event ?hg (N := 7) ?hd (cs := #[.int .i64 a3_0, .int .i64 a3_1]) (t := 40) ?hr ?_; (case hd => rfl); (case hg => rfl); (case hr => first | (go_simp; done) | (go_simp; rfl)); intro gb159 hg w73 hbox hb; have n0_ := kb BK156 hb; have n1_ := kb BK157 hb; have n2_ := kb BK158 hb; have n3_ := sb hb; have n4_ := Aside0.mk (hbox); have n5_ := zb hg; have n6_ := zb hg; have n7_ := nl BK156 hg; have n8_ := ng BK156 hg; have n9_ := nl BK157 hg; have n10_ := ng BK157 hg; have n11_ := nl BK158 hg; have n12_ := ng BK158 hg; clear BK156; clear BK157; clear BK158; clear HB; have BK156 := n0_; have BK157 := n1_; have BK158 := n2_; have HB := n3_; have BK159 := n4_; have GW159 := n5_; have GE159 := n6_; have NB156_159 := n7_; have NB159_156 := n8_; have NB157_159 := n9_; have NB159_157 := n10_; have NB158_159 := n11_; have NB159_158 := n12_; clear n0_ n1_ n2_ n3_ n4_ n5_ n6_ n7_ n8_ n9_ n10_ n11_ n12_; clear hb hbox hg; have hnb74 := NB156_157.out; have hnc74 := NB157_156.out; have hnb75 := NB156_158.out; have hnc75 := NB158_156.out; have hnb76 := NB156_159.out; have hnc76 := NB159_156.out; have hcz77_0 := ck BK156 0; have hcz77_1 := ck BK156 1; have hfz77_0 := blk_frozen BK156.out 0; have hfz77_1 := blk_frozen BK156.out 1; have hnb78 := NB157_158.out; have hnc78 := NB158_157.out; have hnb79 := NB157_159.out; have hnc79 := NB159_157.out; have hcz80_0 := ck BK157 0; have hcz80_1 := ck BK157 1; have hfz80_0 := blk_frozen BK157.out 0; have hfz80_1 := blk_frozen BK157.out 1; have hnb81 := NB158_159.out; have hnc81 := NB159_158.out; have hcz82_0 := ck BK158 0; have hcz82_1 := ck BK158 1; have hfz82_0 := blk_frozen BK158.out 0; have hfz82_1 := blk_frozen BK158.out 1; have hcz83_0 := ck BK159 0; have hcz83_1 := ck BK159 1; have hfz83_0 := blk_frozen BK159.out 0; have hfz83_1 := blk_frozen BK159.out 1) | ((with_reducible refine gate_callee (f := 108) rfl ?_); refine goesL_ (some 13) rfl rfl Tryd.func108 (by kernel_rfl) rfl #[.agg #[.int .i64 a0_0, .int .i64 a0_1], .agg #[.int .i64 a1_0, .int .i64 a1_1], .agg #[.int .i64 a2_0, .int .i64 a2_1], .agg #[.int .i64 a3_0, .int .i64 a3_1]] rfl (by (try simp only [List.map_toArray, List.map_cons, List.map_nil]); first | done | rfl | (simp only [List.length_drop, List.length_take]; rfl)) ?_; (with_reducible refine (spec_l02Crosses.calls a0_0 a0_1 a1_0 a1_1 a2_0 a2_1 a3_0 a3_1 false _ A5.out).mono ?_); rintro e w84 ⟨rfl, hb⟩; refine ⟨_, rfl, ?_⟩; have n0_ := kb BK156 hb; have n1_ := kb BK157 hb; have n2_ := kb BK158 hb; have n3_ := kb BK159 hb; have n4_ := sb hb; clear BK156; clear BK157; clear BK158; clear BK159; clear HB; have BK156 := n0_; have BK157 := n1_; have BK158 := n2_; have BK159 := n3_; have HB := n4_; clear n0_ n1_ n2_ n3_ n4_; (try clear hb); (try clear hb2); (try clear hk); (try clear hi); have hcz85_0 := ck BK156 0; have hcz85_1 := ck BK156 1; have hfz85_0 := blk_frozen BK156.out 0; have hfz85_1 := blk_frozen BK156.out 1; have hcz86_0 := ck BK157 0; have hcz86_1 := ck BK157 1; have hfz86_0 := blk_frozen BK157.out 0; have hfz86_1 := blk_frozen BK157.out 1; have hcz87_0 := ck BK158 0; have hcz87_1 := ck BK158 1; have hfz87_0 := blk_frozen BK158.out 0; have hfz87_1 := blk_frozen BK158.out 1) | (go_at_call 82; (with_reducible refine (spec_l02On.calls a0_0 a0_1 a1_0 a1_1 a2_0 a2_1 false _ A22.out).mono ?_); rintro e w88 ⟨rfl, hb⟩; have n0_ := kb BK156 hb; have n1_ := kb BK157 hb; have n2_ := kb BK158 hb; have n3_ := kb BK159 hb; have n4_ := sb hb; clear BK156; clear BK157; clear BK158; clear BK159; clear HB; have BK156 := n0_; have BK157 := n1_; have BK158 := n2_; have BK159 := n3_; have HB := n4_; clear n0_ n1_ n2_ n3_ n4_; (try clear hb); (try clear hb2); (try clear hk); (try clear hi); have hcz89_0 := ck BK156 0; have hcz89_1 := ck BK156 1; have hfz89_0 := blk_frozen BK156.out 0; have hfz89_1 := blk_frozen BK156.out 1; have hcz90_0 := ck BK157 0; have hcz90_1 := ck BK157 1; have hfz90_0 := blk_frozen BK157.out 0; have hfz90_1 := blk_frozen BK157.out 1; have hcz91_0 := ck BK159 0; have hcz91_1 := ck BK159 1; have hfz91_0 := blk_frozen BK159.out 0; have hfz91_1 := blk_frozen BK159.out 1) | (go_at_call 82; (with_reducible refine (spec_l02On.calls a0_0 a0_1 a1_0 a1_1 a3_0 a3_1 false _ A43.out).mono ?_); rintro e w92 ⟨rfl, hb⟩; have n0_ := kb BK156 hb; have n1_ := kb BK157 hb; have n2_ := kb BK158 hb; have n3_ := kb BK159 hb; have n4_ := sb hb; clear BK156; clear BK157; clear BK158; clear BK159; clear HB; have BK156 := n0_; have BK157 := n1_; have BK158 := n2_; have BK159 := n3_; have HB := n4_; clear n0_ n1_ n2_ n3_ n4_; (try clear hb); (try clear hb2); (try clear hk); (try clear hi); have hcz93_0 := ck BK158 0; have hcz93_1 := ck BK158 1; have hfz93_0 := blk_frozen BK158.out 0; have hfz93_1 := blk_frozen BK158.out 1; have hcz94_0 := ck BK159 0; have hcz94_1 := ck BK159 1; have hfz94_0 := blk_frozen BK159.out 0; have hfz94_1 := blk_frozen BK159.out 1; have hcz95_0 := ck BK156 0; have hcz95_1 := ck BK156 1; have hfz95_0 := blk_frozen BK156.out 0; have hfz95_1 := blk_frozen BK156.out 1) | (go_at_call 82; (with_reducible refine (spec_l02On.calls a2_0 a2_1 a3_0 a3_1 a0_0 a0_1 true _ A68.out).mono ?_); rintro e w96 ⟨rfl, hb⟩; have n0_ := kb BK156 hb; have n1_ := kb BK157 hb; have n2_ := kb BK158 hb; have n3_ := kb BK159 hb; have n4_ := sb hb; clear BK156; clear BK157; clear BK158; clear BK159; clear HB; have BK156 := n0_; have BK157 := n1_; have BK158 := n2_; have BK159 := n3_; have HB := n4_; clear n0_ n1_ n2_ n3_ n4_; (try clear hb); (try clear hb2); (try clear hk); (try clear hi)))
          go_ret
          exact ⟨by first | rfl | (simp [errW_none, errW_some] <;> rfl) | (simp [*, errW_none, errW_some] <;> rfl), by repeat (first | (with_reducible first | exact HB.out | apply below_alloc | apply pw_below_drewN | apply below_drew1 | refine below_set ?_ GE156.out | refine below_set ?_ GE157.out | refine below_set ?_ GE158.out | refine below_set ?_ GE159.out) | exact HB.out)⟩
        · replace c69 := Bool.eq_false_iff.mpr c69
          subst c69
          have H1 : ((spec_l02On.f a2_0 a2_1 a3_0 a3_1 a1_0 a1_1).bind fun t164 => (some t164)) = some r := by rw [if_neg (show ¬ (false = true) by decide)] at H; exact H
          clear H
          have H := H1
          clear H1
          replace H := Option.bind_eq_some_iff.mp H
          obtain ⟨t164, A970, H⟩ := H
          replace H : (some t164) = some r := H
          have A97 := Aside0.mk A970
          clear A970
          obtain rfl := Option.some.inj H
          go_enter Tryd.func83, Tryd.ntmps83
          go_wp2_with (first | ((with_reducible refine gate_dst (N := 4) rfl ?_); refine box_event ?hg (N := 4) ?hd (cs := #[.int .i64 a0_0, .int .i64 a0_1]) (t := 40) ?hr ?_; (case hd => rfl); (case hg => rfl); (case hr => first | (go_simp; done) | (go_simp; rfl)); intro gb156 hg w98 hbox hb; have n0_ := sb hb; have n1_ := Aside0.mk (hbox); have n2_ := zb hg; have n3_ := zb hg; clear HB; have HB := n0_; have BK156 := n1_; have GW156 := n2_; have GE156 := n3_; clear n0_ n1_ n2_ n3_; clear hb hbox hg) | ((with_reducible refine gate_dst (N := 5) rfl ?_); refine box_event ?hg (N := 5) ?hd (cs := #[.int .i64 a1_0, .int .i64 a1_1]) (t := 40) ?hr ?_; (case hd => rfl); (case hg => rfl); (case hr => first | (go_simp; done) | (go_simp; rfl)); intro gb157 hg w99 hbox hb; have n0_ := kb BK156 hb; have n1_ := sb hb; have n2_ := Aside0.mk (hbox); have n3_ := zb hg; have n4_ := zb hg; have n5_ := nl BK156 hg; have n6_ := ng BK156 hg; clear BK156; clear HB; have BK156 := n0_; have HB := n1_; have BK157 := n2_; have GW157 := n3_; have GE157 := n4_; have NB156_157 := n5_; have NB157_156 := n6_; clear n0_ n1_ n2_ n3_ n4_ n5_ n6_; clear hb hbox hg) | ((with_reducible refine gate_dst (N := 6) rfl ?_); refine box_event ?hg (N := 6) ?hd (cs := #[.int .i64 a2_0, .int .i64 a2_1]) (t := 40) ?hr ?_; (case hd => rfl); (case hg => rfl); (case hr => first | (go_simp; done) | (go_simp; rfl)); intro gb158 hg w100 hbox hb; have n0_ := kb BK156 hb; have n1_ := kb BK157 hb; have n2_ := sb hb; have n3_ := Aside0.mk (hbox); have n4_ := zb hg; have n5_ := zb hg; have n6_ := nl BK156 hg; have n7_ := ng BK156 hg; have n8_ := nl BK157 hg; have n9_ := ng BK157 hg; clear BK156; clear BK157; clear HB; have BK156 := n0_; have BK157 := n1_; have HB := n2_; have BK158 := n3_; have GW158 := n4_; have GE158 := n5_; have NB156_158 := n6_; have NB158_156 := n7_; have NB157_158 := n8_; have NB158_157 := n9_; clear n0_ n1_ n2_ n3_ n4_ n5_ n6_ n7_ n8_ n9_; clear hb hbox hg) | ((with_reducible refine gate_dst (N := 7) rfl ?_); refine box_event ?hg (N := 7) ?hd (cs := #[.int .i64 a3_0, .int .i64 a3_1]) (t := 40) ?hr ?_; (case hd => rfl); (case hg => rfl); (case hr => first | (go_simp; done) | (go_simp; rfl)); intro gb159 hg w101 hbox hb; have n0_ := kb BK156 hb; have n1_ := kb BK157 hb; have n2_ := kb BK158 hb; have n3_ := sb hb; have n4_ := Aside0.mk (hbox); have n5_ := zb hg; have n6_ := zb hg; have n7_ := nl BK156 hg; have n8_ := ng BK156 hg; have n9_ := nl BK157 hg; have n10_ := ng BK157 hg; have n11_ := nl BK158 hg; have n12_ := ng BK158 hg; clear BK156; clear BK157; clear BK158; clear HB; have BK156 := n0_; have BK157 := n1_; have BK158 := n2_; have HB := n3_; have BK159 := n4_; have GW159 := n5_; have GE159 := n6_; have NB156_159 := n7_; have NB159_156 := n8_; have NB157_159 := n9_; have NB159_157 := n10_; have NB158_159 := n11_; have NB159_158 := n12_; clear n0_ n1_ n2_ n3_ n4_ n5_ n6_ n7_ n8_ n9_ n10_ n11_ n12_; clear hb hbox hg; have hnb102 := NB156_157.out; have hnc102 := NB157_156.out; have hnb103 := NB156_158.out; have hnc103 := NB158_156.out; have hnb104 := NB156_159.out; have hnc104 := NB159_156.out; have hcz105_0 := ck BK156 0; have hcz105_1 := ck BK156 1; have hfz105_0 := blk_frozen BK156.out 0; have hfz105_1 := blk_frozen BK156.out 1; have hnb106 := NB157_158.out; have hnc106 := NB158_157.out; have hnb107 := NB157_159.out; have hnc107 := NB159_157.out; have hcz108_0 := ck BK157 0; have hcz108_1 := ck BK157 1; have hfz108_0 := blk_frozen BK157.out 0; have hfz108_1 := blk_frozen BK157.out 1; have hnb109 := NB158_159.out; have hnc109 := NB159_158.out; have hcz110_0 := ck BK158 0; have hcz110_1 := ck BK158 1; have hfz110_0 := blk_frozen BK158.out 0; have hfz110_1 := blk_frozen BK158.out 1; have hcz111_0 := ck BK159 0; have hcz111_1 := ck BK159 1; have hfz111_0 := blk_frozen BK159.out 0; have hfz111_1 := blk_frozen BK159.out 1) | ((with_reducible refine gate_callee (f := 108) rfl ?_); refine goesL_ (some 13) rfl rfl Tryd.func108 (by kernel_rfl) rfl #[.agg #[.int .i64 a0_0, .int .i64 a0_1], .agg #[.int .i64 a1_0, .int .i64 a1_1], .agg #[.int .i64 a2_0, .int .i64 a2_1], .agg #[.int .i64 a3_0, .int .i64 a3_1]] rfl (by (try simp only [List.map_toArray, List.map_cons, List.map_nil]); first | done | rfl | (simp only [List.length_drop, List.length_take]; rfl)) ?_; (with_reducible refine (spec_l02Crosses.calls a0_0 a0_1 a1_0 a1_1 a2_0 a2_1 a3_0 a3_1 false _ A5.out).mono ?_); rintro e w112 ⟨rfl, hb⟩; refine ⟨_, rfl, ?_⟩; have n0_ := kb BK156 hb; have n1_ := kb BK157 hb; have n2_ := kb BK158 hb; have n3_ := kb BK159 hb; have n4_ := sb hb; clear BK156; clear BK157; clear BK158; clear BK159; clear HB; have BK156 := n0_; have BK157 := n1_; have BK158 := n2_; have BK159 := n3_; have HB := n4_; clear n0_ n1_ n2_ n3_ n4_; (try clear hb); (try clear hb2); (try clear hk); (try clear hi); have hcz113_0 := ck BK156 0; have hcz113_1 := ck BK156 1; have hfz113_0 := blk_frozen BK156.out 0; have hfz113_1 := blk_frozen BK156.out 1; have hcz114_0 := ck BK157 0; have hcz114_1 := ck BK157 1; have hfz114_0 := blk_frozen BK157.out 0; have hfz114_1 := blk_frozen BK157.out 1; have hcz115_0 := ck BK158 0; have hcz115_1 := ck BK158 1; have hfz115_0 := blk_frozen BK158.out 0; have hfz115_1 := blk_frozen BK158.out 1) | (go_at_call 82; (with_reducible refine (spec_l02On.calls a0_0 a0_1 a1_0 a1_1 a2_0 a2_1 false _ A22.out).mono ?_); rintro e w116 ⟨rfl, hb⟩; have n0_ := kb BK156 hb; have n1_ := kb BK157 hb; have n2_ := kb BK158 hb; have n3_ := kb BK159 hb; have n4_ := sb hb; clear BK156; clear BK157; clear BK158; clear BK159; clear HB; have BK156 := n0_; have BK157 := n1_; have BK158 := n2_; have BK159 := n3_; have HB := n4_; clear n0_ n1_ n2_ n3_ n4_; (try clear hb); (try clear hb2); (try clear hk); (try clear hi); have hcz117_0 := ck BK156 0; have hcz117_1 := ck BK156 1; have hfz117_0 := blk_frozen BK156.out 0; have hfz117_1 := blk_frozen BK156.out 1; have hcz118_0 := ck BK157 0; have hcz118_1 := ck BK157 1; have hfz118_0 := blk_frozen BK157.out 0; have hfz118_1 := blk_frozen BK157.out 1; have hcz119_0 := ck BK159 0; have hcz119_1 := ck BK159 1; have hfz119_0 := blk_frozen BK159.out 0; have hfz119_1 := blk_frozen BK159.out 1) | (go_at_call 82; (with_reducible refine (spec_l02On.calls a0_0 a0_1 a1_0 a1_1 a3_0 a3_1 false _ A43.out).mono ?_); rintro e w120 ⟨rfl, hb⟩; have n0_ := kb BK156 hb; have n1_ := kb BK157 hb; have n2_ := kb BK158 hb; have n3_ := kb BK159 hb; have n4_ := sb hb; clear BK156; clear BK157; clear BK158; clear BK159; clear HB; have BK156 := n0_; have BK157 := n1_; have BK158 := n2_; have BK159 := n3_; have HB := n4_; clear n0_ n1_ n2_ n3_ n4_; (try clear hb); (try clear hb2); (try clear hk); (try clear hi); have hcz121_0 := ck BK158 0; have hcz121_1 := ck BK158 1; have hfz121_0 := blk_frozen BK158.out 0; have hfz121_1 := blk_frozen BK158.out 1; have hcz122_0 := ck BK159 0; have hcz122_1 := ck BK159 1; have hfz122_0 := blk_frozen BK159.out 0; have hfz122_1 := blk_frozen BK159.out 1; have hcz123_0 := ck BK156 0; have hcz123_1 := ck BK156 1; have hfz123_0 := blk_frozen BK156.out 0; have hfz123_1 := blk_frozen BK156.out 1) | (go_at_call 82; (with_reducible refine (spec_l02On.calls a2_0 a2_1 a3_0 a3_1 a0_0 a0_1 false _ A68.out).mono ?_); rintro e w124 ⟨rfl, hb⟩; have n0_ := kb BK156 hb; have n1_ := kb BK157 hb; have n2_ := kb BK158 hb; have n3_ := kb BK159 hb; have n4_ := sb hb; clear BK156; clear BK157; clear BK158; clear BK159; clear HB; have BK156 := n0_; have BK157 := n1_; have BK158 := n2_; have BK159 := n3_; have HB := n4_; clear n0_ n1_ n2_ n3_ n4_; (try clear hb); (try clear hb2); (try clear hk); (try clear hi); have hcz125_0 := ck BK158 0; have hcz125_1 := ck BK158 1; have hfz125_0 := blk_frozen BK158.out 0; have hfz125_1 := blk_frozen BK158.out 1; have hcz126_0 := ck BK159 0; have hcz126_1 := ck BK159 1; have hfz126_0 := blk_frozen BK159.out 0; have hfz126_1 := blk_frozen BK159.out 1; have hcz127_0 := ck BK157 0; have hcz127_1 := ck BK157 1; have hfz127_0 := blk_frozen BK157.out 0; have hfz127_1 := blk_frozen BK157.out 1) | (go_at_call 82; (with_reducible refine (spec_l02On.calls a2_0 a2_1 a3_0 a3_1 a1_0 a1_1 t164 _ A97.out).mono ?_); rintro e w128 ⟨rfl, hb⟩; have n0_ := kb BK156 hb; have n1_ := kb BK157 hb; have n2_ := kb BK158 hb; have n3_ := kb BK159 hb; have n4_ := sb hb; clear BK156; clear BK157; clear BK158; clear BK159; clear HB; have BK156 := n0_; have BK157 := n1_; have BK158 := n2_; have BK159 := n3_; have HB := n4_; clear n0_ n1_ n2_ n3_ n4_; (try clear hb); (try clear hb2); (try clear hk); (try clear hi)))
          go_ret
          exact ⟨by first | rfl | (simp [errW_none, errW_some] <;> rfl) | (simp [*, errW_none, errW_some] <;> rfl), by repeat (first | (with_reducible first | exact HB.out | apply below_alloc | apply pw_below_drewN | apply below_drew1 | refine below_set ?_ GE156.out | refine below_set ?_ GE157.out | refine below_set ?_ GE158.out | refine below_set ?_ GE159.out) | exact HB.out)⟩
def spec_l03Area.l0 : Nat → List (S40) → Int → Int → Option (Int)
  | 0, _, _, _ => none
  | k + 1, x0, x3, x4 => if x4 < (x0.length : Int) then (if (x0.length : Int) = 0 then (none) else (if 0 ≤ (Int.tmod (wrap64 (x4 + 1)) (x0.length : Int)) then (if (Int.tmod (wrap64 (x4 + 1)) (x0.length : Int)) < (x0.length : Int) then (if 0 ≤ x4 then (spec_l03Area.l0 k x0 (wrap64 (x3 + (wrap64 ((wrap64 (((rd_T40 x0 x4).f0) * ((rd_T40 x0 (Int.tmod (wrap64 (x4 + 1)) (x0.length : Int))).f1))) - (wrap64 (((rd_T40 x0 x4).f1) * ((rd_T40 x0 (Int.tmod (wrap64 (x4 + 1)) (x0.length : Int))).f0))))))) (wrap64 (x4 + 1))) else (none)) else (none)) else (none))) else (some x3)
def spec_l03Area.f (k : Nat) (l0 : List (S40)) : Option (Int) := spec_l03Area.l0 k l0 0 0
theorem spec_l03Area.mono_l : ∀ k, (∀ y0 y1 y2, LeO (spec_l03Area.l0 k y0 y1 y2) (spec_l03Area.l0 (k + 1) y0 y1 y2))
  | 0 => fun _ _ _ r h => by simp [spec_l03Area.l0] at h
  | k + 1 => by
    have ih0 := spec_l03Area.mono_l k
    · intro y0 y1 y2
      unfold spec_l03Area.l0
      repeat' first
      | (with_reducible exact ih0 _ _ _)
      | (with_reducible exact LeO.refl _)
      | (with_reducible exact LeO.none _)
      | (with_reducible refine LeO.ite ?_ ?_)
      | (with_reducible refine LeO.bind ?_ (fun _ => ?_))
      | exact ih0 _ _ _
      | exact LeO.none _
      | refine LeO.ite ?_ ?_
      | refine LeO.bind ?_ (fun _ => ?_)
theorem spec_l03Area.mono : ∀ a0 k, LeO (spec_l03Area.f k a0) (spec_l03Area.f (k + 1) a0) := by
  intro a0 k
  have ih0 := spec_l03Area.mono_l k
  unfold spec_l03Area.f
  repeat' first
      | (with_reducible exact ih0 _ _ _)
      | (with_reducible exact LeO.refl _)
      | (with_reducible exact LeO.none _)
      | (with_reducible refine LeO.ite ?_ ?_)
      | (with_reducible refine LeO.bind ?_ (fun _ => ?_))
      | exact ih0 _ _ _
      | exact LeO.none _
      | refine LeO.ite ?_ ?_
      | refine LeO.bind ?_ (fun _ => ?_)
set_option maxHeartbeats 8000000 in
set_option maxRecDepth 100000 in
theorem spec_l03Area.calls (k : Nat) (A0 : Option Addr) (c0 : Nat) (l0 : List (S40)) (r : Int) (w : World) (hr0 : Kd.C k40 w A0 l0.length l0) (hc0 : l0.length ≤ c0) (h : spec_l03Area.f k l0 = some r) :
    Calls Tryd.prog 84 #[.slice A0 l0.length c0] w fun e w' => e = .returned (.int .i64 r) ∧ Below w.heap.size w w' := by
  have hu40 := Tryd.underlying40
  have HR0 := Aside0.mk hr0
  have HC0 := Aside0.mk hc0
  clear hr0 hc0
  have HB := Aside0.mk (Below.refl w.heap.size w)
  have H : (spec_l03Area.l0 k l0 0 0) = some r := h
  clear h
  have H' := Aside0.mk H
  clear H
  go_enter Tryd.func84, Tryd.ntmps84
  go_wp2
  repeat (go_quiet (fail); try go_wp2)
  go_loopg [3, 4] k (fun kq v3 v4 w' => ∃ (x3_1 : Int) (x4_1 : Int), v3 = .int .i64 x3_1 ∧ v4 = .int .i64 x4_1 ∧ Aside0 (spec_l03Area.l0 kq l0 x3_1 x4_1 = some r) ∧ Aside0 (kq ≤ k) ∧ Aside0 (Below w.heap.size w w'))
  case atStart => exact ⟨(0), (0), (by first | rfl | (simp; done) | (simp [*]; done)), (by first | rfl | (simp; done) | (simp [*]; done)), H', ⟨Nat.le_refl _⟩, ⟨by repeat (first | (with_reducible first | exact HB.out | apply below_alloc | apply pw_below_drewN | apply below_drew1) | exact HB.out)⟩⟩
  case round =>
    clear H'
    obtain ⟨x3_1, x4_1, rfl, rfl, HA, HK1, HB⟩ := hrel
    cases gk with
    | zero => exact absurd HA.out (by simp [spec_l03Area.l0])
    | succ k1 =>
      have H := HA.out
      clear HA
      simp only [spec_l03Area.l0] at H
      by_cases c2 : x4_1 < (l0.length : Int)
      · rw [if_pos c2] at H
        have c2b0 : decide (x4_1 < (l0.length : Int)) = true := decide_eq_true c2
        clear c2
        by_cases c3 : (l0.length : Int) = 0
        · rw [if_pos c3] at H
          exact absurd H (by simp)
        · rw [if_neg c3] at H
          have c3b0 : ((l0.length : Int) == 0) = false := beq_eq_false_iff_ne.mpr c3
          have c3b1 : ((l0.length : Int) != 0) = true := bne_iff_ne.mpr c3
          have c3b2 : ¬ (l0 = []) := fun h_ => c3 (by rw [h_]; rfl)
          obtain ⟨ji4, hji4⟩ : ∃ j_ : Int, (Int.tmod (wrap64 (x4_1 + 1)) (l0.length : Int)) = j_ := ⟨_, rfl⟩
          replace H : (if 0 ≤ (ji4) then (if (ji4) < (l0.length : Int) then (if 0 ≤ x4_1 then (spec_l03Area.l0 k1 l0 (wrap64 (x3_1 + (wrap64 ((wrap64 (((rd_T40 l0 x4_1).f0) * ((rd_T40 l0 (ji4)).f1))) - (wrap64 (((rd_T40 l0 x4_1).f1) * ((rd_T40 l0 (ji4)).f0))))))) (wrap64 (x4_1 + 1))) else (none)) else (none)) else (none)) = some r := by first | (rw [hji4] at H; exact H) | (simp only [hji4] at H ⊢; exact H)
          by_cases c5 : 0 ≤ (ji4)
          · rw [if_pos c5] at H
            have c5b0 : decide (0 ≤ (ji4)) = true := decide_eq_true c5
            clear c5
            by_cases c6 : (ji4) < (l0.length : Int)
            · rw [if_pos c6] at H
              have c6b0 : decide ((ji4) < (l0.length : Int)) = true := decide_eq_true c6
              clear c6
              by_cases c7 : 0 ≤ x4_1
              · rw [if_pos c7] at H
                have c7b0 : decide (0 ≤ x4_1) = true := decide_eq_true c7
                clear c7
                have H' := Aside0.mk H
                clear H
                have p165 : 0 ≤ ((ji4) : Int) := of_decide_eq_true (by first | (with_reducible assumption) | assumption)
                have q165 : (ji4) < (l0.length : Int) := of_decide_eq_true (by first | (with_reducible assumption) | assumption)
                obtain ⟨ad165, e165, hx165_0, hx165_1⟩ := at_T40 HR0.out (ji4) p165 q165
                cases e165
                replace hx165_0 := (HB.out.cell (World.block_lt_of_cell? w _ hx165_0)).trans hx165_0
                replace hx165_1 := (HB.out.cell (World.block_lt_of_cell? w _ hx165_1)).trans hx165_1
                replace p165 := eq_true p165
                replace q165 := eq_true q165
                go_wp2_with (first | ((with_reducible refine gate_dst (N := 5) rfl ?_); refine box_event ?hg (N := 5) ?hd (cs := #[.int .i64 0, .int .i64 0]) (t := 40) ?hr ?_; (case hd => rfl); (case hg => rfl); (case hr => first | (go_simp; done) | (go_simp; rfl)); intro gb166 hg w8 hbox hb; have n0_ := sb hb; have n1_ := Aside0.mk (hbox); have n2_ := zb hg; have n3_ := zb hg; clear HB; have HB := n0_; have BK166 := n1_; have GW166 := n2_; have GE166 := n3_; clear n0_ n1_ n2_ n3_; clear hb hbox hg; have hcz9_0 := ck BK166 0; have hcz9_1 := ck BK166 1; have hfz9_0 := blk_frozen BK166.out 0; have hfz9_1 := blk_frozen BK166.out 1; have p167 : 0 ≤ (x4_1 : Int) := of_decide_eq_true (by first | (with_reducible assumption) | assumption); have q167 : x4_1 < (l0.length : Int) := of_decide_eq_true (by first | (with_reducible assumption) | assumption); obtain ⟨ad167, e167, hx167_0, hx167_1⟩ := at_T40 HR0.out x4_1 p167 q167; obtain rfl : ad165 = ad167 := (by injection e167); have hn167_0 : ad165.block ≠ gb166 := Nat.ne_of_lt (Nat.lt_of_lt_of_le (by have := World.block_lt_of_cell? _ _ hx167_0; first | rwa [add_block] at this | exact this) GW166.out); have hn167_1 : ad165.block ≠ gb166 := Nat.ne_of_lt (Nat.lt_of_lt_of_le (by have := World.block_lt_of_cell? _ _ hx167_0; first | rwa [add_block] at this | exact this) GW166.out); replace hx167_0 := (HB.out.cell (World.block_lt_of_cell? w _ hx167_0)).trans hx167_0; replace hx167_1 := (HB.out.cell (World.block_lt_of_cell? w _ hx167_1)).trans hx167_1; replace hx167_0 := (cell_far (p := ⟨gb166, 0, none⟩) (by first | (rw [add_block]; exact hn167_0) | (show (Addr.add _ _).block ≠ _; rw [add_block]; exact hn167_0) | exact hn167_0) (.int .i64 ((rd_T40 l0 (ji4)).f0))).trans hx167_0; replace hx167_1 := (cell_far (p := ⟨gb166, 0, none⟩) (by first | (rw [add_block]; exact hn167_0) | (show (Addr.add _ _).block ≠ _; rw [add_block]; exact hn167_0) | exact hn167_0) (.int .i64 ((rd_T40 l0 (ji4)).f0))).trans hx167_1; replace hx167_0 := (cell_far (p := ⟨gb166, 1, none⟩) (by first | (rw [add_block]; exact hn167_1) | (show (Addr.add _ _).block ≠ _; rw [add_block]; exact hn167_1) | exact hn167_1) (.int .i64 ((rd_T40 l0 (ji4)).f1))).trans hx167_0; replace hx167_1 := (cell_far (p := ⟨gb166, 1, none⟩) (by first | (rw [add_block]; exact hn167_1) | (show (Addr.add _ _).block ≠ _; rw [add_block]; exact hn167_1) | exact hn167_1) (.int .i64 ((rd_T40 l0 (ji4)).f1))).trans hx167_1; (try have hy167_0 := fun (n_ : Nat) => (show ((((w8.drewN n_).setCell ⟨gb166, 0, none⟩ (.int .i64 ((rd_T40 l0 (ji4)).f0))).setCell ⟨gb166, 1, none⟩ (.int .i64 ((rd_T40 l0 (ji4)).f1)))).cell? _ = some _ from hx167_0)); (try have hy167_1 := fun (n_ : Nat) => (show ((((w8.drewN n_).setCell ⟨gb166, 0, none⟩ (.int .i64 ((rd_T40 l0 (ji4)).f0))).setCell ⟨gb166, 1, none⟩ (.int .i64 ((rd_T40 l0 (ji4)).f1)))).cell? _ = some _ from hx167_1)); clear hn167_0; clear hn167_1; replace p167 := eq_true p167; replace q167 := eq_true q167; have p168 : 0 ≤ (x4_1 : Int) := of_decide_eq_true (by first | (with_reducible assumption) | assumption); have q168 : x4_1 < (l0.length : Int) := of_decide_eq_true (by first | (with_reducible assumption) | assumption); obtain ⟨ad168, e168, hx168_0, hx168_1⟩ := at_T40 HR0.out x4_1 p168 q168; obtain rfl : ad165 = ad168 := (by injection e168); have hn168_0 : ad165.block ≠ gb166 := Nat.ne_of_lt (Nat.lt_of_lt_of_le (by have := World.block_lt_of_cell? _ _ hx168_0; first | rwa [add_block] at this | exact this) GW166.out); have hn168_1 : ad165.block ≠ gb166 := Nat.ne_of_lt (Nat.lt_of_lt_of_le (by have := World.block_lt_of_cell? _ _ hx168_0; first | rwa [add_block] at this | exact this) GW166.out); replace hx168_0 := (HB.out.cell (World.block_lt_of_cell? w _ hx168_0)).trans hx168_0; replace hx168_1 := (HB.out.cell (World.block_lt_of_cell? w _ hx168_1)).trans hx168_1; replace hx168_0 := (cell_far (p := ⟨gb166, 0, none⟩) (by first | (rw [add_block]; exact hn168_0) | (show (Addr.add _ _).block ≠ _; rw [add_block]; exact hn168_0) | exact hn168_0) (.int .i64 ((rd_T40 l0 (ji4)).f0))).trans hx168_0; replace hx168_1 := (cell_far (p := ⟨gb166, 0, none⟩) (by first | (rw [add_block]; exact hn168_0) | (show (Addr.add _ _).block ≠ _; rw [add_block]; exact hn168_0) | exact hn168_0) (.int .i64 ((rd_T40 l0 (ji4)).f0))).trans hx168_1; replace hx168_0 := (cell_far (p := ⟨gb166, 1, none⟩) (by first | (rw [add_block]; exact hn168_1) | (show (Addr.add _ _).block ≠ _; rw [add_block]; exact hn168_1) | exact hn168_1) (.int .i64 ((rd_T40 l0 (ji4)).f1))).trans hx168_0; replace hx168_1 := (cell_far (p := ⟨gb166, 1, none⟩) (by first | (rw [add_block]; exact hn168_1) | (show (Addr.add _ _).block ≠ _; rw [add_block]; exact hn168_1) | exact hn168_1) (.int .i64 ((rd_T40 l0 (ji4)).f1))).trans hx168_1; (try have hy168_0 := fun (n_ : Nat) => (show ((((w8.drewN n_).setCell ⟨gb166, 0, none⟩ (.int .i64 ((rd_T40 l0 (ji4)).f0))).setCell ⟨gb166, 1, none⟩ (.int .i64 ((rd_T40 l0 (ji4)).f1)))).cell? _ = some _ from hx168_0)); (try have hy168_1 := fun (n_ : Nat) => (show ((((w8.drewN n_).setCell ⟨gb166, 0, none⟩ (.int .i64 ((rd_T40 l0 (ji4)).f0))).setCell ⟨gb166, 1, none⟩ (.int .i64 ((rd_T40 l0 (ji4)).f1)))).cell? _ = some _ from hx168_1)); clear hn168_0; clear hn168_1; replace p168 := eq_true p168; replace q168 := eq_true q168))
                repeat (go_quiet (first | ((with_reducible refine gate_dst (N := 5) rfl ?_); refine box_event ?hg (N := 5) ?hd (cs := #[.int .i64 0, .int .i64 0]) (t := 40) ?hr ?_; (case hd => rfl); (case hg => rfl); (case hr => first | (go_simp; done) | (go_simp; rfl)); intro gb166 hg w8 hbox hb; have n0_ := sb hb; have n1_ := Aside0.mk (hbox); have n2_ := zb hg; have n3_ := zb hg; clear HB; have HB := n0_; have BK166 := n1_; have GW166 := n2_; have GE166 := n3_; clear n0_ n1_ n2_ n3_; clear hb hbox hg; have hcz9_0 := ck BK166 0; have hcz9_1 := ck BK166 1; have hfz9_0 := blk_frozen BK166.out 0; have hfz9_1 := blk_frozen BK166.out 1; have p167 : 0 ≤ (x4_1 : Int) := of_decide_eq_true (by first | (with_reducible assumption) | assumption); have q167 : x4_1 < (l0.length : Int) := of_decide_eq_true (by first | (with_reducible assumption) | assumption); obtain ⟨ad167, e167, hx167_0, hx167_1⟩ := at_T40 HR0.out x4_1 p167 q167; obtain rfl : ad165 = ad167 := (by injection e167); have hn167_0 : ad165.block ≠ gb166 := Nat.ne_of_lt (Nat.lt_of_lt_of_le (by have := World.block_lt_of_cell? _ _ hx167_0; first | rwa [add_block] at this | exact this) GW166.out); have hn167_1 : ad165.block ≠ gb166 := Nat.ne_of_lt (Nat.lt_of_lt_of_le (by have := World.block_lt_of_cell? _ _ hx167_0; first | rwa [add_block] at this | exact this) GW166.out); replace hx167_0 := (HB.out.cell (World.block_lt_of_cell? w _ hx167_0)).trans hx167_0; replace hx167_1 := (HB.out.cell (World.block_lt_of_cell? w _ hx167_1)).trans hx167_1; replace hx167_0 := (cell_far (p := ⟨gb166, 0, none⟩) (by first | (rw [add_block]; exact hn167_0) | (show (Addr.add _ _).block ≠ _; rw [add_block]; exact hn167_0) | exact hn167_0) (.int .i64 ((rd_T40 l0 (ji4)).f0))).trans hx167_0; replace hx167_1 := (cell_far (p := ⟨gb166, 0, none⟩) (by first | (rw [add_block]; exact hn167_0) | (show (Addr.add _ _).block ≠ _; rw [add_block]; exact hn167_0) | exact hn167_0) (.int .i64 ((rd_T40 l0 (ji4)).f0))).trans hx167_1; replace hx167_0 := (cell_far (p := ⟨gb166, 1, none⟩) (by first | (rw [add_block]; exact hn167_1) | (show (Addr.add _ _).block ≠ _; rw [add_block]; exact hn167_1) | exact hn167_1) (.int .i64 ((rd_T40 l0 (ji4)).f1))).trans hx167_0; replace hx167_1 := (cell_far (p := ⟨gb166, 1, none⟩) (by first | (rw [add_block]; exact hn167_1) | (show (Addr.add _ _).block ≠ _; rw [add_block]; exact hn167_1) | exact hn167_1) (.int .i64 ((rd_T40 l0 (ji4)).f1))).trans hx167_1; (try have hy167_0 := fun (n_ : Nat) => (show ((((w8.drewN n_).setCell ⟨gb166, 0, none⟩ (.int .i64 ((rd_T40 l0 (ji4)).f0))).setCell ⟨gb166, 1, none⟩ (.int .i64 ((rd_T40 l0 (ji4)).f1)))).cell? _ = some _ from hx167_0)); (try have hy167_1 := fun (n_ : Nat) => (show ((((w8.drewN n_).setCell ⟨gb166, 0, none⟩ (.int .i64 ((rd_T40 l0 (ji4)).f0))).setCell ⟨gb166, 1, none⟩ (.int .i64 ((rd_T40 l0 (ji4)).f1)))).cell? _ = some _ from hx167_1)); clear hn167_0; clear hn167_1; replace p167 := eq_true p167; replace q167 := eq_true q167; have p168 : 0 ≤ (x4_1 : Int) := of_decide_eq_true (by first | (with_reducible assumption) | assumption); have q168 : x4_1 < (l0.length : Int) := of_decide_eq_true (by first | (with_reducible assumption) | assumption); obtain ⟨ad168, e168, hx168_0, hx168_1⟩ := at_T40 HR0.out x4_1 p168 q168; obtain rfl : ad165 = ad168 := (by injection e168); have hn168_0 : ad165.block ≠ gb166 := Nat.ne_of_lt (Nat.lt_of_lt_of_le (by have := World.block_lt_of_cell? _ _ hx168_0; first | rwa [add_block] at this | exact this) GW166.out); have hn168_1 : ad165.block ≠ gb166 := Nat.ne_of_lt (Nat.lt_of_lt_of_le (by have := World.block_lt_of_cell? _ _ hx168_0; first | rwa [add_block] at this | exact this) GW166.out); replace hx168_0 := (HB.out.cell (World.block_lt_of_cell? w _ hx168_0)).trans hx168_0; replace hx168_1 := (HB.out.cell (World.block_lt_of_cell? w _ hx168_1)).trans hx168_1; replace hx168_0 := (cell_far (p := ⟨gb166, 0, none⟩) (by first | (rw [add_block]; exact hn168_0) | (show (Addr.add _ _).block ≠ _; rw [add_block]; exact hn168_0) | exact hn168_0) (.int .i64 ((rd_T40 l0 (ji4)).f0))).trans hx168_0; replace hx168_1 := (cell_far (p := ⟨gb166, 0, none⟩) (by first | (rw [add_block]; exact hn168_0) | (show (Addr.add _ _).block ≠ _; rw [add_block]; exact hn168_0) | exact hn168_0) (.int .i64 ((rd_T40 l0 (ji4)).f0))).trans hx168_1; replace hx168_0 := (cell_far (p := ⟨gb166, 1, none⟩) (by first | (rw [add_block]; exact hn168_1) | (show (Addr.add _ _).block ≠ _; rw [add_block]; exact hn168_1) | exact hn168_1) (.int .i64 ((rd_T40 l0 (ji4)).f1))).trans hx168_0; replace hx168_1 := (cell_far (p := ⟨gb166, 1, none⟩) (by first | (rw [add_block]; exact hn168_1) | (show (Addr.add _ _).block ≠ _; rw [add_block]; exact hn168_1) | exact hn168_1) (.int .i64 ((rd_T40 l0 (ji4)).f1))).trans hx168_1; (try have hy168_0 := fun (n_ : Nat) => (show ((((w8.drewN n_).setCell ⟨gb166, 0, none⟩ (.int .i64 ((rd_T40 l0 (ji4)).f0))).setCell ⟨gb166, 1, none⟩ (.int .i64 ((rd_T40 l0 (ji4)).f1)))).cell? _ = some _ from hx168_0)); (try have hy168_1 := fun (n_ : Nat) => (show ((((w8.drewN n_).setCell ⟨gb166, 0, none⟩ (.int .i64 ((rd_T40 l0 (ji4)).f0))).setCell ⟨gb166, 1, none⟩ (.int .i64 ((rd_T40 l0 (ji4)).f1)))).cell? _ = some _ from hx168_1)); clear hn168_0; clear hn168_1; replace p168 := eq_true p168; replace q168 := eq_true q168)); try go_wp2_with (first | ((with_reducible refine gate_dst (N := 5) rfl ?_); refine box_event ?hg (N := 5) ?hd (cs := #[.int .i64 0, .int .i64 0]) (t := 40) ?hr ?_; (case hd => rfl); (case hg => rfl); (case hr => first | (go_simp; done) | (go_simp; rfl)); intro gb166 hg w8 hbox hb; have n0_ := sb hb; have n1_ := Aside0.mk (hbox); have n2_ := zb hg; have n3_ := zb hg; clear HB; have HB := n0_; have BK166 := n1_; have GW166 := n2_; have GE166 := n3_; clear n0_ n1_ n2_ n3_; clear hb hbox hg; have hcz9_0 := ck BK166 0; have hcz9_1 := ck BK166 1; have hfz9_0 := blk_frozen BK166.out 0; have hfz9_1 := blk_frozen BK166.out 1; have p167 : 0 ≤ (x4_1 : Int) := of_decide_eq_true (by first | (with_reducible assumption) | assumption); have q167 : x4_1 < (l0.length : Int) := of_decide_eq_true (by first | (with_reducible assumption) | assumption); obtain ⟨ad167, e167, hx167_0, hx167_1⟩ := at_T40 HR0.out x4_1 p167 q167; obtain rfl : ad165 = ad167 := (by injection e167); have hn167_0 : ad165.block ≠ gb166 := Nat.ne_of_lt (Nat.lt_of_lt_of_le (by have := World.block_lt_of_cell? _ _ hx167_0; first | rwa [add_block] at this | exact this) GW166.out); have hn167_1 : ad165.block ≠ gb166 := Nat.ne_of_lt (Nat.lt_of_lt_of_le (by have := World.block_lt_of_cell? _ _ hx167_0; first | rwa [add_block] at this | exact this) GW166.out); replace hx167_0 := (HB.out.cell (World.block_lt_of_cell? w _ hx167_0)).trans hx167_0; replace hx167_1 := (HB.out.cell (World.block_lt_of_cell? w _ hx167_1)).trans hx167_1; replace hx167_0 := (cell_far (p := ⟨gb166, 0, none⟩) (by first | (rw [add_block]; exact hn167_0) | (show (Addr.add _ _).block ≠ _; rw [add_block]; exact hn167_0) | exact hn167_0) (.int .i64 ((rd_T40 l0 (ji4)).f0))).trans hx167_0; replace hx167_1 := (cell_far (p := ⟨gb166, 0, none⟩) (by first | (rw [add_block]; exact hn167_0) | (show (Addr.add _ _).block ≠ _; rw [add_block]; exact hn167_0) | exact hn167_0) (.int .i64 ((rd_T40 l0 (ji4)).f0))).trans hx167_1; replace hx167_0 := (cell_far (p := ⟨gb166, 1, none⟩) (by first | (rw [add_block]; exact hn167_1) | (show (Addr.add _ _).block ≠ _; rw [add_block]; exact hn167_1) | exact hn167_1) (.int .i64 ((rd_T40 l0 (ji4)).f1))).trans hx167_0; replace hx167_1 := (cell_far (p := ⟨gb166, 1, none⟩) (by first | (rw [add_block]; exact hn167_1) | (show (Addr.add _ _).block ≠ _; rw [add_block]; exact hn167_1) | exact hn167_1) (.int .i64 ((rd_T40 l0 (ji4)).f1))).trans hx167_1; (try have hy167_0 := fun (n_ : Nat) => (show ((((w8.drewN n_).setCell ⟨gb166, 0, none⟩ (.int .i64 ((rd_T40 l0 (ji4)).f0))).setCell ⟨gb166, 1, none⟩ (.int .i64 ((rd_T40 l0 (ji4)).f1)))).cell? _ = some _ from hx167_0)); (try have hy167_1 := fun (n_ : Nat) => (show ((((w8.drewN n_).setCell ⟨gb166, 0, none⟩ (.int .i64 ((rd_T40 l0 (ji4)).f0))).setCell ⟨gb166, 1, none⟩ (.int .i64 ((rd_T40 l0 (ji4)).f1)))).cell? _ = some _ from hx167_1)); clear hn167_0; clear hn167_1; replace p167 := eq_true p167; replace q167 := eq_true q167; have p168 : 0 ≤ (x4_1 : Int) := of_decide_eq_true (by first | (with_reducible assumption) | assumption); have q168 : x4_1 < (l0.length : Int) := of_decide_eq_true (by first | (with_reducible assumption) | assumption); obtain ⟨ad168, e168, hx168_0, hx168_1⟩ := at_T40 HR0.out x4_1 p168 q168; obtain rfl : ad165 = ad168 := (by injection e168); have hn168_0 : ad165.block ≠ gb166 := Nat.ne_of_lt (Nat.lt_of_lt_of_le (by have := World.block_lt_of_cell? _ _ hx168_0; first | rwa [add_block] at this | exact this) GW166.out); have hn168_1 : ad165.block ≠ gb166 := Nat.ne_of_lt (Nat.lt_of_lt_of_le (by have := World.block_lt_of_cell? _ _ hx168_0; first | rwa [add_block] at this | exact this) GW166.out); replace hx168_0 := (HB.out.cell (World.block_lt_of_cell? w _ hx168_0)).trans hx168_0; replace hx168_1 := (HB.out.cell (World.block_lt_of_cell? w _ hx168_1)).trans hx168_1; replace hx168_0 := (cell_far (p := ⟨gb166, 0, none⟩) (by first | (rw [add_block]; exact hn168_0) | (show (Addr.add _ _).block ≠ _; rw [add_block]; exact hn168_0) | exact hn168_0) (.int .i64 ((rd_T40 l0 (ji4)).f0))).trans hx168_0; replace hx168_1 := (cell_far (p := ⟨gb166, 0, none⟩) (by first | (rw [add_block]; exact hn168_0) | (show (Addr.add _ _).block ≠ _; rw [add_block]; exact hn168_0) | exact hn168_0) (.int .i64 ((rd_T40 l0 (ji4)).f0))).trans hx168_1; replace hx168_0 := (cell_far (p := ⟨gb166, 1, none⟩) (by first | (rw [add_block]; exact hn168_1) | (show (Addr.add _ _).block ≠ _; rw [add_block]; exact hn168_1) | exact hn168_1) (.int .i64 ((rd_T40 l0 (ji4)).f1))).trans hx168_0; replace hx168_1 := (cell_far (p := ⟨gb166, 1, none⟩) (by first | (rw [add_block]; exact hn168_1) | (show (Addr.add _ _).block ≠ _; rw [add_block]; exact hn168_1) | exact hn168_1) (.int .i64 ((rd_T40 l0 (ji4)).f1))).trans hx168_1; (try have hy168_0 := fun (n_ : Nat) => (show ((((w8.drewN n_).setCell ⟨gb166, 0, none⟩ (.int .i64 ((rd_T40 l0 (ji4)).f0))).setCell ⟨gb166, 1, none⟩ (.int .i64 ((rd_T40 l0 (ji4)).f1)))).cell? _ = some _ from hx168_0)); (try have hy168_1 := fun (n_ : Nat) => (show ((((w8.drewN n_).setCell ⟨gb166, 0, none⟩ (.int .i64 ((rd_T40 l0 (ji4)).f0))).setCell ⟨gb166, 1, none⟩ (.int .i64 ((rd_T40 l0 (ji4)).f1)))).cell? _ = some _ from hx168_1)); clear hn168_0; clear hn168_1; replace p168 := eq_true p168; replace q168 := eq_true q168)))
                go_roundg k1
                case measure => have := HK1.out; omega
                case rel => exact ⟨(wrap64 (x3_1 + (wrap64 ((wrap64 (((rd_T40 l0 x4_1).f0) * ((rd_T40 l0 (ji4)).f1))) - (wrap64 (((rd_T40 l0 x4_1).f1) * ((rd_T40 l0 (ji4)).f0))))))), (wrap64 (x4_1 + 1)), (by first | rfl | (simp; done) | (simp only [← hji4] <;> (first | rfl | simp)) | (simp [*]; done)), (by first | rfl | (simp; done) | (simp [*]; done)), H', ⟨by have := HK1.out; omega⟩, ⟨by repeat (first | (with_reducible first | exact HB.out | apply below_alloc | apply pw_below_drewN | apply below_drew1 | refine below_set ?_ GE166.out) | exact HB.out)⟩⟩
              · rw [if_neg c7] at H
                exact absurd H (by simp)
            · rw [if_neg c6] at H
              exact absurd H (by simp)
          · rw [if_neg c5] at H
            exact absurd H (by simp)
      · rw [if_neg c2] at H
        have c2b0 : decide (x4_1 < (l0.length : Int)) = false := decide_eq_false c2
        clear c2
        obtain rfl := Option.some.inj H
        go_wp2
        repeat (go_quiet (fail); try go_wp2)
        go_ret
        exact ⟨by first | rfl | (simp [errW_none, errW_some] <;> rfl) | (simp [*, errW_none, errW_some] <;> rfl), by repeat (first | (with_reducible first | exact HB.out | apply below_alloc | apply pw_below_drewN | apply below_drew1) | exact HB.out)⟩
end Go.Proofs.YtdegladckdnhiaaDoor.PFnExactReadPolygon
