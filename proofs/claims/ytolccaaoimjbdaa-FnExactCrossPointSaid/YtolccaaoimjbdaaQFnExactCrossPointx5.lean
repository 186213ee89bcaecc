/- Contracts of functions that FnExactCrossPoint reaches, out of the lines of the kit's print. -/
import Derived.Test.YtolccaaoimjbdaaQFnExactCrossPointx0
import Derived.Test.YtolccaaoimjbdaaQFnExactCrossPointx1
import Derived.Test.YtolccaaoimjbdaaQFnExactCrossPointx2
import Derived.Test.YtolccaaoimjbdaaQFnExactCrossPointx4
namespace Go.Proofs.Ytolccaaoimjbdaa.PFnExactCrossPoint
open Go.RowKit Go.Proofs.YtolccaaoimjbdaaW.PrintWords Go.Proofs.YtolccaaoimjbdaaW.PrintLast Go.Proofs.YtolccaaoimjbdaaW.PrintMore
attribute [local go_sem] max2_int min2_int max_two min_two max_three min_three max_four min_four
set_option linter.unusedVariables false
set_option linter.unusedSimpArgs false
def laws_FnExactCrossPoint.f (k : Nat) (a0_0 : Int) (a0_1 : Int) (a1_0 : Int) (a1_1 : Int) (a2_0 : Int) (a2_1 : Int) (a3_0 : Int) (a3_1 : Int) : Option (Bool) := (laws_toPoint.f a0_0 a0_1).bind fun bt178 => ((laws_toPoint.f a1_0 a1_1).bind fun bt180 => ((laws_toPoint.f a2_0 a2_1).bind fun bt182 => ((laws_toPoint.f a3_0 a3_1).bind fun bt184 => ((spec_CrossPoint.f bt178.1 bt178.2 bt180.1 bt180.2 bt182.1 bt182.2 bt184.1 bt184.2).bind fun bt186 => ((laws_toPoint.f a0_0 a0_1).bind fun bt190 => ((laws_toPoint.f a1_0 a1_1).bind fun bt192 => ((laws_toPoint.f a2_0 a2_1).bind fun bt194 => ((laws_toPoint.f a3_0 a3_1).bind fun bt196 => ((impl_CrossPoint.f k bt190.1 bt190.2 bt192.1 bt192.2 bt194.1 bt194.2 bt196.1 bt196.2).bind fun bt198 => ((laws_eqPoint.f bt198.1 bt198.2.1 bt186.1 bt186.2.1).bind fun t202 => (if t202 = true then (if bt198.2.2 = bt186.2.2 then (some true) else (some false)) else (some false))))))))))))
theorem laws_FnExactCrossPoint.mono : ∀ a0 a1 a2 a3 a4 a5 a6 a7 k, LeO (laws_FnExactCrossPoint.f k a0 a1 a2 a3 a4 a5 a6 a7) (laws_FnExactCrossPoint.f (k + 1) a0 a1 a2 a3 a4 a5 a6 a7) := by
  intro a0 a1 a2 a3 a4 a5 a6 a7 k
  unfold laws_FnExactCrossPoint.f
  repeat' first
      | (with_reducible exact impl_CrossPoint.mono _ _ _ _ _ _ _ _ _)
      | (with_reducible exact LeO.refl _)
      | (with_reducible exact LeO.none _)
      | (with_reducible refine LeO.ite ?_ ?_)
      | (with_reducible refine LeO.bind ?_ (fun _ => ?_))
      | exact impl_CrossPoint.mono _ _ _ _ _ _ _ _ _
      | exact LeO.none _
      | refine LeO.ite ?_ ?_
      | refine LeO.bind ?_ (fun _ => ?_)
def laws_FnExactCrossPoint.T1 : Bool × List (List Nat × List Nat) := (true, [([], []), ([0], [0]), ([], []), ([2, 1], [2]), ([], []), ([4, 3], [4]), ([], []), ([6, 5], [6]), ([1, 3, 5, 7, 7], [1, 3, 5, 7]), ([8], [8]), ([9], [9]), ([9], [9]), ([], []), ([12, 10, 8, 0, 1, 2, 3, 4, 5, 6, 7, 8, 9, 10, 12], [10, 12]), ([11, 13, 0, 1, 2, 3, 4, 5, 6, 7, 8, 9, 10, 11, 12, 13], [11])])
def laws_FnExactCrossPoint.B1 : List Nat := [0, 1, 0, 7, 0, 31, 0, 127, 255, 511, 1023, 1023, 0, 6143, 16383]
theorem laws_FnExactCrossPoint.tab1 : rtab .any (opsOf Try.f8 1) = laws_FnExactCrossPoint.T1 := by kernel_rfl
theorem laws_FnExactCrossPoint.bits1 : waitsOk laws_FnExactCrossPoint.T1.2 laws_FnExactCrossPoint.B1 = true := by kernel_rfl
def laws_FnExactCrossPoint.T2 : Bool × List (List Nat × List Nat) := (true, [([], []), ([0], [0]), ([], []), ([2, 1], [2]), ([], []), ([4, 3], [4]), ([], []), ([6, 5], [6]), ([1, 3, 5, 7, 7], [1, 3, 5, 7]), ([8], [8]), ([9], [9]), ([9], [9]), ([], []), ([12, 10, 8, 0, 1, 2, 3, 4, 5, 6, 7, 8, 9, 10, 12], [10, 12]), ([11, 13, 0, 1, 2, 3, 4, 5, 6, 7, 8, 9, 10, 11, 12, 13], [11])])
def laws_FnExactCrossPoint.B2 : List Nat := [0, 1, 0, 7, 0, 31, 0, 127, 255, 511, 1023, 1023, 0, 6143, 16383]
theorem laws_FnExactCrossPoint.tab2 : rtab .any (opsOf Try.f8 2) = laws_FnExactCrossPoint.T2 := by kernel_rfl
theorem laws_FnExactCrossPoint.bits2 : waitsOk laws_FnExactCrossPoint.T2.2 laws_FnExactCrossPoint.B2 = true := by kernel_rfl
set_option maxHeartbeats 8000000 in
set_option maxRecDepth 100000 in
theorem laws_FnExactCrossPoint.calls (k : Nat) (a0_0 : Int) (a0_1 : Int) (a1_0 : Int) (a1_1 : Int) (a2_0 : Int) (a2_1 : Int) (a3_0 : Int) (a3_1 : Int) (w : World) (h : laws_FnExactCrossPoint.f k a0_0 a0_1 a1_0 a1_1 a2_0 a2_1 a3_0 a3_1 = some true) :
    Calls Try.prog 8 #[.agg #[.int .i64 a0_0, .int .i64 a0_1], .agg #[.int .i64 a1_0, .int .i64 a1_1], .agg #[.int .i64 a2_0, .int .i64 a2_1], .agg #[.int .i64 a3_0, .int .i64 a3_1]] w fun e w' => e = .returned (.bool true) ∧ Below w.heap.size w w' := by
  have hu23 := Try.underlying23
  have hu25 := Try.underlying25
  have HB := Aside0.mk (Below.refl w.heap.size w)
  have H : ((laws_toPoint.f a0_0 a0_1).bind fun bt178 => ((laws_toPoint.f a1_0 a1_1).bind fun bt180 => ((laws_toPoint.f a2_0 a2_1).bind fun bt182 => ((laws_toPoint.f a3_0 a3_1).bind fun bt184 => ((spec_CrossPoint.f bt178.1 bt178.2 bt180.1 bt180.2 bt182.1 bt182.2 bt184.1 bt184.2).bind fun bt186 => ((laws_toPoint.f a0_0 a0_1).bind fun bt190 => ((laws_toPoint.f a1_0 a1_1).bind fun bt192 => ((laws_toPoint.f a2_0 a2_1).bind fun bt194 => ((laws_toPoint.f a3_0 a3_1).bind fun bt196 => ((impl_CrossPoint.f k bt190.1 bt190.2 bt192.1 bt192.2 bt194.1 bt194.2 bt196.1 bt196.2).bind fun bt198 => ((laws_eqPoint.f bt198.1 bt198.2.1 bt186.1 bt186.2.1).bind fun t202 => (if t202 = true then (if bt198.2.2 = bt186.2.2 then (some true) else (some false)) else (some false))))))))))))) = some true := h
  clear h
  replace H := Option.bind_eq_some_iff.mp H
  obtain ⟨⟨t178, t179⟩, A50, H⟩ := H
  replace H : ((laws_toPoint.f a1_0 a1_1).bind fun bt180 => ((laws_toPoint.f a2_0 a2_1).bind fun bt182 => ((laws_toPoint.f a3_0 a3_1).bind fun bt184 => ((spec_CrossPoint.f t178 t179 bt180.1 bt180.2 bt182.1 bt182.2 bt184.1 bt184.2).bind fun bt186 => ((laws_toPoint.f a0_0 a0_1).bind fun bt190 => ((laws_toPoint.f a1_0 a1_1).bind fun bt192 => ((laws_toPoint.f a2_0 a2_1).bind fun bt194 => ((laws_toPoint.f a3_0 a3_1).bind fun bt196 => ((impl_CrossPoint.f k bt190.1 bt190.2 bt192.1 bt192.2 bt194.1 bt194.2 bt196.1 bt196.2).bind fun bt198 => ((laws_eqPoint.f bt198.1 bt198.2.1 bt186.1 bt186.2.1).bind fun t202 => (if t202 = true then (if bt198.2.2 = bt186.2.2 then (some true) else (some false)) else (some false)))))))))))) = some true := H
  have A5 := Aside0.mk A50
  clear A50
  replace H := Option.bind_eq_some_iff.mp H
  obtain ⟨⟨t180, t181⟩, A60, H⟩ := H
  replace H : ((laws_toPoint.f a2_0 a2_1).bind fun bt182 => ((laws_toPoint.f a3_0 a3_1).bind fun bt184 => ((spec_CrossPoint.f t178 t179 t180 t181 bt182.1 bt182.2 bt184.1 bt184.2).bind fun bt186 => ((laws_toPoint.f a0_0 a0_1).bind fun bt190 => ((laws_toPoint.f a1_0 a1_1).bind fun bt192 => ((laws_toPoint.f a2_0 a2_1).bind fun bt194 => ((laws_toPoint.f a3_0 a3_1).bind fun bt196 => ((impl_CrossPoint.f k bt190.1 bt190.2 bt192.1 bt192.2 bt194.1 bt194.2 bt196.1 bt196.2).bind fun bt198 => ((laws_eqPoint.f bt198.1 bt198.2.1 bt186.1 bt186.2.1).bind fun t202 => (if t202 = true then (if bt198.2.2 = bt186.2.2 then (some true) else (some false)) else (some false))))))))))) = some true := H
  have A6 := Aside0.mk A60
  clear A60
  replace H := Option.bind_eq_some_iff.mp H
  obtain ⟨⟨t182, t183⟩, A70, H⟩ := H
  replace H : ((laws_toPoint.f a3_0 a3_1).bind fun bt184 => ((spec_CrossPoint.f t178 t179 t180 t181 t182 t183 bt184.1 bt184.2).bind fun bt186 => ((laws_toPoint.f a0_0 a0_1).bind fun bt190 => ((laws_toPoint.f a1_0 a1_1).bind fun bt192 => ((laws_toPoint.f a2_0 a2_1).bind fun bt194 => ((laws_toPoint.f a3_0 a3_1).bind fun bt196 => ((impl_CrossPoint.f k bt190.1 bt190.2 bt192.1 bt192.2 bt194.1 bt194.2 bt196.1 bt196.2).bind fun bt198 => ((laws_eqPoint.f bt198.1 bt198.2.1 bt186.1 bt186.2.1).bind fun t202 => (if t202 = true then (if bt198.2.2 = bt186.2.2 then (some true) else (some false)) else (some false)))))))))) = some true := H
  have A7 := Aside0.mk A70
  clear A70
  replace H := Option.bind_eq_some_iff.mp H
  obtain ⟨⟨t184, t185⟩, A80, H⟩ := H
  replace H : ((spec_CrossPoint.f t178 t179 t180 t181 t182 t183 t184 t185).bind fun bt186 => ((laws_toPoint.f a0_0 a0_1).bind fun bt190 => ((laws_toPoint.f a1_0 a1_1).bind fun bt192 => ((laws_toPoint.f a2_0 a2_1).bind fun bt194 => ((laws_toPoint.f a3_0 a3_1).bind fun bt196 => ((impl_CrossPoint.f k bt190.1 bt190.2 bt192.1 bt192.2 bt194.1 bt194.2 bt196.1 bt196.2).bind fun bt198 => ((laws_eqPoint.f bt198.1 bt198.2.1 bt186.1 bt186.2.1).bind fun t202 => (if t202 = true then (if bt198.2.2 = bt186.2.2 then (some true) else (some false)) else (some false))))))))) = some true := H
  have A8 := Aside0.mk A80
  clear A80
  replace H := Option.bind_eq_some_iff.mp H
  obtain ⟨⟨t186, t187, t188⟩, A90, H⟩ := H
  replace H : ((laws_toPoint.f a0_0 a0_1).bind fun bt190 => ((laws_toPoint.f a1_0 a1_1).bind fun bt192 => ((laws_toPoint.f a2_0 a2_1).bind fun bt194 => ((laws_toPoint.f a3_0 a3_1).bind fun bt196 => ((impl_CrossPoint.f k bt190.1 bt190.2 bt192.1 bt192.2 bt194.1 bt194.2 bt196.1 bt196.2).bind fun bt198 => ((laws_eqPoint.f bt198.1 bt198.2.1 t186 t187).bind fun t202 => (if t202 = true then (if bt198.2.2 = t188 then (some true) else (some false)) else (some false)))))))) = some true := H
  have A9 := Aside0.mk A90
  clear A90
  replace H := Option.bind_eq_some_iff.mp H
  obtain ⟨⟨t190, t191⟩, A100, H⟩ := H
  replace H : ((laws_toPoint.f a1_0 a1_1).bind fun bt192 => ((laws_toPoint.f a2_0 a2_1).bind fun bt194 => ((laws_toPoint.f a3_0 a3_1).bind fun bt196 => ((impl_CrossPoint.f k t190 t191 bt192.1 bt192.2 bt194.1 bt194.2 bt196.1 bt196.2).bind fun bt198 => ((laws_eqPoint.f bt198.1 bt198.2.1 t186 t187).bind fun t202 => (if t202 = true then (if bt198.2.2 = t188 then (some true) else (some false)) else (some false))))))) = some true := H
  have A10 := Aside0.mk A100
  clear A100
  replace H := Option.bind_eq_some_iff.mp H
  obtain ⟨⟨t192, t193⟩, A110, H⟩ := H
  replace H : ((laws_toPoint.f a2_0 a2_1).bind fun bt194 => ((laws_toPoint.f a3_0 a3_1).bind fun bt196 => ((impl_CrossPoint.f k t190 t191 t192 t193 bt194.1 bt194.2 bt196.1 bt196.2).bind fun bt198 => ((laws_eqPoint.f bt198.1 bt198.2.1 t186 t187).bind fun t202 => (if t202 = true then (if bt198.2.2 = t188 then (some true) else (some false)) else (some false)))))) = some true := H
  have A11 := Aside0.mk A110
  clear A110
  replace H := Option.bind_eq_some_iff.mp H
  obtain ⟨⟨t194, t195⟩, A120, H⟩ := H
  replace H : ((laws_toPoint.f a3_0 a3_1).bind fun bt196 => ((impl_CrossPoint.f k t190 t191 t192 t193 t194 t195 bt196.1 bt196.2).bind fun bt198 => ((laws_eqPoint.f bt198.1 bt198.2.1 t186 t187).bind fun t202 => (if t202 = true then (if bt198.2.2 = t188 then (some true) else (some false)) else (some false))))) = some true := H
  have A12 := Aside0.mk A120
  clear A120
  replace H := Option.bind_eq_some_iff.mp H
  obtain ⟨⟨t196, t197⟩, A130, H⟩ := H
  replace H : ((impl_CrossPoint.f k t190 t191 t192 t193 t194 t195 t196 t197).bind fun bt198 => ((laws_eqPoint.f bt198.1 bt198.2.1 t186 t187).bind fun t202 => (if t202 = true then (if bt198.2.2 = t188 then (some true) else (some false)) else (some false)))) = some true := H
  have A13 := Aside0.mk A130
  clear A130
  replace H := Option.bind_eq_some_iff.mp H
  obtain ⟨⟨t198, t199, t200⟩, A140, H⟩ := H
  replace H : ((laws_eqPoint.f t198 t199 t186 t187).bind fun t202 => (if t202 = true then (if t200 = t188 then (some true) else (some false)) else (some false))) = some true := H
  have A14 := Aside0.mk A140
  clear A140
  replace H := Option.bind_eq_some_iff.mp H
  obtain ⟨t202, A150, H⟩ := H
  replace H : (if t202 = true then (if t200 = t188 then (some true) else (some false)) else (some false)) = some true := H
  have A15 := Aside0.mk A150
  clear A150
  by_cases c16 : t202 = true
  · subst c16
    have H1 : (if t200 = t188 then (some true) else (some false)) = some true := by rw [if_pos rfl] at H; exact H
    clear H
    have H := H1
    clear H1
    by_cases c17 : t200 = t188
    · rw [if_pos c17] at H
      have c17b0 : (t200 == t188) = true := beq_iff_eq.mpr c17
      have c17b1 : (t200 != t188) = false := bne_eq_false_iff_eq.mpr c17
      clear c17
      clear H
      go_enter Try.func8, Try.ntmps8
      try go_wp2_with (first | ((with_reducible refine gate_dst (N := 4) rfl ?_); refine box_event ?hg (N := 4) ?hd (cs := #[.int .i64 a0_0, .int .i64 a0_1]) (t := 23) ?hr ?_; (case hd => rfl); (case hg => rfl); (case hr => first | (go_simp; done) | (go_simp; rfl)); intro gb174 hg w18 hbox hb; have n0_ := sb hb; have n1_ := Aside0.mk (hbox); have n2_ := zb hg; have n3_ := zb hg; clear HB; have HB := n0_; have BK174 := n1_; have GW174 := n2_; have GE174 := n3_; clear n0_ n1_ n2_ n3_; clear hb hbox hg) | ((with_reducible refine gate_dst (N := 5) rfl ?_); refine box_event ?hg (N := 5) ?hd (cs := #[.int .i64 a1_0, .int .i64 a1_1]) (t := 23) ?hr ?_; (case hd => rfl); (case hg => rfl); (case hr => first | (go_simp; done) | (go_simp; rfl)); intro gb175 hg w19 hbox hb; have n0_ := kb BK174 hb; have n1_ := sb hb; have n2_ := Aside0.mk (hbox); have n3_ := zb hg; have n4_ := zb hg; have n5_ := nl BK174 hg; have n6_ := ng BK174 hg; clear BK174; clear HB; have BK174 := n0_; have HB := n1_; have BK175 := n2_; have GW175 := n3_; have GE175 := n4_; have NB174_175 := n5_; have NB175_174 := n6_; clear n0_ n1_ n2_ n3_ n4_ n5_ n6_; clear hb hbox hg) | ((with_reducible refine gate_dst (N := 6) rfl ?_); refine box_event ?hg (N := 6) ?hd (cs := #[.int .i64 a2_0, .int .i64 a2_1]) (t := 23) ?hr ?_; (case hd => rfl); (case hg => rfl); (case hr => first | (go_simp; done) | (go_simp; rfl)); intro gb176 hg w20 hbox hb; have n0_ := kb BK174 hb; have n1_ := kb BK175 hb; have n2_ := sb hb; have n3_ := Aside0.mk (hbox); have n4_ := zb hg; have n5_ := zb hg; have n6_ := nl BK174 hg; have n7_ := ng BK174 hg; have n8_ := nl BK175 hg; have n9_ := ng BK175 hg; clear BK174; clear BK175; clear HB; have BK174 := n0_; have BK175 := n1_; have HB := n2_; have BK176 := n3_; have GW176 := n4_; have GE176 := n5_; have NB174_176 := n6_; have NB176_174 := n7_; have NB175_176 := n8_; have NB176_175 := n9_; clear n0_ n1_ n2_ n3_ n4_ n5_ n6_ n7_ n8_ n9_; clear hb hbox hg) | ((with_reducible refine gate_dst (N := 7) rfl ?_); refine box_event ?hg (N := 7) ?hd (cs := #[.int .i64 a3_0, .int .i64 a3_1]) (t := 23) ?hr ?_; (case hd => rfl); (case hg => rfl); (case hr => first | (go_simp; done) | (go_simp; rfl)); intro gb177 hg w21 hbox hb; have n0_ := kb BK174 hb; have n1_ := kb BK175 hb; have n2_ := kb BK176 hb; have n3_ := sb hb; have n4_ := Aside0.mk (hbox); have n5_ := zb hg; have n6_ := zb hg; have n7_ := nl BK174 hg; have n8_ := ng BK174 hg; have n9_ := nl BK175 hg; have n10_ := ng BK175 hg; have n11_ := nl BK176 hg; have n12_ := ng BK176 hg; clear BK174; clear BK175; clear BK176; clear HB; have BK174 := n0_; have BK175 := n1_; have BK176 := n2_; have HB := n3_; have BK177 := n4_; have GW177 := n5_; have GE177 := n6_; have NB174_177 := n7_; have NB177_174 := n8_; have NB175_177 := n9_; have NB177_175 := n10_; have NB176_177 := n11_; have NB177_176 := n12_; clear n0_ n1_ n2_ n3_ n4_ n5_ n6_ n7_ n8_ n9_ n10_ n11_ n12_; clear hb hbox hg))
      have n0_ := Aside0.mk (blk_drew BK174.out)
      have n1_ := Aside0.mk (blk_drew BK175.out)
      have n2_ := Aside0.mk (blk_drew BK176.out)
      have n3_ := Aside0.mk (blk_drew BK177.out)
      have n4_ := Aside0.mk (below_drew1 HB.out)
      clear BK174
      clear BK175
      clear BK176
      clear BK177
      clear HB
      have BK174 := n0_
      have BK175 := n1_
      have BK176 := n2_
      have BK177 := n3_
      have HB := n4_
      clear n0_ n1_ n2_ n3_ n4_
      refine start_ (n := 15) (S := fun w' => w'.cell? ⟨gb174, 0, none⟩ = some (.int .i64 a0_0) ∧ w'.cell? ⟨gb174, 1, none⟩ = some (.int .i64 a0_1) ∧ w'.cell? ⟨gb175, 0, none⟩ = some (.int .i64 a1_0) ∧ w'.cell? ⟨gb175, 1, none⟩ = some (.int .i64 a1_1) ∧ w'.cell? ⟨gb176, 0, none⟩ = some (.int .i64 a2_0) ∧ w'.cell? ⟨gb176, 1, none⟩ = some (.int .i64 a2_1) ∧ w'.cell? ⟨gb177, 0, none⟩ = some (.int .i64 a3_0) ∧ w'.cell? ⟨gb177, 1, none⟩ = some (.int .i64 a3_1)) (ds := []) #[false, false, false, false, false, false, false, false, false, false, false, false, false, false, false] (by kernel_rfl) rfl rfl ⟨(blk_cell BK174.out 0).trans rfl, (blk_cell BK174.out 1).trans rfl, (blk_cell BK175.out 0).trans rfl, (blk_cell BK175.out 1).trans rfl, (blk_cell BK176.out 0).trans rfl, (blk_cell BK176.out 1).trans rfl, (blk_cell BK177.out 0).trans rfl, (blk_cell BK177.out 1).trans rfl⟩ (fun hHeld => ?_); refine with_tabW laws_FnExactCrossPoint.tab1 laws_FnExactCrossPoint.bits1 (fun HT_ HW_ => ?_)
      generalize w21.drew = w22 at BK174 BK175 BK176 BK177 HB hHeld ⊢
      refine take_ (i := 0) (N := some 14) (v := ?_) (a' := ?_) #[true, false, false, false, false, false, false, false, false, false, false, false, false, false, false] rfl rfl (take_ofW HT_.out HW_.out (by kernel_rfl)) (fun _ _ _ h => h) (Or.inl ⟨by rfl, ?_⟩) hHeld ?_ ?_
      rotate_left
      · rintro w' ⟨s0, s1, s2, s3, s4, s5, s6, s7⟩
        go_simp
        with_reducible rfl
      rotate_left
      · exact pa
      refine take_ (i := 2) (N := some 16) (v := ?_) (a' := ?_) #[true, false, true, false, false, false, false, false, false, false, false, false, false, false, false] rfl rfl (take_ofW HT_.out HW_.out (by kernel_rfl)) (fun _ _ _ h => h) (Or.inl ⟨by rfl, ?_⟩) hHeld ?_ ?_
      rotate_left
      · rintro w' ⟨s0, s1, s2, s3, s4, s5, s6, s7⟩
        go_simp
        with_reducible rfl
      rotate_left
      · exact pa
      refine take_ (i := 4) (N := some 18) (v := ?_) (a' := ?_) #[true, false, true, false, true, false, false, false, false, false, false, false, false, false, false] rfl rfl (take_ofW HT_.out HW_.out (by kernel_rfl)) (fun _ _ _ h => h) (Or.inl ⟨by rfl, ?_⟩) hHeld ?_ ?_
      rotate_left
      · rintro w' ⟨s0, s1, s2, s3, s4, s5, s6, s7⟩
        go_simp
        with_reducible rfl
      rotate_left
      · exact pa
      refine take_ (i := 6) (N := some 20) (v := ?_) (a' := ?_) #[true, false, true, false, true, false, true, false, false, false, false, false, false, false, false] rfl rfl (take_ofW HT_.out HW_.out (by kernel_rfl)) (fun _ _ _ h => h) (Or.inl ⟨by rfl, ?_⟩) hHeld ?_ ?_
      rotate_left
      · rintro w' ⟨s0, s1, s2, s3, s4, s5, s6, s7⟩
        go_simp
        with_reducible rfl
      rotate_left
      · exact pa
      refine join_ (σ := Nat) 2 #[true, true, true, true, true, true, true, true, true, true, true, true, true, false, false] (fun s_ => [(15, .agg #[.int .i64 t178, .int .i64 t179]), (17, .agg #[.int .i64 t180, .int .i64 t181]), (19, .agg #[.int .i64 t182, .int .i64 t183]), (21, .agg #[.int .i64 t184, .int .i64 t185]), (22, .tuple #[.agg #[.int .i64 t186, .int .i64 t187], .int .i64 t188]), (9, .pointer (some ⟨s_, 0, none⟩)), (13, .tuple #[.agg #[.int .i64 t186, .int .i64 t187], .int .i64 t188]), (23, .agg #[.int .i64 t186, .int .i64 t187]), (24, .int .i64 t188)]) (fun s_ w' => (w'.cell? ⟨gb174, 0, none⟩ = some (.int .i64 a0_0) ∧ w'.cell? ⟨gb174, 1, none⟩ = some (.int .i64 a0_1) ∧ w'.cell? ⟨gb175, 0, none⟩ = some (.int .i64 a1_0) ∧ w'.cell? ⟨gb175, 1, none⟩ = some (.int .i64 a1_1) ∧ w'.cell? ⟨gb176, 0, none⟩ = some (.int .i64 a2_0) ∧ w'.cell? ⟨gb176, 1, none⟩ = some (.int .i64 a2_1) ∧ w'.cell? ⟨gb177, 0, none⟩ = some (.int .i64 a3_0) ∧ w'.cell? ⟨gb177, 1, none⟩ = some (.int .i64 a3_1)) ∧ (w'.heap[gb174]? = some (.cells #[.int .i64 a0_0, .int .i64 a0_1] 23 (0, 0))) ∧ (w'.heap[gb175]? = some (.cells #[.int .i64 a1_0, .int .i64 a1_1] 23 (0, 0))) ∧ (w'.heap[gb176]? = some (.cells #[.int .i64 a2_0, .int .i64 a2_1] 23 (0, 0))) ∧ (w'.heap[gb177]? = some (.cells #[.int .i64 a3_0, .int .i64 a3_1] 23 (0, 0))) ∧ (w'.heap[s_]? = some (.cells #[.int .i64 0, .int .i64 0] 25 (0, 0))) ∧ (w.heap.size ≤ s_) ∧ (w.heap.size ≤ s_) ∧ (gb174 ≠ s_) ∧ (s_ ≠ gb174) ∧ (gb175 ≠ s_) ∧ (s_ ≠ gb175) ∧ (gb176 ≠ s_) ∧ (s_ ≠ gb176) ∧ (gb177 ≠ s_) ∧ (s_ ≠ gb177) ∧ (Below w.heap.size w w')) ?_ ?_
      rotate_left
      · intro hJ1_3_5_7_8_12
        refine join_ (σ := Unit) 3 #[true, true, true, true, true, true, true, true, true, true, true, true, false, false, false] (fun s_ => [(15, .agg #[.int .i64 t178, .int .i64 t179]), (17, .agg #[.int .i64 t180, .int .i64 t181]), (19, .agg #[.int .i64 t182, .int .i64 t183]), (21, .agg #[.int .i64 t184, .int .i64 t185]), (22, .tuple #[.agg #[.int .i64 t186, .int .i64 t187], .int .i64 t188]), (13, .tuple #[.agg #[.int .i64 t186, .int .i64 t187], .int .i64 t188]), (23, .agg #[.int .i64 t186, .int .i64 t187]), (24, .int .i64 t188)]) (fun s_ w' => (w'.cell? ⟨gb174, 0, none⟩ = some (.int .i64 a0_0) ∧ w'.cell? ⟨gb174, 1, none⟩ = some (.int .i64 a0_1) ∧ w'.cell? ⟨gb175, 0, none⟩ = some (.int .i64 a1_0) ∧ w'.cell? ⟨gb175, 1, none⟩ = some (.int .i64 a1_1) ∧ w'.cell? ⟨gb176, 0, none⟩ = some (.int .i64 a2_0) ∧ w'.cell? ⟨gb176, 1, none⟩ = some (.int .i64 a2_1) ∧ w'.cell? ⟨gb177, 0, none⟩ = some (.int .i64 a3_0) ∧ w'.cell? ⟨gb177, 1, none⟩ = some (.int .i64 a3_1)) ∧ (w'.heap[gb174]? = some (.cells #[.int .i64 a0_0, .int .i64 a0_1] 23 (0, 0))) ∧ (w'.heap[gb175]? = some (.cells #[.int .i64 a1_0, .int .i64 a1_1] 23 (0, 0))) ∧ (w'.heap[gb176]? = some (.cells #[.int .i64 a2_0, .int .i64 a2_1] 23 (0, 0))) ∧ (w'.heap[gb177]? = some (.cells #[.int .i64 a3_0, .int .i64 a3_1] 23 (0, 0))) ∧ (Below w.heap.size w w')) ?_ ?_
        rotate_left
        · intro hJ1_3_5_7_8
          refine join_ (σ := Nat) 6 #[true, true, true, true, true, true, true, true, false, false, false, false, true, false, false] (fun s_ => [(15, .agg #[.int .i64 t178, .int .i64 t179]), (17, .agg #[.int .i64 t180, .int .i64 t181]), (19, .agg #[.int .i64 t182, .int .i64 t183]), (21, .agg #[.int .i64 t184, .int .i64 t185]), (9, .pointer (some ⟨s_, 0, none⟩))]) (fun s_ w' => (w'.cell? ⟨gb174, 0, none⟩ = some (.int .i64 a0_0) ∧ w'.cell? ⟨gb174, 1, none⟩ = some (.int .i64 a0_1) ∧ w'.cell? ⟨gb175, 0, none⟩ = some (.int .i64 a1_0) ∧ w'.cell? ⟨gb175, 1, none⟩ = some (.int .i64 a1_1) ∧ w'.cell? ⟨gb176, 0, none⟩ = some (.int .i64 a2_0) ∧ w'.cell? ⟨gb176, 1, none⟩ = some (.int .i64 a2_1) ∧ w'.cell? ⟨gb177, 0, none⟩ = some (.int .i64 a3_0) ∧ w'.cell? ⟨gb177, 1, none⟩ = some (.int .i64 a3_1)) ∧ (w'.heap[gb174]? = some (.cells #[.int .i64 a0_0, .int .i64 a0_1] 23 (0, 0))) ∧ (w'.heap[gb175]? = some (.cells #[.int .i64 a1_0, .int .i64 a1_1] 23 (0, 0))) ∧ (w'.heap[gb176]? = some (.cells #[.int .i64 a2_0, .int .i64 a2_1] 23 (0, 0))) ∧ (w'.heap[gb177]? = some (.cells #[.int .i64 a3_0, .int .i64 a3_1] 23 (0, 0))) ∧ (w'.heap[s_]? = some (.cells #[.int .i64 0, .int .i64 0] 25 (0, 0))) ∧ (w.heap.size ≤ s_) ∧ (w.heap.size ≤ s_) ∧ (gb174 ≠ s_) ∧ (s_ ≠ gb174) ∧ (gb175 ≠ s_) ∧ (s_ ≠ gb175) ∧ (gb176 ≠ s_) ∧ (s_ ≠ gb176) ∧ (gb177 ≠ s_) ∧ (s_ ≠ gb177) ∧ (Below w.heap.size w w')) ?_ ?_
          rotate_left
          · intro hJ1_3_5_7_12
            refine join_ (σ := Unit) 7 #[true, true, true, true, true, true, true, true, false, false, false, false, false, false, false] (fun s_ => [(15, .agg #[.int .i64 t178, .int .i64 t179]), (17, .agg #[.int .i64 t180, .int .i64 t181]), (19, .agg #[.int .i64 t182, .int .i64 t183]), (21, .agg #[.int .i64 t184, .int .i64 t185])]) (fun s_ w' => (w'.cell? ⟨gb174, 0, none⟩ = some (.int .i64 a0_0) ∧ w'.cell? ⟨gb174, 1, none⟩ = some (.int .i64 a0_1) ∧ w'.cell? ⟨gb175, 0, none⟩ = some (.int .i64 a1_0) ∧ w'.cell? ⟨gb175, 1, none⟩ = some (.int .i64 a1_1) ∧ w'.cell? ⟨gb176, 0, none⟩ = some (.int .i64 a2_0) ∧ w'.cell? ⟨gb176, 1, none⟩ = some (.int .i64 a2_1) ∧ w'.cell? ⟨gb177, 0, none⟩ = some (.int .i64 a3_0) ∧ w'.cell? ⟨gb177, 1, none⟩ = some (.int .i64 a3_1)) ∧ (w'.heap[gb174]? = some (.cells #[.int .i64 a0_0, .int .i64 a0_1] 23 (0, 0))) ∧ (w'.heap[gb175]? = some (.cells #[.int .i64 a1_0, .int .i64 a1_1] 23 (0, 0))) ∧ (w'.heap[gb176]? = some (.cells #[.int .i64 a2_0, .int .i64 a2_1] 23 (0, 0))) ∧ (w'.heap[gb177]? = some (.cells #[.int .i64 a3_0, .int .i64 a3_1] 23 (0, 0))) ∧ (Below w.heap.size w w')) ?_ ?_
            rotate_left
            · intro hJ1_3_5_7
              refine join_ (σ := Nat) 7 #[true, true, true, true, true, true, true, false, false, false, false, false, true, false, false] (fun s_ => [(15, .agg #[.int .i64 t178, .int .i64 t179]), (17, .agg #[.int .i64 t180, .int .i64 t181]), (19, .agg #[.int .i64 t182, .int .i64 t183]), (9, .pointer (some ⟨s_, 0, none⟩))]) (fun s_ w' => (w'.cell? ⟨gb174, 0, none⟩ = some (.int .i64 a0_0) ∧ w'.cell? ⟨gb174, 1, none⟩ = some (.int .i64 a0_1) ∧ w'.cell? ⟨gb175, 0, none⟩ = some (.int .i64 a1_0) ∧ w'.cell? ⟨gb175, 1, none⟩ = some (.int .i64 a1_1) ∧ w'.cell? ⟨gb176, 0, none⟩ = some (.int .i64 a2_0) ∧ w'.cell? ⟨gb176, 1, none⟩ = some (.int .i64 a2_1) ∧ w'.cell? ⟨gb177, 0, none⟩ = some (.int .i64 a3_0) ∧ w'.cell? ⟨gb177, 1, none⟩ = some (.int .i64 a3_1)) ∧ (w'.heap[gb174]? = some (.cells #[.int .i64 a0_0, .int .i64 a0_1] 23 (0, 0))) ∧ (w'.heap[gb175]? = some (.cells #[.int .i64 a1_0, .int .i64 a1_1] 23 (0, 0))) ∧ (w'.heap[gb176]? = some (.cells #[.int .i64 a2_0, .int .i64 a2_1] 23 (0, 0))) ∧ (w'.heap[gb177]? = some (.cells #[.int .i64 a3_0, .int .i64 a3_1] 23 (0, 0))) ∧ (w'.heap[s_]? = some (.cells #[.int .i64 0, .int .i64 0] 25 (0, 0))) ∧ (w.heap.size ≤ s_) ∧ (w.heap.size ≤ s_) ∧ (gb174 ≠ s_) ∧ (s_ ≠ gb174) ∧ (gb175 ≠ s_) ∧ (s_ ≠ gb175) ∧ (gb176 ≠ s_) ∧ (s_ ≠ gb176) ∧ (gb177 ≠ s_) ∧ (s_ ≠ gb177) ∧ (Below w.heap.size w w')) ?_ ?_
              rotate_left
              · intro hJ1_3_5_12
                refine join_ (σ := Unit) 8 #[true, true, true, true, true, true, true, false, false, false, false, false, false, false, false] (fun s_ => [(15, .agg #[.int .i64 t178, .int .i64 t179]), (17, .agg #[.int .i64 t180, .int .i64 t181]), (19, .agg #[.int .i64 t182, .int .i64 t183])]) (fun s_ w' => (w'.cell? ⟨gb174, 0, none⟩ = some (.int .i64 a0_0) ∧ w'.cell? ⟨gb174, 1, none⟩ = some (.int .i64 a0_1) ∧ w'.cell? ⟨gb175, 0, none⟩ = some (.int .i64 a1_0) ∧ w'.cell? ⟨gb175, 1, none⟩ = some (.int .i64 a1_1) ∧ w'.cell? ⟨gb176, 0, none⟩ = some (.int .i64 a2_0) ∧ w'.cell? ⟨gb176, 1, none⟩ = some (.int .i64 a2_1) ∧ w'.cell? ⟨gb177, 0, none⟩ = some (.int .i64 a3_0) ∧ w'.cell? ⟨gb177, 1, none⟩ = some (.int .i64 a3_1)) ∧ (w'.heap[gb174]? = some (.cells #[.int .i64 a0_0, .int .i64 a0_1] 23 (0, 0))) ∧ (w'.heap[gb175]? = some (.cells #[.int .i64 a1_0, .int .i64 a1_1] 23 (0, 0))) ∧ (w'.heap[gb176]? = some (.cells #[.int .i64 a2_0, .int .i64 a2_1] 23 (0, 0))) ∧ (w'.heap[gb177]? = some (.cells #[.int .i64 a3_0, .int .i64 a3_1] 23 (0, 0))) ∧ (Below w.heap.size w w')) ?_ ?_
                rotate_left
                · intro hJ1_3_5
                  refine join_ (σ := Nat) 8 #[true, true, true, true, true, false, true, false, false, false, false, false, true, false, false] (fun s_ => [(15, .agg #[.int .i64 t178, .int .i64 t179]), (17, .agg #[.int .i64 t180, .int .i64 t181]), (9, .pointer (some ⟨s_, 0, none⟩))]) (fun s_ w' => (w'.cell? ⟨gb174, 0, none⟩ = some (.int .i64 a0_0) ∧ w'.cell? ⟨gb174, 1, none⟩ = some (.int .i64 a0_1) ∧ w'.cell? ⟨gb175, 0, none⟩ = some (.int .i64 a1_0) ∧ w'.cell? ⟨gb175, 1, none⟩ = some (.int .i64 a1_1) ∧ w'.cell? ⟨gb176, 0, none⟩ = some (.int .i64 a2_0) ∧ w'.cell? ⟨gb176, 1, none⟩ = some (.int .i64 a2_1) ∧ w'.cell? ⟨gb177, 0, none⟩ = some (.int .i64 a3_0) ∧ w'.cell? ⟨gb177, 1, none⟩ = some (.int .i64 a3_1)) ∧ (w'.heap[gb174]? = some (.cells #[.int .i64 a0_0, .int .i64 a0_1] 23 (0, 0))) ∧ (w'.heap[gb175]? = some (.cells #[.int .i64 a1_0, .int .i64 a1_1] 23 (0, 0))) ∧ (w'.heap[gb176]? = some (.cells #[.int .i64 a2_0, .int .i64 a2_1] 23 (0, 0))) ∧ (w'.heap[gb177]? = some (.cells #[.int .i64 a3_0, .int .i64 a3_1] 23 (0, 0))) ∧ (w'.heap[s_]? = some (.cells #[.int .i64 0, .int .i64 0] 25 (0, 0))) ∧ (w.heap.size ≤ s_) ∧ (w.heap.size ≤ s_) ∧ (gb174 ≠ s_) ∧ (s_ ≠ gb174) ∧ (gb175 ≠ s_) ∧ (s_ ≠ gb175) ∧ (gb176 ≠ s_) ∧ (s_ ≠ gb176) ∧ (gb177 ≠ s_) ∧ (s_ ≠ gb177) ∧ (Below w.heap.size w w')) ?_ ?_
                  rotate_left
                  · intro hJ1_3_12
                    refine join_ (σ := Unit) 9 #[true, true, true, true, true, false, true, false, false, false, false, false, false, false, false] (fun s_ => [(15, .agg #[.int .i64 t178, .int .i64 t179]), (17, .agg #[.int .i64 t180, .int .i64 t181])]) (fun s_ w' => (w'.cell? ⟨gb174, 0, none⟩ = some (.int .i64 a0_0) ∧ w'.cell? ⟨gb174, 1, none⟩ = some (.int .i64 a0_1) ∧ w'.cell? ⟨gb175, 0, none⟩ = some (.int .i64 a1_0) ∧ w'.cell? ⟨gb175, 1, none⟩ = some (.int .i64 a1_1) ∧ w'.cell? ⟨gb176, 0, none⟩ = some (.int .i64 a2_0) ∧ w'.cell? ⟨gb176, 1, none⟩ = some (.int .i64 a2_1) ∧ w'.cell? ⟨gb177, 0, none⟩ = some (.int .i64 a3_0) ∧ w'.cell? ⟨gb177, 1, none⟩ = some (.int .i64 a3_1)) ∧ (w'.heap[gb174]? = some (.cells #[.int .i64 a0_0, .int .i64 a0_1] 23 (0, 0))) ∧ (w'.heap[gb175]? = some (.cells #[.int .i64 a1_0, .int .i64 a1_1] 23 (0, 0))) ∧ (w'.heap[gb176]? = some (.cells #[.int .i64 a2_0, .int .i64 a2_1] 23 (0, 0))) ∧ (w'.heap[gb177]? = some (.cells #[.int .i64 a3_0, .int .i64 a3_1] 23 (0, 0))) ∧ (Below w.heap.size w w')) ?_ ?_
                    rotate_left
                    · intro hJ1_3
                      refine join_ (σ := Nat) 9 #[true, true, true, false, true, false, true, false, false, false, false, false, true, false, false] (fun s_ => [(15, .agg #[.int .i64 t178, .int .i64 t179]), (9, .pointer (some ⟨s_, 0, none⟩))]) (fun s_ w' => (w'.cell? ⟨gb174, 0, none⟩ = some (.int .i64 a0_0) ∧ w'.cell? ⟨gb174, 1, none⟩ = some (.int .i64 a0_1) ∧ w'.cell? ⟨gb175, 0, none⟩ = some (.int .i64 a1_0) ∧ w'.cell? ⟨gb175, 1, none⟩ = some (.int .i64 a1_1) ∧ w'.cell? ⟨gb176, 0, none⟩ = some (.int .i64 a2_0) ∧ w'.cell? ⟨gb176, 1, none⟩ = some (.int .i64 a2_1) ∧ w'.cell? ⟨gb177, 0, none⟩ = some (.int .i64 a3_0) ∧ w'.cell? ⟨gb177, 1, none⟩ = some (.int .i64 a3_1)) ∧ (w'.heap[gb174]? = some (.cells #[.int .i64 a0_0, .int .i64 a0_1] 23 (0, 0))) ∧ (w'.heap[gb175]? = some (.cells #[.int .i64 a1_0, .int .i64 a1_1] 23 (0, 0))) ∧ (w'.heap[gb176]? = some (.cells #[.int .i64 a2_0, .int .i64 a2_1] 23 (0, 0))) ∧ (w'.heap[gb177]? = some (.cells #[.int .i64 a3_0, .int .i64 a3_1] 23 (0, 0))) ∧ (w'.heap[s_]? = some (.cells #[.int .i64 0, .int .i64 0] 25 (0, 0))) ∧ (w.heap.size ≤ s_) ∧ (w.heap.size ≤ s_) ∧ (gb174 ≠ s_) ∧ (s_ ≠ gb174) ∧ (gb175 ≠ s_) ∧ (s_ ≠ gb175) ∧ (gb176 ≠ s_) ∧ (s_ ≠ gb176) ∧ (gb177 ≠ s_) ∧ (s_ ≠ gb177) ∧ (Below w.heap.size w w')) ?_ ?_
                      rotate_left
                      · intro hJ1_12
                        refine join_ (σ := Unit) 10 #[true, true, true, false, true, false, true, false, false, false, false, false, false, false, false] (fun s_ => [(15, .agg #[.int .i64 t178, .int .i64 t179])]) (fun s_ w' => (w'.cell? ⟨gb174, 0, none⟩ = some (.int .i64 a0_0) ∧ w'.cell? ⟨gb174, 1, none⟩ = some (.int .i64 a0_1) ∧ w'.cell? ⟨gb175, 0, none⟩ = some (.int .i64 a1_0) ∧ w'.cell? ⟨gb175, 1, none⟩ = some (.int .i64 a1_1) ∧ w'.cell? ⟨gb176, 0, none⟩ = some (.int .i64 a2_0) ∧ w'.cell? ⟨gb176, 1, none⟩ = some (.int .i64 a2_1) ∧ w'.cell? ⟨gb177, 0, none⟩ = some (.int .i64 a3_0) ∧ w'.cell? ⟨gb177, 1, none⟩ = some (.int .i64 a3_1)) ∧ (w'.heap[gb174]? = some (.cells #[.int .i64 a0_0, .int .i64 a0_1] 23 (0, 0))) ∧ (w'.heap[gb175]? = some (.cells #[.int .i64 a1_0, .int .i64 a1_1] 23 (0, 0))) ∧ (w'.heap[gb176]? = some (.cells #[.int .i64 a2_0, .int .i64 a2_1] 23 (0, 0))) ∧ (w'.heap[gb177]? = some (.cells #[.int .i64 a3_0, .int .i64 a3_1] 23 (0, 0))) ∧ (Below w.heap.size w w')) ?_ ?_
                        rotate_left
                        · intro hJ1
                          refine join_ (σ := Nat) 10 #[true, false, true, false, true, false, true, false, false, false, false, false, true, false, false] (fun s_ => [(9, .pointer (some ⟨s_, 0, none⟩))]) (fun s_ w' => (w'.cell? ⟨gb174, 0, none⟩ = some (.int .i64 a0_0) ∧ w'.cell? ⟨gb174, 1, none⟩ = some (.int .i64 a0_1) ∧ w'.cell? ⟨gb175, 0, none⟩ = some (.int .i64 a1_0) ∧ w'.cell? ⟨gb175, 1, none⟩ = some (.int .i64 a1_1) ∧ w'.cell? ⟨gb176, 0, none⟩ = some (.int .i64 a2_0) ∧ w'.cell? ⟨gb176, 1, none⟩ = some (.int .i64 a2_1) ∧ w'.cell? ⟨gb177, 0, none⟩ = some (.int .i64 a3_0) ∧ w'.cell? ⟨gb177, 1, none⟩ = some (.int .i64 a3_1)) ∧ (w'.heap[gb174]? = some (.cells #[.int .i64 a0_0, .int .i64 a0_1] 23 (0, 0))) ∧ (w'.heap[gb175]? = some (.cells #[.int .i64 a1_0, .int .i64 a1_1] 23 (0, 0))) ∧ (w'.heap[gb176]? = some (.cells #[.int .i64 a2_0, .int .i64 a2_1] 23 (0, 0))) ∧ (w'.heap[gb177]? = some (.cells #[.int .i64 a3_0, .int .i64 a3_1] 23 (0, 0))) ∧ (w'.heap[s_]? = some (.cells #[.int .i64 0, .int .i64 0] 25 (0, 0))) ∧ (w.heap.size ≤ s_) ∧ (w.heap.size ≤ s_) ∧ (gb174 ≠ s_) ∧ (s_ ≠ gb174) ∧ (gb175 ≠ s_) ∧ (s_ ≠ gb175) ∧ (gb176 ≠ s_) ∧ (s_ ≠ gb176) ∧ (gb177 ≠ s_) ∧ (s_ ≠ gb177) ∧ (Below w.heap.size w w')) ?_ ?_
                          rotate_left
                          · intro hJ12
                            refine two_ (i := 1) (j := 12) (Ni := some 15) (Nj := some 9) #[true, true, true, false, true, false, true, false, false, false, false, false, false, false, false] #[true, false, true, false, true, false, true, false, false, false, false, false, true, false, false] rfl rfl rfl rfl (two_of HT_.out (by kernel_rfl)) (by decide) (by decide) (fun K hK => ?_) (fun K hK => ?_)
                            · skip
                              refine goes_ Try.func16 (by kernel_rfl) rfl #[.agg #[.int .i64 a0_0, .int .i64 a0_1]] (by rfl) rfl rfl (by (try simp only [List.map_toArray, List.map_cons, List.map_nil]); first | done | rfl | (simp only [List.length_drop, List.length_take]; rfl)) ?_
                              with_reducible refine (laws_toPoint.calls a0_0 a0_1 t178 t179 _ A5.out).mono ?_
                              rintro e w23 ⟨rfl, hb⟩
                              refine ⟨_, rfl, ?_⟩
                              have n0_ := kb BK174 hb
                              have n1_ := kb BK175 hb
                              have n2_ := kb BK176 hb
                              have n3_ := kb BK177 hb
                              have n4_ := sb hb
                              clear BK174
                              clear BK175
                              clear BK176
                              clear BK177
                              clear HB
                              have BK174 := n0_
                              have BK175 := n1_
                              have BK176 := n2_
                              have BK177 := n3_
                              have HB := n4_
                              clear n0_ n1_ n2_ n3_ n4_
                              (try clear hb)
                              (try clear hb2)
                              (try clear hk)
                              (try clear hi)
                              refine hK.out _ _ ⟨(blk_cell BK174.out 0).trans rfl, (blk_cell BK174.out 1).trans rfl, (blk_cell BK175.out 0).trans rfl, (blk_cell BK175.out 1).trans rfl, (blk_cell BK176.out 0).trans rfl, (blk_cell BK176.out 1).trans rfl, (blk_cell BK177.out 0).trans rfl, (blk_cell BK177.out 1).trans rfl⟩ (fun hHeld => ?_)
                              clear hK K
                              refine norm_ (a' := ?_) ?_ ?_
                              rotate_left
                              · show Act.put _ (some 15) _ = _
                                simp only [Act.put, List.setIfInBounds_toArray, List.set_cons_zero, List.set_cons_succ, i64_w, i32_w]
                                rfl
                              exact norm_ (by first | (simp only [putAll, Act.put, List.setIfInBounds_toArray, List.set_cons_zero, List.set_cons_succ]; done) | (simp only [putAll, Act.put, List.setIfInBounds_toArray, List.set_cons_zero, List.set_cons_succ]; rfl)) (hJ1 () _ ⟨hHeld, (bk BK174), (bk BK175), (bk BK176), (bk BK177), ib⟩)
                            · skip
                              refine box_step ?hg (N := 9) ?hd (cs := #[.int .i64 0, .int .i64 0]) (t := 25) ?hr ?_; (case hd => rfl); (case hg => rfl); (case hr => first | (go_simp; done) | (go_simp; rfl))
                              intro gb189 hg w23 hbox hb
                              have n0_ := kb BK174 hb
                              have n1_ := kb BK175 hb
                              have n2_ := kb BK176 hb
                              have n3_ := kb BK177 hb
                              have n4_ := sb hb
                              have n5_ := Aside0.mk (hbox)
                              have n6_ := zb hg
                              have n7_ := zb hg
                              have n8_ := nl BK174 hg
                              have n9_ := ng BK174 hg
                              have n10_ := nl BK175 hg
                              have n11_ := ng BK175 hg
                              have n12_ := nl BK176 hg
                              have n13_ := ng BK176 hg
                              have n14_ := nl BK177 hg
                              have n15_ := ng BK177 hg
                              clear BK174
                              clear BK175
                              clear BK176
                              clear BK177
                              clear HB
                              have BK174 := n0_
                              have BK175 := n1_
                              have BK176 := n2_
                              have BK177 := n3_
                              have HB := n4_
                              have BK189 := n5_
                              have GW189 := n6_
                              have GE189 := n7_
                              have NB174_189 := n8_
                              have NB189_174 := n9_
                              have NB175_189 := n10_
                              have NB189_175 := n11_
                              have NB176_189 := n12_
                              have NB189_176 := n13_
                              have NB177_189 := n14_
                              have NB189_177 := n15_
                              clear n0_ n1_ n2_ n3_ n4_ n5_ n6_ n7_ n8_ n9_ n10_ n11_ n12_ n13_ n14_ n15_
                              clear hb hbox hg
                              refine hK.out _ _ ⟨(blk_cell BK174.out 0).trans rfl, (blk_cell BK174.out 1).trans rfl, (blk_cell BK175.out 0).trans rfl, (blk_cell BK175.out 1).trans rfl, (blk_cell BK176.out 0).trans rfl, (blk_cell BK176.out 1).trans rfl, (blk_cell BK177.out 0).trans rfl, (blk_cell BK177.out 1).trans rfl⟩ (fun hHeld => ?_)
                              clear hK K
                              refine norm_ (a' := ?_) ?_ ?_
                              rotate_left
                              · show Act.put _ (some 9) _ = _
                                simp only [Act.put, List.setIfInBounds_toArray, List.set_cons_zero, List.set_cons_succ, i64_w, i32_w]
                                rfl
                              exact norm_ (by first | (simp only [putAll, Act.put, List.setIfInBounds_toArray, List.set_cons_zero, List.set_cons_succ]; done) | (simp only [putAll, Act.put, List.setIfInBounds_toArray, List.set_cons_zero, List.set_cons_succ]; rfl)) (hJ12 (gb189) _ ⟨hHeld, (bk BK174), (bk BK175), (bk BK176), (bk BK177), (bk BK189), GW189.out, GE189.out, NB174_189.out, NB189_174.out, NB175_189.out, NB189_175.out, NB176_189.out, NB189_176.out, NB177_189.out, NB189_177.out, ib⟩)
                          · skip
                            rintro gb189 w24 ⟨hS_, h0_, h1_, h2_, h3_, h4_, h5_, h6_, h7_, h8_, h9_, h10_, h11_, h12_, h13_, h14_, h15_⟩
                            have n0_ : Aside0 (w24.heap[gb174]? = some (.cells #[.int .i64 a0_0, .int .i64 a0_1] 23 (0, 0))) := ⟨h0_⟩
                            have n1_ : Aside0 (w24.heap[gb175]? = some (.cells #[.int .i64 a1_0, .int .i64 a1_1] 23 (0, 0))) := ⟨h1_⟩
                            have n2_ : Aside0 (w24.heap[gb176]? = some (.cells #[.int .i64 a2_0, .int .i64 a2_1] 23 (0, 0))) := ⟨h2_⟩
                            have n3_ : Aside0 (w24.heap[gb177]? = some (.cells #[.int .i64 a3_0, .int .i64 a3_1] 23 (0, 0))) := ⟨h3_⟩
                            have n4_ : Aside0 (w24.heap[gb189]? = some (.cells #[.int .i64 0, .int .i64 0] 25 (0, 0))) := ⟨h4_⟩
                            have n5_ : Aside0 (w.heap.size ≤ gb189) := ⟨h5_⟩
                            have n6_ : Aside0 (w.heap.size ≤ gb189) := ⟨h6_⟩
                            have n7_ : Aside0 (gb174 ≠ gb189) := ⟨h7_⟩
                            have n8_ : Aside0 (gb189 ≠ gb174) := ⟨h8_⟩
                            have n9_ : Aside0 (gb175 ≠ gb189) := ⟨h9_⟩
                            have n10_ : Aside0 (gb189 ≠ gb175) := ⟨h10_⟩
                            have n11_ : Aside0 (gb176 ≠ gb189) := ⟨h11_⟩
                            have n12_ : Aside0 (gb189 ≠ gb176) := ⟨h12_⟩
                            have n13_ : Aside0 (gb177 ≠ gb189) := ⟨h13_⟩
                            have n14_ : Aside0 (gb189 ≠ gb177) := ⟨h14_⟩
                            have n15_ : Aside0 (Below w.heap.size w w24) := ⟨h15_⟩
                            clear BK174
                            clear BK175
                            clear BK176
                            clear BK177
                            clear HB
                            clear h0_ h1_ h2_ h3_ h4_ h5_ h6_ h7_ h8_ h9_ h10_ h11_ h12_ h13_ h14_ h15_
                            have BK174 := n0_
                            have BK175 := n1_
                            have BK176 := n2_
                            have BK177 := n3_
                            have BK189 := n4_
                            have GW189 := n5_
                            have GE189 := n6_
                            have NB174_189 := n7_
                            have NB189_174 := n8_
                            have NB175_189 := n9_
                            have NB189_175 := n10_
                            have NB176_189 := n11_
                            have NB189_176 := n12_
                            have NB177_189 := n13_
                            have NB189_177 := n14_
                            have HB := n15_
                            clear n0_ n1_ n2_ n3_ n4_ n5_ n6_ n7_ n8_ n9_ n10_ n11_ n12_ n13_ n14_ n15_
                            have hHeld : w24.cell? ⟨gb174, 0, none⟩ = some (.int .i64 a0_0) ∧ w24.cell? ⟨gb174, 1, none⟩ = some (.int .i64 a0_1) ∧ w24.cell? ⟨gb175, 0, none⟩ = some (.int .i64 a1_0) ∧ w24.cell? ⟨gb175, 1, none⟩ = some (.int .i64 a1_1) ∧ w24.cell? ⟨gb176, 0, none⟩ = some (.int .i64 a2_0) ∧ w24.cell? ⟨gb176, 1, none⟩ = some (.int .i64 a2_1) ∧ w24.cell? ⟨gb177, 0, none⟩ = some (.int .i64 a3_0) ∧ w24.cell? ⟨gb177, 1, none⟩ = some (.int .i64 a3_1) := hS_
                            refine norm_ (a' := ?_) ?_ ?_
                            rotate_left
                            · simp only [putAll, Act.put, List.setIfInBounds_toArray, List.set_cons_zero, List.set_cons_succ]
                              rfl
                            refine one_ (i := 1) (N := some 15) #[true, true, true, false, true, false, true, false, false, false, false, false, true, false, false] rfl rfl (one_of HT_.out (by kernel_rfl)) (by decide) (fun K hK => ?_)
                            refine goes_ Try.func16 (by kernel_rfl) rfl #[.agg #[.int .i64 a0_0, .int .i64 a0_1]] (by rfl) rfl rfl (by (try simp only [List.map_toArray, List.map_cons, List.map_nil]); first | done | rfl | (simp only [List.length_drop, List.length_take]; rfl)) ?_
                            with_reducible refine (laws_toPoint.calls a0_0 a0_1 t178 t179 _ A5.out).mono ?_
                            rintro e w25 ⟨rfl, hb⟩
                            refine ⟨_, rfl, ?_⟩
                            have n0_ := kb BK174 hb
                            have n1_ := kb BK175 hb
                            have n2_ := kb BK176 hb
                            have n3_ := kb BK177 hb
                            have n4_ := kb BK189 hb
                            have n5_ := sb hb
                            clear BK174
                            clear BK175
                            clear BK176
                            clear BK177
                            clear BK189
                            clear HB
                            have BK174 := n0_
                            have BK175 := n1_
                            have BK176 := n2_
                            have BK177 := n3_
                            have BK189 := n4_
                            have HB := n5_
                            clear n0_ n1_ n2_ n3_ n4_ n5_
                            (try clear hb)
                            (try clear hb2)
                            (try clear hk)
                            (try clear hi)
                            refine hK.out _ _ ⟨(blk_cell BK174.out 0).trans rfl, (blk_cell BK174.out 1).trans rfl, (blk_cell BK175.out 0).trans rfl, (blk_cell BK175.out 1).trans rfl, (blk_cell BK176.out 0).trans rfl, (blk_cell BK176.out 1).trans rfl, (blk_cell BK177.out 0).trans rfl, (blk_cell BK177.out 1).trans rfl⟩ (fun hHeld => ?_)
                            clear hK K
                            refine norm_ (a' := ?_) ?_ ?_
                            rotate_left
                            · show Act.put _ (some 15) _ = _
                              simp only [Act.put, List.setIfInBounds_toArray, List.set_cons_zero, List.set_cons_succ, i64_w, i32_w]
                              rfl
                            exact norm_ (by first | (simp only [putAll, Act.put, List.setIfInBounds_toArray, List.set_cons_zero, List.set_cons_succ]; done) | (simp only [putAll, Act.put, List.setIfInBounds_toArray, List.set_cons_zero, List.set_cons_succ]; rfl)) (hJ1_12 (gb189) _ ⟨hHeld, (bk BK174), (bk BK175), (bk BK176), (bk BK177), (bk BK189), GW189.out, GE189.out, NB174_189.out, NB189_174.out, NB175_189.out, NB189_175.out, NB176_189.out, NB189_176.out, NB177_189.out, NB189_177.out, ib⟩)
                        · skip
                          rintro _ w24 ⟨hS_, h0_, h1_, h2_, h3_, h4_⟩
                          have n0_ : Aside0 (w24.heap[gb174]? = some (.cells #[.int .i64 a0_0, .int .i64 a0_1] 23 (0, 0))) := ⟨h0_⟩
                          have n1_ : Aside0 (w24.heap[gb175]? = some (.cells #[.int .i64 a1_0, .int .i64 a1_1] 23 (0, 0))) := ⟨h1_⟩
                          have n2_ : Aside0 (w24.heap[gb176]? = some (.cells #[.int .i64 a2_0, .int .i64 a2_1] 23 (0, 0))) := ⟨h2_⟩
                          have n3_ : Aside0 (w24.heap[gb177]? = some (.cells #[.int .i64 a3_0, .int .i64 a3_1] 23 (0, 0))) := ⟨h3_⟩
                          have n4_ : Aside0 (Below w.heap.size w w24) := ⟨h4_⟩
                          clear BK174
                          clear BK175
                          clear BK176
                          clear BK177
                          clear HB
                          clear h0_ h1_ h2_ h3_ h4_
                          have BK174 := n0_
                          have BK175 := n1_
                          have BK176 := n2_
                          have BK177 := n3_
                          have HB := n4_
                          clear n0_ n1_ n2_ n3_ n4_
                          have hHeld : w24.cell? ⟨gb174, 0, none⟩ = some (.int .i64 a0_0) ∧ w24.cell? ⟨gb174, 1, none⟩ = some (.int .i64 a0_1) ∧ w24.cell? ⟨gb175, 0, none⟩ = some (.int .i64 a1_0) ∧ w24.cell? ⟨gb175, 1, none⟩ = some (.int .i64 a1_1) ∧ w24.cell? ⟨gb176, 0, none⟩ = some (.int .i64 a2_0) ∧ w24.cell? ⟨gb176, 1, none⟩ = some (.int .i64 a2_1) ∧ w24.cell? ⟨gb177, 0, none⟩ = some (.int .i64 a3_0) ∧ w24.cell? ⟨gb177, 1, none⟩ = some (.int .i64 a3_1) := hS_
                          refine norm_ (a' := ?_) ?_ ?_
                          rotate_left
                          · simp only [putAll, Act.put, List.setIfInBounds_toArray, List.set_cons_zero, List.set_cons_succ]
                            rfl
                          refine two_ (i := 3) (j := 12) (Ni := some 17) (Nj := some 9) #[true, true, true, true, true, false, true, false, false, false, false, false, false, false, false] #[true, true, true, false, true, false, true, false, false, false, false, false, true, false, false] rfl rfl rfl rfl (two_of HT_.out (by kernel_rfl)) (by decide) (by decide) (fun K hK => ?_) (fun K hK => ?_)
                          · skip
                            refine goes_ Try.func16 (by kernel_rfl) rfl #[.agg #[.int .i64 a1_0, .int .i64 a1_1]] (by rfl) rfl rfl (by (try simp only [List.map_toArray, List.map_cons, List.map_nil]); first | done | rfl | (simp only [List.length_drop, List.length_take]; rfl)) ?_
                            with_reducible refine (laws_toPoint.calls a1_0 a1_1 t180 t181 _ A6.out).mono ?_
                            rintro e w25 ⟨rfl, hb⟩
                            refine ⟨_, rfl, ?_⟩
                            have n0_ := kb BK174 hb
                            have n1_ := kb BK175 hb
                            have n2_ := kb BK176 hb
                            have n3_ := kb BK177 hb
                            have n4_ := sb hb
                            clear BK174
                            clear BK175
                            clear BK176
                            clear BK177
                            clear HB
                            have BK174 := n0_
                            have BK175 := n1_
                            have BK176 := n2_
                            have BK177 := n3_
                            have HB := n4_
                            clear n0_ n1_ n2_ n3_ n4_
                            (try clear hb)
                            (try clear hb2)
                            (try clear hk)
                            (try clear hi)
                            refine hK.out _ _ ⟨(blk_cell BK174.out 0).trans rfl, (blk_cell BK174.out 1).trans rfl, (blk_cell BK175.out 0).trans rfl, (blk_cell BK175.out 1).trans rfl, (blk_cell BK176.out 0).trans rfl, (blk_cell BK176.out 1).trans rfl, (blk_cell BK177.out 0).trans rfl, (blk_cell BK177.out 1).trans rfl⟩ (fun hHeld => ?_)
                            clear hK K
                            refine norm_ (a' := ?_) ?_ ?_
                            rotate_left
                            · show Act.put _ (some 17) _ = _
                              simp only [Act.put, List.setIfInBounds_toArray, List.set_cons_zero, List.set_cons_succ, i64_w, i32_w]
                              rfl
                            exact norm_ (by first | (simp only [putAll, Act.put, List.setIfInBounds_toArray, List.set_cons_zero, List.set_cons_succ]; done) | (simp only [putAll, Act.put, List.setIfInBounds_toArray, List.set_cons_zero, List.set_cons_succ]; rfl)) (hJ1_3 () _ ⟨hHeld, (bk BK174), (bk BK175), (bk BK176), (bk BK177), ib⟩)
                          · skip
                            refine box_step ?hg (N := 9) ?hd (cs := #[.int .i64 0, .int .i64 0]) (t := 25) ?hr ?_; (case hd => rfl); (case hg => rfl); (case hr => first | (go_simp; done) | (go_simp; rfl))
                            intro gb189 hg w25 hbox hb
                            have n0_ := kb BK174 hb
                            have n1_ := kb BK175 hb
                            have n2_ := kb BK176 hb
                            have n3_ := kb BK177 hb
                            have n4_ := sb hb
                            have n5_ := Aside0.mk (hbox)
                            have n6_ := zb hg
                            have n7_ := zb hg
                            have n8_ := nl BK174 hg
                            have n9_ := ng BK174 hg
                            have n10_ := nl BK175 hg
                            have n11_ := ng BK175 hg
                            have n12_ := nl BK176 hg
                            have n13_ := ng BK176 hg
                            have n14_ := nl BK177 hg
                            have n15_ := ng BK177 hg
                            clear BK174
                            clear BK175
                            clear BK176
                            clear BK177
                            clear HB
                            have BK174 := n0_
                            have BK175 := n1_
                            have BK176 := n2_
                            have BK177 := n3_
                            have HB := n4_
                            have BK189 := n5_
                            have GW189 := n6_
                            have GE189 := n7_
                            have NB174_189 := n8_
                            have NB189_174 := n9_
                            have NB175_189 := n10_
                            have NB189_175 := n11_
                            have NB176_189 := n12_
                            have NB189_176 := n13_
                            have NB177_189 := n14_
                            have NB189_177 := n15_
                            clear n0_ n1_ n2_ n3_ n4_ n5_ n6_ n7_ n8_ n9_ n10_ n11_ n12_ n13_ n14_ n15_
                            clear hb hbox hg
                            refine hK.out _ _ ⟨(blk_cell BK174.out 0).trans rfl, (blk_cell BK174.out 1).trans rfl, (blk_cell BK175.out 0).trans rfl, (blk_cell BK175.out 1).trans rfl, (blk_cell BK176.out 0).trans rfl, (blk_cell BK176.out 1).trans rfl, (blk_cell BK177.out 0).trans rfl, (blk_cell BK177.out 1).trans rfl⟩ (fun hHeld => ?_)
                            clear hK K
                            refine norm_ (a' := ?_) ?_ ?_
                            rotate_left
                            · show Act.put _ (some 9) _ = _
                              simp only [Act.put, List.setIfInBounds_toArray, List.set_cons_zero, List.set_cons_succ, i64_w, i32_w]
                              rfl
                            exact norm_ (by first | (simp only [putAll, Act.put, List.setIfInBounds_toArray, List.set_cons_zero, List.set_cons_succ]; done) | (simp only [putAll, Act.put, List.setIfInBounds_toArray, List.set_cons_zero, List.set_cons_succ]; rfl)) (hJ1_12 (gb189) _ ⟨hHeld, (bk BK174), (bk BK175), (bk BK176), (bk BK177), (bk BK189), GW189.out, GE189.out, NB174_189.out, NB189_174.out, NB175_189.out, NB189_175.out, NB176_189.out, NB189_176.out, NB177_189.out, NB189_177.out, ib⟩)
                      · skip
                        rintro gb189 w25 ⟨hS_, h0_, h1_, h2_, h3_, h4_, h5_, h6_, h7_, h8_, h9_, h10_, h11_, h12_, h13_, h14_, h15_⟩
                        have n0_ : Aside0 (w25.heap[gb174]? = some (.cells #[.int .i64 a0_0, .int .i64 a0_1] 23 (0, 0))) := ⟨h0_⟩
                        have n1_ : Aside0 (w25.heap[gb175]? = some (.cells #[.int .i64 a1_0, .int .i64 a1_1] 23 (0, 0))) := ⟨h1_⟩
                        have n2_ : Aside0 (w25.heap[gb176]? = some (.cells #[.int .i64 a2_0, .int .i64 a2_1] 23 (0, 0))) := ⟨h2_⟩
                        have n3_ : Aside0 (w25.heap[gb177]? = some (.cells #[.int .i64 a3_0, .int .i64 a3_1] 23 (0, 0))) := ⟨h3_⟩
                        have n4_ : Aside0 (w25.heap[gb189]? = some (.cells #[.int .i64 0, .int .i64 0] 25 (0, 0))) := ⟨h4_⟩
                        have n5_ : Aside0 (w.heap.size ≤ gb189) := ⟨h5_⟩
                        have n6_ : Aside0 (w.heap.size ≤ gb189) := ⟨h6_⟩
                        have n7_ : Aside0 (gb174 ≠ gb189) := ⟨h7_⟩
                        have n8_ : Aside0 (gb189 ≠ gb174) := ⟨h8_⟩
                        have n9_ : Aside0 (gb175 ≠ gb189) := ⟨h9_⟩
                        have n10_ : Aside0 (gb189 ≠ gb175) := ⟨h10_⟩
                        have n11_ : Aside0 (gb176 ≠ gb189) := ⟨h11_⟩
                        have n12_ : Aside0 (gb189 ≠ gb176) := ⟨h12_⟩
                        have n13_ : Aside0 (gb177 ≠ gb189) := ⟨h13_⟩
                        have n14_ : Aside0 (gb189 ≠ gb177) := ⟨h14_⟩
                        have n15_ : Aside0 (Below w.heap.size w w25) := ⟨h15_⟩
                        clear BK174
                        clear BK175
                        clear BK176
                        clear BK177
                        clear HB
                        clear h0_ h1_ h2_ h3_ h4_ h5_ h6_ h7_ h8_ h9_ h10_ h11_ h12_ h13_ h14_ h15_
                        have BK174 := n0_
                        have BK175 := n1_
                        have BK176 := n2_
                        have BK177 := n3_
                        have BK189 := n4_
                        have GW189 := n5_
                        have GE189 := n6_
                        have NB174_189 := n7_
                        have NB189_174 := n8_
                        have NB175_189 := n9_
                        have NB189_175 := n10_
                        have NB176_189 := n11_
                        have NB189_176 := n12_
                        have NB177_189 := n13_
                        have NB189_177 := n14_
                        have HB := n15_
                        clear n0_ n1_ n2_ n3_ n4_ n5_ n6_ n7_ n8_ n9_ n10_ n11_ n12_ n13_ n14_ n15_
                        have hHeld : w25.cell? ⟨gb174, 0, none⟩ = some (.int .i64 a0_0) ∧ w25.cell? ⟨gb174, 1, none⟩ = some (.int .i64 a0_1) ∧ w25.cell? ⟨gb175, 0, none⟩ = some (.int .i64 a1_0) ∧ w25.cell? ⟨gb175, 1, none⟩ = some (.int .i64 a1_1) ∧ w25.cell? ⟨gb176, 0, none⟩ = some (.int .i64 a2_0) ∧ w25.cell? ⟨gb176, 1, none⟩ = some (.int .i64 a2_1) ∧ w25.cell? ⟨gb177, 0, none⟩ = some (.int .i64 a3_0) ∧ w25.cell? ⟨gb177, 1, none⟩ = some (.int .i64 a3_1) := hS_
                        refine norm_ (a' := ?_) ?_ ?_
                        rotate_left
                        · simp only [putAll, Act.put, List.setIfInBounds_toArray, List.set_cons_zero, List.set_cons_succ]
                          rfl
                        refine one_ (i := 3) (N := some 17) #[true, true, true, true, true, false, true, false, false, false, false, false, true, false, false] rfl rfl (one_of HT_.out (by kernel_rfl)) (by decide) (fun K hK => ?_)
                        refine goes_ Try.func16 (by kernel_rfl) rfl #[.agg #[.int .i64 a1_0, .int .i64 a1_1]] (by rfl) rfl rfl (by (try simp only [List.map_toArray, List.map_cons, List.map_nil]); first | done | rfl | (simp only [List.length_drop, List.length_take]; rfl)) ?_
                        with_reducible refine (laws_toPoint.calls a1_0 a1_1 t180 t181 _ A6.out).mono ?_
                        rintro e w26 ⟨rfl, hb⟩
                        refine ⟨_, rfl, ?_⟩
                        have n0_ := kb BK174 hb
                        have n1_ := kb BK175 hb
                        have n2_ := kb BK176 hb
                        have n3_ := kb BK177 hb
                        have n4_ := kb BK189 hb
                        have n5_ := sb hb
                        clear BK174
                        clear BK175
                        clear BK176
                        clear BK177
                        clear BK189
                        clear HB
                        have BK174 := n0_
                        have BK175 := n1_
                        have BK176 := n2_
                        have BK177 := n3_
                        have BK189 := n4_
                        have HB := n5_
                        clear n0_ n1_ n2_ n3_ n4_ n5_
                        (try clear hb)
                        (try clear hb2)
                        (try clear hk)
                        (try clear hi)
                        refine hK.out _ _ ⟨(blk_cell BK174.out 0).trans rfl, (blk_cell BK174.out 1).trans rfl, (blk_cell BK175.out 0).trans rfl, (blk_cell BK175.out 1).trans rfl, (blk_cell BK176.out 0).trans rfl, (blk_cell BK176.out 1).trans rfl, (blk_cell BK177.out 0).trans rfl, (blk_cell BK177.out 1).trans rfl⟩ (fun hHeld => ?_)
                        clear hK K
                        refine norm_ (a' := ?_) ?_ ?_
                        rotate_left
                        · show Act.put _ (some 17) _ = _
                          simp only [Act.put, List.setIfInBounds_toArray, List.set_cons_zero, List.set_cons_succ, i64_w, i32_w]
                          rfl
                        exact norm_ (by first | (simp only [putAll, Act.put, List.setIfInBounds_toArray, List.set_cons_zero, List.set_cons_succ]; done) | (simp only [putAll, Act.put, List.setIfInBounds_toArray, List.set_cons_zero, List.set_cons_succ]; rfl)) (hJ1_3_12 (gb189) _ ⟨hHeld, (bk BK174), (bk BK175), (bk BK176), (bk BK177), (bk BK189), GW189.out, GE189.out, NB174_189.out, NB189_174.out, NB175_189.out, NB189_175.out, NB176_189.out, NB189_176.out, NB177_189.out, NB189_177.out, ib⟩)
                    · skip
                      rintro _ w25 ⟨hS_, h0_, h1_, h2_, h3_, h4_⟩
                      have n0_ : Aside0 (w25.heap[gb174]? = some (.cells #[.int .i64 a0_0, .int .i64 a0_1] 23 (0, 0))) := ⟨h0_⟩
                      have n1_ : Aside0 (w25.heap[gb175]? = some (.cells #[.int .i64 a1_0, .int .i64 a1_1] 23 (0, 0))) := ⟨h1_⟩
                      have n2_ : Aside0 (w25.heap[gb176]? = some (.cells #[.int .i64 a2_0, .int .i64 a2_1] 23 (0, 0))) := ⟨h2_⟩
                      have n3_ : Aside0 (w25.heap[gb177]? = some (.cells #[.int .i64 a3_0, .int .i64 a3_1] 23 (0, 0))) := ⟨h3_⟩
                      have n4_ : Aside0 (Below w.heap.size w w25) := ⟨h4_⟩
                      clear BK174
                      clear BK175
                      clear BK176
                      clear BK177
                      clear HB
                      clear h0_ h1_ h2_ h3_ h4_
                      have BK174 := n0_
                      have BK175 := n1_
                      have BK176 := n2_
                      have BK177 := n3_
                      have HB := n4_
                      clear n0_ n1_ n2_ n3_ n4_
                      have hHeld : w25.cell? ⟨gb174, 0, none⟩ = some (.int .i64 a0_0) ∧ w25.cell? ⟨gb174, 1, none⟩ = some (.int .i64 a0_1) ∧ w25.cell? ⟨gb175, 0, none⟩ = some (.int .i64 a1_0) ∧ w25.cell? ⟨gb175, 1, none⟩ = some (.int .i64 a1_1) ∧ w25.cell? ⟨gb176, 0, none⟩ = some (.int .i64 a2_0) ∧ w25.cell? ⟨gb176, 1, none⟩ = some (.int .i64 a2_1) ∧ w25.cell? ⟨gb177, 0, none⟩ = some (.int .i64 a3_0) ∧ w25.cell? ⟨gb177, 1, none⟩ = some (.int .i64 a3_1) := hS_
                      refine norm_ (a' := ?_) ?_ ?_
                      rotate_left
                      · simp only [putAll, Act.put, List.setIfInBounds_toArray, List.set_cons_zero, List.set_cons_succ]
                        rfl
                      refine two_ (i := 5) (j := 12) (Ni := some 19) (Nj := some 9) #[true, true, true, true, true, true, true, false, false, false, false, false, false, false, false] #[true, true, true, true, true, false, true, false, false, false, false, false, true, false, false] rfl rfl rfl rfl (two_of HT_.out (by kernel_rfl)) (by decide) (by decide) (fun K hK => ?_) (fun K hK => ?_)
                      · skip
                        refine goes_ Try.func16 (by kernel_rfl) rfl #[.agg #[.int .i64 a2_0, .int .i64 a2_1]] (by rfl) rfl rfl (by (try simp only [List.map_toArray, List.map_cons, List.map_nil]); first | done | rfl | (simp only [List.length_drop, List.length_take]; rfl)) ?_
                        with_reducible refine (laws_toPoint.calls a2_0 a2_1 t182 t183 _ A7.out).mono ?_
                        rintro e w26 ⟨rfl, hb⟩
                        refine ⟨_, rfl, ?_⟩
                        have n0_ := kb BK174 hb
                        have n1_ := kb BK175 hb
                        have n2_ := kb BK176 hb
                        have n3_ := kb BK177 hb
                        have n4_ := sb hb
                        clear BK174
                        clear BK175
                        clear BK176
                        clear BK177
                        clear HB
                        have BK174 := n0_
                        have BK175 := n1_
                        have BK176 := n2_
                        have BK177 := n3_
                        have HB := n4_
                        clear n0_ n1_ n2_ n3_ n4_
                        (try clear hb)
                        (try clear hb2)
                        (try clear hk)
                        (try clear hi)
                        refine hK.out _ _ ⟨(blk_cell BK174.out 0).trans rfl, (blk_cell BK174.out 1).trans rfl, (blk_cell BK175.out 0).trans rfl, (blk_cell BK175.out 1).trans rfl, (blk_cell BK176.out 0).trans rfl, (blk_cell BK176.out 1).trans rfl, (blk_cell BK177.out 0).trans rfl, (blk_cell BK177.out 1).trans rfl⟩ (fun hHeld => ?_)
                        clear hK K
                        refine norm_ (a' := ?_) ?_ ?_
                        rotate_left
                        · show Act.put _ (some 19) _ = _
                          simp only [Act.put, List.setIfInBounds_toArray, List.set_cons_zero, List.set_cons_succ, i64_w, i32_w]
                          rfl
                        exact norm_ (by first | (simp only [putAll, Act.put, List.setIfInBounds_toArray, List.set_cons_zero, List.set_cons_succ]; done) | (simp only [putAll, Act.put, List.setIfInBounds_toArray, List.set_cons_zero, List.set_cons_succ]; rfl)) (hJ1_3_5 () _ ⟨hHeld, (bk BK174), (bk BK175), (bk BK176), (bk BK177), ib⟩)
                      · skip
                        refine box_step ?hg (N := 9) ?hd (cs := #[.int .i64 0, .int .i64 0]) (t := 25) ?hr ?_; (case hd => rfl); (case hg => rfl); (case hr => first | (go_simp; done) | (go_simp; rfl))
                        intro gb189 hg w26 hbox hb
                        have n0_ := kb BK174 hb
                        have n1_ := kb BK175 hb
                        have n2_ := kb BK176 hb
                        have n3_ := kb BK177 hb
                        have n4_ := sb hb
                        have n5_ := Aside0.mk (hbox)
                        have n6_ := zb hg
                        have n7_ := zb hg
                        have n8_ := nl BK174 hg
                        have n9_ := ng BK174 hg
                        have n10_ := nl BK175 hg
                        have n11_ := ng BK175 hg
                        have n12_ := nl BK176 hg
                        have n13_ := ng BK176 hg
                        have n14_ := nl BK177 hg
                        have n15_ := ng BK177 hg
                        clear BK174
                        clear BK175
                        clear BK176
                        clear BK177
                        clear HB
                        have BK174 := n0_
                        have BK175 := n1_
                        have BK176 := n2_
                        have BK177 := n3_
                        have HB := n4_
                        have BK189 := n5_
                        have GW189 := n6_
                        have GE189 := n7_
                        have NB174_189 := n8_
                        have NB189_174 := n9_
                        have NB175_189 := n10_
                        have NB189_175 := n11_
                        have NB176_189 := n12_
                        have NB189_176 := n13_
                        have NB177_189 := n14_
                        have NB189_177 := n15_
                        clear n0_ n1_ n2_ n3_ n4_ n5_ n6_ n7_ n8_ n9_ n10_ n11_ n12_ n13_ n14_ n15_
                        clear hb hbox hg
                        refine hK.out _ _ ⟨(blk_cell BK174.out 0).trans rfl, (blk_cell BK174.out 1).trans rfl, (blk_cell BK175.out 0).trans rfl, (blk_cell BK175.out 1).trans rfl, (blk_cell BK176.out 0).trans rfl, (blk_cell BK176.out 1).trans rfl, (blk_cell BK177.out 0).trans rfl, (blk_cell BK177.out 1).trans rfl⟩ (fun hHeld => ?_)
                        clear hK K
                        refine norm_ (a' := ?_) ?_ ?_
                        rotate_left
                        · show Act.put _ (some 9) _ = _
                          simp only [Act.put, List.setIfInBounds_toArray, List.set_cons_zero, List.set_cons_succ, i64_w, i32_w]
                          rfl
                        exact norm_ (by first | (simp only [putAll, Act.put, List.setIfInBounds_toArray, List.set_cons_zero, List.set_cons_succ]; done) | (simp only [putAll, Act.put, List.setIfInBounds_toArray, List.set_cons_zero, List.set_cons_succ]; rfl)) (hJ1_3_12 (gb189) _ ⟨hHeld, (bk BK174), (bk BK175), (bk BK176), (bk BK177), (bk BK189), GW189.out, GE189.out, NB174_189.out, NB189_174.out, NB175_189.out, NB189_175.out, NB176_189.out, NB189_176.out, NB177_189.out, NB189_177.out, ib⟩)
                  · skip
                    rintro gb189 w26 ⟨hS_, h0_, h1_, h2_, h3_, h4_, h5_, h6_, h7_, h8_, h9_, h10_, h11_, h12_, h13_, h14_, h15_⟩
                    have n0_ : Aside0 (w26.heap[gb174]? = some (.cells #[.int .i64 a0_0, .int .i64 a0_1] 23 (0, 0))) := ⟨h0_⟩
                    have n1_ : Aside0 (w26.heap[gb175]? = some (.cells #[.int .i64 a1_0, .int .i64 a1_1] 23 (0, 0))) := ⟨h1_⟩
                    have n2_ : Aside0 (w26.heap[gb176]? = some (.cells #[.int .i64 a2_0, .int .i64 a2_1] 23 (0, 0))) := ⟨h2_⟩
                    have n3_ : Aside0 (w26.heap[gb177]? = some (.cells #[.int .i64 a3_0, .int .i64 a3_1] 23 (0, 0))) := ⟨h3_⟩
                    have n4_ : Aside0 (w26.heap[gb189]? = some (.cells #[.int .i64 0, .int .i64 0] 25 (0, 0))) := ⟨h4_⟩
                    have n5_ : Aside0 (w.heap.size ≤ gb189) := ⟨h5_⟩
                    have n6_ : Aside0 (w.heap.size ≤ gb189) := ⟨h6_⟩
                    have n7_ : Aside0 (gb174 ≠ gb189) := ⟨h7_⟩
                    have n8_ : Aside0 (gb189 ≠ gb174) := ⟨h8_⟩
                    have n9_ : Aside0 (gb175 ≠ gb189) := ⟨h9_⟩
                    have n10_ : Aside0 (gb189 ≠ gb175) := ⟨h10_⟩
                    have n11_ : Aside0 (gb176 ≠ gb189) := ⟨h11_⟩
                    have n12_ : Aside0 (gb189 ≠ gb176) := ⟨h12_⟩
                    have n13_ : Aside0 (gb177 ≠ gb189) := ⟨h13_⟩
                    have n14_ : Aside0 (gb189 ≠ gb177) := ⟨h14_⟩
                    have n15_ : Aside0 (Below w.heap.size w w26) := ⟨h15_⟩
                    clear BK174
                    clear BK175
                    clear BK176
                    clear BK177
                    clear HB
                    clear h0_ h1_ h2_ h3_ h4_ h5_ h6_ h7_ h8_ h9_ h10_ h11_ h12_ h13_ h14_ h15_
                    have BK174 := n0_
                    have BK175 := n1_
                    have BK176 := n2_
                    have BK177 := n3_
                    have BK189 := n4_
                    have GW189 := n5_
                    have GE189 := n6_
                    have NB174_189 := n7_
                    have NB189_174 := n8_
                    have NB175_189 := n9_
                    have NB189_175 := n10_
                    have NB176_189 := n11_
                    have NB189_176 := n12_
                    have NB177_189 := n13_
                    have NB189_177 := n14_
                    have HB := n15_
                    clear n0_ n1_ n2_ n3_ n4_ n5_ n6_ n7_ n8_ n9_ n10_ n11_ n12_ n13_ n14_ n15_
                    have hHeld : w26.cell? ⟨gb174, 0, none⟩ = some (.int .i64 a0_0) ∧ w26.cell? ⟨gb174, 1, none⟩ = some (.int .i64 a0_1) ∧ w26.cell? ⟨gb175, 0, none⟩ = some (.int .i64 a1_0) ∧ w26.cell? ⟨gb175, 1, none⟩ = some (.int .i64 a1_1) ∧ w26.cell? ⟨gb176, 0, none⟩ = some (.int .i64 a2_0) ∧ w26.cell? ⟨gb176, 1, none⟩ = some (.int .i64 a2_1) ∧ w26.cell? ⟨gb177, 0, none⟩ = some (.int .i64 a3_0) ∧ w26.cell? ⟨gb177, 1, none⟩ = some (.int .i64 a3_1) := hS_
                    refine norm_ (a' := ?_) ?_ ?_
                    rotate_left
                    · simp only [putAll, Act.put, List.setIfInBounds_toArray, List.set_cons_zero, List.set_cons_succ]
                      rfl
                    refine one_ (i := 5) (N := some 19) #[true, true, true, true, true, true, true, false, false, false, false, false, true, false, false] rfl rfl (one_of HT_.out (by kernel_rfl)) (by decide) (fun K hK => ?_)
                    refine goes_ Try.func16 (by kernel_rfl) rfl #[.agg #[.int .i64 a2_0, .int .i64 a2_1]] (by rfl) rfl rfl (by (try simp only [List.map_toArray, List.map_cons, List.map_nil]); first | done | rfl | (simp only [List.length_drop, List.length_take]; rfl)) ?_
                    with_reducible refine (laws_toPoint.calls a2_0 a2_1 t182 t183 _ A7.out).mono ?_
                    rintro e w27 ⟨rfl, hb⟩
                    refine ⟨_, rfl, ?_⟩
                    have n0_ := kb BK174 hb
                    have n1_ := kb BK175 hb
                    have n2_ := kb BK176 hb
                    have n3_ := kb BK177 hb
                    have n4_ := kb BK189 hb
                    have n5_ := sb hb
                    clear BK174
                    clear BK175
                    clear BK176
                    clear BK177
                    clear BK189
                    clear HB
                    have BK174 := n0_
                    have BK175 := n1_
                    have BK176 := n2_
                    have BK177 := n3_
                    have BK189 := n4_
                    have HB := n5_
                    clear n0_ n1_ n2_ n3_ n4_ n5_
                    (try clear hb)
                    (try clear hb2)
                    (try clear hk)
                    (try clear hi)
                    refine hK.out _ _ ⟨(blk_cell BK174.out 0).trans rfl, (blk_cell BK174.out 1).trans rfl, (blk_cell BK175.out 0).trans rfl, (blk_cell BK175.out 1).trans rfl, (blk_cell BK176.out 0).trans rfl, (blk_cell BK176.out 1).trans rfl, (blk_cell BK177.out 0).trans rfl, (blk_cell BK177.out 1).trans rfl⟩ (fun hHeld => ?_)
                    clear hK K
                    refine norm_ (a' := ?_) ?_ ?_
                    rotate_left
                    · show Act.put _ (some 19) _ = _
                      simp only [Act.put, List.setIfInBounds_toArray, List.set_cons_zero, List.set_cons_succ, i64_w, i32_w]
                      rfl
                    exact norm_ (by first | (simp only [putAll, Act.put, List.setIfInBounds_toArray, List.set_cons_zero, List.set_cons_succ]; done) | (simp only [putAll, Act.put, List.setIfInBounds_toArray, List.set_cons_zero, List.set_cons_succ]; rfl)) (hJ1_3_5_12 (gb189) _ ⟨hHeld, (bk BK174), (bk BK175), (bk BK176), (bk BK177), (bk BK189), GW189.out, GE189.out, NB174_189.out, NB189_174.out, NB175_189.out, NB189_175.out, NB176_189.out, NB189_176.out, NB177_189.out, NB189_177.out, ib⟩)
                · skip
                  rintro _ w26 ⟨hS_, h0_, h1_, h2_, h3_, h4_⟩
                  have n0_ : Aside0 (w26.heap[gb174]? = some (.cells #[.int .i64 a0_0, .int .i64 a0_1] 23 (0, 0))) := ⟨h0_⟩
                  have n1_ : Aside0 (w26.heap[gb175]? = some (.cells #[.int .i64 a1_0, .int .i64 a1_1] 23 (0, 0))) := ⟨h1_⟩
                  have n2_ : Aside0 (w26.heap[gb176]? = some (.cells #[.int .i64 a2_0, .int .i64 a2_1] 23 (0, 0))) := ⟨h2_⟩
                  have n3_ : Aside0 (w26.heap[gb177]? = some (.cells #[.int .i64 a3_0, .int .i64 a3_1] 23 (0, 0))) := ⟨h3_⟩
                  have n4_ : Aside0 (Below w.heap.size w w26) := ⟨h4_⟩
                  clear BK174
                  clear BK175
                  clear BK176
                  clear BK177
                  clear HB
                  clear h0_ h1_ h2_ h3_ h4_
                  have BK174 := n0_
                  have BK175 := n1_
                  have BK176 := n2_
                  have BK177 := n3_
                  have HB := n4_
                  clear n0_ n1_ n2_ n3_ n4_
                  have hHeld : w26.cell? ⟨gb174, 0, none⟩ = some (.int .i64 a0_0) ∧ w26.cell? ⟨gb174, 1, none⟩ = some (.int .i64 a0_1) ∧ w26.cell? ⟨gb175, 0, none⟩ = some (.int .i64 a1_0) ∧ w26.cell? ⟨gb175, 1, none⟩ = some (.int .i64 a1_1) ∧ w26.cell? ⟨gb176, 0, none⟩ = some (.int .i64 a2_0) ∧ w26.cell? ⟨gb176, 1, none⟩ = some (.int .i64 a2_1) ∧ w26.cell? ⟨gb177, 0, none⟩ = some (.int .i64 a3_0) ∧ w26.cell? ⟨gb177, 1, none⟩ = some (.int .i64 a3_1) := hS_
                  refine norm_ (a' := ?_) ?_ ?_
                  rotate_left
                  · simp only [putAll, Act.put, List.setIfInBounds_toArray, List.set_cons_zero, List.set_cons_succ]
                    rfl
                  refine two_ (i := 7) (j := 12) (Ni := some 21) (Nj := some 9) #[true, true, true, true, true, true, true, true, false, false, false, false, false, false, false] #[true, true, true, true, true, true, true, false, false, false, false, false, true, false, false] rfl rfl rfl rfl (two_of HT_.out (by kernel_rfl)) (by decide) (by decide) (fun K hK => ?_) (fun K hK => ?_)
                  · skip
                    refine goes_ Try.func16 (by kernel_rfl) rfl #[.agg #[.int .i64 a3_0, .int .i64 a3_1]] (by rfl) rfl rfl (by (try simp only [List.map_toArray, List.map_cons, List.map_nil]); first | done | rfl | (simp only [List.length_drop, List.length_take]; rfl)) ?_
                    with_reducible refine (laws_toPoint.calls a3_0 a3_1 t184 t185 _ A8.out).mono ?_
                    rintro e w27 ⟨rfl, hb⟩
                    refine ⟨_, rfl, ?_⟩
                    have n0_ := kb BK174 hb
                    have n1_ := kb BK175 hb
                    have n2_ := kb BK176 hb
                    have n3_ := kb BK177 hb
                    have n4_ := sb hb
                    clear BK174
                    clear BK175
                    clear BK176
                    clear BK177
                    clear HB
                    have BK174 := n0_
                    have BK175 := n1_
                    have BK176 := n2_
                    have BK177 := n3_
                    have HB := n4_
                    clear n0_ n1_ n2_ n3_ n4_
                    (try clear hb)
                    (try clear hb2)
                    (try clear hk)
                    (try clear hi)
                    refine hK.out _ _ ⟨(blk_cell BK174.out 0).trans rfl, (blk_cell BK174.out 1).trans rfl, (blk_cell BK175.out 0).trans rfl, (blk_cell BK175.out 1).trans rfl, (blk_cell BK176.out 0).trans rfl, (blk_cell BK176.out 1).trans rfl, (blk_cell BK177.out 0).trans rfl, (blk_cell BK177.out 1).trans rfl⟩ (fun hHeld => ?_)
                    clear hK K
                    refine norm_ (a' := ?_) ?_ ?_
                    rotate_left
                    · show Act.put _ (some 21) _ = _
                      simp only [Act.put, List.setIfInBounds_toArray, List.set_cons_zero, List.set_cons_succ, i64_w, i32_w]
                      rfl
                    exact norm_ (by first | (simp only [putAll, Act.put, List.setIfInBounds_toArray, List.set_cons_zero, List.set_cons_succ]; done) | (simp only [putAll, Act.put, List.setIfInBounds_toArray, List.set_cons_zero, List.set_cons_succ]; rfl)) (hJ1_3_5_7 () _ ⟨hHeld, (bk BK174), (bk BK175), (bk BK176), (bk BK177), ib⟩)
                  · skip
                    refine box_step ?hg (N := 9) ?hd (cs := #[.int .i64 0, .int .i64 0]) (t := 25) ?hr ?_; (case hd => rfl); (case hg => rfl); (case hr => first | (go_simp; done) | (go_simp; rfl))
                    intro gb189 hg w27 hbox hb
                    have n0_ := kb BK174 hb
                    have n1_ := kb BK175 hb
                    have n2_ := kb BK176 hb
                    have n3_ := kb BK177 hb
                    have n4_ := sb hb
                    have n5_ := Aside0.mk (hbox)
                    have n6_ := zb hg
                    have n7_ := zb hg
                    have n8_ := nl BK174 hg
                    have n9_ := ng BK174 hg
                    have n10_ := nl BK175 hg
                    have n11_ := ng BK175 hg
                    have n12_ := nl BK176 hg
                    have n13_ := ng BK176 hg
                    have n14_ := nl BK177 hg
                    have n15_ := ng BK177 hg
                    clear BK174
                    clear BK175
                    clear BK176
                    clear BK177
                    clear HB
                    have BK174 := n0_
                    have BK175 := n1_
                    have BK176 := n2_
                    have BK177 := n3_
                    have HB := n4_
                    have BK189 := n5_
                    have GW189 := n6_
                    have GE189 := n7_
                    have NB174_189 := n8_
                    have NB189_174 := n9_
                    have NB175_189 := n10_
                    have NB189_175 := n11_
                    have NB176_189 := n12_
                    have NB189_176 := n13_
                    have NB177_189 := n14_
                    have NB189_177 := n15_
                    clear n0_ n1_ n2_ n3_ n4_ n5_ n6_ n7_ n8_ n9_ n10_ n11_ n12_ n13_ n14_ n15_
                    clear hb hbox hg
                    refine hK.out _ _ ⟨(blk_cell BK174.out 0).trans rfl, (blk_cell BK174.out 1).trans rfl, (blk_cell BK175.out 0).trans rfl, (blk_cell BK175.out 1).trans rfl, (blk_cell BK176.out 0).trans rfl, (blk_cell BK176.out 1).trans rfl, (blk_cell BK177.out 0).trans rfl, (blk_cell BK177.out 1).trans rfl⟩ (fun hHeld => ?_)
                    clear hK K
                    refine norm_ (a' := ?_) ?_ ?_
                    rotate_left
                    · show Act.put _ (some 9) _ = _
                      simp only [Act.put, List.setIfInBounds_toArray, List.set_cons_zero, List.set_cons_succ, i64_w, i32_w]
                      rfl
                    exact norm_ (by first | (simp only [putAll, Act.put, List.setIfInBounds_toArray, List.set_cons_zero, List.set_cons_succ]; done) | (simp only [putAll, Act.put, List.setIfInBounds_toArray, List.set_cons_zero, List.set_cons_succ]; rfl)) (hJ1_3_5_12 (gb189) _ ⟨hHeld, (bk BK174), (bk BK175), (bk BK176), (bk BK177), (bk BK189), GW189.out, GE189.out, NB174_189.out, NB189_174.out, NB175_189.out, NB189_175.out, NB176_189.out, NB189_176.out, NB177_189.out, NB189_177.out, ib⟩)
              · skip
                rintro gb189 w27 ⟨hS_, h0_, h1_, h2_, h3_, h4_, h5_, h6_, h7_, h8_, h9_, h10_, h11_, h12_, h13_, h14_, h15_⟩
                have n0_ : Aside0 (w27.heap[gb174]? = some (.cells #[.int .i64 a0_0, .int .i64 a0_1] 23 (0, 0))) := ⟨h0_⟩
                have n1_ : Aside0 (w27.heap[gb175]? = some (.cells #[.int .i64 a1_0, .int .i64 a1_1] 23 (0, 0))) := ⟨h1_⟩
                have n2_ : Aside0 (w27.heap[gb176]? = some (.cells #[.int .i64 a2_0, .int .i64 a2_1] 23 (0, 0))) := ⟨h2_⟩
                have n3_ : Aside0 (w27.heap[gb177]? = some (.cells #[.int .i64 a3_0, .int .i64 a3_1] 23 (0, 0))) := ⟨h3_⟩
                have n4_ : Aside0 (w27.heap[gb189]? = some (.cells #[.int .i64 0, .int .i64 0] 25 (0, 0))) := ⟨h4_⟩
                have n5_ : Aside0 (w.heap.size ≤ gb189) := ⟨h5_⟩
                have n6_ : Aside0 (w.heap.size ≤ gb189) := ⟨h6_⟩
                have n7_ : Aside0 (gb174 ≠ gb189) := ⟨h7_⟩
                have n8_ : Aside0 (gb189 ≠ gb174) := ⟨h8_⟩
                have n9_ : Aside0 (gb175 ≠ gb189) := ⟨h9_⟩
                have n10_ : Aside0 (gb189 ≠ gb175) := ⟨h10_⟩
                have n11_ : Aside0 (gb176 ≠ gb189) := ⟨h11_⟩
                have n12_ : Aside0 (gb189 ≠ gb176) := ⟨h12_⟩
                have n13_ : Aside0 (gb177 ≠ gb189) := ⟨h13_⟩
                have n14_ : Aside0 (gb189 ≠ gb177) := ⟨h14_⟩
                have n15_ : Aside0 (Below w.heap.size w w27) := ⟨h15_⟩
                clear BK174
                clear BK175
                clear BK176
                clear BK177
                clear HB
                clear h0_ h1_ h2_ h3_ h4_ h5_ h6_ h7_ h8_ h9_ h10_ h11_ h12_ h13_ h14_ h15_
                have BK174 := n0_
                have BK175 := n1_
                have BK176 := n2_
                have BK177 := n3_
                have BK189 := n4_
                have GW189 := n5_
                have GE189 := n6_
                have NB174_189 := n7_
                have NB189_174 := n8_
                have NB175_189 := n9_
                have NB189_175 := n10_
                have NB176_189 := n11_
                have NB189_176 := n12_
                have NB177_189 := n13_
                have NB189_177 := n14_
                have HB := n15_
                clear n0_ n1_ n2_ n3_ n4_ n5_ n6_ n7_ n8_ n9_ n10_ n11_ n12_ n13_ n14_ n15_
                have hHeld : w27.cell? ⟨gb174, 0, none⟩ = some (.int .i64 a0_0) ∧ w27.cell? ⟨gb174, 1, none⟩ = some (.int .i64 a0_1) ∧ w27.cell? ⟨gb175, 0, none⟩ = some (.int .i64 a1_0) ∧ w27.cell? ⟨gb175, 1, none⟩ = some (.int .i64 a1_1) ∧ w27.cell? ⟨gb176, 0, none⟩ = some (.int .i64 a2_0) ∧ w27.cell? ⟨gb176, 1, none⟩ = some (.int .i64 a2_1) ∧ w27.cell? ⟨gb177, 0, none⟩ = some (.int .i64 a3_0) ∧ w27.cell? ⟨gb177, 1, none⟩ = some (.int .i64 a3_1) := hS_
                refine norm_ (a' := ?_) ?_ ?_
                rotate_left
                · simp only [putAll, Act.put, List.setIfInBounds_toArray, List.set_cons_zero, List.set_cons_succ]
                  rfl
                refine one_ (i := 7) (N := some 21) #[true, true, true, true, true, true, true, true, false, false, false, false, true, false, false] rfl rfl (one_of HT_.out (by kernel_rfl)) (by decide) (fun K hK => ?_)
                refine goes_ Try.func16 (by kernel_rfl) rfl #[.agg #[.int .i64 a3_0, .int .i64 a3_1]] (by rfl) rfl rfl (by (try simp only [List.map_toArray, List.map_cons, List.map_nil]); first | done | rfl | (simp only [List.length_drop, List.length_take]; rfl)) ?_
                with_reducible refine (laws_toPoint.calls a3_0 a3_1 t184 t185 _ A8.out).mono ?_
                rintro e w28 ⟨rfl, hb⟩
                refine ⟨_, rfl, ?_⟩
                have n0_ := kb BK174 hb
                have n1_ := kb BK175 hb
                have n2_ := kb BK176 hb
                have n3_ := kb BK177 hb
                have n4_ := kb BK189 hb
                have n5_ := sb hb
                clear BK174
                clear BK175
                clear BK176
                clear BK177
                clear BK189
                clear HB
                have BK174 := n0_
                have BK175 := n1_
                have BK176 := n2_
                have BK177 := n3_
                have BK189 := n4_
                have HB := n5_
                clear n0_ n1_ n2_ n3_ n4_ n5_
                (try clear hb)
                (try clear hb2)
                (try clear hk)
                (try clear hi)
                refine hK.out _ _ ⟨(blk_cell BK174.out 0).trans rfl, (blk_cell BK174.out 1).trans rfl, (blk_cell BK175.out 0).trans rfl, (blk_cell BK175.out 1).trans rfl, (blk_cell BK176.out 0).trans rfl, (blk_cell BK176.out 1).trans rfl, (blk_cell BK177.out 0).trans rfl, (blk_cell BK177.out 1).trans rfl⟩ (fun hHeld => ?_)
                clear hK K
                refine norm_ (a' := ?_) ?_ ?_
                rotate_left
                · show Act.put _ (some 21) _ = _
                  simp only [Act.put, List.setIfInBounds_toArray, List.set_cons_zero, List.set_cons_succ, i64_w, i32_w]
                  rfl
                exact norm_ (by first | (simp only [putAll, Act.put, List.setIfInBounds_toArray, List.set_cons_zero, List.set_cons_succ]; done) | (simp only [putAll, Act.put, List.setIfInBounds_toArray, List.set_cons_zero, List.set_cons_succ]; rfl)) (hJ1_3_5_7_12 (gb189) _ ⟨hHeld, (bk BK174), (bk BK175), (bk BK176), (bk BK177), (bk BK189), GW189.out, GE189.out, NB174_189.out, NB189_174.out, NB175_189.out, NB189_175.out, NB176_189.out, NB189_176.out, NB177_189.out, NB189_177.out, ib⟩)
            · skip
              rintro _ w27 ⟨hS_, h0_, h1_, h2_, h3_, h4_⟩
              have n0_ : Aside0 (w27.heap[gb174]? = some (.cells #[.int .i64 a0_0, .int .i64 a0_1] 23 (0, 0))) := ⟨h0_⟩
              have n1_ : Aside0 (w27.heap[gb175]? = some (.cells #[.int .i64 a1_0, .int .i64 a1_1] 23 (0, 0))) := ⟨h1_⟩
              have n2_ : Aside0 (w27.heap[gb176]? = some (.cells #[.int .i64 a2_0, .int .i64 a2_1] 23 (0, 0))) := ⟨h2_⟩
              have n3_ : Aside0 (w27.heap[gb177]? = some (.cells #[.int .i64 a3_0, .int .i64 a3_1] 23 (0, 0))) := ⟨h3_⟩
              have n4_ : Aside0 (Below w.heap.size w w27) := ⟨h4_⟩
              clear BK174
              clear BK175
              clear BK176
              clear BK177
              clear HB
              clear h0_ h1_ h2_ h3_ h4_
              have BK174 := n0_
              have BK175 := n1_
              have BK176 := n2_
              have BK177 := n3_
              have HB := n4_
              clear n0_ n1_ n2_ n3_ n4_
              have hHeld : w27.cell? ⟨gb174, 0, none⟩ = some (.int .i64 a0_0) ∧ w27.cell? ⟨gb174, 1, none⟩ = some (.int .i64 a0_1) ∧ w27.cell? ⟨gb175, 0, none⟩ = some (.int .i64 a1_0) ∧ w27.cell? ⟨gb175, 1, none⟩ = some (.int .i64 a1_1) ∧ w27.cell? ⟨gb176, 0, none⟩ = some (.int .i64 a2_0) ∧ w27.cell? ⟨gb176, 1, none⟩ = some (.int .i64 a2_1) ∧ w27.cell? ⟨gb177, 0, none⟩ = some (.int .i64 a3_0) ∧ w27.cell? ⟨gb177, 1, none⟩ = some (.int .i64 a3_1) := hS_
              refine norm_ (a' := ?_) ?_ ?_
              rotate_left
              · simp only [putAll, Act.put, List.setIfInBounds_toArray, List.set_cons_zero, List.set_cons_succ]
                rfl
              refine two_ (i := 8) (j := 12) (Ni := some 22) (Nj := some 9) #[true, true, true, true, true, true, true, true, true, false, false, false, false, false, false] #[true, true, true, true, true, true, true, true, false, false, false, false, true, false, false] rfl rfl rfl rfl (two_of HT_.out (by kernel_rfl)) (by decide) (by decide) (fun K hK => ?_) (fun K hK => ?_)
              · skip
                refine goes_ Try.func26 (by kernel_rfl) rfl #[.agg #[.int .i64 t178, .int .i64 t179], .agg #[.int .i64 t180, .int .i64 t181], .agg #[.int .i64 t182, .int .i64 t183], .agg #[.int .i64 t184, .int .i64 t185]] (by rfl) rfl rfl (by (try simp only [List.map_toArray, List.map_cons, List.map_nil]); first | done | rfl | (simp only [List.length_drop, List.length_take]; rfl)) ?_
                with_reducible refine (spec_CrossPoint.calls t178 t179 t180 t181 t182 t183 t184 t185 t186 t187 t188 _ A9.out).mono ?_
                rintro e w28 ⟨rfl, hb⟩
                refine ⟨_, rfl, ?_⟩
                have n0_ := kb BK174 hb
                have n1_ := kb BK175 hb
                have n2_ := kb BK176 hb
                have n3_ := kb BK177 hb
                have n4_ := sb hb
                clear BK174
                clear BK175
                clear BK176
                clear BK177
                clear HB
                have BK174 := n0_
                have BK175 := n1_
                have BK176 := n2_
                have BK177 := n3_
                have HB := n4_
                clear n0_ n1_ n2_ n3_ n4_
                (try clear hb)
                (try clear hb2)
                (try clear hk)
                (try clear hi)
                refine hK.out _ _ ⟨(blk_cell BK174.out 0).trans rfl, (blk_cell BK174.out 1).trans rfl, (blk_cell BK175.out 0).trans rfl, (blk_cell BK175.out 1).trans rfl, (blk_cell BK176.out 0).trans rfl, (blk_cell BK176.out 1).trans rfl, (blk_cell BK177.out 0).trans rfl, (blk_cell BK177.out 1).trans rfl⟩ (fun hHeld => ?_)
                clear hK K
                refine norm_ (a' := ?_) ?_ ?_
                rotate_left
                · show Act.put _ (some 22) _ = _
                  simp only [Act.put, List.setIfInBounds_toArray, List.set_cons_zero, List.set_cons_succ, i64_w, i32_w]
                  rfl
                refine pure_ (i := 9) (N := some 13) (v := ?_) (a' := ?_) #[true, true, true, true, true, true, true, true, true, true, false, false, false, false, false] rfl rfl (any_of HT_.out (by kernel_rfl)) (fun _ _ _ h => h) (Or.inl ⟨by rfl, ?_⟩) ?_ ?_
                rotate_left
                · intro w'
                  go_simp
                  with_reducible rfl
                rotate_left
                · exact pa
                refine pure_ (i := 10) (N := some 23) (v := ?_) (a' := ?_) #[true, true, true, true, true, true, true, true, true, true, true, false, false, false, false] rfl rfl (any_of HT_.out (by kernel_rfl)) (fun _ _ _ h => h) (Or.inl ⟨by rfl, ?_⟩) ?_ ?_
                rotate_left
                · intro w'
                  go_simp
                  with_reducible rfl
                rotate_left
                · exact pa
                refine pure_ (i := 11) (N := some 24) (v := ?_) (a' := ?_) #[true, true, true, true, true, true, true, true, true, true, true, true, false, false, false] rfl rfl (any_of HT_.out (by kernel_rfl)) (fun _ _ _ h => h) (Or.inl ⟨by rfl, ?_⟩) ?_ ?_
                rotate_left
                · intro w'
                  go_simp
                  with_reducible rfl
                rotate_left
                · exact pa
                exact norm_ (by first | (simp only [putAll, Act.put, List.setIfInBounds_toArray, List.set_cons_zero, List.set_cons_succ]; done) | (simp only [putAll, Act.put, List.setIfInBounds_toArray, List.set_cons_zero, List.set_cons_succ]; rfl)) (hJ1_3_5_7_8 () _ ⟨hHeld, (bk BK174), (bk BK175), (bk BK176), (bk BK177), ib⟩)
              · skip
                refine box_step ?hg (N := 9) ?hd (cs := #[.int .i64 0, .int .i64 0]) (t := 25) ?hr ?_; (case hd => rfl); (case hg => rfl); (case hr => first | (go_simp; done) | (go_simp; rfl))
                intro gb189 hg w28 hbox hb
                have n0_ := kb BK174 hb
                have n1_ := kb BK175 hb
                have n2_ := kb BK176 hb
                have n3_ := kb BK177 hb
                have n4_ := sb hb
                have n5_ := Aside0.mk (hbox)
                have n6_ := zb hg
                have n7_ := zb hg
                have n8_ := nl BK174 hg
                have n9_ := ng BK174 hg
                have n10_ := nl BK175 hg
                have n11_ := ng BK175 hg
                have n12_ := nl BK176 hg
                have n13_ := ng BK176 hg
                have n14_ := nl BK177 hg
                have n15_ := ng BK177 hg
                clear BK174
                clear BK175
                clear BK176
                clear BK177
                clear HB
                have BK174 := n0_
                have BK175 := n1_
                have BK176 := n2_
                have BK177 := n3_
                have HB := n4_
                have BK189 := n5_
                have GW189 := n6_
                have GE189 := n7_
                have NB174_189 := n8_
                have NB189_174 := n9_
                have NB175_189 := n10_
                have NB189_175 := n11_
                have NB176_189 := n12_
                have NB189_176 := n13_
                have NB177_189 := n14_
                have NB189_177 := n15_
                clear n0_ n1_ n2_ n3_ n4_ n5_ n6_ n7_ n8_ n9_ n10_ n11_ n12_ n13_ n14_ n15_
                clear hb hbox hg
                refine hK.out _ _ ⟨(blk_cell BK174.out 0).trans rfl, (blk_cell BK174.out 1).trans rfl, (blk_cell BK175.out 0).trans rfl, (blk_cell BK175.out 1).trans rfl, (blk_cell BK176.out 0).trans rfl, (blk_cell BK176.out 1).trans rfl, (blk_cell BK177.out 0).trans rfl, (blk_cell BK177.out 1).trans rfl⟩ (fun hHeld => ?_)
                clear hK K
                refine norm_ (a' := ?_) ?_ ?_
                rotate_left
                · show Act.put _ (some 9) _ = _
                  simp only [Act.put, List.setIfInBounds_toArray, List.set_cons_zero, List.set_cons_succ, i64_w, i32_w]
                  rfl
                exact norm_ (by first | (simp only [putAll, Act.put, List.setIfInBounds_toArray, List.set_cons_zero, List.set_cons_succ]; done) | (simp only [putAll, Act.put, List.setIfInBounds_toArray, List.set_cons_zero, List.set_cons_succ]; rfl)) (hJ1_3_5_7_12 (gb189) _ ⟨hHeld, (bk BK174), (bk BK175), (bk BK176), (bk BK177), (bk BK189), GW189.out, GE189.out, NB174_189.out, NB189_174.out, NB175_189.out, NB189_175.out, NB176_189.out, NB189_176.out, NB177_189.out, NB189_177.out, ib⟩)
          · skip
            rintro gb189 w28 ⟨hS_, h0_, h1_, h2_, h3_, h4_, h5_, h6_, h7_, h8_, h9_, h10_, h11_, h12_, h13_, h14_, h15_⟩
            have n0_ : Aside0 (w28.heap[gb174]? = some (.cells #[.int .i64 a0_0, .int .i64 a0_1] 23 (0, 0))) := ⟨h0_⟩
            have n1_ : Aside0 (w28.heap[gb175]? = some (.cells #[.int .i64 a1_0, .int .i64 a1_1] 23 (0, 0))) := ⟨h1_⟩
            have n2_ : Aside0 (w28.heap[gb176]? = some (.cells #[.int .i64 a2_0, .int .i64 a2_1] 23 (0, 0))) := ⟨h2_⟩
            have n3_ : Aside0 (w28.heap[gb177]? = some (.cells #[.int .i64 a3_0, .int .i64 a3_1] 23 (0, 0))) := ⟨h3_⟩
            have n4_ : Aside0 (w28.heap[gb189]? = some (.cells #[.int .i64 0, .int .i64 0] 25 (0, 0))) := ⟨h4_⟩
            have n5_ : Aside0 (w.heap.size ≤ gb189) := ⟨h5_⟩
            have n6_ : Aside0 (w.heap.size ≤ gb189) := ⟨h6_⟩
            have n7_ : Aside0 (gb174 ≠ gb189) := ⟨h7_⟩
            have n8_ : Aside0 (gb189 ≠ gb174) := ⟨h8_⟩
            have n9_ : Aside0 (gb175 ≠ gb189) := ⟨h9_⟩
            have n10_ : Aside0 (gb189 ≠ gb175) := ⟨h10_⟩
            have n11_ : Aside0 (gb176 ≠ gb189) := ⟨h11_⟩
            have n12_ : Aside0 (gb189 ≠ gb176) := ⟨h12_⟩
            have n13_ : Aside0 (gb177 ≠ gb189) := ⟨h13_⟩
            have n14_ : Aside0 (gb189 ≠ gb177) := ⟨h14_⟩
            have n15_ : Aside0 (Below w.heap.size w w28) := ⟨h15_⟩
            clear BK174
            clear BK175
            clear BK176
            clear BK177
            clear HB
            clear h0_ h1_ h2_ h3_ h4_ h5_ h6_ h7_ h8_ h9_ h10_ h11_ h12_ h13_ h14_ h15_
            have BK174 := n0_
            have BK175 := n1_
            have BK176 := n2_
            have BK177 := n3_
            have BK189 := n4_
            have GW189 := n5_
            have GE189 := n6_
            have NB174_189 := n7_
            have NB189_174 := n8_
            have NB175_189 := n9_
            have NB189_175 := n10_
            have NB176_189 := n11_
            have NB189_176 := n12_
            have NB177_189 := n13_
            have NB189_177 := n14_
            have HB := n15_
            clear n0_ n1_ n2_ n3_ n4_ n5_ n6_ n7_ n8_ n9_ n10_ n11_ n12_ n13_ n14_ n15_
            have hHeld : w28.cell? ⟨gb174, 0, none⟩ = some (.int .i64 a0_0) ∧ w28.cell? ⟨gb174, 1, none⟩ = some (.int .i64 a0_1) ∧ w28.cell? ⟨gb175, 0, none⟩ = some (.int .i64 a1_0) ∧ w28.cell? ⟨gb175, 1, none⟩ = some (.int .i64 a1_1) ∧ w28.cell? ⟨gb176, 0, none⟩ = some (.int .i64 a2_0) ∧ w28.cell? ⟨gb176, 1, none⟩ = some (.int .i64 a2_1) ∧ w28.cell? ⟨gb177, 0, none⟩ = some (.int .i64 a3_0) ∧ w28.cell? ⟨gb177, 1, none⟩ = some (.int .i64 a3_1) := hS_
            refine norm_ (a' := ?_) ?_ ?_
            rotate_left
            · simp only [putAll, Act.put, List.setIfInBounds_toArray, List.set_cons_zero, List.set_cons_succ]
              rfl
            refine one_ (i := 8) (N := some 22) #[true, true, true, true, true, true, true, true, true, false, false, false, true, false, false] rfl rfl (one_of HT_.out (by kernel_rfl)) (by decide) (fun K hK => ?_)
            refine goes_ Try.func26 (by kernel_rfl) rfl #[.agg #[.int .i64 t178, .int .i64 t179], .agg #[.int .i64 t180, .int .i64 t181], .agg #[.int .i64 t182, .int .i64 t183], .agg #[.int .i64 t184, .int .i64 t185]] (by rfl) rfl rfl (by (try simp only [List.map_toArray, List.map_cons, List.map_nil]); first | done | rfl | (simp only [List.length_drop, List.length_take]; rfl)) ?_
            with_reducible refine (spec_CrossPoint.calls t178 t179 t180 t181 t182 t183 t184 t185 t186 t187 t188 _ A9.out).mono ?_
            rintro e w29 ⟨rfl, hb⟩
            refine ⟨_, rfl, ?_⟩
            have n0_ := kb BK174 hb
            have n1_ := kb BK175 hb
            have n2_ := kb BK176 hb
            have n3_ := kb BK177 hb
            have n4_ := kb BK189 hb
            have n5_ := sb hb
            clear BK174
            clear BK175
            clear BK176
            clear BK177
            clear BK189
            clear HB
            have BK174 := n0_
            have BK175 := n1_
            have BK176 := n2_
            have BK177 := n3_
            have BK189 := n4_
            have HB := n5_
            clear n0_ n1_ n2_ n3_ n4_ n5_
            (try clear hb)
            (try clear hb2)
            (try clear hk)
            (try clear hi)
            refine hK.out _ _ ⟨(blk_cell BK174.out 0).trans rfl, (blk_cell BK174.out 1).trans rfl, (blk_cell BK175.out 0).trans rfl, (blk_cell BK175.out 1).trans rfl, (blk_cell BK176.out 0).trans rfl, (blk_cell BK176.out 1).trans rfl, (blk_cell BK177.out 0).trans rfl, (blk_cell BK177.out 1).trans rfl⟩ (fun hHeld => ?_)
            clear hK K
            refine norm_ (a' := ?_) ?_ ?_
            rotate_left
            · show Act.put _ (some 22) _ = _
              simp only [Act.put, List.setIfInBounds_toArray, List.set_cons_zero, List.set_cons_succ, i64_w, i32_w]
              rfl
            refine pure_ (i := 9) (N := some 13) (v := ?_) (a' := ?_) #[true, true, true, true, true, true, true, true, true, true, false, false, true, false, false] rfl rfl (any_of HT_.out (by kernel_rfl)) (fun _ _ _ h => h) (Or.inl ⟨by rfl, ?_⟩) ?_ ?_
            rotate_left
            · intro w'
              go_simp
              with_reducible rfl
            rotate_left
            · exact pa
            refine pure_ (i := 10) (N := some 23) (v := ?_) (a' := ?_) #[true, true, true, true, true, true, true, true, true, true, true, false, true, false, false] rfl rfl (any_of HT_.out (by kernel_rfl)) (fun _ _ _ h => h) (Or.inl ⟨by rfl, ?_⟩) ?_ ?_
            rotate_left
            · intro w'
              go_simp
              with_reducible rfl
            rotate_left
            · exact pa
            refine pure_ (i := 11) (N := some 24) (v := ?_) (a' := ?_) #[true, true, true, true, true, true, true, true, true, true, true, true, true, false, false] rfl rfl (any_of HT_.out (by kernel_rfl)) (fun _ _ _ h => h) (Or.inl ⟨by rfl, ?_⟩) ?_ ?_
            rotate_left
            · intro w'
              go_simp
              with_reducible rfl
            rotate_left
            · exact pa
            exact norm_ (by first | (simp only [putAll, Act.put, List.setIfInBounds_toArray, List.set_cons_zero, List.set_cons_succ]; done) | (simp only [putAll, Act.put, List.setIfInBounds_toArray, List.set_cons_zero, List.set_cons_succ]; rfl)) (hJ1_3_5_7_8_12 (gb189) _ ⟨hHeld, (bk BK174), (bk BK175), (bk BK176), (bk BK177), (bk BK189), GW189.out, GE189.out, NB174_189.out, NB189_174.out, NB175_189.out, NB189_175.out, NB176_189.out, NB189_176.out, NB177_189.out, NB189_177.out, ib⟩)
        · skip
          rintro _ w28 ⟨hS_, h0_, h1_, h2_, h3_, h4_⟩
          have n0_ : Aside0 (w28.heap[gb174]? = some (.cells #[.int .i64 a0_0, .int .i64 a0_1] 23 (0, 0))) := ⟨h0_⟩
          have n1_ : Aside0 (w28.heap[gb175]? = some (.cells #[.int .i64 a1_0, .int .i64 a1_1] 23 (0, 0))) := ⟨h1_⟩
          have n2_ : Aside0 (w28.heap[gb176]? = some (.cells #[.int .i64 a2_0, .int .i64 a2_1] 23 (0, 0))) := ⟨h2_⟩
          have n3_ : Aside0 (w28.heap[gb177]? = some (.cells #[.int .i64 a3_0, .int .i64 a3_1] 23 (0, 0))) := ⟨h3_⟩
          have n4_ : Aside0 (Below w.heap.size w w28) := ⟨h4_⟩
          clear BK174
          clear BK175
          clear BK176
          clear BK177
          clear HB
          clear h0_ h1_ h2_ h3_ h4_
          have BK174 := n0_
          have BK175 := n1_
          have BK176 := n2_
          have BK177 := n3_
          have HB := n4_
          clear n0_ n1_ n2_ n3_ n4_
          have hHeld : w28.cell? ⟨gb174, 0, none⟩ = some (.int .i64 a0_0) ∧ w28.cell? ⟨gb174, 1, none⟩ = some (.int .i64 a0_1) ∧ w28.cell? ⟨gb175, 0, none⟩ = some (.int .i64 a1_0) ∧ w28.cell? ⟨gb175, 1, none⟩ = some (.int .i64 a1_1) ∧ w28.cell? ⟨gb176, 0, none⟩ = some (.int .i64 a2_0) ∧ w28.cell? ⟨gb176, 1, none⟩ = some (.int .i64 a2_1) ∧ w28.cell? ⟨gb177, 0, none⟩ = some (.int .i64 a3_0) ∧ w28.cell? ⟨gb177, 1, none⟩ = some (.int .i64 a3_1) := hS_
          refine norm_ (a' := ?_) ?_ ?_
          rotate_left
          · simp only [putAll, Act.put, List.setIfInBounds_toArray, List.set_cons_zero, List.set_cons_succ]
            rfl
          refine one_ (i := 12) (N := some 9) #[true, true, true, true, true, true, true, true, true, true, true, true, true, false, false] rfl rfl (one_of HT_.out (by kernel_rfl)) (by decide) (fun K hK => ?_)
          refine box_step ?hg (N := 9) ?hd (cs := #[.int .i64 0, .int .i64 0]) (t := 25) ?hr ?_; (case hd => rfl); (case hg => rfl); (case hr => first | (go_simp; done) | (go_simp; rfl))
          intro gb189 hg w29 hbox hb
          have n0_ := kb BK174 hb
          have n1_ := kb BK175 hb
          have n2_ := kb BK176 hb
          have n3_ := kb BK177 hb
          have n4_ := sb hb
          have n5_ := Aside0.mk (hbox)
          have n6_ := zb hg
          have n7_ := zb hg
          have n8_ := nl BK174 hg
          have n9_ := ng BK174 hg
          have n10_ := nl BK175 hg
          have n11_ := ng BK175 hg
          have n12_ := nl BK176 hg
          have n13_ := ng BK176 hg
          have n14_ := nl BK177 hg
          have n15_ := ng BK177 hg
          clear BK174
          clear BK175
          clear BK176
          clear BK177
          clear HB
          have BK174 := n0_
          have BK175 := n1_
          have BK176 := n2_
          have BK177 := n3_
          have HB := n4_
          have BK189 := n5_
          have GW189 := n6_
          have GE189 := n7_
          have NB174_189 := n8_
          have NB189_174 := n9_
          have NB175_189 := n10_
          have NB189_175 := n11_
          have NB176_189 := n12_
          have NB189_176 := n13_
          have NB177_189 := n14_
          have NB189_177 := n15_
          clear n0_ n1_ n2_ n3_ n4_ n5_ n6_ n7_ n8_ n9_ n10_ n11_ n12_ n13_ n14_ n15_
          clear hb hbox hg
          refine hK.out _ _ ⟨(blk_cell BK174.out 0).trans rfl, (blk_cell BK174.out 1).trans rfl, (blk_cell BK175.out 0).trans rfl, (blk_cell BK175.out 1).trans rfl, (blk_cell BK176.out 0).trans rfl, (blk_cell BK176.out 1).trans rfl, (blk_cell BK177.out 0).trans rfl, (blk_cell BK177.out 1).trans rfl⟩ (fun hHeld => ?_)
          clear hK K
          refine norm_ (a' := ?_) ?_ ?_
          rotate_left
          · show Act.put _ (some 9) _ = _
            simp only [Act.put, List.setIfInBounds_toArray, List.set_cons_zero, List.set_cons_succ, i64_w, i32_w]
            rfl
          exact norm_ (by first | (simp only [putAll, Act.put, List.setIfInBounds_toArray, List.set_cons_zero, List.set_cons_succ]; done) | (simp only [putAll, Act.put, List.setIfInBounds_toArray, List.set_cons_zero, List.set_cons_succ]; rfl)) (hJ1_3_5_7_8_12 (gb189) _ ⟨hHeld, (bk BK174), (bk BK175), (bk BK176), (bk BK177), (bk BK189), GW189.out, GE189.out, NB174_189.out, NB189_174.out, NB175_189.out, NB189_175.out, NB176_189.out, NB189_176.out, NB177_189.out, NB189_177.out, ib⟩)
      rintro gb189 w29 ⟨hS_, h0_, h1_, h2_, h3_, h4_, h5_, h6_, h7_, h8_, h9_, h10_, h11_, h12_, h13_, h14_, h15_⟩
      have n0_ : Aside0 (w29.heap[gb174]? = some (.cells #[.int .i64 a0_0, .int .i64 a0_1] 23 (0, 0))) := ⟨h0_⟩
      have n1_ : Aside0 (w29.heap[gb175]? = some (.cells #[.int .i64 a1_0, .int .i64 a1_1] 23 (0, 0))) := ⟨h1_⟩
      have n2_ : Aside0 (w29.heap[gb176]? = some (.cells #[.int .i64 a2_0, .int .i64 a2_1] 23 (0, 0))) := ⟨h2_⟩
      have n3_ : Aside0 (w29.heap[gb177]? = some (.cells #[.int .i64 a3_0, .int .i64 a3_1] 23 (0, 0))) := ⟨h3_⟩
      have n4_ : Aside0 (w29.heap[gb189]? = some (.cells #[.int .i64 0, .int .i64 0] 25 (0, 0))) := ⟨h4_⟩
      have n5_ : Aside0 (w.heap.size ≤ gb189) := ⟨h5_⟩
      have n6_ : Aside0 (w.heap.size ≤ gb189) := ⟨h6_⟩
      have n7_ : Aside0 (gb174 ≠ gb189) := ⟨h7_⟩
      have n8_ : Aside0 (gb189 ≠ gb174) := ⟨h8_⟩
      have n9_ : Aside0 (gb175 ≠ gb189) := ⟨h9_⟩
      have n10_ : Aside0 (gb189 ≠ gb175) := ⟨h10_⟩
      have n11_ : Aside0 (gb176 ≠ gb189) := ⟨h11_⟩
      have n12_ : Aside0 (gb189 ≠ gb176) := ⟨h12_⟩
      have n13_ : Aside0 (gb177 ≠ gb189) := ⟨h13_⟩
      have n14_ : Aside0 (gb189 ≠ gb177) := ⟨h14_⟩
      have n15_ : Aside0 (Below w.heap.size w w29) := ⟨h15_⟩
      clear BK174
      clear BK175
      clear BK176
      clear BK177
      clear HB
      clear h0_ h1_ h2_ h3_ h4_ h5_ h6_ h7_ h8_ h9_ h10_ h11_ h12_ h13_ h14_ h15_
      have BK174 := n0_
      have BK175 := n1_
      have BK176 := n2_
      have BK177 := n3_
      have BK189 := n4_
      have GW189 := n5_
      have GE189 := n6_
      have NB174_189 := n7_
      have NB189_174 := n8_
      have NB175_189 := n9_
      have NB189_175 := n10_
      have NB176_189 := n11_
      have NB189_176 := n12_
      have NB177_189 := n13_
      have NB189_177 := n14_
      have HB := n15_
      clear n0_ n1_ n2_ n3_ n4_ n5_ n6_ n7_ n8_ n9_ n10_ n11_ n12_ n13_ n14_ n15_
      have hHeld : w29.cell? ⟨gb174, 0, none⟩ = some (.int .i64 a0_0) ∧ w29.cell? ⟨gb174, 1, none⟩ = some (.int .i64 a0_1) ∧ w29.cell? ⟨gb175, 0, none⟩ = some (.int .i64 a1_0) ∧ w29.cell? ⟨gb175, 1, none⟩ = some (.int .i64 a1_1) ∧ w29.cell? ⟨gb176, 0, none⟩ = some (.int .i64 a2_0) ∧ w29.cell? ⟨gb176, 1, none⟩ = some (.int .i64 a2_1) ∧ w29.cell? ⟨gb177, 0, none⟩ = some (.int .i64 a3_0) ∧ w29.cell? ⟨gb177, 1, none⟩ = some (.int .i64 a3_1) := hS_
      refine norm_ (a' := ?_) ?_ ?_
      rotate_left
      · simp only [putAll, Act.put, List.setIfInBounds_toArray, List.set_cons_zero, List.set_cons_succ]
        rfl
      refine one_ (i := 13) (N := none) #[true, true, true, true, true, true, true, true, true, true, true, true, true, true, false] rfl rfl (one_of HT_.out (by kernel_rfl)) (by decide) (fun K hK => ?_)
      have hs30 : w29.cell? ⟨gb189, 0, none⟩ = some (.int .i64 0) := (blk_cell BK189.out 0).trans rfl
      have hfs30 := blk_frozen BK189.out 0
      have hns30_0 := NB174_189.out
      have hns30_1 := NB175_189.out
      have hns30_2 := NB176_189.out
      have hns30_3 := NB177_189.out
      have hms30_0 := NB189_174.out
      have hms30_1 := NB189_175.out
      have hms30_2 := NB189_176.out
      have hms30_3 := NB189_177.out
      have hs31 : w29.cell? ⟨gb189, 1, none⟩ = some (.int .i64 0) := (blk_cell BK189.out 1).trans rfl
      have hfs31 := blk_frozen BK189.out 1
      have hns31_0 := NB174_189.out
      have hns31_1 := NB175_189.out
      have hns31_2 := NB176_189.out
      have hns31_3 := NB177_189.out
      have hms31_0 := NB189_174.out
      have hms31_1 := NB189_175.out
      have hms31_2 := NB189_176.out
      have hms31_3 := NB189_177.out
      refine skip_ (w1 := ?_) (by rfl) rfl ?_ ?_
      rotate_left
      · go_simp
        rfl
      refine hK.out _ _ ⟨((cell_far (p := ⟨gb189, _, none⟩) NB174_189.out _).trans (((cell_far (p := ⟨gb189, _, none⟩) NB174_189.out _).trans (hHeld.1)))), ((cell_far (p := ⟨gb189, _, none⟩) NB174_189.out _).trans (((cell_far (p := ⟨gb189, _, none⟩) NB174_189.out _).trans (hHeld.2.1)))), ((cell_far (p := ⟨gb189, _, none⟩) NB175_189.out _).trans (((cell_far (p := ⟨gb189, _, none⟩) NB175_189.out _).trans (hHeld.2.2.1)))), ((cell_far (p := ⟨gb189, _, none⟩) NB175_189.out _).trans (((cell_far (p := ⟨gb189, _, none⟩) NB175_189.out _).trans (hHeld.2.2.2.1)))), ((cell_far (p := ⟨gb189, _, none⟩) NB176_189.out _).trans (((cell_far (p := ⟨gb189, _, none⟩) NB176_189.out _).trans (hHeld.2.2.2.2.1)))), ((cell_far (p := ⟨gb189, _, none⟩) NB176_189.out _).trans (((cell_far (p := ⟨gb189, _, none⟩) NB176_189.out _).trans (hHeld.2.2.2.2.2.1)))), ((cell_far (p := ⟨gb189, _, none⟩) NB177_189.out _).trans (((cell_far (p := ⟨gb189, _, none⟩) NB177_189.out _).trans (hHeld.2.2.2.2.2.2.1)))), ((cell_far (p := ⟨gb189, _, none⟩) NB177_189.out _).trans (((cell_far (p := ⟨gb189, _, none⟩) NB177_189.out _).trans (hHeld.2.2.2.2.2.2.2))))⟩ (fun hHeld => ?_)
      clear hK K
      refine pure_ (i := 14) (N := some 10) (v := ?_) (a' := ?_) #[true, true, true, true, true, true, true, true, true, true, true, true, true, true, true] rfl rfl (any_of HT_.out (by kernel_rfl)) (fun _ _ _ h => h) (Or.inl ⟨by rfl, ?_⟩) ?_ ?_
      rotate_left
      · intro w'
        go_simp
        with_reducible rfl
      rotate_left
      · exact pa
      refine done_ (done_of HT_.out (by kernel_rfl)) ?_
      try go_wp2
      have n0_ : Aside0 (((w29.setCell ⟨gb189, 0, none⟩ (.int .i64 t186)).setCell ⟨gb189, 1, none⟩ (.int .i64 t187)).heap[gb174]? = some (.cells #[.int .i64 a0_0, .int .i64 a0_1] 23 (0, 0))) := ⟨by (with_reducible repeat (first | refine blk_drewN ?_ _ | refine blk_drew ?_ | refine blk_alloc ?_ _)); refine blk_far ?_ NB174_189.out _; (with_reducible repeat (first | refine blk_drewN ?_ _ | refine blk_drew ?_ | refine blk_alloc ?_ _)); refine blk_far ?_ NB174_189.out _; (with_reducible repeat (first | refine blk_drewN ?_ _ | refine blk_drew ?_ | refine blk_alloc ?_ _)); exact BK174.out⟩
      have n1_ : Aside0 (((w29.setCell ⟨gb189, 0, none⟩ (.int .i64 t186)).setCell ⟨gb189, 1, none⟩ (.int .i64 t187)).heap[gb175]? = some (.cells #[.int .i64 a1_0, .int .i64 a1_1] 23 (0, 0))) := ⟨by (with_reducible repeat (first | refine blk_drewN ?_ _ | refine blk_drew ?_ | refine blk_alloc ?_ _)); refine blk_far ?_ NB175_189.out _; (with_reducible repeat (first | refine blk_drewN ?_ _ | refine blk_drew ?_ | refine blk_alloc ?_ _)); refine blk_far ?_ NB175_189.out _; (with_reducible repeat (first | refine blk_drewN ?_ _ | refine blk_drew ?_ | refine blk_alloc ?_ _)); exact BK175.out⟩
      have n2_ : Aside0 (((w29.setCell ⟨gb189, 0, none⟩ (.int .i64 t186)).setCell ⟨gb189, 1, none⟩ (.int .i64 t187)).heap[gb176]? = some (.cells #[.int .i64 a2_0, .int .i64 a2_1] 23 (0, 0))) := ⟨by (with_reducible repeat (first | refine blk_drewN ?_ _ | refine blk_drew ?_ | refine blk_alloc ?_ _)); refine blk_far ?_ NB176_189.out _; (with_reducible repeat (first | refine blk_drewN ?_ _ | refine blk_drew ?_ | refine blk_alloc ?_ _)); refine blk_far ?_ NB176_189.out _; (with_reducible repeat (first | refine blk_drewN ?_ _ | refine blk_drew ?_ | refine blk_alloc ?_ _)); exact BK176.out⟩
      have n3_ : Aside0 (((w29.setCell ⟨gb189, 0, none⟩ (.int .i64 t186)).setCell ⟨gb189, 1, none⟩ (.int .i64 t187)).heap[gb177]? = some (.cells #[.int .i64 a3_0, .int .i64 a3_1] 23 (0, 0))) := ⟨by (with_reducible repeat (first | refine blk_drewN ?_ _ | refine blk_drew ?_ | refine blk_alloc ?_ _)); refine blk_far ?_ NB177_189.out _; (with_reducible repeat (first | refine blk_drewN ?_ _ | refine blk_drew ?_ | refine blk_alloc ?_ _)); refine blk_far ?_ NB177_189.out _; (with_reducible repeat (first | refine blk_drewN ?_ _ | refine blk_drew ?_ | refine blk_alloc ?_ _)); exact BK177.out⟩
      have n4_ : Aside0 (((w29.setCell ⟨gb189, 0, none⟩ (.int .i64 t186)).setCell ⟨gb189, 1, none⟩ (.int .i64 t187)).heap[gb189]? = some (.cells #[.int .i64 t186, .int .i64 t187] 25 (0, 0))) := ⟨by (with_reducible repeat (first | refine blk_drewN ?_ _ | refine blk_drew ?_ | refine blk_alloc ?_ _)); refine blk_put (cs := #[.int .i64 t186, .int .i64 0]) ?_ 1 _ rfl; (with_reducible repeat (first | refine blk_drewN ?_ _ | refine blk_drew ?_ | refine blk_alloc ?_ _)); refine blk_put (cs := #[.int .i64 0, .int .i64 0]) ?_ 0 _ rfl; (with_reducible repeat (first | refine blk_drewN ?_ _ | refine blk_drew ?_ | refine blk_alloc ?_ _)); exact BK189.out⟩
      have n5_ : Aside0 (Below w.heap.size w ((w29.setCell ⟨gb189, 0, none⟩ (.int .i64 t186)).setCell ⟨gb189, 1, none⟩ (.int .i64 t187))) := ⟨by repeat (first | (with_reducible first | exact HB.out | apply below_alloc | apply pw_below_drewN | apply below_drew1 | refine below_set ?_ GE174.out | refine below_set ?_ GE175.out | refine below_set ?_ GE176.out | refine below_set ?_ GE177.out | refine below_set ?_ GE189.out) | exact HB.out)⟩
      (try clear BK174)
      (try clear BK175)
      (try clear BK176)
      (try clear BK177)
      (try clear BK189)
      (try clear HB)
      generalize ((w29.setCell ⟨gb189, 0, none⟩ (.int .i64 t186)).setCell ⟨gb189, 1, none⟩ (.int .i64 t187)) = w32 at n0_ n1_ n2_ n3_ n4_ n5_ ⊢
      have BK174 := n0_
      have BK175 := n1_
      have BK176 := n2_
      have BK177 := n3_
      have BK189 := n4_
      have HB := n5_
      clear n0_ n1_ n2_ n3_ n4_ n5_
      have n0_ := Aside0.mk (blk_drew BK174.out)
      have n1_ := Aside0.mk (blk_drew BK175.out)
      have n2_ := Aside0.mk (blk_drew BK176.out)
      have n3_ := Aside0.mk (blk_drew BK177.out)
      have n4_ := Aside0.mk (blk_drew BK189.out)
      have n5_ := Aside0.mk (below_drew1 HB.out)
      clear BK174
      clear BK175
      clear BK176
      clear BK177
      clear BK189
      clear HB
      have BK174 := n0_
      have BK175 := n1_
      have BK176 := n2_
      have BK177 := n3_
      have BK189 := n4_
      have HB := n5_
      clear n0_ n1_ n2_ n3_ n4_ n5_
      refine start_ (n := 15) (S := fun w' => w'.cell? ⟨gb174, 0, none⟩ = some (.int .i64 a0_0) ∧ w'.cell? ⟨gb174, 1, none⟩ = some (.int .i64 a0_1) ∧ w'.cell? ⟨gb175, 0, none⟩ = some (.int .i64 a1_0) ∧ w'.cell? ⟨gb175, 1, none⟩ = some (.int .i64 a1_1) ∧ w'.cell? ⟨gb176, 0, none⟩ = some (.int .i64 a2_0) ∧ w'.cell? ⟨gb176, 1, none⟩ = some (.int .i64 a2_1) ∧ w'.cell? ⟨gb177, 0, none⟩ = some (.int .i64 a3_0) ∧ w'.cell? ⟨gb177, 1, none⟩ = some (.int .i64 a3_1)) (ds := []) #[false, false, false, false, false, false, false, false, false, false, false, false, false, false, false] (by kernel_rfl) rfl rfl ⟨(blk_cell BK174.out 0).trans rfl, (blk_cell BK174.out 1).trans rfl, (blk_cell BK175.out 0).trans rfl, (blk_cell BK175.out 1).trans rfl, (blk_cell BK176.out 0).trans rfl, (blk_cell BK176.out 1).trans rfl, (blk_cell BK177.out 0).trans rfl, (blk_cell BK177.out 1).trans rfl⟩ (fun hHeld => ?_); refine with_tabW laws_FnExactCrossPoint.tab2 laws_FnExactCrossPoint.bits2 (fun HT_ HW_ => ?_)
      generalize w32.drew = w33 at BK174 BK175 BK176 BK177 BK189 HB hHeld ⊢
      refine take_ (i := 0) (N := some 26) (v := ?_) (a' := ?_) #[true, false, false, false, false, false, false, false, false, false, false, false, false, false, false] rfl rfl (take_ofW HT_.out HW_.out (by kernel_rfl)) (fun _ _ _ h => h) (Or.inl ⟨by rfl, ?_⟩) hHeld ?_ ?_
      rotate_left
      · rintro w' ⟨s0, s1, s2, s3, s4, s5, s6, s7⟩
        go_simp
        with_reducible rfl
      rotate_left
      · exact pa
      refine take_ (i := 2) (N := some 28) (v := ?_) (a' := ?_) #[true, false, true, false, false, false, false, false, false, false, false, false, false, false, false] rfl rfl (take_ofW HT_.out HW_.out (by kernel_rfl)) (fun _ _ _ h => h) (Or.inl ⟨by rfl, ?_⟩) hHeld ?_ ?_
      rotate_left
      · rintro w' ⟨s0, s1, s2, s3, s4, s5, s6, s7⟩
        go_simp
        with_reducible rfl
      rotate_left
      · exact pa
      refine take_ (i := 4) (N := some 30) (v := ?_) (a' := ?_) #[true, false, true, false, true, false, false, false, false, false, false, false, false, false, false] rfl rfl (take_ofW HT_.out HW_.out (by kernel_rfl)) (fun _ _ _ h => h) (Or.inl ⟨by rfl, ?_⟩) hHeld ?_ ?_
      rotate_left
      · rintro w' ⟨s0, s1, s2, s3, s4, s5, s6, s7⟩
        go_simp
        with_reducible rfl
      rotate_left
      · exact pa
      refine take_ (i := 6) (N := some 32) (v := ?_) (a' := ?_) #[true, false, true, false, true, false, true, false, false, false, false, false, false, false, false] rfl rfl (take_ofW HT_.out HW_.out (by kernel_rfl)) (fun _ _ _ h => h) (Or.inl ⟨by rfl, ?_⟩) hHeld ?_ ?_
      rotate_left
      · rintro w' ⟨s0, s1, s2, s3, s4, s5, s6, s7⟩
        go_simp
        with_reducible rfl
      rotate_left
      · exact pa
      refine join_ (σ := Nat) 2 #[true, true, true, true, true, true, true, true, true, true, true, true, true, false, false] (fun s_ => [(27, .agg #[.int .i64 t190, .int .i64 t191]), (29, .agg #[.int .i64 t192, .int .i64 t193]), (31, .agg #[.int .i64 t194, .int .i64 t195]), (33, .agg #[.int .i64 t196, .int .i64 t197]), (34, .tuple #[.agg #[.int .i64 t198, .int .i64 t199], .int .i64 t200]), (11, .pointer (some ⟨s_, 0, none⟩)), (25, .tuple #[.agg #[.int .i64 t198, .int .i64 t199], .int .i64 t200]), (35, .agg #[.int .i64 t198, .int .i64 t199]), (36, .int .i64 t200)]) (fun s_ w' => (w'.cell? ⟨gb174, 0, none⟩ = some (.int .i64 a0_0) ∧ w'.cell? ⟨gb174, 1, none⟩ = some (.int .i64 a0_1) ∧ w'.cell? ⟨gb175, 0, none⟩ = some (.int .i64 a1_0) ∧ w'.cell? ⟨gb175, 1, none⟩ = some (.int .i64 a1_1) ∧ w'.cell? ⟨gb176, 0, none⟩ = some (.int .i64 a2_0) ∧ w'.cell? ⟨gb176, 1, none⟩ = some (.int .i64 a2_1) ∧ w'.cell? ⟨gb177, 0, none⟩ = some (.int .i64 a3_0) ∧ w'.cell? ⟨gb177, 1, none⟩ = some (.int .i64 a3_1)) ∧ (w'.heap[gb174]? = some (.cells #[.int .i64 a0_0, .int .i64 a0_1] 23 (0, 0))) ∧ (w'.heap[gb175]? = some (.cells #[.int .i64 a1_0, .int .i64 a1_1] 23 (0, 0))) ∧ (w'.heap[gb176]? = some (.cells #[.int .i64 a2_0, .int .i64 a2_1] 23 (0, 0))) ∧ (w'.heap[gb177]? = some (.cells #[.int .i64 a3_0, .int .i64 a3_1] 23 (0, 0))) ∧ (w'.heap[gb189]? = some (.cells #[.int .i64 t186, .int .i64 t187] 25 (0, 0))) ∧ (w'.heap[s_]? = some (.cells #[.int .i64 0, .int .i64 0] 25 (0, 0))) ∧ (w.heap.size ≤ s_) ∧ (w.heap.size ≤ s_) ∧ (gb174 ≠ s_) ∧ (s_ ≠ gb174) ∧ (gb175 ≠ s_) ∧ (s_ ≠ gb175) ∧ (gb176 ≠ s_) ∧ (s_ ≠ gb176) ∧ (gb177 ≠ s_) ∧ (s_ ≠ gb177) ∧ (gb189 ≠ s_) ∧ (s_ ≠ gb189) ∧ (Below w.heap.size w w')) ?_ ?_
      rotate_left
      · intro hJ1_3_5_7_8_12
        refine join_ (σ := Unit) 3 #[true, true, true, true, true, true, true, true, true, true, true, true, false, false, false] (fun s_ => [(27, .agg #[.int .i64 t190, .int .i64 t191]), (29, .agg #[.int .i64 t192, .int .i64 t193]), (31, .agg #[.int .i64 t194, .int .i64 t195]), (33, .agg #[.int .i64 t196, .int .i64 t197]), (34, .tuple #[.agg #[.int .i64 t198, .int .i64 t199], .int .i64 t200]), (25, .tuple #[.agg #[.int .i64 t198, .int .i64 t199], .int .i64 t200]), (35, .agg #[.int .i64 t198, .int .i64 t199]), (36, .int .i64 t200)]) (fun s_ w' => (w'.cell? ⟨gb174, 0, none⟩ = some (.int .i64 a0_0) ∧ w'.cell? ⟨gb174, 1, none⟩ = some (.int .i64 a0_1) ∧ w'.cell? ⟨gb175, 0, none⟩ = some (.int .i64 a1_0) ∧ w'.cell? ⟨gb175, 1, none⟩ = some (.int .i64 a1_1) ∧ w'.cell? ⟨gb176, 0, none⟩ = some (.int .i64 a2_0) ∧ w'.cell? ⟨gb176, 1, none⟩ = some (.int .i64 a2_1) ∧ w'.cell? ⟨gb177, 0, none⟩ = some (.int .i64 a3_0) ∧ w'.cell? ⟨gb177, 1, none⟩ = some (.int .i64 a3_1)) ∧ (w'.heap[gb174]? = some (.cells #[.int .i64 a0_0, .int .i64 a0_1] 23 (0, 0))) ∧ (w'.heap[gb175]? = some (.cells #[.int .i64 a1_0, .int .i64 a1_1] 23 (0, 0))) ∧ (w'.heap[gb176]? = some (.cells #[.int .i64 a2_0, .int .i64 a2_1] 23 (0, 0))) ∧ (w'.heap[gb177]? = some (.cells #[.int .i64 a3_0, .int .i64 a3_1] 23 (0, 0))) ∧ (w'.heap[gb189]? = some (.cells #[.int .i64 t186, .int .i64 t187] 25 (0, 0))) ∧ (Below w.heap.size w w')) ?_ ?_
        rotate_left
        · intro hJ1_3_5_7_8
          refine join_ (σ := Nat) 6 #[true, true, true, true, true, true, true, true, false, false, false, false, true, false, false] (fun s_ => [(27, .agg #[.int .i64 t190, .int .i64 t191]), (29, .agg #[.int .i64 t192, .int .i64 t193]), (31, .agg #[.int .i64 t194, .int .i64 t195]), (33, .agg #[.int .i64 t196, .int .i64 t197]), (11, .pointer (some ⟨s_, 0, none⟩))]) (fun s_ w' => (w'.cell? ⟨gb174, 0, none⟩ = some (.int .i64 a0_0) ∧ w'.cell? ⟨gb174, 1, none⟩ = some (.int .i64 a0_1) ∧ w'.cell? ⟨gb175, 0, none⟩ = some (.int .i64 a1_0) ∧ w'.cell? ⟨gb175, 1, none⟩ = some (.int .i64 a1_1) ∧ w'.cell? ⟨gb176, 0, none⟩ = some (.int .i64 a2_0) ∧ w'.cell? ⟨gb176, 1, none⟩ = some (.int .i64 a2_1) ∧ w'.cell? ⟨gb177, 0, none⟩ = some (.int .i64 a3_0) ∧ w'.cell? ⟨gb177, 1, none⟩ = some (.int .i64 a3_1)) ∧ (w'.heap[gb174]? = some (.cells #[.int .i64 a0_0, .int .i64 a0_1] 23 (0, 0))) ∧ (w'.heap[gb175]? = some (.cells #[.int .i64 a1_0, .int .i64 a1_1] 23 (0, 0))) ∧ (w'.heap[gb176]? = some (.cells #[.int .i64 a2_0, .int .i64 a2_1] 23 (0, 0))) ∧ (w'.heap[gb177]? = some (.cells #[.int .i64 a3_0, .int .i64 a3_1] 23 (0, 0))) ∧ (w'.heap[gb189]? = some (.cells #[.int .i64 t186, .int .i64 t187] 25 (0, 0))) ∧ (w'.heap[s_]? = some (.cells #[.int .i64 0, .int .i64 0] 25 (0, 0))) ∧ (w.heap.size ≤ s_) ∧ (w.heap.size ≤ s_) ∧ (gb174 ≠ s_) ∧ (s_ ≠ gb174) ∧ (gb175 ≠ s_) ∧ (s_ ≠ gb175) ∧ (gb176 ≠ s_) ∧ (s_ ≠ gb176) ∧ (gb177 ≠ s_) ∧ (s_ ≠ gb177) ∧ (gb189 ≠ s_) ∧ (s_ ≠ gb189) ∧ (Below w.heap.size w w')) ?_ ?_
          rotate_left
          · intro hJ1_3_5_7_12
            refine join_ (σ := Unit) 7 #[true, true, true, true, true, true, true, true, false, false, false, false, false, false, false] (fun s_ => [(27, .agg #[.int .i64 t190, .int .i64 t191]), (29, .agg #[.int .i64 t192, .int .i64 t193]), (31, .agg #[.int .i64 t194, .int .i64 t195]), (33, .agg #[.int .i64 t196, .int .i64 t197])]) (fun s_ w' => (w'.cell? ⟨gb174, 0, none⟩ = some (.int .i64 a0_0) ∧ w'.cell? ⟨gb174, 1, none⟩ = some (.int .i64 a0_1) ∧ w'.cell? ⟨gb175, 0, none⟩ = some (.int .i64 a1_0) ∧ w'.cell? ⟨gb175, 1, none⟩ = some (.int .i64 a1_1) ∧ w'.cell? ⟨gb176, 0, none⟩ = some (.int .i64 a2_0) ∧ w'.cell? ⟨gb176, 1, none⟩ = some (.int .i64 a2_1) ∧ w'.cell? ⟨gb177, 0, none⟩ = some (.int .i64 a3_0) ∧ w'.cell? ⟨gb177, 1, none⟩ = some (.int .i64 a3_1)) ∧ (w'.heap[gb174]? = some (.cells #[.int .i64 a0_0, .int .i64 a0_1] 23 (0, 0))) ∧ (w'.heap[gb175]? = some (.cells #[.int .i64 a1_0, .int .i64 a1_1] 23 (0, 0))) ∧ (w'.heap[gb176]? = some (.cells #[.int .i64 a2_0, .int .i64 a2_1] 23 (0, 0))) ∧ (w'.heap[gb177]? = some (.cells #[.int .i64 a3_0, .int .i64 a3_1] 23 (0, 0))) ∧ (w'.heap[gb189]? = some (.cells #[.int .i64 t186, .int .i64 t187] 25 (0, 0))) ∧ (Below w.heap.size w w')) ?_ ?_
            rotate_left
            · intro hJ1_3_5_7
              refine join_ (σ := Nat) 7 #[true, true, true, true, true, true, true, false, false, false, false, false, true, false, false] (fun s_ => [(27, .agg #[.int .i64 t190, .int .i64 t191]), (29, .agg #[.int .i64 t192, .int .i64 t193]), (31, .agg #[.int .i64 t194, .int .i64 t195]), (11, .pointer (some ⟨s_, 0, none⟩))]) (fun s_ w' => (w'.cell? ⟨gb174, 0, none⟩ = some (.int .i64 a0_0) ∧ w'.cell? ⟨gb174, 1, none⟩ = some (.int .i64 a0_1) ∧ w'.cell? ⟨gb175, 0, none⟩ = some (.int .i64 a1_0) ∧ w'.cell? ⟨gb175, 1, none⟩ = some (.int .i64 a1_1) ∧ w'.cell? ⟨gb176, 0, none⟩ = some (.int .i64 a2_0) ∧ w'.cell? ⟨gb176, 1, none⟩ = some (.int .i64 a2_1) ∧ w'.cell? ⟨gb177, 0, none⟩ = some (.int .i64 a3_0) ∧ w'.cell? ⟨gb177, 1, none⟩ = some (.int .i64 a3_1)) ∧ (w'.heap[gb174]? = some (.cells #[.int .i64 a0_0, .int .i64 a0_1] 23 (0, 0))) ∧ (w'.heap[gb175]? = some (.cells #[.int .i64 a1_0, .int .i64 a1_1] 23 (0, 0))) ∧ (w'.heap[gb176]? = some (.cells #[.int .i64 a2_0, .int .i64 a2_1] 23 (0, 0))) ∧ (w'.heap[gb177]? = some (.cells #[.int .i64 a3_0, .int .i64 a3_1] 23 (0, 0))) ∧ (w'.heap[gb189]? = some (.cells #[.int .i64 t186, .int .i64 t187] 25 (0, 0))) ∧ (w'.heap[s_]? = some (.cells #[.int .i64 0, .int .i64 0] 25 (0, 0))) ∧ (w.heap.size ≤ s_) ∧ (w.heap.size ≤ s_) ∧ (gb174 ≠ s_) ∧ (s_ ≠ gb174) ∧ (gb175 ≠ s_) ∧ (s_ ≠ gb175) ∧ (gb176 ≠ s_) ∧ (s_ ≠ gb176) ∧ (gb177 ≠ s_) ∧ (s_ ≠ gb177) ∧ (gb189 ≠ s_) ∧ (s_ ≠ gb189) ∧ (Below w.heap.size w w')) ?_ ?_
              rotate_left
              · intro hJ1_3_5_12
                refine join_ (σ := Unit) 8 #[true, true, true, true, true, true, true, false, false, false, false, false, false, false, false] (fun s_ => [(27, .agg #[.int .i64 t190, .int .i64 t191]), (29, .agg #[.int .i64 t192, .int .i64 t193]), (31, .agg #[.int .i64 t194, .int .i64 t195])]) (fun s_ w' => (w'.cell? ⟨gb174, 0, none⟩ = some (.int .i64 a0_0) ∧ w'.cell? ⟨gb174, 1, none⟩ = some (.int .i64 a0_1) ∧ w'.cell? ⟨gb175, 0, none⟩ = some (.int .i64 a1_0) ∧ w'.cell? ⟨gb175, 1, none⟩ = some (.int .i64 a1_1) ∧ w'.cell? ⟨gb176, 0, none⟩ = some (.int .i64 a2_0) ∧ w'.cell? ⟨gb176, 1, none⟩ = some (.int .i64 a2_1) ∧ w'.cell? ⟨gb177, 0, none⟩ = some (.int .i64 a3_0) ∧ w'.cell? ⟨gb177, 1, none⟩ = some (.int .i64 a3_1)) ∧ (w'.heap[gb174]? = some (.cells #[.int .i64 a0_0, .int .i64 a0_1] 23 (0, 0))) ∧ (w'.heap[gb175]? = some (.cells #[.int .i64 a1_0, .int .i64 a1_1] 23 (0, 0))) ∧ (w'.heap[gb176]? = some (.cells #[.int .i64 a2_0, .int .i64 a2_1] 23 (0, 0))) ∧ (w'.heap[gb177]? = some (.cells #[.int .i64 a3_0, .int .i64 a3_1] 23 (0, 0))) ∧ (w'.heap[gb189]? = some (.cells #[.int .i64 t186, .int .i64 t187] 25 (0, 0))) ∧ (Below w.heap.size w w')) ?_ ?_
                rotate_left
                · intro hJ1_3_5
                  refine join_ (σ := Nat) 8 #[true, true, true, true, true, false, true, false, false, false, false, false, true, false, false] (fun s_ => [(27, .agg #[.int .i64 t190, .int .i64 t191]), (29, .agg #[.int .i64 t192, .int .i64 t193]), (11, .pointer (some ⟨s_, 0, none⟩))]) (fun s_ w' => (w'.cell? ⟨gb174, 0, none⟩ = some (.int .i64 a0_0) ∧ w'.cell? ⟨gb174, 1, none⟩ = some (.int .i64 a0_1) ∧ w'.cell? ⟨gb175, 0, none⟩ = some (.int .i64 a1_0) ∧ w'.cell? ⟨gb175, 1, none⟩ = some (.int .i64 a1_1) ∧ w'.cell? ⟨gb176, 0, none⟩ = some (.int .i64 a2_0) ∧ w'.cell? ⟨gb176, 1, none⟩ = some (.int .i64 a2_1) ∧ w'.cell? ⟨gb177, 0, none⟩ = some (.int .i64 a3_0) ∧ w'.cell? ⟨gb177, 1, none⟩ = some (.int .i64 a3_1)) ∧ (w'.heap[gb174]? = some (.cells #[.int .i64 a0_0, .int .i64 a0_1] 23 (0, 0))) ∧ (w'.heap[gb175]? = some (.cells #[.int .i64 a1_0, .int .i64 a1_1] 23 (0, 0))) ∧ (w'.heap[gb176]? = some (.cells #[.int .i64 a2_0, .int .i64 a2_1] 23 (0, 0))) ∧ (w'.heap[gb177]? = some (.cells #[.int .i64 a3_0, .int .i64 a3_1] 23 (0, 0))) ∧ (w'.heap[gb189]? = some (.cells #[.int .i64 t186, .int .i64 t187] 25 (0, 0))) ∧ (w'.heap[s_]? = some (.cells #[.int .i64 0, .int .i64 0] 25 (0, 0))) ∧ (w.heap.size ≤ s_) ∧ (w.heap.size ≤ s_) ∧ (gb174 ≠ s_) ∧ (s_ ≠ gb174) ∧ (gb175 ≠ s_) ∧ (s_ ≠ gb175) ∧ (gb176 ≠ s_) ∧ (s_ ≠ gb176) ∧ (gb177 ≠ s_) ∧ (s_ ≠ gb177) ∧ (gb189 ≠ s_) ∧ (s_ ≠ gb189) ∧ (Below w.heap.size w w')) ?_ ?_
                  rotate_left
                  · intro hJ1_3_12
                    refine join_ (σ := Unit) 9 #[true, true, true, true, true, false, true, false, false, false, false, false, false, false, false] (fun s_ => [(27, .agg #[.int .i64 t190, .int .i64 t191]), (29, .agg #[.int .i64 t192, .int .i64 t193])]) (fun s_ w' => (w'.cell? ⟨gb174, 0, none⟩ = some (.int .i64 a0_0) ∧ w'.cell? ⟨gb174, 1, none⟩ = some (.int .i64 a0_1) ∧ w'.cell? ⟨gb175, 0, none⟩ = some (.int .i64 a1_0) ∧ w'.cell? ⟨gb175, 1, none⟩ = some (.int .i64 a1_1) ∧ w'.cell? ⟨gb176, 0, none⟩ = some (.int .i64 a2_0) ∧ w'.cell? ⟨gb176, 1, none⟩ = some (.int .i64 a2_1) ∧ w'.cell? ⟨gb177, 0, none⟩ = some (.int .i64 a3_0) ∧ w'.cell? ⟨gb177, 1, none⟩ = some (.int .i64 a3_1)) ∧ (w'.heap[gb174]? = some (.cells #[.int .i64 a0_0, .int .i64 a0_1] 23 (0, 0))) ∧ (w'.heap[gb175]? = some (.cells #[.int .i64 a1_0, .int .i64 a1_1] 23 (0, 0))) ∧ (w'.heap[gb176]? = some (.cells #[.int .i64 a2_0, .int .i64 a2_1] 23 (0, 0))) ∧ (w'.heap[gb177]? = some (.cells #[.int .i64 a3_0, .int .i64 a3_1] 23 (0, 0))) ∧ (w'.heap[gb189]? = some (.cells #[.int .i64 t186, .int .i64 t187] 25 (0, 0))) ∧ (Below w.heap.size w w')) ?_ ?_
                    rotate_left
                    · intro hJ1_3
                      refine join_ (σ := Nat) 9 #[true, true, true, false, true, false, true, false, false, false, false, false, true, false, false] (fun s_ => [(27, .agg #[.int .i64 t190, .int .i64 t191]), (11, .pointer (some ⟨s_, 0, none⟩))]) (fun s_ w' => (w'.cell? ⟨gb174, 0, none⟩ = some (.int .i64 a0_0) ∧ w'.cell? ⟨gb174, 1, none⟩ = some (.int .i64 a0_1) ∧ w'.cell? ⟨gb175, 0, none⟩ = some (.int .i64 a1_0) ∧ w'.cell? ⟨gb175, 1, none⟩ = some (.int .i64 a1_1) ∧ w'.cell? ⟨gb176, 0, none⟩ = some (.int .i64 a2_0) ∧ w'.cell? ⟨gb176, 1, none⟩ = some (.int .i64 a2_1) ∧ w'.cell? ⟨gb177, 0, none⟩ = some (.int .i64 a3_0) ∧ w'.cell? ⟨gb177, 1, none⟩ = some (.int .i64 a3_1)) ∧ (w'.heap[gb174]? = some (.cells #[.int .i64 a0_0, .int .i64 a0_1] 23 (0, 0))) ∧ (w'.heap[gb175]? = some (.cells #[.int .i64 a1_0, .int .i64 a1_1] 23 (0, 0))) ∧ (w'.heap[gb176]? = some (.cells #[.int .i64 a2_0, .int .i64 a2_1] 23 (0, 0))) ∧ (w'.heap[gb177]? = some (.cells #[.int .i64 a3_0, .int .i64 a3_1] 23 (0, 0))) ∧ (w'.heap[gb189]? = some (.cells #[.int .i64 t186, .int .i64 t187] 25 (0, 0))) ∧ (w'.heap[s_]? = some (.cells #[.int .i64 0, .int .i64 0] 25 (0, 0))) ∧ (w.heap.size ≤ s_) ∧ (w.heap.size ≤ s_) ∧ (gb174 ≠ s_) ∧ (s_ ≠ gb174) ∧ (gb175 ≠ s_) ∧ (s_ ≠ gb175) ∧ (gb176 ≠ s_) ∧ (s_ ≠ gb176) ∧ (gb177 ≠ s_) ∧ (s_ ≠ gb177) ∧ (gb189 ≠ s_) ∧ (s_ ≠ gb189) ∧ (Below w.heap.size w w')) ?_ ?_
                      rotate_left
                      · intro hJ1_12
                        refine join_ (σ := Unit) 10 #[true, true, true, false, true, false, true, false, false, false, false, false, false, false, false] (fun s_ => [(27, .agg #[.int .i64 t190, .int .i64 t191])]) (fun s_ w' => (w'.cell? ⟨gb174, 0, none⟩ = some (.int .i64 a0_0) ∧ w'.cell? ⟨gb174, 1, none⟩ = some (.int .i64 a0_1) ∧ w'.cell? ⟨gb175, 0, none⟩ = some (.int .i64 a1_0) ∧ w'.cell? ⟨gb175, 1, none⟩ = some (.int .i64 a1_1) ∧ w'.cell? ⟨gb176, 0, none⟩ = some (.int .i64 a2_0) ∧ w'.cell? ⟨gb176, 1, none⟩ = some (.int .i64 a2_1) ∧ w'.cell? ⟨gb177, 0, none⟩ = some (.int .i64 a3_0) ∧ w'.cell? ⟨gb177, 1, none⟩ = some (.int .i64 a3_1)) ∧ (w'.heap[gb174]? = some (.cells #[.int .i64 a0_0, .int .i64 a0_1] 23 (0, 0))) ∧ (w'.heap[gb175]? = some (.cells #[.int .i64 a1_0, .int .i64 a1_1] 23 (0, 0))) ∧ (w'.heap[gb176]? = some (.cells #[.int .i64 a2_0, .int .i64 a2_1] 23 (0, 0))) ∧ (w'.heap[gb177]? = some (.cells #[.int .i64 a3_0, .int .i64 a3_1] 23 (0, 0))) ∧ (w'.heap[gb189]? = some (.cells #[.int .i64 t186, .int .i64 t187] 25 (0, 0))) ∧ (Below w.heap.size w w')) ?_ ?_
                        rotate_left
                        · intro hJ1
                          refine join_ (σ := Nat) 10 #[true, false, true, false, true, false, true, false, false, false, false, false, true, false, false] (fun s_ => [(11, .pointer (some ⟨s_, 0, none⟩))]) (fun s_ w' => (w'.cell? ⟨gb174, 0, none⟩ = some (.int .i64 a0_0) ∧ w'.cell? ⟨gb174, 1, none⟩ = some (.int .i64 a0_1) ∧ w'.cell? ⟨gb175, 0, none⟩ = some (.int .i64 a1_0) ∧ w'.cell? ⟨gb175, 1, none⟩ = some (.int .i64 a1_1) ∧ w'.cell? ⟨gb176, 0, none⟩ = some (.int .i64 a2_0) ∧ w'.cell? ⟨gb176, 1, none⟩ = some (.int .i64 a2_1) ∧ w'.cell? ⟨gb177, 0, none⟩ = some (.int .i64 a3_0) ∧ w'.cell? ⟨gb177, 1, none⟩ = some (.int .i64 a3_1)) ∧ (w'.heap[gb174]? = some (.cells #[.int .i64 a0_0, .int .i64 a0_1] 23 (0, 0))) ∧ (w'.heap[gb175]? = some (.cells #[.int .i64 a1_0, .int .i64 a1_1] 23 (0, 0))) ∧ (w'.heap[gb176]? = some (.cells #[.int .i64 a2_0, .int .i64 a2_1] 23 (0, 0))) ∧ (w'.heap[gb177]? = some (.cells #[.int .i64 a3_0, .int .i64 a3_1] 23 (0, 0))) ∧ (w'.heap[gb189]? = some (.cells #[.int .i64 t186, .int .i64 t187] 25 (0, 0))) ∧ (w'.heap[s_]? = some (.cells #[.int .i64 0, .int .i64 0] 25 (0, 0))) ∧ (w.heap.size ≤ s_) ∧ (w.heap.size ≤ s_) ∧ (gb174 ≠ s_) ∧ (s_ ≠ gb174) ∧ (gb175 ≠ s_) ∧ (s_ ≠ gb175) ∧ (gb176 ≠ s_) ∧ (s_ ≠ gb176) ∧ (gb177 ≠ s_) ∧ (s_ ≠ gb177) ∧ (gb189 ≠ s_) ∧ (s_ ≠ gb189) ∧ (Below w.heap.size w w')) ?_ ?_
                          rotate_left
                          · intro hJ12
                            refine two_ (i := 1) (j := 12) (Ni := some 27) (Nj := some 11) #[true, true, true, false, true, false, true, false, false, false, false, false, false, false, false] #[true, false, true, false, true, false, true, false, false, false, false, false, true, false, false] rfl rfl rfl rfl (two_of HT_.out (by kernel_rfl)) (by decide) (by decide) (fun K hK => ?_) (fun K hK => ?_)
                            · skip
                              refine goes_ Try.func16 (by kernel_rfl) rfl #[.agg #[.int .i64 a0_0, .int .i64 a0_1]] (by rfl) rfl rfl (by (try simp only [List.map_toArray, List.map_cons, List.map_nil]); first | done | rfl | (simp only [List.length_drop, List.length_take]; rfl)) ?_
                              with_reducible refine (laws_toPoint.calls a0_0 a0_1 t190 t191 _ A10.out).mono ?_
                              rintro e w34 ⟨rfl, hb⟩
                              refine ⟨_, rfl, ?_⟩
                              have n0_ := kb BK174 hb
                              have n1_ := kb BK175 hb
                              have n2_ := kb BK176 hb
                              have n3_ := kb BK177 hb
                              have n4_ := kb BK189 hb
                              have n5_ := sb hb
                              clear BK174
                              clear BK175
                              clear BK176
                              clear BK177
                              clear BK189
                              clear HB
                              have BK174 := n0_
                              have BK175 := n1_
                              have BK176 := n2_
                              have BK177 := n3_
                              have BK189 := n4_
                              have HB := n5_
                              clear n0_ n1_ n2_ n3_ n4_ n5_
                              (try clear hb)
                              (try clear hb2)
                              (try clear hk)
                              (try clear hi)
                              refine hK.out _ _ ⟨(blk_cell BK174.out 0).trans rfl, (blk_cell BK174.out 1).trans rfl, (blk_cell BK175.out 0).trans rfl, (blk_cell BK175.out 1).trans rfl, (blk_cell BK176.out 0).trans rfl, (blk_cell BK176.out 1).trans rfl, (blk_cell BK177.out 0).trans rfl, (blk_cell BK177.out 1).trans rfl⟩ (fun hHeld => ?_)
                              clear hK K
                              refine norm_ (a' := ?_) ?_ ?_
                              rotate_left
                              · show Act.put _ (some 27) _ = _
                                simp only [Act.put, List.setIfInBounds_toArray, List.set_cons_zero, List.set_cons_succ, i64_w, i32_w]
                                rfl
                              exact norm_ (by first | (simp only [putAll, Act.put, List.setIfInBounds_toArray, List.set_cons_zero, List.set_cons_succ]; done) | (simp only [putAll, Act.put, List.setIfInBounds_toArray, List.set_cons_zero, List.set_cons_succ]; rfl)) (hJ1 () _ ⟨hHeld, (bk BK174), (bk BK175), (bk BK176), (bk BK177), (bk BK189), ib⟩)
                            · skip
                              refine box_step ?hg (N := 11) ?hd (cs := #[.int .i64 0, .int .i64 0]) (t := 25) ?hr ?_; (case hd => rfl); (case hg => rfl); (case hr => first | (go_simp; done) | (go_simp; rfl))
                              intro gb201 hg w34 hbox hb
                              have n0_ := kb BK174 hb
                              have n1_ := kb BK175 hb
                              have n2_ := kb BK176 hb
                              have n3_ := kb BK177 hb
                              have n4_ := kb BK189 hb
                              have n5_ := sb hb
                              have n6_ := Aside0.mk (hbox)
                              have n7_ := zb hg
                              have n8_ := zb hg
                              have n9_ := nl BK174 hg
                              have n10_ := ng BK174 hg
                              have n11_ := nl BK175 hg
                              have n12_ := ng BK175 hg
                              have n13_ := nl BK176 hg
                              have n14_ := ng BK176 hg
                              have n15_ := nl BK177 hg
                              have n16_ := ng BK177 hg
                              have n17_ := nl BK189 hg
                              have n18_ := ng BK189 hg
                              clear BK174
                              clear BK175
                              clear BK176
                              clear BK177
                              clear BK189
                              clear HB
                              have BK174 := n0_
                              have BK175 := n1_
                              have BK176 := n2_
                              have BK177 := n3_
                              have BK189 := n4_
                              have HB := n5_
                              have BK201 := n6_
                              have GW201 := n7_
                              have GE201 := n8_
                              have NB174_201 := n9_
                              have NB201_174 := n10_
                              have NB175_201 := n11_
                              have NB201_175 := n12_
                              have NB176_201 := n13_
                              have NB201_176 := n14_
                              have NB177_201 := n15_
                              have NB201_177 := n16_
                              have NB189_201 := n17_
                              have NB201_189 := n18_
                              clear n0_ n1_ n2_ n3_ n4_ n5_ n6_ n7_ n8_ n9_ n10_ n11_ n12_ n13_ n14_ n15_ n16_ n17_ n18_
                              clear hb hbox hg
                              refine hK.out _ _ ⟨(blk_cell BK174.out 0).trans rfl, (blk_cell BK174.out 1).trans rfl, (blk_cell BK175.out 0).trans rfl, (blk_cell BK175.out 1).trans rfl, (blk_cell BK176.out 0).trans rfl, (blk_cell BK176.out 1).trans rfl, (blk_cell BK177.out 0).trans rfl, (blk_cell BK177.out 1).trans rfl⟩ (fun hHeld => ?_)
                              clear hK K
                              refine norm_ (a' := ?_) ?_ ?_
                              rotate_left
                              · show Act.put _ (some 11) _ = _
                                simp only [Act.put, List.setIfInBounds_toArray, List.set_cons_zero, List.set_cons_succ, i64_w, i32_w]
                                rfl
                              exact norm_ (by first | (simp only [putAll, Act.put, List.setIfInBounds_toArray, List.set_cons_zero, List.set_cons_succ]; done) | (simp only [putAll, Act.put, List.setIfInBounds_toArray, List.set_cons_zero, List.set_cons_succ]; rfl)) (hJ12 (gb201) _ ⟨hHeld, (bk BK174), (bk BK175), (bk BK176), (bk BK177), (bk BK189), (bk BK201), GW201.out, GE201.out, NB174_201.out, NB201_174.out, NB175_201.out, NB201_175.out, NB176_201.out, NB201_176.out, NB177_201.out, NB201_177.out, NB189_201.out, NB201_189.out, ib⟩)
                          · skip
                            rintro gb201 w35 ⟨hS_, h0_, h1_, h2_, h3_, h4_, h5_, h6_, h7_, h8_, h9_, h10_, h11_, h12_, h13_, h14_, h15_, h16_, h17_, h18_⟩
                            have n0_ : Aside0 (w35.heap[gb174]? = some (.cells #[.int .i64 a0_0, .int .i64 a0_1] 23 (0, 0))) := ⟨h0_⟩
                            have n1_ : Aside0 (w35.heap[gb175]? = some (.cells #[.int .i64 a1_0, .int .i64 a1_1] 23 (0, 0))) := ⟨h1_⟩
                            have n2_ : Aside0 (w35.heap[gb176]? = some (.cells #[.int .i64 a2_0, .int .i64 a2_1] 23 (0, 0))) := ⟨h2_⟩
                            have n3_ : Aside0 (w35.heap[gb177]? = some (.cells #[.int .i64 a3_0, .int .i64 a3_1] 23 (0, 0))) := ⟨h3_⟩
                            have n4_ : Aside0 (w35.heap[gb189]? = some (.cells #[.int .i64 t186, .int .i64 t187] 25 (0, 0))) := ⟨h4_⟩
                            have n5_ : Aside0 (w35.heap[gb201]? = some (.cells #[.int .i64 0, .int .i64 0] 25 (0, 0))) := ⟨h5_⟩
                            have n6_ : Aside0 (w.heap.size ≤ gb201) := ⟨h6_⟩
                            have n7_ : Aside0 (w.heap.size ≤ gb201) := ⟨h7_⟩
                            have n8_ : Aside0 (gb174 ≠ gb201) := ⟨h8_⟩
                            have n9_ : Aside0 (gb201 ≠ gb174) := ⟨h9_⟩
                            have n10_ : Aside0 (gb175 ≠ gb201) := ⟨h10_⟩
                            have n11_ : Aside0 (gb201 ≠ gb175) := ⟨h11_⟩
                            have n12_ : Aside0 (gb176 ≠ gb201) := ⟨h12_⟩
                            have n13_ : Aside0 (gb201 ≠ gb176) := ⟨h13_⟩
                            have n14_ : Aside0 (gb177 ≠ gb201) := ⟨h14_⟩
                            have n15_ : Aside0 (gb201 ≠ gb177) := ⟨h15_⟩
                            have n16_ : Aside0 (gb189 ≠ gb201) := ⟨h16_⟩
                            have n17_ : Aside0 (gb201 ≠ gb189) := ⟨h17_⟩
                            have n18_ : Aside0 (Below w.heap.size w w35) := ⟨h18_⟩
                            clear BK174
                            clear BK175
                            clear BK176
                            clear BK177
                            clear BK189
                            clear HB
                            clear h0_ h1_ h2_ h3_ h4_ h5_ h6_ h7_ h8_ h9_ h10_ h11_ h12_ h13_ h14_ h15_ h16_ h17_ h18_
                            have BK174 := n0_
                            have BK175 := n1_
                            have BK176 := n2_
                            have BK177 := n3_
                            have BK189 := n4_
                            have BK201 := n5_
                            have GW201 := n6_
                            have GE201 := n7_
                            have NB174_201 := n8_
                            have NB201_174 := n9_
                            have NB175_201 := n10_
                            have NB201_175 := n11_
                            have NB176_201 := n12_
                            have NB201_176 := n13_
                            have NB177_201 := n14_
                            have NB201_177 := n15_
                            have NB189_201 := n16_
                            have NB201_189 := n17_
                            have HB := n18_
                            clear n0_ n1_ n2_ n3_ n4_ n5_ n6_ n7_ n8_ n9_ n10_ n11_ n12_ n13_ n14_ n15_ n16_ n17_ n18_
                            have hHeld : w35.cell? ⟨gb174, 0, none⟩ = some (.int .i64 a0_0) ∧ w35.cell? ⟨gb174, 1, none⟩ = some (.int .i64 a0_1) ∧ w35.cell? ⟨gb175, 0, none⟩ = some (.int .i64 a1_0) ∧ w35.cell? ⟨gb175, 1, none⟩ = some (.int .i64 a1_1) ∧ w35.cell? ⟨gb176, 0, none⟩ = some (.int .i64 a2_0) ∧ w35.cell? ⟨gb176, 1, none⟩ = some (.int .i64 a2_1) ∧ w35.cell? ⟨gb177, 0, none⟩ = some (.int .i64 a3_0) ∧ w35.cell? ⟨gb177, 1, none⟩ = some (.int .i64 a3_1) := hS_
                            refine norm_ (a' := ?_) ?_ ?_
                            rotate_left
                            · simp only [putAll, Act.put, List.setIfInBounds_toArray, List.set_cons_zero, List.set_cons_succ]
                              rfl
                            refine one_ (i := 1) (N := some 27) #[true, true, true, false, true, false, true, false, false, false, false, false, true, false, false] rfl rfl (one_of HT_.out (by kernel_rfl)) (by decide) (fun K hK => ?_)
                            refine goes_ Try.func16 (by kernel_rfl) rfl #[.agg #[.int .i64 a0_0, .int .i64 a0_1]] (by rfl) rfl rfl (by (try simp only [List.map_toArray, List.map_cons, List.map_nil]); first | done | rfl | (simp only [List.length_drop, List.length_take]; rfl)) ?_
                            with_reducible refine (laws_toPoint.calls a0_0 a0_1 t190 t191 _ A10.out).mono ?_
                            rintro e w36 ⟨rfl, hb⟩
                            refine ⟨_, rfl, ?_⟩
                            have n0_ := kb BK174 hb
                            have n1_ := kb BK175 hb
                            have n2_ := kb BK176 hb
                            have n3_ := kb BK177 hb
                            have n4_ := kb BK189 hb
                            have n5_ := kb BK201 hb
                            have n6_ := sb hb
                            clear BK174
                            clear BK175
                            clear BK176
                            clear BK177
                            clear BK189
                            clear BK201
                            clear HB
                            have BK174 := n0_
                            have BK175 := n1_
                            have BK176 := n2_
                            have BK177 := n3_
                            have BK189 := n4_
                            have BK201 := n5_
                            have HB := n6_
                            clear n0_ n1_ n2_ n3_ n4_ n5_ n6_
                            (try clear hb)
                            (try clear hb2)
                            (try clear hk)
                            (try clear hi)
                            refine hK.out _ _ ⟨(blk_cell BK174.out 0).trans rfl, (blk_cell BK174.out 1).trans rfl, (blk_cell BK175.out 0).trans rfl, (blk_cell BK175.out 1).trans rfl, (blk_cell BK176.out 0).trans rfl, (blk_cell BK176.out 1).trans rfl, (blk_cell BK177.out 0).trans rfl, (blk_cell BK177.out 1).trans rfl⟩ (fun hHeld => ?_)
                            clear hK K
                            refine norm_ (a' := ?_) ?_ ?_
                            rotate_left
                            · show Act.put _ (some 27) _ = _
                              simp only [Act.put, List.setIfInBounds_toArray, List.set_cons_zero, List.set_cons_succ, i64_w, i32_w]
                              rfl
                            exact norm_ (by first | (simp only [putAll, Act.put, List.setIfInBounds_toArray, List.set_cons_zero, List.set_cons_succ]; done) | (simp only [putAll, Act.put, List.setIfInBounds_toArray, List.set_cons_zero, List.set_cons_succ]; rfl)) (hJ1_12 (gb201) _ ⟨hHeld, (bk BK174), (bk BK175), (bk BK176), (bk BK177), (bk BK189), (bk BK201), GW201.out, GE201.out, NB174_201.out, NB201_174.out, NB175_201.out, NB201_175.out, NB176_201.out, NB201_176.out, NB177_201.out, NB201_177.out, NB189_201.out, NB201_189.out, ib⟩)
                        · skip
                          rintro _ w35 ⟨hS_, h0_, h1_, h2_, h3_, h4_, h5_⟩
                          have n0_ : Aside0 (w35.heap[gb174]? = some (.cells #[.int .i64 a0_0, .int .i64 a0_1] 23 (0, 0))) := ⟨h0_⟩
                          have n1_ : Aside0 (w35.heap[gb175]? = some (.cells #[.int .i64 a1_0, .int .i64 a1_1] 23 (0, 0))) := ⟨h1_⟩
                          have n2_ : Aside0 (w35.heap[gb176]? = some (.cells #[.int .i64 a2_0, .int .i64 a2_1] 23 (0, 0))) := ⟨h2_⟩
                          have n3_ : Aside0 (w35.heap[gb177]? = some (.cells #[.int .i64 a3_0, .int .i64 a3_1] 23 (0, 0))) := ⟨h3_⟩
                          have n4_ : Aside0 (w35.heap[gb189]? = some (.cells #[.int .i64 t186, .int .i64 t187] 25 (0, 0))) := ⟨h4_⟩
                          have n5_ : Aside0 (Below w.heap.size w w35) := ⟨h5_⟩
                          clear BK174
                          clear BK175
                          clear BK176
                          clear BK177
                          clear BK189
                          clear HB
                          clear h0_ h1_ h2_ h3_ h4_ h5_
                          have BK174 := n0_
                          have BK175 := n1_
                          have BK176 := n2_
                          have BK177 := n3_
                          have BK189 := n4_
                          have HB := n5_
                          clear n0_ n1_ n2_ n3_ n4_ n5_
                          have hHeld : w35.cell? ⟨gb174, 0, none⟩ = some (.int .i64 a0_0) ∧ w35.cell? ⟨gb174, 1, none⟩ = some (.int .i64 a0_1) ∧ w35.cell? ⟨gb175, 0, none⟩ = some (.int .i64 a1_0) ∧ w35.cell? ⟨gb175, 1, none⟩ = some (.int .i64 a1_1) ∧ w35.cell? ⟨gb176, 0, none⟩ = some (.int .i64 a2_0) ∧ w35.cell? ⟨gb176, 1, none⟩ = some (.int .i64 a2_1) ∧ w35.cell? ⟨gb177, 0, none⟩ = some (.int .i64 a3_0) ∧ w35.cell? ⟨gb177, 1, none⟩ = some (.int .i64 a3_1) := hS_
                          refine norm_ (a' := ?_) ?_ ?_
                          rotate_left
                          · simp only [putAll, Act.put, List.setIfInBounds_toArray, List.set_cons_zero, List.set_cons_succ]
                            rfl
                          refine two_ (i := 3) (j := 12) (Ni := some 29) (Nj := some 11) #[true, true, true, true, true, false, true, false, false, false, false, false, false, false, false] #[true, true, true, false, true, false, true, false, false, false, false, false, true, false, false] rfl rfl rfl rfl (two_of HT_.out (by kernel_rfl)) (by decide) (by decide) (fun K hK => ?_) (fun K hK => ?_)
                          · skip
                            refine goes_ Try.func16 (by kernel_rfl) rfl #[.agg #[.int .i64 a1_0, .int .i64 a1_1]] (by rfl) rfl rfl (by (try simp only [List.map_toArray, List.map_cons, List.map_nil]); first | done | rfl | (simp only [List.length_drop, List.length_take]; rfl)) ?_
                            with_reducible refine (laws_toPoint.calls a1_0 a1_1 t192 t193 _ A11.out).mono ?_
                            rintro e w36 ⟨rfl, hb⟩
                            refine ⟨_, rfl, ?_⟩
                            have n0_ := kb BK174 hb
                            have n1_ := kb BK175 hb
                            have n2_ := kb BK176 hb
                            have n3_ := kb BK177 hb
                            have n4_ := kb BK189 hb
                            have n5_ := sb hb
                            clear BK174
                            clear BK175
                            clear BK176
                            clear BK177
                            clear BK189
                            clear HB
                            have BK174 := n0_
                            have BK175 := n1_
                            have BK176 := n2_
                            have BK177 := n3_
                            have BK189 := n4_
                            have HB := n5_
                            clear n0_ n1_ n2_ n3_ n4_ n5_
                            (try clear hb)
                            (try clear hb2)
                            (try clear hk)
                            (try clear hi)
                            refine hK.out _ _ ⟨(blk_cell BK174.out 0).trans rfl, (blk_cell BK174.out 1).trans rfl, (blk_cell BK175.out 0).trans rfl, (blk_cell BK175.out 1).trans rfl, (blk_cell BK176.out 0).trans rfl, (blk_cell BK176.out 1).trans rfl, (blk_cell BK177.out 0).trans rfl, (blk_cell BK177.out 1).trans rfl⟩ (fun hHeld => ?_)
                            clear hK K
                            refine norm_ (a' := ?_) ?_ ?_
                            rotate_left
                            · show Act.put _ (some 29) _ = _
                              simp only [Act.put, List.setIfInBounds_toArray, List.set_cons_zero, List.set_cons_succ, i64_w, i32_w]
                              rfl
                            exact norm_ (by first | (simp only [putAll, Act.put, List.setIfInBounds_toArray, List.set_cons_zero, List.set_cons_succ]; done) | (simp only [putAll, Act.put, List.setIfInBounds_toArray, List.set_cons_zero, List.set_cons_succ]; rfl)) (hJ1_3 () _ ⟨hHeld, (bk BK174), (bk BK175), (bk BK176), (bk BK177), (bk BK189), ib⟩)
                          · skip
                            refine box_step ?hg (N := 11) ?hd (cs := #[.int .i64 0, .int .i64 0]) (t := 25) ?hr ?_; (case hd => rfl); (case hg => rfl); (case hr => first | (go_simp; done) | (go_simp; rfl))
                            intro gb201 hg w36 hbox hb
                            have n0_ := kb BK174 hb
                            have n1_ := kb BK175 hb
                            have n2_ := kb BK176 hb
                            have n3_ := kb BK177 hb
                            have n4_ := kb BK189 hb
                            have n5_ := sb hb
                            have n6_ := Aside0.mk (hbox)
                            have n7_ := zb hg
                            have n8_ := zb hg
                            have n9_ := nl BK174 hg
                            have n10_ := ng BK174 hg
                            have n11_ := nl BK175 hg
                            have n12_ := ng BK175 hg
                            have n13_ := nl BK176 hg
                            have n14_ := ng BK176 hg
                            have n15_ := nl BK177 hg
                            have n16_ := ng BK177 hg
                            have n17_ := nl BK189 hg
                            have n18_ := ng BK189 hg
                            clear BK174
                            clear BK175
                            clear BK176
                            clear BK177
                            clear BK189
                            clear HB
                            have BK174 := n0_
                            have BK175 := n1_
                            have BK176 := n2_
                            have BK177 := n3_
                            have BK189 := n4_
                            have HB := n5_
                            have BK201 := n6_
                            have GW201 := n7_
                            have GE201 := n8_
                            have NB174_201 := n9_
                            have NB201_174 := n10_
                            have NB175_201 := n11_
                            have NB201_175 := n12_
                            have NB176_201 := n13_
                            have NB201_176 := n14_
                            have NB177_201 := n15_
                            have NB201_177 := n16_
                            have NB189_201 := n17_
                            have NB201_189 := n18_
                            clear n0_ n1_ n2_ n3_ n4_ n5_ n6_ n7_ n8_ n9_ n10_ n11_ n12_ n13_ n14_ n15_ n16_ n17_ n18_
                            clear hb hbox hg
                            refine hK.out _ _ ⟨(blk_cell BK174.out 0).trans rfl, (blk_cell BK174.out 1).trans rfl, (blk_cell BK175.out 0).trans rfl, (blk_cell BK175.out 1).trans rfl, (blk_cell BK176.out 0).trans rfl, (blk_cell BK176.out 1).trans rfl, (blk_cell BK177.out 0).trans rfl, (blk_cell BK177.out 1).trans rfl⟩ (fun hHeld => ?_)
                            clear hK K
                            refine norm_ (a' := ?_) ?_ ?_
                            rotate_left
                            · show Act.put _ (some 11) _ = _
                              simp only [Act.put, List.setIfInBounds_toArray, List.set_cons_zero, List.set_cons_succ, i64_w, i32_w]
                              rfl
                            exact norm_ (by first | (simp only [putAll, Act.put, List.setIfInBounds_toArray, List.set_cons_zero, List.set_cons_succ]; done) | (simp only [putAll, Act.put, List.setIfInBounds_toArray, List.set_cons_zero, List.set_cons_succ]; rfl)) (hJ1_12 (gb201) _ ⟨hHeld, (bk BK174), (bk BK175), (bk BK176), (bk BK177), (bk BK189), (bk BK201), GW201.out, GE201.out, NB174_201.out, NB201_174.out, NB175_201.out, NB201_175.out, NB176_201.out, NB201_176.out, NB177_201.out, NB201_177.out, NB189_201.out, NB201_189.out, ib⟩)
                      · skip
                        rintro gb201 w36 ⟨hS_, h0_, h1_, h2_, h3_, h4_, h5_, h6_, h7_, h8_, h9_, h10_, h11_, h12_, h13_, h14_, h15_, h16_, h17_, h18_⟩
                        have n0_ : Aside0 (w36.heap[gb174]? = some (.cells #[.int .i64 a0_0, .int .i64 a0_1] 23 (0, 0))) := ⟨h0_⟩
                        have n1_ : Aside0 (w36.heap[gb175]? = some (.cells #[.int .i64 a1_0, .int .i64 a1_1] 23 (0, 0))) := ⟨h1_⟩
                        have n2_ : Aside0 (w36.heap[gb176]? = some (.cells #[.int .i64 a2_0, .int .i64 a2_1] 23 (0, 0))) := ⟨h2_⟩
                        have n3_ : Aside0 (w36.heap[gb177]? = some (.cells #[.int .i64 a3_0, .int .i64 a3_1] 23 (0, 0))) := ⟨h3_⟩
                        have n4_ : Aside0 (w36.heap[gb189]? = some (.cells #[.int .i64 t186, .int .i64 t187] 25 (0, 0))) := ⟨h4_⟩
                        have n5_ : Aside0 (w36.heap[gb201]? = some (.cells #[.int .i64 0, .int .i64 0] 25 (0, 0))) := ⟨h5_⟩
                        have n6_ : Aside0 (w.heap.size ≤ gb201) := ⟨h6_⟩
                        have n7_ : Aside0 (w.heap.size ≤ gb201) := ⟨h7_⟩
                        have n8_ : Aside0 (gb174 ≠ gb201) := ⟨h8_⟩
                        have n9_ : Aside0 (gb201 ≠ gb174) := ⟨h9_⟩
                        have n10_ : Aside0 (gb175 ≠ gb201) := ⟨h10_⟩
                        have n11_ : Aside0 (gb201 ≠ gb175) := ⟨h11_⟩
                        have n12_ : Aside0 (gb176 ≠ gb201) := ⟨h12_⟩
                        have n13_ : Aside0 (gb201 ≠ gb176) := ⟨h13_⟩
                        have n14_ : Aside0 (gb177 ≠ gb201) := ⟨h14_⟩
                        have n15_ : Aside0 (gb201 ≠ gb177) := ⟨h15_⟩
                        have n16_ : Aside0 (gb189 ≠ gb201) := ⟨h16_⟩
                        have n17_ : Aside0 (gb201 ≠ gb189) := ⟨h17_⟩
                        have n18_ : Aside0 (Below w.heap.size w w36) := ⟨h18_⟩
                        clear BK174
                        clear BK175
                        clear BK176
                        clear BK177
                        clear BK189
                        clear HB
                        clear h0_ h1_ h2_ h3_ h4_ h5_ h6_ h7_ h8_ h9_ h10_ h11_ h12_ h13_ h14_ h15_ h16_ h17_ h18_
                        have BK174 := n0_
                        have BK175 := n1_
                        have BK176 := n2_
                        have BK177 := n3_
                        have BK189 := n4_
                        have BK201 := n5_
                        have GW201 := n6_
                        have GE201 := n7_
                        have NB174_201 := n8_
                        have NB201_174 := n9_
                        have NB175_201 := n10_
                        have NB201_175 := n11_
                        have NB176_201 := n12_
                        have NB201_176 := n13_
                        have NB177_201 := n14_
                        have NB201_177 := n15_
                        have NB189_201 := n16_
                        have NB201_189 := n17_
                        have HB := n18_
                        clear n0_ n1_ n2_ n3_ n4_ n5_ n6_ n7_ n8_ n9_ n10_ n11_ n12_ n13_ n14_ n15_ n16_ n17_ n18_
                        have hHeld : w36.cell? ⟨gb174, 0, none⟩ = some (.int .i64 a0_0) ∧ w36.cell? ⟨gb174, 1, none⟩ = some (.int .i64 a0_1) ∧ w36.cell? ⟨gb175, 0, none⟩ = some (.int .i64 a1_0) ∧ w36.cell? ⟨gb175, 1, none⟩ = some (.int .i64 a1_1) ∧ w36.cell? ⟨gb176, 0, none⟩ = some (.int .i64 a2_0) ∧ w36.cell? ⟨gb176, 1, none⟩ = some (.int .i64 a2_1) ∧ w36.cell? ⟨gb177, 0, none⟩ = some (.int .i64 a3_0) ∧ w36.cell? ⟨gb177, 1, none⟩ = some (.int .i64 a3_1) := hS_
                        refine norm_ (a' := ?_) ?_ ?_
                        rotate_left
                        · simp only [putAll, Act.put, List.setIfInBounds_toArray, List.set_cons_zero, List.set_cons_succ]
                          rfl
                        refine one_ (i := 3) (N := some 29) #[true, true, true, true, true, false, true, false, false, false, false, false, true, false, false] rfl rfl (one_of HT_.out (by kernel_rfl)) (by decide) (fun K hK => ?_)
                        refine goes_ Try.func16 (by kernel_rfl) rfl #[.agg #[.int .i64 a1_0, .int .i64 a1_1]] (by rfl) rfl rfl (by (try simp only [List.map_toArray, List.map_cons, List.map_nil]); first | done | rfl | (simp only [List.length_drop, List.length_take]; rfl)) ?_
                        with_reducible refine (laws_toPoint.calls a1_0 a1_1 t192 t193 _ A11.out).mono ?_
                        rintro e w37 ⟨rfl, hb⟩
                        refine ⟨_, rfl, ?_⟩
                        have n0_ := kb BK174 hb
                        have n1_ := kb BK175 hb
                        have n2_ := kb BK176 hb
                        have n3_ := kb BK177 hb
                        have n4_ := kb BK189 hb
                        have n5_ := kb BK201 hb
                        have n6_ := sb hb
                        clear BK174
                        clear BK175
                        clear BK176
                        clear BK177
                        clear BK189
                        clear BK201
                        clear HB
                        have BK174 := n0_
                        have BK175 := n1_
                        have BK176 := n2_
                        have BK177 := n3_
                        have BK189 := n4_
                        have BK201 := n5_
                        have HB := n6_
                        clear n0_ n1_ n2_ n3_ n4_ n5_ n6_
                        (try clear hb)
                        (try clear hb2)
                        (try clear hk)
                        (try clear hi)
                        refine hK.out _ _ ⟨(blk_cell BK174.out 0).trans rfl, (blk_cell BK174.out 1).trans rfl, (blk_cell BK175.out 0).trans rfl, (blk_cell BK175.out 1).trans rfl, (blk_cell BK176.out 0).trans rfl, (blk_cell BK176.out 1).trans rfl, (blk_cell BK177.out 0).trans rfl, (blk_cell BK177.out 1).trans rfl⟩ (fun hHeld => ?_)
                        clear hK K
                        refine norm_ (a' := ?_) ?_ ?_
                        rotate_left
                        · show Act.put _ (some 29) _ = _
                          simp only [Act.put, List.setIfInBounds_toArray, List.set_cons_zero, List.set_cons_succ, i64_w, i32_w]
                          rfl
                        exact norm_ (by first | (simp only [putAll, Act.put, List.setIfInBounds_toArray, List.set_cons_zero, List.set_cons_succ]; done) | (simp only [putAll, Act.put, List.setIfInBounds_toArray, List.set_cons_zero, List.set_cons_succ]; rfl)) (hJ1_3_12 (gb201) _ ⟨hHeld, (bk BK174), (bk BK175), (bk BK176), (bk BK177), (bk BK189), (bk BK201), GW201.out, GE201.out, NB174_201.out, NB201_174.out, NB175_201.out, NB201_175.out, NB176_201.out, NB201_176.out, NB177_201.out, NB201_177.out, NB189_201.out, NB201_189.out, ib⟩)
                    · skip
                      rintro _ w36 ⟨hS_, h0_, h1_, h2_, h3_, h4_, h5_⟩
                      have n0_ : Aside0 (w36.heap[gb174]? = some (.cells #[.int .i64 a0_0, .int .i64 a0_1] 23 (0, 0))) := ⟨h0_⟩
                      have n1_ : Aside0 (w36.heap[gb175]? = some (.cells #[.int .i64 a1_0, .int .i64 a1_1] 23 (0, 0))) := ⟨h1_⟩
                      have n2_ : Aside0 (w36.heap[gb176]? = some (.cells #[.int .i64 a2_0, .int .i64 a2_1] 23 (0, 0))) := ⟨h2_⟩
                      have n3_ : Aside0 (w36.heap[gb177]? = some (.cells #[.int .i64 a3_0, .int .i64 a3_1] 23 (0, 0))) := ⟨h3_⟩
                      have n4_ : Aside0 (w36.heap[gb189]? = some (.cells #[.int .i64 t186, .int .i64 t187] 25 (0, 0))) := ⟨h4_⟩
                      have n5_ : Aside0 (Below w.heap.size w w36) := ⟨h5_⟩
                      clear BK174
                      clear BK175
                      clear BK176
                      clear BK177
                      clear BK189
                      clear HB
                      clear h0_ h1_ h2_ h3_ h4_ h5_
                      have BK174 := n0_
                      have BK175 := n1_
                      have BK176 := n2_
                      have BK177 := n3_
                      have BK189 := n4_
                      have HB := n5_
                      clear n0_ n1_ n2_ n3_ n4_ n5_
                      have hHeld : w36.cell? ⟨gb174, 0, none⟩ = some (.int .i64 a0_0) ∧ w36.cell? ⟨gb174, 1, none⟩ = some (.int .i64 a0_1) ∧ w36.cell? ⟨gb175, 0, none⟩ = some (.int .i64 a1_0) ∧ w36.cell? ⟨gb175, 1, none⟩ = some (.int .i64 a1_1) ∧ w36.cell? ⟨gb176, 0, none⟩ = some (.int .i64 a2_0) ∧ w36.cell? ⟨gb176, 1, none⟩ = some (.int .i64 a2_1) ∧ w36.cell? ⟨gb177, 0, none⟩ = some (.int .i64 a3_0) ∧ w36.cell? ⟨gb177, 1, none⟩ = some (.int .i64 a3_1) := hS_
                      refine norm_ (a' := ?_) ?_ ?_
                      rotate_left
                      · simp only [putAll, Act.put, List.setIfInBounds_toArray, List.set_cons_zero, List.set_cons_succ]
                        rfl
                      refine two_ (i := 5) (j := 12) (Ni := some 31) (Nj := some 11) #[true, true, true, true, true, true, true, false, false, false, false, false, false, false, false] #[true, true, true, true, true, false, true, false, false, false, false, false, true, false, false] rfl rfl rfl rfl (two_of HT_.out (by kernel_rfl)) (by decide) (by decide) (fun K hK => ?_) (fun K hK => ?_)
                      · skip
                        refine goes_ Try.func16 (by kernel_rfl) rfl #[.agg #[.int .i64 a2_0, .int .i64 a2_1]] (by rfl) rfl rfl (by (try simp only [List.map_toArray, List.map_cons, List.map_nil]); first | done | rfl | (simp only [List.length_drop, List.length_take]; rfl)) ?_
                        with_reducible refine (laws_toPoint.calls a2_0 a2_1 t194 t195 _ A12.out).mono ?_
                        rintro e w37 ⟨rfl, hb⟩
                        refine ⟨_, rfl, ?_⟩
                        have n0_ := kb BK174 hb
                        have n1_ := kb BK175 hb
                        have n2_ := kb BK176 hb
                        have n3_ := kb BK177 hb
                        have n4_ := kb BK189 hb
                        have n5_ := sb hb
                        clear BK174
                        clear BK175
                        clear BK176
                        clear BK177
                        clear BK189
                        clear HB
                        have BK174 := n0_
                        have BK175 := n1_
                        have BK176 := n2_
                        have BK177 := n3_
                        have BK189 := n4_
                        have HB := n5_
                        clear n0_ n1_ n2_ n3_ n4_ n5_
                        (try clear hb)
                        (try clear hb2)
                        (try clear hk)
                        (try clear hi)
                        refine hK.out _ _ ⟨(blk_cell BK174.out 0).trans rfl, (blk_cell BK174.out 1).trans rfl, (blk_cell BK175.out 0).trans rfl, (blk_cell BK175.out 1).trans rfl, (blk_cell BK176.out 0).trans rfl, (blk_cell BK176.out 1).trans rfl, (blk_cell BK177.out 0).trans rfl, (blk_cell BK177.out 1).trans rfl⟩ (fun hHeld => ?_)
                        clear hK K
                        refine norm_ (a' := ?_) ?_ ?_
                        rotate_left
                        · show Act.put _ (some 31) _ = _
                          simp only [Act.put, List.setIfInBounds_toArray, List.set_cons_zero, List.set_cons_succ, i64_w, i32_w]
                          rfl
                        exact norm_ (by first | (simp only [putAll, Act.put, List.setIfInBounds_toArray, List.set_cons_zero, List.set_cons_succ]; done) | (simp only [putAll, Act.put, List.setIfInBounds_toArray, List.set_cons_zero, List.set_cons_succ]; rfl)) (hJ1_3_5 () _ ⟨hHeld, (bk BK174), (bk BK175), (bk BK176), (bk BK177), (bk BK189), ib⟩)
                      · skip
                        refine box_step ?hg (N := 11) ?hd (cs := #[.int .i64 0, .int .i64 0]) (t := 25) ?hr ?_; (case hd => rfl); (case hg => rfl); (case hr => first | (go_simp; done) | (go_simp; rfl))
                        intro gb201 hg w37 hbox hb
                        have n0_ := kb BK174 hb
                        have n1_ := kb BK175 hb
                        have n2_ := kb BK176 hb
                        have n3_ := kb BK177 hb
                        have n4_ := kb BK189 hb
                        have n5_ := sb hb
                        have n6_ := Aside0.mk (hbox)
                        have n7_ := zb hg
                        have n8_ := zb hg
                        have n9_ := nl BK174 hg
                        have n10_ := ng BK174 hg
                        have n11_ := nl BK175 hg
                        have n12_ := ng BK175 hg
                        have n13_ := nl BK176 hg
                        have n14_ := ng BK176 hg
                        have n15_ := nl BK177 hg
                        have n16_ := ng BK177 hg
                        have n17_ := nl BK189 hg
                        have n18_ := ng BK189 hg
                        clear BK174
                        clear BK175
                        clear BK176
                        clear BK177
                        clear BK189
                        clear HB
                        have BK174 := n0_
                        have BK175 := n1_
                        have BK176 := n2_
                        have BK177 := n3_
                        have BK189 := n4_
                        have HB := n5_
                        have BK201 := n6_
                        have GW201 := n7_
                        have GE201 := n8_
                        have NB174_201 := n9_
                        have NB201_174 := n10_
                        have NB175_201 := n11_
                        have NB201_175 := n12_
                        have NB176_201 := n13_
                        have NB201_176 := n14_
                        have NB177_201 := n15_
                        have NB201_177 := n16_
                        have NB189_201 := n17_
                        have NB201_189 := n18_
                        clear n0_ n1_ n2_ n3_ n4_ n5_ n6_ n7_ n8_ n9_ n10_ n11_ n12_ n13_ n14_ n15_ n16_ n17_ n18_
                        clear hb hbox hg
                        refine hK.out _ _ ⟨(blk_cell BK174.out 0).trans rfl, (blk_cell BK174.out 1).trans rfl, (blk_cell BK175.out 0).trans rfl, (blk_cell BK175.out 1).trans rfl, (blk_cell BK176.out 0).trans rfl, (blk_cell BK176.out 1).trans rfl, (blk_cell BK177.out 0).trans rfl, (blk_cell BK177.out 1).trans rfl⟩ (fun hHeld => ?_)
                        clear hK K
                        refine norm_ (a' := ?_) ?_ ?_
                        rotate_left
                        · show Act.put _ (some 11) _ = _
                          simp only [Act.put, List.setIfInBounds_toArray, List.set_cons_zero, List.set_cons_succ, i64_w, i32_w]
                          rfl
                        exact norm_ (by first | (simp only [putAll, Act.put, List.setIfInBounds_toArray, List.set_cons_zero, List.set_cons_succ]; done) | (simp only [putAll, Act.put, List.setIfInBounds_toArray, List.set_cons_zero, List.set_cons_succ]; rfl)) (hJ1_3_12 (gb201) _ ⟨hHeld, (bk BK174), (bk BK175), (bk BK176), (bk BK177), (bk BK189), (bk BK201), GW201.out, GE201.out, NB174_201.out, NB201_174.out, NB175_201.out, NB201_175.out, NB176_201.out, NB201_176.out, NB177_201.out, NB201_177.out, NB189_201.out, NB201_189.out, ib⟩)
                  · skip
                    rintro gb201 w37 ⟨hS_, h0_, h1_, h2_, h3_, h4_, h5_, h6_, h7_, h8_, h9_, h10_, h11_, h12_, h13_, h14_, h15_, h16_, h17_, h18_⟩
                    have n0_ : Aside0 (w37.heap[gb174]? = some (.cells #[.int .i64 a0_0, .int .i64 a0_1] 23 (0, 0))) := ⟨h0_⟩
                    have n1_ : Aside0 (w37.heap[gb175]? = some (.cells #[.int .i64 a1_0, .int .i64 a1_1] 23 (0, 0))) := ⟨h1_⟩
                    have n2_ : Aside0 (w37.heap[gb176]? = some (.cells #[.int .i64 a2_0, .int .i64 a2_1] 23 (0, 0))) := ⟨h2_⟩
                    have n3_ : Aside0 (w37.heap[gb177]? = some (.cells #[.int .i64 a3_0, .int .i64 a3_1] 23 (0, 0))) := ⟨h3_⟩
                    have n4_ : Aside0 (w37.heap[gb189]? = some (.cells #[.int .i64 t186, .int .i64 t187] 25 (0, 0))) := ⟨h4_⟩
                    have n5_ : Aside0 (w37.heap[gb201]? = some (.cells #[.int .i64 0, .int .i64 0] 25 (0, 0))) := ⟨h5_⟩
                    have n6_ : Aside0 (w.heap.size ≤ gb201) := ⟨h6_⟩
                    have n7_ : Aside0 (w.heap.size ≤ gb201) := ⟨h7_⟩
                    have n8_ : Aside0 (gb174 ≠ gb201) := ⟨h8_⟩
                    have n9_ : Aside0 (gb201 ≠ gb174) := ⟨h9_⟩
                    have n10_ : Aside0 (gb175 ≠ gb201) := ⟨h10_⟩
                    have n11_ : Aside0 (gb201 ≠ gb175) := ⟨h11_⟩
                    have n12_ : Aside0 (gb176 ≠ gb201) := ⟨h12_⟩
                    have n13_ : Aside0 (gb201 ≠ gb176) := ⟨h13_⟩
                    have n14_ : Aside0 (gb177 ≠ gb201) := ⟨h14_⟩
                    have n15_ : Aside0 (gb201 ≠ gb177) := ⟨h15_⟩
                    have n16_ : Aside0 (gb189 ≠ gb201) := ⟨h16_⟩
                    have n17_ : Aside0 (gb201 ≠ gb189) := ⟨h17_⟩
                    have n18_ : Aside0 (Below w.heap.size w w37) := ⟨h18_⟩
                    clear BK174
                    clear BK175
                    clear BK176
                    clear BK177
                    clear BK189
                    clear HB
                    clear h0_ h1_ h2_ h3_ h4_ h5_ h6_ h7_ h8_ h9_ h10_ h11_ h12_ h13_ h14_ h15_ h16_ h17_ h18_
                    have BK174 := n0_
                    have BK175 := n1_
                    have BK176 := n2_
                    have BK177 := n3_
                    have BK189 := n4_
                    have BK201 := n5_
                    have GW201 := n6_
                    have GE201 := n7_
                    have NB174_201 := n8_
                    have NB201_174 := n9_
                    have NB175_201 := n10_
                    have NB201_175 := n11_
                    have NB176_201 := n12_
                    have NB201_176 := n13_
                    have NB177_201 := n14_
                    have NB201_177 := n15_
                    have NB189_201 := n16_
                    have NB201_189 := n17_
                    have HB := n18_
                    clear n0_ n1_ n2_ n3_ n4_ n5_ n6_ n7_ n8_ n9_ n10_ n11_ n12_ n13_ n14_ n15_ n16_ n17_ n18_
                    have hHeld : w37.cell? ⟨gb174, 0, none⟩ = some (.int .i64 a0_0) ∧ w37.cell? ⟨gb174, 1, none⟩ = some (.int .i64 a0_1) ∧ w37.cell? ⟨gb175, 0, none⟩ = some (.int .i64 a1_0) ∧ w37.cell? ⟨gb175, 1, none⟩ = some (.int .i64 a1_1) ∧ w37.cell? ⟨gb176, 0, none⟩ = some (.int .i64 a2_0) ∧ w37.cell? ⟨gb176, 1, none⟩ = some (.int .i64 a2_1) ∧ w37.cell? ⟨gb177, 0, none⟩ = some (.int .i64 a3_0) ∧ w37.cell? ⟨gb177, 1, none⟩ = some (.int .i64 a3_1) := hS_
                    refine norm_ (a' := ?_) ?_ ?_
                    rotate_left
                    · simp only [putAll, Act.put, List.setIfInBounds_toArray, List.set_cons_zero, List.set_cons_succ]
                      rfl
                    refine one_ (i := 5) (N := some 31) #[true, true, true, true, true, true, true, false, false, false, false, false, true, false, false] rfl rfl (one_of HT_.out (by kernel_rfl)) (by decide) (fun K hK => ?_)
                    refine goes_ Try.func16 (by kernel_rfl) rfl #[.agg #[.int .i64 a2_0, .int .i64 a2_1]] (by rfl) rfl rfl (by (try simp only [List.map_toArray, List.map_cons, List.map_nil]); first | done | rfl | (simp only [List.length_drop, List.length_take]; rfl)) ?_
                    with_reducible refine (laws_toPoint.calls a2_0 a2_1 t194 t195 _ A12.out).mono ?_
                    rintro e w38 ⟨rfl, hb⟩
                    refine ⟨_, rfl, ?_⟩
                    have n0_ := kb BK174 hb
                    have n1_ := kb BK175 hb
                    have n2_ := kb BK176 hb
                    have n3_ := kb BK177 hb
                    have n4_ := kb BK189 hb
                    have n5_ := kb BK201 hb
                    have n6_ := sb hb
                    clear BK174
                    clear BK175
                    clear BK176
                    clear BK177
                    clear BK189
                    clear BK201
                    clear HB
                    have BK174 := n0_
                    have BK175 := n1_
                    have BK176 := n2_
                    have BK177 := n3_
                    have BK189 := n4_
                    have BK201 := n5_
                    have HB := n6_
                    clear n0_ n1_ n2_ n3_ n4_ n5_ n6_
                    (try clear hb)
                    (try clear hb2)
                    (try clear hk)
                    (try clear hi)
                    refine hK.out _ _ ⟨(blk_cell BK174.out 0).trans rfl, (blk_cell BK174.out 1).trans rfl, (blk_cell BK175.out 0).trans rfl, (blk_cell BK175.out 1).trans rfl, (blk_cell BK176.out 0).trans rfl, (blk_cell BK176.out 1).trans rfl, (blk_cell BK177.out 0).trans rfl, (blk_cell BK177.out 1).trans rfl⟩ (fun hHeld => ?_)
                    clear hK K
                    refine norm_ (a' := ?_) ?_ ?_
                    rotate_left
                    · show Act.put _ (some 31) _ = _
                      simp only [Act.put, List.setIfInBounds_toArray, List.set_cons_zero, List.set_cons_succ, i64_w, i32_w]
                      rfl
                    exact norm_ (by first | (simp only [putAll, Act.put, List.setIfInBounds_toArray, List.set_cons_zero, List.set_cons_succ]; done) | (simp only [putAll, Act.put, List.setIfInBounds_toArray, List.set_cons_zero, List.set_cons_succ]; rfl)) (hJ1_3_5_12 (gb201) _ ⟨hHeld, (bk BK174), (bk BK175), (bk BK176), (bk BK177), (bk BK189), (bk BK201), GW201.out, GE201.out, NB174_201.out, NB201_174.out, NB175_201.out, NB201_175.out, NB176_201.out, NB201_176.out, NB177_201.out, NB201_177.out, NB189_201.out, NB201_189.out, ib⟩)
                · skip
                  rintro _ w37 ⟨hS_, h0_, h1_, h2_, h3_, h4_, h5_⟩
                  have n0_ : Aside0 (w37.heap[gb174]? = some (.cells #[.int .i64 a0_0, .int .i64 a0_1] 23 (0, 0))) := ⟨h0_⟩
                  have n1_ : Aside0 (w37.heap[gb175]? = some (.cells #[.int .i64 a1_0, .int .i64 a1_1] 23 (0, 0))) := ⟨h1_⟩
                  have n2_ : Aside0 (w37.heap[gb176]? = some (.cells #[.int .i64 a2_0, .int .i64 a2_1] 23 (0, 0))) := ⟨h2_⟩
                  have n3_ : Aside0 (w37.heap[gb177]? = some (.cells #[.int .i64 a3_0, .int .i64 a3_1] 23 (0, 0))) := ⟨h3_⟩
                  have n4_ : Aside0 (w37.heap[gb189]? = some (.cells #[.int .i64 t186, .int .i64 t187] 25 (0, 0))) := ⟨h4_⟩
                  have n5_ : Aside0 (Below w.heap.size w w37) := ⟨h5_⟩
                  clear BK174
                  clear BK175
                  clear BK176
                  clear BK177
                  clear BK189
                  clear HB
                  clear h0_ h1_ h2_ h3_ h4_ h5_
                  have BK174 := n0_
                  have BK175 := n1_
                  have BK176 := n2_
                  have BK177 := n3_
                  have BK189 := n4_
                  have HB := n5_
                  clear n0_ n1_ n2_ n3_ n4_ n5_
                  have hHeld : w37.cell? ⟨gb174, 0, none⟩ = some (.int .i64 a0_0) ∧ w37.cell? ⟨gb174, 1, none⟩ = some (.int .i64 a0_1) ∧ w37.cell? ⟨gb175, 0, none⟩ = some (.int .i64 a1_0) ∧ w37.cell? ⟨gb175, 1, none⟩ = some (.int .i64 a1_1) ∧ w37.cell? ⟨gb176, 0, none⟩ = some (.int .i64 a2_0) ∧ w37.cell? ⟨gb176, 1, none⟩ = some (.int .i64 a2_1) ∧ w37.cell? ⟨gb177, 0, none⟩ = some (.int .i64 a3_0) ∧ w37.cell? ⟨gb177, 1, none⟩ = some (.int .i64 a3_1) := hS_
                  refine norm_ (a' := ?_) ?_ ?_
                  rotate_left
                  · simp only [putAll, Act.put, List.setIfInBounds_toArray, List.set_cons_zero, List.set_cons_succ]
                    rfl
                  refine two_ (i := 7) (j := 12) (Ni := some 33) (Nj := some 11) #[true, true, true, true, true, true, true, true, false, false, false, false, false, false, false] #[true, true, true, true, true, true, true, false, false, false, false, false, true, false, false] rfl rfl rfl rfl (two_of HT_.out (by kernel_rfl)) (by decide) (by decide) (fun K hK => ?_) (fun K hK => ?_)
                  · skip
                    refine goes_ Try.func16 (by kernel_rfl) rfl #[.agg #[.int .i64 a3_0, .int .i64 a3_1]] (by rfl) rfl rfl (by (try simp only [List.map_toArray, List.map_cons, List.map_nil]); first | done | rfl | (simp only [List.length_drop, List.length_take]; rfl)) ?_
                    with_reducible refine (laws_toPoint.calls a3_0 a3_1 t196 t197 _ A13.out).mono ?_
                    rintro e w38 ⟨rfl, hb⟩
                    refine ⟨_, rfl, ?_⟩
                    have n0_ := kb BK174 hb
                    have n1_ := kb BK175 hb
                    have n2_ := kb BK176 hb
                    have n3_ := kb BK177 hb
                    have n4_ := kb BK189 hb
                    have n5_ := sb hb
                    clear BK174
                    clear BK175
                    clear BK176
                    clear BK177
                    clear BK189
                    clear HB
                    have BK174 := n0_
                    have BK175 := n1_
                    have BK176 := n2_
                    have BK177 := n3_
                    have BK189 := n4_
                    have HB := n5_
                    clear n0_ n1_ n2_ n3_ n4_ n5_
                    (try clear hb)
                    (try clear hb2)
                    (try clear hk)
                    (try clear hi)
                    refine hK.out _ _ ⟨(blk_cell BK174.out 0).trans rfl, (blk_cell BK174.out 1).trans rfl, (blk_cell BK175.out 0).trans rfl, (blk_cell BK175.out 1).trans rfl, (blk_cell BK176.out 0).trans rfl, (blk_cell BK176.out 1).trans rfl, (blk_cell BK177.out 0).trans rfl, (blk_cell BK177.out 1).trans rfl⟩ (fun hHeld => ?_)
                    clear hK K
                    refine norm_ (a' := ?_) ?_ ?_
                    rotate_left
                    · show Act.put _ (some 33) _ = _
                      simp only [Act.put, List.setIfInBounds_toArray, List.set_cons_zero, List.set_cons_succ, i64_w, i32_w]
                      rfl
                    exact norm_ (by first | (simp only [putAll, Act.put, List.setIfInBounds_toArray, List.set_cons_zero, List.set_cons_succ]; done) | (simp only [putAll, Act.put, List.setIfInBounds_toArray, List.set_cons_zero, List.set_cons_succ]; rfl)) (hJ1_3_5_7 () _ ⟨hHeld, (bk BK174), (bk BK175), (bk BK176), (bk BK177), (bk BK189), ib⟩)
                  · skip
                    refine box_step ?hg (N := 11) ?hd (cs := #[.int .i64 0, .int .i64 0]) (t := 25) ?hr ?_; (case hd => rfl); (case hg => rfl); (case hr => first | (go_simp; done) | (go_simp; rfl))
                    intro gb201 hg w38 hbox hb
                    have n0_ := kb BK174 hb
                    have n1_ := kb BK175 hb
                    have n2_ := kb BK176 hb
                    have n3_ := kb BK177 hb
                    have n4_ := kb BK189 hb
                    have n5_ := sb hb
                    have n6_ := Aside0.mk (hbox)
                    have n7_ := zb hg
                    have n8_ := zb hg
                    have n9_ := nl BK174 hg
                    have n10_ := ng BK174 hg
                    have n11_ := nl BK175 hg
                    have n12_ := ng BK175 hg
                    have n13_ := nl BK176 hg
                    have n14_ := ng BK176 hg
                    have n15_ := nl BK177 hg
                    have n16_ := ng BK177 hg
                    have n17_ := nl BK189 hg
                    have n18_ := ng BK189 hg
                    clear BK174
                    clear BK175
                    clear BK176
                    clear BK177
                    clear BK189
                    clear HB
                    have BK174 := n0_
                    have BK175 := n1_
                    have BK176 := n2_
                    have BK177 := n3_
                    have BK189 := n4_
                    have HB := n5_
                    have BK201 := n6_
                    have GW201 := n7_
                    have GE201 := n8_
                    have NB174_201 := n9_
                    have NB201_174 := n10_
                    have NB175_201 := n11_
                    have NB201_175 := n12_
                    have NB176_201 := n13_
                    have NB201_176 := n14_
                    have NB177_201 := n15_
                    have NB201_177 := n16_
                    have NB189_201 := n17_
                    have NB201_189 := n18_
                    clear n0_ n1_ n2_ n3_ n4_ n5_ n6_ n7_ n8_ n9_ n10_ n11_ n12_ n13_ n14_ n15_ n16_ n17_ n18_
                    clear hb hbox hg
                    refine hK.out _ _ ⟨(blk_cell BK174.out 0).trans rfl, (blk_cell BK174.out 1).trans rfl, (blk_cell BK175.out 0).trans rfl, (blk_cell BK175.out 1).trans rfl, (blk_cell BK176.out 0).trans rfl, (blk_cell BK176.out 1).trans rfl, (blk_cell BK177.out 0).trans rfl, (blk_cell BK177.out 1).trans rfl⟩ (fun hHeld => ?_)
                    clear hK K
                    refine norm_ (a' := ?_) ?_ ?_
                    rotate_left
                    · show Act.put _ (some 11) _ = _
                      simp only [Act.put, List.setIfInBounds_toArray, List.set_cons_zero, List.set_cons_succ, i64_w, i32_w]
                      rfl
                    exact norm_ (by first | (simp only [putAll, Act.put, List.setIfInBounds_toArray, List.set_cons_zero, List.set_cons_succ]; done) | (simp only [putAll, Act.put, List.setIfInBounds_toArray, List.set_cons_zero, List.set_cons_succ]; rfl)) (hJ1_3_5_12 (gb201) _ ⟨hHeld, (bk BK174), (bk BK175), (bk BK176), (bk BK177), (bk BK189), (bk BK201), GW201.out, GE201.out, NB174_201.out, NB201_174.out, NB175_201.out, NB201_175.out, NB176_201.out, NB201_176.out, NB177_201.out, NB201_177.out, NB189_201.out, NB201_189.out, ib⟩)
              · skip
                rintro gb201 w38 ⟨hS_, h0_, h1_, h2_, h3_, h4_, h5_, h6_, h7_, h8_, h9_, h10_, h11_, h12_, h13_, h14_, h15_, h16_, h17_, h18_⟩
                have n0_ : Aside0 (w38.heap[gb174]? = some (.cells #[.int .i64 a0_0, .int .i64 a0_1] 23 (0, 0))) := ⟨h0_⟩
                have n1_ : Aside0 (w38.heap[gb175]? = some (.cells #[.int .i64 a1_0, .int .i64 a1_1] 23 (0, 0))) := ⟨h1_⟩
                have n2_ : Aside0 (w38.heap[gb176]? = some (.cells #[.int .i64 a2_0, .int .i64 a2_1] 23 (0, 0))) := ⟨h2_⟩
                have n3_ : Aside0 (w38.heap[gb177]? = some (.cells #[.int .i64 a3_0, .int .i64 a3_1] 23 (0, 0))) := ⟨h3_⟩
                have n4_ : Aside0 (w38.heap[gb189]? = some (.cells #[.int .i64 t186, .int .i64 t187] 25 (0, 0))) := ⟨h4_⟩
                have n5_ : Aside0 (w38.heap[gb201]? = some (.cells #[.int .i64 0, .int .i64 0] 25 (0, 0))) := ⟨h5_⟩
                have n6_ : Aside0 (w.heap.size ≤ gb201) := ⟨h6_⟩
                have n7_ : Aside0 (w.heap.size ≤ gb201) := ⟨h7_⟩
                have n8_ : Aside0 (gb174 ≠ gb201) := ⟨h8_⟩
                have n9_ : Aside0 (gb201 ≠ gb174) := ⟨h9_⟩
                have n10_ : Aside0 (gb175 ≠ gb201) := ⟨h10_⟩
                have n11_ : Aside0 (gb201 ≠ gb175) := ⟨h11_⟩
                have n12_ : Aside0 (gb176 ≠ gb201) := ⟨h12_⟩
                have n13_ : Aside0 (gb201 ≠ gb176) := ⟨h13_⟩
                have n14_ : Aside0 (gb177 ≠ gb201) := ⟨h14_⟩
                have n15_ : Aside0 (gb201 ≠ gb177) := ⟨h15_⟩
                have n16_ : Aside0 (gb189 ≠ gb201) := ⟨h16_⟩
                have n17_ : Aside0 (gb201 ≠ gb189) := ⟨h17_⟩
                have n18_ : Aside0 (Below w.heap.size w w38) := ⟨h18_⟩
                clear BK174
                clear BK175
                clear BK176
                clear BK177
                clear BK189
                clear HB
                clear h0_ h1_ h2_ h3_ h4_ h5_ h6_ h7_ h8_ h9_ h10_ h11_ h12_ h13_ h14_ h15_ h16_ h17_ h18_
                have BK174 := n0_
                have BK175 := n1_
                have BK176 := n2_
                have BK177 := n3_
                have BK189 := n4_
                have BK201 := n5_
                have GW201 := n6_
                have GE201 := n7_
                have NB174_201 := n8_
                have NB201_174 := n9_
                have NB175_201 := n10_
                have NB201_175 := n11_
                have NB176_201 := n12_
                have NB201_176 := n13_
                have NB177_201 := n14_
                have NB201_177 := n15_
                have NB189_201 := n16_
                have NB201_189 := n17_
                have HB := n18_
                clear n0_ n1_ n2_ n3_ n4_ n5_ n6_ n7_ n8_ n9_ n10_ n11_ n12_ n13_ n14_ n15_ n16_ n17_ n18_
                have hHeld : w38.cell? ⟨gb174, 0, none⟩ = some (.int .i64 a0_0) ∧ w38.cell? ⟨gb174, 1, none⟩ = some (.int .i64 a0_1) ∧ w38.cell? ⟨gb175, 0, none⟩ = some (.int .i64 a1_0) ∧ w38.cell? ⟨gb175, 1, none⟩ = some (.int .i64 a1_1) ∧ w38.cell? ⟨gb176, 0, none⟩ = some (.int .i64 a2_0) ∧ w38.cell? ⟨gb176, 1, none⟩ = some (.int .i64 a2_1) ∧ w38.cell? ⟨gb177, 0, none⟩ = some (.int .i64 a3_0) ∧ w38.cell? ⟨gb177, 1, none⟩ = some (.int .i64 a3_1) := hS_
                refine norm_ (a' := ?_) ?_ ?_
                rotate_left
                · simp only [putAll, Act.put, List.setIfInBounds_toArray, List.set_cons_zero, List.set_cons_succ]
                  rfl
                refine one_ (i := 7) (N := some 33) #[true, true, true, true, true, true, true, true, false, false, false, false, true, false, false] rfl rfl (one_of HT_.out (by kernel_rfl)) (by decide) (fun K hK => ?_)
                refine goes_ Try.func16 (by kernel_rfl) rfl #[.agg #[.int .i64 a3_0, .int .i64 a3_1]] (by rfl) rfl rfl (by (try simp only [List.map_toArray, List.map_cons, List.map_nil]); first | done | rfl | (simp only [List.length_drop, List.length_take]; rfl)) ?_
                with_reducible refine (laws_toPoint.calls a3_0 a3_1 t196 t197 _ A13.out).mono ?_
                rintro e w39 ⟨rfl, hb⟩
                refine ⟨_, rfl, ?_⟩
                have n0_ := kb BK174 hb
                have n1_ := kb BK175 hb
                have n2_ := kb BK176 hb
                have n3_ := kb BK177 hb
                have n4_ := kb BK189 hb
                have n5_ := kb BK201 hb
                have n6_ := sb hb
                clear BK174
                clear BK175
                clear BK176
                clear BK177
                clear BK189
                clear BK201
                clear HB
                have BK174 := n0_
                have BK175 := n1_
                have BK176 := n2_
                have BK177 := n3_
                have BK189 := n4_
                have BK201 := n5_
                have HB := n6_
                clear n0_ n1_ n2_ n3_ n4_ n5_ n6_
                (try clear hb)
                (try clear hb2)
                (try clear hk)
                (try clear hi)
                refine hK.out _ _ ⟨(blk_cell BK174.out 0).trans rfl, (blk_cell BK174.out 1).trans rfl, (blk_cell BK175.out 0).trans rfl, (blk_cell BK175.out 1).trans rfl, (blk_cell BK176.out 0).trans rfl, (blk_cell BK176.out 1).trans rfl, (blk_cell BK177.out 0).trans rfl, (blk_cell BK177.out 1).trans rfl⟩ (fun hHeld => ?_)
                clear hK K
                refine norm_ (a' := ?_) ?_ ?_
                rotate_left
                · show Act.put _ (some 33) _ = _
                  simp only [Act.put, List.setIfInBounds_toArray, List.set_cons_zero, List.set_cons_succ, i64_w, i32_w]
                  rfl
                exact norm_ (by first | (simp only [putAll, Act.put, List.setIfInBounds_toArray, List.set_cons_zero, List.set_cons_succ]; done) | (simp only [putAll, Act.put, List.setIfInBounds_toArray, List.set_cons_zero, List.set_cons_succ]; rfl)) (hJ1_3_5_7_12 (gb201) _ ⟨hHeld, (bk BK174), (bk BK175), (bk BK176), (bk BK177), (bk BK189), (bk BK201), GW201.out, GE201.out, NB174_201.out, NB201_174.out, NB175_201.out, NB201_175.out, NB176_201.out, NB201_176.out, NB177_201.out, NB201_177.out, NB189_201.out, NB201_189.out, ib⟩)
            · skip
              rintro _ w38 ⟨hS_, h0_, h1_, h2_, h3_, h4_, h5_⟩
              have n0_ : Aside0 (w38.heap[gb174]? = some (.cells #[.int .i64 a0_0, .int .i64 a0_1] 23 (0, 0))) := ⟨h0_⟩
              have n1_ : Aside0 (w38.heap[gb175]? = some (.cells #[.int .i64 a1_0, .int .i64 a1_1] 23 (0, 0))) := ⟨h1_⟩
              have n2_ : Aside0 (w38.heap[gb176]? = some (.cells #[.int .i64 a2_0, .int .i64 a2_1] 23 (0, 0))) := ⟨h2_⟩
              have n3_ : Aside0 (w38.heap[gb177]? = some (.cells #[.int .i64 a3_0, .int .i64 a3_1] 23 (0, 0))) := ⟨h3_⟩
              have n4_ : Aside0 (w38.heap[gb189]? = some (.cells #[.int .i64 t186, .int .i64 t187] 25 (0, 0))) := ⟨h4_⟩
              have n5_ : Aside0 (Below w.heap.size w w38) := ⟨h5_⟩
              clear BK174
              clear BK175
              clear BK176
              clear BK177
              clear BK189
              clear HB
              clear h0_ h1_ h2_ h3_ h4_ h5_
              have BK174 := n0_
              have BK175 := n1_
              have BK176 := n2_
              have BK177 := n3_
              have BK189 := n4_
              have HB := n5_
              clear n0_ n1_ n2_ n3_ n4_ n5_
              have hHeld : w38.cell? ⟨gb174, 0, none⟩ = some (.int .i64 a0_0) ∧ w38.cell? ⟨gb174, 1, none⟩ = some (.int .i64 a0_1) ∧ w38.cell? ⟨gb175, 0, none⟩ = some (.int .i64 a1_0) ∧ w38.cell? ⟨gb175, 1, none⟩ = some (.int .i64 a1_1) ∧ w38.cell? ⟨gb176, 0, none⟩ = some (.int .i64 a2_0) ∧ w38.cell? ⟨gb176, 1, none⟩ = some (.int .i64 a2_1) ∧ w38.cell? ⟨gb177, 0, none⟩ = some (.int .i64 a3_0) ∧ w38.cell? ⟨gb177, 1, none⟩ = some (.int .i64 a3_1) := hS_
              refine norm_ (a' := ?_) ?_ ?_
              rotate_left
              · simp only [putAll, Act.put, List.setIfInBounds_toArray, List.set_cons_zero, List.set_cons_succ]
                rfl
              refine two_ (i := 8) (j := 12) (Ni := some 34) (Nj := some 11) #[true, true, true, true, true, true, true, true, true, false, false, false, false, false, false] #[true, true, true, true, true, true, true, true, false, false, false, false, true, false, false] rfl rfl rfl rfl (two_of HT_.out (by kernel_rfl)) (by decide) (by decide) (fun K hK => ?_) (fun K hK => ?_)
              · skip
                refine goes_ Try.func27 (by kernel_rfl) rfl #[.agg #[.int .i64 t190, .int .i64 t191], .agg #[.int .i64 t192, .int .i64 t193], .agg #[.int .i64 t194, .int .i64 t195], .agg #[.int .i64 t196, .int .i64 t197]] (by rfl) rfl rfl (by (try simp only [List.map_toArray, List.map_cons, List.map_nil]); first | done | rfl | (simp only [List.length_drop, List.length_take]; rfl)) ?_
                with_reducible refine (impl_CrossPoint.calls k t190 t191 t192 t193 t194 t195 t196 t197 t198 t199 t200 _ A14.out).mono ?_
                rintro e w39 ⟨rfl, hb⟩
                refine ⟨_, rfl, ?_⟩
                have n0_ := kb BK174 hb
                have n1_ := kb BK175 hb
                have n2_ := kb BK176 hb
                have n3_ := kb BK177 hb
                have n4_ := kb BK189 hb
                have n5_ := sb hb
                clear BK174
                clear BK175
                clear BK176
                clear BK177
                clear BK189
                clear HB
                have BK174 := n0_
                have BK175 := n1_
                have BK176 := n2_
                have BK177 := n3_
                have BK189 := n4_
                have HB := n5_
                clear n0_ n1_ n2_ n3_ n4_ n5_
                (try clear hb)
                (try clear hb2)
                (try clear hk)
                (try clear hi)
                refine hK.out _ _ ⟨(blk_cell BK174.out 0).trans rfl, (blk_cell BK174.out 1).trans rfl, (blk_cell BK175.out 0).trans rfl, (blk_cell BK175.out 1).trans rfl, (blk_cell BK176.out 0).trans rfl, (blk_cell BK176.out 1).trans rfl, (blk_cell BK177.out 0).trans rfl, (blk_cell BK177.out 1).trans rfl⟩ (fun hHeld => ?_)
                clear hK K
                refine norm_ (a' := ?_) ?_ ?_
                rotate_left
                · show Act.put _ (some 34) _ = _
                  simp only [Act.put, List.setIfInBounds_toArray, List.set_cons_zero, List.set_cons_succ, i64_w, i32_w]
                  rfl
                refine pure_ (i := 9) (N := some 25) (v := ?_) (a' := ?_) #[true, true, true, true, true, true, true, true, true, true, false, false, false, false, false] rfl rfl (any_of HT_.out (by kernel_rfl)) (fun _ _ _ h => h) (Or.inl ⟨by rfl, ?_⟩) ?_ ?_
                rotate_left
                · intro w'
                  go_simp
                  with_reducible rfl
                rotate_left
                · exact pa
                refine pure_ (i := 10) (N := some 35) (v := ?_) (a' := ?_) #[true, true, true, true, true, true, true, true, true, true, true, false, false, false, false] rfl rfl (any_of HT_.out (by kernel_rfl)) (fun _ _ _ h => h) (Or.inl ⟨by rfl, ?_⟩) ?_ ?_
                rotate_left
                · intro w'
                  go_simp
                  with_reducible rfl
                rotate_left
                · exact pa
                refine pure_ (i := 11) (N := some 36) (v := ?_) (a' := ?_) #[true, true, true, true, true, true, true, true, true, true, true, true, false, false, false] rfl rfl (any_of HT_.out (by kernel_rfl)) (fun _ _ _ h => h) (Or.inl ⟨by rfl, ?_⟩) ?_ ?_
                rotate_left
                · intro w'
                  go_simp
                  with_reducible rfl
                rotate_left
                · exact pa
                exact norm_ (by first | (simp only [putAll, Act.put, List.setIfInBounds_toArray, List.set_cons_zero, List.set_cons_succ]; done) | (simp only [putAll, Act.put, List.setIfInBounds_toArray, List.set_cons_zero, List.set_cons_succ]; rfl)) (hJ1_3_5_7_8 () _ ⟨hHeld, (bk BK174), (bk BK175), (bk BK176), (bk BK177), (bk BK189), ib⟩)
              · skip
                refine box_step ?hg (N := 11) ?hd (cs := #[.int .i64 0, .int .i64 0]) (t := 25) ?hr ?_; (case hd => rfl); (case hg => rfl); (case hr => first | (go_simp; done) | (go_simp; rfl))
                intro gb201 hg w39 hbox hb
                have n0_ := kb BK174 hb
                have n1_ := kb BK175 hb
                have n2_ := kb BK176 hb
                have n3_ := kb BK177 hb
                have n4_ := kb BK189 hb
                have n5_ := sb hb
                have n6_ := Aside0.mk (hbox)
                have n7_ := zb hg
                have n8_ := zb hg
                have n9_ := nl BK174 hg
                have n10_ := ng BK174 hg
                have n11_ := nl BK175 hg
                have n12_ := ng BK175 hg
                have n13_ := nl BK176 hg
                have n14_ := ng BK176 hg
                have n15_ := nl BK177 hg
                have n16_ := ng BK177 hg
                have n17_ := nl BK189 hg
                have n18_ := ng BK189 hg
                clear BK174
                clear BK175
                clear BK176
                clear BK177
                clear BK189
                clear HB
                have BK174 := n0_
                have BK175 := n1_
                have BK176 := n2_
                have BK177 := n3_
                have BK189 := n4_
                have HB := n5_
                have BK201 := n6_
                have GW201 := n7_
                have GE201 := n8_
                have NB174_201 := n9_
                have NB201_174 := n10_
                have NB175_201 := n11_
                have NB201_175 := n12_
                have NB176_201 := n13_
                have NB201_176 := n14_
                have NB177_201 := n15_
                have NB201_177 := n16_
                have NB189_201 := n17_
                have NB201_189 := n18_
                clear n0_ n1_ n2_ n3_ n4_ n5_ n6_ n7_ n8_ n9_ n10_ n11_ n12_ n13_ n14_ n15_ n16_ n17_ n18_
                clear hb hbox hg
                refine hK.out _ _ ⟨(blk_cell BK174.out 0).trans rfl, (blk_cell BK174.out 1).trans rfl, (blk_cell BK175.out 0).trans rfl, (blk_cell BK175.out 1).trans rfl, (blk_cell BK176.out 0).trans rfl, (blk_cell BK176.out 1).trans rfl, (blk_cell BK177.out 0).trans rfl, (blk_cell BK177.out 1).trans rfl⟩ (fun hHeld => ?_)
                clear hK K
                refine norm_ (a' := ?_) ?_ ?_
                rotate_left
                · show Act.put _ (some 11) _ = _
                  simp only [Act.put, List.setIfInBounds_toArray, List.set_cons_zero, List.set_cons_succ, i64_w, i32_w]
                  rfl
                exact norm_ (by first | (simp only [putAll, Act.put, List.setIfInBounds_toArray, List.set_cons_zero, List.set_cons_succ]; done) | (simp only [putAll, Act.put, List.setIfInBounds_toArray, List.set_cons_zero, List.set_cons_succ]; rfl)) (hJ1_3_5_7_12 (gb201) _ ⟨hHeld, (bk BK174), (bk BK175), (bk BK176), (bk BK177), (bk BK189), (bk BK201), GW201.out, GE201.out, NB174_201.out, NB201_174.out, NB175_201.out, NB201_175.out, NB176_201.out, NB201_176.out, NB177_201.out, NB201_177.out, NB189_201.out, NB201_189.out, ib⟩)
          · skip
            rintro gb201 w39 ⟨hS_, h0_, h1_, h2_, h3_, h4_, h5_, h6_, h7_, h8_, h9_, h10_, h11_, h12_, h13_, h14_, h15_, h16_, h17_, h18_⟩
            have n0_ : Aside0 (w39.heap[gb174]? = some (.cells #[.int .i64 a0_0, .int .i64 a0_1] 23 (0, 0))) := ⟨h0_⟩
            have n1_ : Aside0 (w39.heap[gb175]? = some (.cells #[.int .i64 a1_0, .int .i64 a1_1] 23 (0, 0))) := ⟨h1_⟩
            have n2_ : Aside0 (w39.heap[gb176]? = some (.cells #[.int .i64 a2_0, .int .i64 a2_1] 23 (0, 0))) := ⟨h2_⟩
            have n3_ : Aside0 (w39.heap[gb177]? = some (.cells #[.int .i64 a3_0, .int .i64 a3_1] 23 (0, 0))) := ⟨h3_⟩
            have n4_ : Aside0 (w39.heap[gb189]? = some (.cells #[.int .i64 t186, .int .i64 t187] 25 (0, 0))) := ⟨h4_⟩
            have n5_ : Aside0 (w39.heap[gb201]? = some (.cells #[.int .i64 0, .int .i64 0] 25 (0, 0))) := ⟨h5_⟩
            have n6_ : Aside0 (w.heap.size ≤ gb201) := ⟨h6_⟩
            have n7_ : Aside0 (w.heap.size ≤ gb201) := ⟨h7_⟩
            have n8_ : Aside0 (gb174 ≠ gb201) := ⟨h8_⟩
            have n9_ : Aside0 (gb201 ≠ gb174) := ⟨h9_⟩
            have n10_ : Aside0 (gb175 ≠ gb201) := ⟨h10_⟩
            have n11_ : Aside0 (gb201 ≠ gb175) := ⟨h11_⟩
            have n12_ : Aside0 (gb176 ≠ gb201) := ⟨h12_⟩
            have n13_ : Aside0 (gb201 ≠ gb176) := ⟨h13_⟩
            have n14_ : Aside0 (gb177 ≠ gb201) := ⟨h14_⟩
            have n15_ : Aside0 (gb201 ≠ gb177) := ⟨h15_⟩
            have n16_ : Aside0 (gb189 ≠ gb201) := ⟨h16_⟩
            have n17_ : Aside0 (gb201 ≠ gb189) := ⟨h17_⟩
            have n18_ : Aside0 (Below w.heap.size w w39) := ⟨h18_⟩
            clear BK174
            clear BK175
            clear BK176
            clear BK177
            clear BK189
            clear HB
            clear h0_ h1_ h2_ h3_ h4_ h5_ h6_ h7_ h8_ h9_ h10_ h11_ h12_ h13_ h14_ h15_ h16_ h17_ h18_
            have BK174 := n0_
            have BK175 := n1_
            have BK176 := n2_
            have BK177 := n3_
            have BK189 := n4_
            have BK201 := n5_
            have GW201 := n6_
            have GE201 := n7_
            have NB174_201 := n8_
            have NB201_174 := n9_
            have NB175_201 := n10_
            have NB201_175 := n11_
            have NB176_201 := n12_
            have NB201_176 := n13_
            have NB177_201 := n14_
            have NB201_177 := n15_
            have NB189_201 := n16_
            have NB201_189 := n17_
            have HB := n18_
            clear n0_ n1_ n2_ n3_ n4_ n5_ n6_ n7_ n8_ n9_ n10_ n11_ n12_ n13_ n14_ n15_ n16_ n17_ n18_
            have hHeld : w39.cell? ⟨gb174, 0, none⟩ = some (.int .i64 a0_0) ∧ w39.cell? ⟨gb174, 1, none⟩ = some (.int .i64 a0_1) ∧ w39.cell? ⟨gb175, 0, none⟩ = some (.int .i64 a1_0) ∧ w39.cell? ⟨gb175, 1, none⟩ = some (.int .i64 a1_1) ∧ w39.cell? ⟨gb176, 0, none⟩ = some (.int .i64 a2_0) ∧ w39.cell? ⟨gb176, 1, none⟩ = some (.int .i64 a2_1) ∧ w39.cell? ⟨gb177, 0, none⟩ = some (.int .i64 a3_0) ∧ w39.cell? ⟨gb177, 1, none⟩ = some (.int .i64 a3_1) := hS_
            refine norm_ (a' := ?_) ?_ ?_
            rotate_left
            · simp only [putAll, Act.put, List.setIfInBounds_toArray, List.set_cons_zero, List.set_cons_succ]
              rfl
            refine one_ (i := 8) (N := some 34) #[true, true, true, true, true, true, true, true, true, false, false, false, true, false, false] rfl rfl (one_of HT_.out (by kernel_rfl)) (by decide) (fun K hK => ?_)
            refine goes_ Try.func27 (by kernel_rfl) rfl #[.agg #[.int .i64 t190, .int .i64 t191], .agg #[.int .i64 t192, .int .i64 t193], .agg #[.int .i64 t194, .int .i64 t195], .agg #[.int .i64 t196, .int .i64 t197]] (by rfl) rfl rfl (by (try simp only [List.map_toArray, List.map_cons, List.map_nil]); first | done | rfl | (simp only [List.length_drop, List.length_take]; rfl)) ?_
            with_reducible refine (impl_CrossPoint.calls k t190 t191 t192 t193 t194 t195 t196 t197 t198 t199 t200 _ A14.out).mono ?_
            rintro e w40 ⟨rfl, hb⟩
            refine ⟨_, rfl, ?_⟩
            have n0_ := kb BK174 hb
            have n1_ := kb BK175 hb
            have n2_ := kb BK176 hb
            have n3_ := kb BK177 hb
            have n4_ := kb BK189 hb
            have n5_ := kb BK201 hb
            have n6_ := sb hb
            clear BK174
            clear BK175
            clear BK176
            clear BK177
            clear BK189
            clear BK201
            clear HB
            have BK174 := n0_
            have BK175 := n1_
            have BK176 := n2_
            have BK177 := n3_
            have BK189 := n4_
            have BK201 := n5_
            have HB := n6_
            clear n0_ n1_ n2_ n3_ n4_ n5_ n6_
            (try clear hb)
            (try clear hb2)
            (try clear hk)
            (try clear hi)
            refine hK.out _ _ ⟨(blk_cell BK174.out 0).trans rfl, (blk_cell BK174.out 1).trans rfl, (blk_cell BK175.out 0).trans rfl, (blk_cell BK175.out 1).trans rfl, (blk_cell BK176.out 0).trans rfl, (blk_cell BK176.out 1).trans rfl, (blk_cell BK177.out 0).trans rfl, (blk_cell BK177.out 1).trans rfl⟩ (fun hHeld => ?_)
            clear hK K
            refine norm_ (a' := ?_) ?_ ?_
            rotate_left
            · show Act.put _ (some 34) _ = _
              simp only [Act.put, List.setIfInBounds_toArray, List.set_cons_zero, List.set_cons_succ, i64_w, i32_w]
              rfl
            refine pure_ (i := 9) (N := some 25) (v := ?_) (a' := ?_) #[true, true, true, true, true, true, true, true, true, true, false, false, true, false, false] rfl rfl (any_of HT_.out (by kernel_rfl)) (fun _ _ _ h => h) (Or.inl ⟨by rfl, ?_⟩) ?_ ?_
            rotate_left
            · intro w'
              go_simp
              with_reducible rfl
            rotate_left
            · exact pa
            refine pure_ (i := 10) (N := some 35) (v := ?_) (a' := ?_) #[true, true, true, true, true, true, true, true, true, true, true, false, true, false, false] rfl rfl (any_of HT_.out (by kernel_rfl)) (fun _ _ _ h => h) (Or.inl ⟨by rfl, ?_⟩) ?_ ?_
            rotate_left
            · intro w'
              go_simp
              with_reducible rfl
            rotate_left
            · exact pa
            refine pure_ (i := 11) (N := some 36) (v := ?_) (a' := ?_) #[true, true, true, true, true, true, true, true, true, true, true, true, true, false, false] rfl rfl (any_of HT_.out (by kernel_rfl)) (fun _ _ _ h => h) (Or.inl ⟨by rfl, ?_⟩) ?_ ?_
            rotate_left
            · intro w'
              go_simp
              with_reducible rfl
            rotate_left
            · exact pa
            exact norm_ (by first | (simp only [putAll, Act.put, List.setIfInBounds_toArray, List.set_cons_zero, List.set_cons_succ]; done) | (simp only [putAll, Act.put, List.setIfInBounds_toArray, List.set_cons_zero, List.set_cons_succ]; rfl)) (hJ1_3_5_7_8_12 (gb201) _ ⟨hHeld, (bk BK174), (bk BK175), (bk BK176), (bk BK177), (bk BK189), (bk BK201), GW201.out, GE201.out, NB174_201.out, NB201_174.out, NB175_201.out, NB201_175.out, NB176_201.out, NB201_176.out, NB177_201.out, NB201_177.out, NB189_201.out, NB201_189.out, ib⟩)
        · skip
          rintro _ w39 ⟨hS_, h0_, h1_, h2_, h3_, h4_, h5_⟩
          have n0_ : Aside0 (w39.heap[gb174]? = some (.cells #[.int .i64 a0_0, .int .i64 a0_1] 23 (0, 0))) := ⟨h0_⟩
          have n1_ : Aside0 (w39.heap[gb175]? = some (.cells #[.int .i64 a1_0, .int .i64 a1_1] 23 (0, 0))) := ⟨h1_⟩
          have n2_ : Aside0 (w39.heap[gb176]? = some (.cells #[.int .i64 a2_0, .int .i64 a2_1] 23 (0, 0))) := ⟨h2_⟩
          have n3_ : Aside0 (w39.heap[gb177]? = some (.cells #[.int .i64 a3_0, .int .i64 a3_1] 23 (0, 0))) := ⟨h3_⟩
          have n4_ : Aside0 (w39.heap[gb189]? = some (.cells #[.int .i64 t186, .int .i64 t187] 25 (0, 0))) := ⟨h4_⟩
          have n5_ : Aside0 (Below w.heap.size w w39) := ⟨h5_⟩
          clear BK174
          clear BK175
          clear BK176
          clear BK177
          clear BK189
          clear HB
          clear h0_ h1_ h2_ h3_ h4_ h5_
          have BK174 := n0_
          have BK175 := n1_
          have BK176 := n2_
          have BK177 := n3_
          have BK189 := n4_
          have HB := n5_
          clear n0_ n1_ n2_ n3_ n4_ n5_
          have hHeld : w39.cell? ⟨gb174, 0, none⟩ = some (.int .i64 a0_0) ∧ w39.cell? ⟨gb174, 1, none⟩ = some (.int .i64 a0_1) ∧ w39.cell? ⟨gb175, 0, none⟩ = some (.int .i64 a1_0) ∧ w39.cell? ⟨gb175, 1, none⟩ = some (.int .i64 a1_1) ∧ w39.cell? ⟨gb176, 0, none⟩ = some (.int .i64 a2_0) ∧ w39.cell? ⟨gb176, 1, none⟩ = some (.int .i64 a2_1) ∧ w39.cell? ⟨gb177, 0, none⟩ = some (.int .i64 a3_0) ∧ w39.cell? ⟨gb177, 1, none⟩ = some (.int .i64 a3_1) := hS_
          refine norm_ (a' := ?_) ?_ ?_
          rotate_left
          · simp only [putAll, Act.put, List.setIfInBounds_toArray, List.set_cons_zero, List.set_cons_succ]
            rfl
          refine one_ (i := 12) (N := some 11) #[true, true, true, true, true, true, true, true, true, true, true, true, true, false, false] rfl rfl (one_of HT_.out (by kernel_rfl)) (by decide) (fun K hK => ?_)
          refine box_step ?hg (N := 11) ?hd (cs := #[.int .i64 0, .int .i64 0]) (t := 25) ?hr ?_; (case hd => rfl); (case hg => rfl); (case hr => first | (go_simp; done) | (go_simp; rfl))
          intro gb201 hg w40 hbox hb
          have n0_ := kb BK174 hb
          have n1_ := kb BK175 hb
          have n2_ := kb BK176 hb
          have n3_ := kb BK177 hb
          have n4_ := kb BK189 hb
          have n5_ := sb hb
          have n6_ := Aside0.mk (hbox)
          have n7_ := zb hg
          have n8_ := zb hg
          have n9_ := nl BK174 hg
          have n10_ := ng BK174 hg
          have n11_ := nl BK175 hg
          have n12_ := ng BK175 hg
          have n13_ := nl BK176 hg
          have n14_ := ng BK176 hg
          have n15_ := nl BK177 hg
          have n16_ := ng BK177 hg
          have n17_ := nl BK189 hg
          have n18_ := ng BK189 hg
          clear BK174
          clear BK175
          clear BK176
          clear BK177
          clear BK189
          clear HB
          have BK174 := n0_
          have BK175 := n1_
          have BK176 := n2_
          have BK177 := n3_
          have BK189 := n4_
          have HB := n5_
          have BK201 := n6_
          have GW201 := n7_
          have GE201 := n8_
          have NB174_201 := n9_
          have NB201_174 := n10_
          have NB175_201 := n11_
          have NB201_175 := n12_
          have NB176_201 := n13_
          have NB201_176 := n14_
          have NB177_201 := n15_
          have NB201_177 := n16_
          have NB189_201 := n17_
          have NB201_189 := n18_
          clear n0_ n1_ n2_ n3_ n4_ n5_ n6_ n7_ n8_ n9_ n10_ n11_ n12_ n13_ n14_ n15_ n16_ n17_ n18_
          clear hb hbox hg
          refine hK.out _ _ ⟨(blk_cell BK174.out 0).trans rfl, (blk_cell BK174.out 1).trans rfl, (blk_cell BK175.out 0).trans rfl, (blk_cell BK175.out 1).trans rfl, (blk_cell BK176.out 0).trans rfl, (blk_cell BK176.out 1).trans rfl, (blk_cell BK177.out 0).trans rfl, (blk_cell BK177.out 1).trans rfl⟩ (fun hHeld => ?_)
          clear hK K
          refine norm_ (a' := ?_) ?_ ?_
          rotate_left
          · show Act.put _ (some 11) _ = _
            simp only [Act.put, List.setIfInBounds_toArray, List.set_cons_zero, List.set_cons_succ, i64_w, i32_w]
            rfl
          exact norm_ (by first | (simp only [putAll, Act.put, List.setIfInBounds_toArray, List.set_cons_zero, List.set_cons_succ]; done) | (simp only [putAll, Act.put, List.setIfInBounds_toArray, List.set_cons_zero, List.set_cons_succ]; rfl)) (hJ1_3_5_7_8_12 (gb201) _ ⟨hHeld, (bk BK174), (bk BK175), (bk BK176), (bk BK177), (bk BK189), (bk BK201), GW201.out, GE201.out, NB174_201.out, NB201_174.out, NB175_201.out, NB201_175.out, NB176_201.out, NB201_176.out, NB177_201.out, NB201_177.out, NB189_201.out, NB201_189.out, ib⟩)
      rintro gb201 w40 ⟨hS_, h0_, h1_, h2_, h3_, h4_, h5_, h6_, h7_, h8_, h9_, h10_, h11_, h12_, h13_, h14_, h15_, h16_, h17_, h18_⟩
      have n0_ : Aside0 (w40.heap[gb174]? = some (.cells #[.int .i64 a0_0, .int .i64 a0_1] 23 (0, 0))) := ⟨h0_⟩
      have n1_ : Aside0 (w40.heap[gb175]? = some (.cells #[.int .i64 a1_0, .int .i64 a1_1] 23 (0, 0))) := ⟨h1_⟩
      have n2_ : Aside0 (w40.heap[gb176]? = some (.cells #[.int .i64 a2_0, .int .i64 a2_1] 23 (0, 0))) := ⟨h2_⟩
      have n3_ : Aside0 (w40.heap[gb177]? = some (.cells #[.int .i64 a3_0, .int .i64 a3_1] 23 (0, 0))) := ⟨h3_⟩
      have n4_ : Aside0 (w40.heap[gb189]? = some (.cells #[.int .i64 t186, .int .i64 t187] 25 (0, 0))) := ⟨h4_⟩
      have n5_ : Aside0 (w40.heap[gb201]? = some (.cells #[.int .i64 0, .int .i64 0] 25 (0, 0))) := ⟨h5_⟩
      have n6_ : Aside0 (w.heap.size ≤ gb201) := ⟨h6_⟩
      have n7_ : Aside0 (w.heap.size ≤ gb201) := ⟨h7_⟩
      have n8_ : Aside0 (gb174 ≠ gb201) := ⟨h8_⟩
      have n9_ : Aside0 (gb201 ≠ gb174) := ⟨h9_⟩
      have n10_ : Aside0 (gb175 ≠ gb201) := ⟨h10_⟩
      have n11_ : Aside0 (gb201 ≠ gb175) := ⟨h11_⟩
      have n12_ : Aside0 (gb176 ≠ gb201) := ⟨h12_⟩
      have n13_ : Aside0 (gb201 ≠ gb176) := ⟨h13_⟩
      have n14_ : Aside0 (gb177 ≠ gb201) := ⟨h14_⟩
      have n15_ : Aside0 (gb201 ≠ gb177) := ⟨h15_⟩
      have n16_ : Aside0 (gb189 ≠ gb201) := ⟨h16_⟩
      have n17_ : Aside0 (gb201 ≠ gb189) := ⟨h17_⟩
      have n18_ : Aside0 (Below w.heap.size w w40) := ⟨h18_⟩
      clear BK174
      clear BK175
      clear BK176
      clear BK177
      clear BK189
      clear HB
      clear h0_ h1_ h2_ h3_ h4_ h5_ h6_ h7_ h8_ h9_ h10_ h11_ h12_ h13_ h14_ h15_ h16_ h17_ h18_
      have BK174 := n0_
      have BK175 := n1_
      have BK176 := n2_
      have BK177 := n3_
      have BK189 := n4_
      have BK201 := n5_
      have GW201 := n6_
      have GE201 := n7_
      have NB174_201 := n8_
      have NB201_174 := n9_
      have NB175_201 := n10_
      have NB201_175 := n11_
      have NB176_201 := n12_
      have NB201_176 := n13_
      have NB177_201 := n14_
      have NB201_177 := n15_
      have NB189_201 := n16_
      have NB201_189 := n17_
      have HB := n18_
      clear n0_ n1_ n2_ n3_ n4_ n5_ n6_ n7_ n8_ n9_ n10_ n11_ n12_ n13_ n14_ n15_ n16_ n17_ n18_
      have hHeld : w40.cell? ⟨gb174, 0, none⟩ = some (.int .i64 a0_0) ∧ w40.cell? ⟨gb174, 1, none⟩ = some (.int .i64 a0_1) ∧ w40.cell? ⟨gb175, 0, none⟩ = some (.int .i64 a1_0) ∧ w40.cell? ⟨gb175, 1, none⟩ = some (.int .i64 a1_1) ∧ w40.cell? ⟨gb176, 0, none⟩ = some (.int .i64 a2_0) ∧ w40.cell? ⟨gb176, 1, none⟩ = some (.int .i64 a2_1) ∧ w40.cell? ⟨gb177, 0, none⟩ = some (.int .i64 a3_0) ∧ w40.cell? ⟨gb177, 1, none⟩ = some (.int .i64 a3_1) := hS_
      refine norm_ (a' := ?_) ?_ ?_
      rotate_left
      · simp only [putAll, Act.put, List.setIfInBounds_toArray, List.set_cons_zero, List.set_cons_succ]
        rfl
      refine one_ (i := 13) (N := none) #[true, true, true, true, true, true, true, true, true, true, true, true, true, true, false] rfl rfl (one_of HT_.out (by kernel_rfl)) (by decide) (fun K hK => ?_)
      have hs41 : w40.cell? ⟨gb201, 0, none⟩ = some (.int .i64 0) := (blk_cell BK201.out 0).trans rfl
      have hfs41 := blk_frozen BK201.out 0
      have hns41_0 := NB174_201.out
      have hns41_1 := NB175_201.out
      have hns41_2 := NB176_201.out
      have hns41_3 := NB177_201.out
      have hns41_4 := NB189_201.out
      have hms41_0 := NB201_174.out
      have hms41_1 := NB201_175.out
      have hms41_2 := NB201_176.out
      have hms41_3 := NB201_177.out
      have hms41_4 := NB201_189.out
      have hs42 : w40.cell? ⟨gb201, 1, none⟩ = some (.int .i64 0) := (blk_cell BK201.out 1).trans rfl
      have hfs42 := blk_frozen BK201.out 1
      have hns42_0 := NB174_201.out
      have hns42_1 := NB175_201.out
      have hns42_2 := NB176_201.out
      have hns42_3 := NB177_201.out
      have hns42_4 := NB189_201.out
      have hms42_0 := NB201_174.out
      have hms42_1 := NB201_175.out
      have hms42_2 := NB201_176.out
      have hms42_3 := NB201_177.out
      have hms42_4 := NB201_189.out
      refine skip_ (w1 := ?_) (by rfl) rfl ?_ ?_
      rotate_left
      · go_simp
        rfl
      refine hK.out _ _ ⟨((cell_far (p := ⟨gb201, _, none⟩) NB174_201.out _).trans (((cell_far (p := ⟨gb201, _, none⟩) NB174_201.out _).trans (hHeld.1)))), ((cell_far (p := ⟨gb201, _, none⟩) NB174_201.out _).trans (((cell_far (p := ⟨gb201, _, none⟩) NB174_201.out _).trans (hHeld.2.1)))), ((cell_far (p := ⟨gb201, _, none⟩) NB175_201.out _).trans (((cell_far (p := ⟨gb201, _, none⟩) NB175_201.out _).trans (hHeld.2.2.1)))), ((cell_far (p := ⟨gb201, _, none⟩) NB175_201.out _).trans (((cell_far (p := ⟨gb201, _, none⟩) NB175_201.out _).trans (hHeld.2.2.2.1)))), ((cell_far (p := ⟨gb201, _, none⟩) NB176_201.out _).trans (((cell_far (p := ⟨gb201, _, none⟩) NB176_201.out _).trans (hHeld.2.2.2.2.1)))), ((cell_far (p := ⟨gb201, _, none⟩) NB176_201.out _).trans (((cell_far (p := ⟨gb201, _, none⟩) NB176_201.out _).trans (hHeld.2.2.2.2.2.1)))), ((cell_far (p := ⟨gb201, _, none⟩) NB177_201.out _).trans (((cell_far (p := ⟨gb201, _, none⟩) NB177_201.out _).trans (hHeld.2.2.2.2.2.2.1)))), ((cell_far (p := ⟨gb201, _, none⟩) NB177_201.out _).trans (((cell_far (p := ⟨gb201, _, none⟩) NB177_201.out _).trans (hHeld.2.2.2.2.2.2.2))))⟩ (fun hHeld => ?_)
      clear hK K
      refine pure_ (i := 14) (N := some 12) (v := ?_) (a' := ?_) #[true, true, true, true, true, true, true, true, true, true, true, true, true, true, true] rfl rfl (any_of HT_.out (by kernel_rfl)) (fun _ _ _ h => h) (Or.inl ⟨by rfl, ?_⟩) ?_ ?_
      rotate_left
      · intro w'
        go_simp
        with_reducible rfl
      rotate_left
      · exact pa
      refine done_ (done_of HT_.out (by kernel_rfl)) ?_
      have hnb43 := NB201_174.out
      have hnc43 := NB174_201.out
      have hnb44 := NB201_175.out
      have hnc44 := NB175_201.out
      have hnb45 := NB201_176.out
      have hnc45 := NB176_201.out
      have hnb46 := NB201_177.out
      have hnc46 := NB177_201.out
      have hnb47 := NB201_189.out
      have hnc47 := NB189_201.out
      have hcz48_0 := ck BK201 0
      have hcz48_1 := ck BK201 1
      have hfz48_0 := blk_frozen BK201.out 0
      have hfz48_1 := blk_frozen BK201.out 1
      have hnb49 := NB189_174.out
      have hnc49 := NB174_189.out
      have hnb50 := NB189_175.out
      have hnc50 := NB175_189.out
      have hnb51 := NB189_176.out
      have hnc51 := NB176_189.out
      have hnb52 := NB189_177.out
      have hnc52 := NB177_189.out
      have hcz53_0 := ck BK189 0
      have hcz53_1 := ck BK189 1
      have hfz53_0 := blk_frozen BK189.out 0
      have hfz53_1 := blk_frozen BK189.out 1
      try go_wp2_with (first | ((with_reducible refine gate_callee (f := 28) rfl ?_); refine goesL_ (some 39) rfl rfl Try.func28 (by kernel_rfl) rfl #[.agg #[.int .i64 t198, .int .i64 t199], .agg #[.int .i64 t186, .int .i64 t187]] rfl (by (try simp only [List.map_toArray, List.map_cons, List.map_nil]); first | done | rfl | (simp only [List.length_drop, List.length_take]; rfl)) ?_; (with_reducible refine (laws_eqPoint.calls t198 t199 t186 t187 true _ A15.out).mono ?_); rintro e w54 ⟨rfl, hb⟩; refine ⟨_, rfl, ?_⟩; have n0_ := Aside0.mk (blk_below (g := gb174) (o := .cells #[.int .i64 a0_0, .int .i64 a0_1] 23 (0, 0)) (by (with_reducible repeat (first | refine blk_drewN ?_ _ | refine blk_drew ?_ | refine blk_alloc ?_ _)); refine blk_far ?_ NB174_201.out _; (with_reducible repeat (first | refine blk_drewN ?_ _ | refine blk_drew ?_ | refine blk_alloc ?_ _)); refine blk_far ?_ NB174_201.out _; (with_reducible repeat (first | refine blk_drewN ?_ _ | refine blk_drew ?_ | refine blk_alloc ?_ _)); exact BK174.out) hb); have n1_ := Aside0.mk (blk_below (g := gb175) (o := .cells #[.int .i64 a1_0, .int .i64 a1_1] 23 (0, 0)) (by (with_reducible repeat (first | refine blk_drewN ?_ _ | refine blk_drew ?_ | refine blk_alloc ?_ _)); refine blk_far ?_ NB175_201.out _; (with_reducible repeat (first | refine blk_drewN ?_ _ | refine blk_drew ?_ | refine blk_alloc ?_ _)); refine blk_far ?_ NB175_201.out _; (with_reducible repeat (first | refine blk_drewN ?_ _ | refine blk_drew ?_ | refine blk_alloc ?_ _)); exact BK175.out) hb); have n2_ := Aside0.mk (blk_below (g := gb176) (o := .cells #[.int .i64 a2_0, .int .i64 a2_1] 23 (0, 0)) (by (with_reducible repeat (first | refine blk_drewN ?_ _ | refine blk_drew ?_ | refine blk_alloc ?_ _)); refine blk_far ?_ NB176_201.out _; (with_reducible repeat (first | refine blk_drewN ?_ _ | refine blk_drew ?_ | refine blk_alloc ?_ _)); refine blk_far ?_ NB176_201.out _; (with_reducible repeat (first | refine blk_drewN ?_ _ | refine blk_drew ?_ | refine blk_alloc ?_ _)); exact BK176.out) hb); have n3_ := Aside0.mk (blk_below (g := gb177) (o := .cells #[.int .i64 a3_0, .int .i64 a3_1] 23 (0, 0)) (by (with_reducible repeat (first | refine blk_drewN ?_ _ | refine blk_drew ?_ | refine blk_alloc ?_ _)); refine blk_far ?_ NB177_201.out _; (with_reducible repeat (first | refine blk_drewN ?_ _ | refine blk_drew ?_ | refine blk_alloc ?_ _)); refine blk_far ?_ NB177_201.out _; (with_reducible repeat (first | refine blk_drewN ?_ _ | refine blk_drew ?_ | refine blk_alloc ?_ _)); exact BK177.out) hb); have n4_ := Aside0.mk (blk_below (g := gb189) (o := .cells #[.int .i64 t186, .int .i64 t187] 25 (0, 0)) (by (with_reducible repeat (first | refine blk_drewN ?_ _ | refine blk_drew ?_ | refine blk_alloc ?_ _)); refine blk_far ?_ NB189_201.out _; (with_reducible repeat (first | refine blk_drewN ?_ _ | refine blk_drew ?_ | refine blk_alloc ?_ _)); refine blk_far ?_ NB189_201.out _; (with_reducible repeat (first | refine blk_drewN ?_ _ | refine blk_drew ?_ | refine blk_alloc ?_ _)); exact BK189.out) hb); have n5_ := Aside0.mk (blk_below (g := gb201) (o := .cells #[.int .i64 t198, .int .i64 t199] 25 (0, 0)) (by (with_reducible repeat (first | refine blk_drewN ?_ _ | refine blk_drew ?_ | refine blk_alloc ?_ _)); refine blk_put (cs := #[.int .i64 t198, .int .i64 0]) ?_ 1 _ rfl; (with_reducible repeat (first | refine blk_drewN ?_ _ | refine blk_drew ?_ | refine blk_alloc ?_ _)); refine blk_put (cs := #[.int .i64 0, .int .i64 0]) ?_ 0 _ rfl; (with_reducible repeat (first | refine blk_drewN ?_ _ | refine blk_drew ?_ | refine blk_alloc ?_ _)); exact BK201.out) hb); have n6_ := sb hb; clear BK174; clear BK175; clear BK176; clear BK177; clear BK189; clear BK201; clear HB; have BK174 := n0_; have BK175 := n1_; have BK176 := n2_; have BK177 := n3_; have BK189 := n4_; have BK201 := n5_; have HB := n6_; clear n0_ n1_ n2_ n3_ n4_ n5_ n6_; (try clear hb); (try clear hb2); (try clear hk); (try clear hi)))
      go_ret
      exact ⟨by first | rfl | (simp [errW_none, errW_some] <;> rfl) | (simp [*, errW_none, errW_some] <;> rfl), by repeat (first | (with_reducible first | exact HB.out | apply below_alloc | apply pw_below_drewN | apply below_drew1 | refine below_set ?_ GE174.out | refine below_set ?_ GE175.out | refine below_set ?_ GE176.out | refine below_set ?_ GE177.out | refine below_set ?_ GE189.out | refine below_set ?_ GE201.out) | exact HB.out)⟩
    · rw [if_neg c17] at H
      have c17b0 : (t200 == t188) = false := beq_eq_false_iff_ne.mpr c17
      have c17b1 : (t200 != t188) = true := bne_iff_ne.mpr c17
      cases H
  · replace c16 := Bool.eq_false_iff.mpr c16
    subst c16
    have H1 : (some false) = some true := by rw [if_neg (show ¬ (false = true) by decide)] at H; exact H
    clear H
    have H := H1
    clear H1
    cases H
end Go.Proofs.Ytolccaaoimjbdaa.PFnExactCrossPoint
