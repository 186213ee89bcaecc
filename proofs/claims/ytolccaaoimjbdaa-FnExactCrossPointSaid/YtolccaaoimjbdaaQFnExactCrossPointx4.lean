/- Contracts of functions that FnExactCrossPoint reaches, out of the lines of the kit's print. -/
import Derived.Test.YtolccaaoimjbdaaQFnExactCrossPointx0
import Derived.Test.YtolccaaoimjbdaaQFnExactCrossPointx2
import Derived.Test.YtolccaaoimjbdaaQFnExactCrossPointx3
namespace Go.Proofs.Ytolccaaoimjbdaa.PFnExactCrossPoint
open Go.RowKit Go.Proofs.YtolccaaoimjbdaaW.PrintWords Go.Proofs.YtolccaaoimjbdaaW.PrintLast Go.Proofs.YtolccaaoimjbdaaW.PrintMore
attribute [local go_sem] max2_int min2_int max_two min_two max_three min_three max_four min_four
set_option linter.unusedVariables false
set_option linter.unusedSimpArgs false
def impl_CrossPoint.f (k : Nat) (a0_0 : Int) (a0_1 : Int) (a1_0 : Int) (a1_1 : Int) (a2_0 : Int) (a2_1 : Int) (a3_0 : Int) (a3_1 : Int) : Option (Int × Int × Int) := (impl_validPoints.f k (([(⟨a0_0, a0_1⟩ : S25), (⟨a1_0, a1_1⟩ : S25), (⟨a2_0, a2_1⟩ : S25), (⟨a3_0, a3_1⟩ : S25)] : List (S25)))).bind fun t166 => (if t166 = true then ((impl_crossing.f a0_0 a0_1 a1_0 a1_1 a2_0 a2_1 a3_0 a3_1).bind fun t167 => (if t167 = true then (if (wrap64 ((wrap64 ((wrap64 (a1_0 - a0_0)) * (wrap64 (a3_1 - a2_1)))) - (wrap64 ((wrap64 (a1_1 - a0_1)) * (wrap64 (a3_0 - a2_0)))))) < 0 then ((impl_floorDiv.f (wrap64 ((wrap64 ((wrap64 (2 * (wrap64 (a1_0 - a0_0)))) * (wrap64 (-(wrap64 ((wrap64 ((wrap64 (a2_0 - a0_0)) * (wrap64 (a3_1 - a2_1)))) - (wrap64 ((wrap64 (a2_1 - a0_1)) * (wrap64 (a3_0 - a2_0)))))))))) + (wrap64 (-(wrap64 ((wrap64 ((wrap64 (a1_0 - a0_0)) * (wrap64 (a3_1 - a2_1)))) - (wrap64 ((wrap64 (a1_1 - a0_1)) * (wrap64 (a3_0 - a2_0)))))))))) (wrap64 (2 * (wrap64 (-(wrap64 ((wrap64 ((wrap64 (a1_0 - a0_0)) * (wrap64 (a3_1 - a2_1)))) - (wrap64 ((wrap64 (a1_1 - a0_1)) * (wrap64 (a3_0 - a2_0))))))))))).bind fun t168 => ((impl_floorDiv.f (wrap64 ((wrap64 ((wrap64 (2 * (wrap64 (a1_1 - a0_1)))) * (wrap64 (-(wrap64 ((wrap64 ((wrap64 (a2_0 - a0_0)) * (wrap64 (a3_1 - a2_1)))) - (wrap64 ((wrap64 (a2_1 - a0_1)) * (wrap64 (a3_0 - a2_0)))))))))) + (wrap64 (-(wrap64 ((wrap64 ((wrap64 (a1_0 - a0_0)) * (wrap64 (a3_1 - a2_1)))) - (wrap64 ((wrap64 (a1_1 - a0_1)) * (wrap64 (a3_0 - a2_0)))))))))) (wrap64 (2 * (wrap64 (-(wrap64 ((wrap64 ((wrap64 (a1_0 - a0_0)) * (wrap64 (a3_1 - a2_1)))) - (wrap64 ((wrap64 (a1_1 - a0_1)) * (wrap64 (a3_0 - a2_0))))))))))).bind fun t169 => (some (wrap64 (a0_0 + t168), wrap64 (a0_1 + t169), 0)))) else ((impl_floorDiv.f (wrap64 ((wrap64 ((wrap64 (2 * (wrap64 (a1_0 - a0_0)))) * (wrap64 ((wrap64 ((wrap64 (a2_0 - a0_0)) * (wrap64 (a3_1 - a2_1)))) - (wrap64 ((wrap64 (a2_1 - a0_1)) * (wrap64 (a3_0 - a2_0)))))))) + (wrap64 ((wrap64 ((wrap64 (a1_0 - a0_0)) * (wrap64 (a3_1 - a2_1)))) - (wrap64 ((wrap64 (a1_1 - a0_1)) * (wrap64 (a3_0 - a2_0)))))))) (wrap64 (2 * (wrap64 ((wrap64 ((wrap64 (a1_0 - a0_0)) * (wrap64 (a3_1 - a2_1)))) - (wrap64 ((wrap64 (a1_1 - a0_1)) * (wrap64 (a3_0 - a2_0))))))))).bind fun t170 => ((impl_floorDiv.f (wrap64 ((wrap64 ((wrap64 (2 * (wrap64 (a1_1 - a0_1)))) * (wrap64 ((wrap64 ((wrap64 (a2_0 - a0_0)) * (wrap64 (a3_1 - a2_1)))) - (wrap64 ((wrap64 (a2_1 - a0_1)) * (wrap64 (a3_0 - a2_0)))))))) + (wrap64 ((wrap64 ((wrap64 (a1_0 - a0_0)) * (wrap64 (a3_1 - a2_1)))) - (wrap64 ((wrap64 (a1_1 - a0_1)) * (wrap64 (a3_0 - a2_0)))))))) (wrap64 (2 * (wrap64 ((wrap64 ((wrap64 (a1_0 - a0_0)) * (wrap64 (a3_1 - a2_1)))) - (wrap64 ((wrap64 (a1_1 - a0_1)) * (wrap64 (a3_0 - a2_0))))))))).bind fun t171 => (some (wrap64 (a0_0 + t170), wrap64 (a0_1 + t171), 0))))) else (some (0, 0, 6)))) else (some (0, 0, 1)))
theorem impl_CrossPoint.mono : ∀ a0 a1 a2 a3 a4 a5 a6 a7 k, LeO (impl_CrossPoint.f k a0 a1 a2 a3 a4 a5 a6 a7) (impl_CrossPoint.f (k + 1) a0 a1 a2 a3 a4 a5 a6 a7) := by
  intro a0 a1 a2 a3 a4 a5 a6 a7 k
  unfold impl_CrossPoint.f
  repeat' first
      | (with_reducible exact impl_validPoints.mono _ _)
      | (with_reducible exact LeO.refl _)
      | (with_reducible exact LeO.none _)
      | (with_reducible refine LeO.ite ?_ ?_)
      | (with_reducible refine LeO.bind ?_ (fun _ => ?_))
      | exact impl_validPoints.mono _ _
      | exact LeO.none _
      | refine LeO.ite ?_ ?_
      | refine LeO.bind ?_ (fun _ => ?_)
def impl_CrossPoint.T9 : Bool × List (List Nat × List Nat) := (true, [([], []), ([0], [0]), ([], []), ([2], [2]), ([], []), ([4], [4]), ([3, 5], [3, 5]), ([6], [6]), ([], []), ([7, 8], [7, 8]), ([], []), ([9, 10], [9, 10]), ([], []), ([12], [12]), ([11, 13], [11, 13]), ([1, 14], [1, 14]), ([], []), ([16], [16]), ([], []), ([18], [18]), ([], []), ([20], [20]), ([19, 21], [19, 21]), ([22], [22]), ([], []), ([23, 24], [23, 24]), ([], []), ([25, 26], [25, 26]), ([], []), ([28], [28]), ([27, 29, 14], [27, 29]), ([17, 30], [17, 30]), ([15, 31], [15, 31]), ([32, 30, 0, 1, 2, 3, 4, 5, 6, 7, 8, 9, 10, 11, 12, 13, 14, 15, 16, 17, 18, 19, 20, 21, 22, 23, 24, 25, 26, 27, 28, 29, 30, 31, 32], [32]), ([33, 0, 1, 2, 3, 4, 5, 6, 7, 8, 9, 10, 11, 12, 13, 14, 15, 16, 17, 18, 19, 20, 21, 22, 23, 24, 25, 26, 27, 28, 29, 30, 31, 32, 33], [])])
def impl_CrossPoint.B9 : List Nat := [0, 1, 0, 4, 0, 16, 60, 124, 0, 508, 0, 2044, 0, 4096, 16380, 32767, 0, 65536, 0, 262144, 0, 1048576, 3932160, 8126464, 0, 33292288, 0, 133955584, 0, 268435456, 1073512444, 2147450876, 4294967295, 8589934591, 17179869183]
theorem impl_CrossPoint.tab9 : rtab .any (opsOf Try.f27 9) = impl_CrossPoint.T9 := by kernel_rfl
theorem impl_CrossPoint.bits9 : waitsOk impl_CrossPoint.T9.2 impl_CrossPoint.B9 = true := by kernel_rfl
set_option maxHeartbeats 8000000 in
set_option maxRecDepth 100000 in
theorem impl_CrossPoint.calls (k : Nat) (a0_0 : Int) (a0_1 : Int) (a1_0 : Int) (a1_1 : Int) (a2_0 : Int) (a2_1 : Int) (a3_0 : Int) (a3_1 : Int) (r1 : Int) (r2 : Int) (r3 : Int) (w : World) (h : impl_CrossPoint.f k a0_0 a0_1 a1_0 a1_1 a2_0 a2_1 a3_0 a3_1 = some (r1, r2, r3)) :
    Calls Try.prog 27 #[.agg #[.int .i64 a0_0, .int .i64 a0_1], .agg #[.int .i64 a1_0, .int .i64 a1_1], .agg #[.int .i64 a2_0, .int .i64 a2_1], .agg #[.int .i64 a3_0, .int .i64 a3_1]] w fun e w' => e = .returned (.tuple #[.agg #[.int .i64 r1, .int .i64 r2], .int .i64 r3]) ∧ Below w.heap.size w w' := by
  have hu25 := Try.underlying25
  have HB := Aside0.mk (Below.refl w.heap.size w)
  have H : ((impl_validPoints.f k (([(⟨a0_0, a0_1⟩ : S25), (⟨a1_0, a1_1⟩ : S25), (⟨a2_0, a2_1⟩ : S25), (⟨a3_0, a3_1⟩ : S25)] : List (S25)))).bind fun t166 => (if t166 = true then ((impl_crossing.f a0_0 a0_1 a1_0 a1_1 a2_0 a2_1 a3_0 a3_1).bind fun t167 => (if t167 = true then (if (wrap64 ((wrap64 ((wrap64 (a1_0 - a0_0)) * (wrap64 (a3_1 - a2_1)))) - (wrap64 ((wrap64 (a1_1 - a0_1)) * (wrap64 (a3_0 - a2_0)))))) < 0 then ((impl_floorDiv.f (wrap64 ((wrap64 ((wrap64 (2 * (wrap64 (a1_0 - a0_0)))) * (wrap64 (-(wrap64 ((wrap64 ((wrap64 (a2_0 - a0_0)) * (wrap64 (a3_1 - a2_1)))) - (wrap64 ((wrap64 (a2_1 - a0_1)) * (wrap64 (a3_0 - a2_0)))))))))) + (wrap64 (-(wrap64 ((wrap64 ((wrap64 (a1_0 - a0_0)) * (wrap64 (a3_1 - a2_1)))) - (wrap64 ((wrap64 (a1_1 - a0_1)) * (wrap64 (a3_0 - a2_0)))))))))) (wrap64 (2 * (wrap64 (-(wrap64 ((wrap64 ((wrap64 (a1_0 - a0_0)) * (wrap64 (a3_1 - a2_1)))) - (wrap64 ((wrap64 (a1_1 - a0_1)) * (wrap64 (a3_0 - a2_0))))))))))).bind fun t168 => ((impl_floorDiv.f (wrap64 ((wrap64 ((wrap64 (2 * (wrap64 (a1_1 - a0_1)))) * (wrap64 (-(wrap64 ((wrap64 ((wrap64 (a2_0 - a0_0)) * (wrap64 (a3_1 - a2_1)))) - (wrap64 ((wrap64 (a2_1 - a0_1)) * (wrap64 (a3_0 - a2_0)))))))))) + (wrap64 (-(wrap64 ((wrap64 ((wrap64 (a1_0 - a0_0)) * (wrap64 (a3_1 - a2_1)))) - (wrap64 ((wrap64 (a1_1 - a0_1)) * (wrap64 (a3_0 - a2_0)))))))))) (wrap64 (2 * (wrap64 (-(wrap64 ((wrap64 ((wrap64 (a1_0 - a0_0)) * (wrap64 (a3_1 - a2_1)))) - (wrap64 ((wrap64 (a1_1 - a0_1)) * (wrap64 (a3_0 - a2_0))))))))))).bind fun t169 => (some (wrap64 (a0_0 + t168), wrap64 (a0_1 + t169), 0)))) else ((impl_floorDiv.f (wrap64 ((wrap64 ((wrap64 (2 * (wrap64 (a1_0 - a0_0)))) * (wrap64 ((wrap64 ((wrap64 (a2_0 - a0_0)) * (wrap64 (a3_1 - a2_1)))) - (wrap64 ((wrap64 (a2_1 - a0_1)) * (wrap64 (a3_0 - a2_0)))))))) + (wrap64 ((wrap64 ((wrap64 (a1_0 - a0_0)) * (wrap64 (a3_1 - a2_1)))) - (wrap64 ((wrap64 (a1_1 - a0_1)) * (wrap64 (a3_0 - a2_0)))))))) (wrap64 (2 * (wrap64 ((wrap64 ((wrap64 (a1_0 - a0_0)) * (wrap64 (a3_1 - a2_1)))) - (wrap64 ((wrap64 (a1_1 - a0_1)) * (wrap64 (a3_0 - a2_0))))))))).bind fun t170 => ((impl_floorDiv.f (wrap64 ((wrap64 ((wrap64 (2 * (wrap64 (a1_1 - a0_1)))) * (wrap64 ((wrap64 ((wrap64 (a2_0 - a0_0)) * (wrap64 (a3_1 - a2_1)))) - (wrap64 ((wrap64 (a2_1 - a0_1)) * (wrap64 (a3_0 - a2_0)))))))) + (wrap64 ((wrap64 ((wrap64 (a1_0 - a0_0)) * (wrap64 (a3_1 - a2_1)))) - (wrap64 ((wrap64 (a1_1 - a0_1)) * (wrap64 (a3_0 - a2_0)))))))) (wrap64 (2 * (wrap64 ((wrap64 ((wrap64 (a1_0 - a0_0)) * (wrap64 (a3_1 - a2_1)))) - (wrap64 ((wrap64 (a1_1 - a0_1)) * (wrap64 (a3_0 - a2_0))))))))).bind fun t171 => (some (wrap64 (a0_0 + t170), wrap64 (a0_1 + t171), 0))))) else (some (0, 0, 6)))) else (some (0, 0, 1)))) = some (r1, r2, r3) := h
  clear h
  obtain ⟨y163, hy163⟩ : ∃ y_ : List (S25), y_ = (([(⟨a0_0, a0_1⟩ : S25), (⟨a1_0, a1_1⟩ : S25), (⟨a2_0, a2_1⟩ : S25), (⟨a3_0, a3_1⟩ : S25)] : List (S25))) := ⟨_, rfl⟩
  replace H : ((impl_validPoints.f k y163).bind fun t166 => (if t166 = true then ((impl_crossing.f a0_0 a0_1 a1_0 a1_1 a2_0 a2_1 a3_0 a3_1).bind fun t167 => (if t167 = true then (if (wrap64 ((wrap64 ((wrap64 (a1_0 - a0_0)) * (wrap64 (a3_1 - a2_1)))) - (wrap64 ((wrap64 (a1_1 - a0_1)) * (wrap64 (a3_0 - a2_0)))))) < 0 then ((impl_floorDiv.f (wrap64 ((wrap64 ((wrap64 (2 * (wrap64 (a1_0 - a0_0)))) * (wrap64 (-(wrap64 ((wrap64 ((wrap64 (a2_0 - a0_0)) * (wrap64 (a3_1 - a2_1)))) - (wrap64 ((wrap64 (a2_1 - a0_1)) * (wrap64 (a3_0 - a2_0)))))))))) + (wrap64 (-(wrap64 ((wrap64 ((wrap64 (a1_0 - a0_0)) * (wrap64 (a3_1 - a2_1)))) - (wrap64 ((wrap64 (a1_1 - a0_1)) * (wrap64 (a3_0 - a2_0)))))))))) (wrap64 (2 * (wrap64 (-(wrap64 ((wrap64 ((wrap64 (a1_0 - a0_0)) * (wrap64 (a3_1 - a2_1)))) - (wrap64 ((wrap64 (a1_1 - a0_1)) * (wrap64 (a3_0 - a2_0))))))))))).bind fun t168 => ((impl_floorDiv.f (wrap64 ((wrap64 ((wrap64 (2 * (wrap64 (a1_1 - a0_1)))) * (wrap64 (-(wrap64 ((wrap64 ((wrap64 (a2_0 - a0_0)) * (wrap64 (a3_1 - a2_1)))) - (wrap64 ((wrap64 (a2_1 - a0_1)) * (wrap64 (a3_0 - a2_0)))))))))) + (wrap64 (-(wrap64 ((wrap64 ((wrap64 (a1_0 - a0_0)) * (wrap64 (a3_1 - a2_1)))) - (wrap64 ((wrap64 (a1_1 - a0_1)) * (wrap64 (a3_0 - a2_0)))))))))) (wrap64 (2 * (wrap64 (-(wrap64 ((wrap64 ((wrap64 (a1_0 - a0_0)) * (wrap64 (a3_1 - a2_1)))) - (wrap64 ((wrap64 (a1_1 - a0_1)) * (wrap64 (a3_0 - a2_0))))))))))).bind fun t169 => (some (wrap64 (a0_0 + t168), wrap64 (a0_1 + t169), 0)))) else ((impl_floorDiv.f (wrap64 ((wrap64 ((wrap64 (2 * (wrap64 (a1_0 - a0_0)))) * (wrap64 ((wrap64 ((wrap64 (a2_0 - a0_0)) * (wrap64 (a3_1 - a2_1)))) - (wrap64 ((wrap64 (a2_1 - a0_1)) * (wrap64 (a3_0 - a2_0)))))))) + (wrap64 ((wrap64 ((wrap64 (a1_0 - a0_0)) * (wrap64 (a3_1 - a2_1)))) - (wrap64 ((wrap64 (a1_1 - a0_1)) * (wrap64 (a3_0 - a2_0)))))))) (wrap64 (2 * (wrap64 ((wrap64 ((wrap64 (a1_0 - a0_0)) * (wrap64 (a3_1 - a2_1)))) - (wrap64 ((wrap64 (a1_1 - a0_1)) * (wrap64 (a3_0 - a2_0))))))))).bind fun t170 => ((impl_floorDiv.f (wrap64 ((wrap64 ((wrap64 (2 * (wrap64 (a1_1 - a0_1)))) * (wrap64 ((wrap64 ((wrap64 (a2_0 - a0_0)) * (wrap64 (a3_1 - a2_1)))) - (wrap64 ((wrap64 (a2_1 - a0_1)) * (wrap64 (a3_0 - a2_0)))))))) + (wrap64 ((wrap64 ((wrap64 (a1_0 - a0_0)) * (wrap64 (a3_1 - a2_1)))) - (wrap64 ((wrap64 (a1_1 - a0_1)) * (wrap64 (a3_0 - a2_0)))))))) (wrap64 (2 * (wrap64 ((wrap64 ((wrap64 (a1_0 - a0_0)) * (wrap64 (a3_1 - a2_1)))) - (wrap64 ((wrap64 (a1_1 - a0_1)) * (wrap64 (a3_0 - a2_0))))))))).bind fun t171 => (some (wrap64 (a0_0 + t170), wrap64 (a0_1 + t171), 0))))) else (some (0, 0, 6)))) else (some (0, 0, 1)))) = some (r1, r2, r3) := by first | (rw [hy163]; with_reducible exact H) | (have H2_ := (Option.bind_some _ _).symm.trans H; rw [hy163]; with_reducible exact H2_) | (have H2_ := (Option.bind_some _ _).symm.trans H; with_reducible exact H2_) | with_reducible exact H | (rw [hy163]; exact H) | exact H
  have Ny163 := Aside0.mk hy163
  clear hy163
  replace H := Option.bind_eq_some_iff.mp H
  obtain ⟨t166, A50, H⟩ := H
  replace H : (if t166 = true then ((impl_crossing.f a0_0 a0_1 a1_0 a1_1 a2_0 a2_1 a3_0 a3_1).bind fun t167 => (if t167 = true then (if (wrap64 ((wrap64 ((wrap64 (a1_0 - a0_0)) * (wrap64 (a3_1 - a2_1)))) - (wrap64 ((wrap64 (a1_1 - a0_1)) * (wrap64 (a3_0 - a2_0)))))) < 0 then ((impl_floorDiv.f (wrap64 ((wrap64 ((wrap64 (2 * (wrap64 (a1_0 - a0_0)))) * (wrap64 (-(wrap64 ((wrap64 ((wrap64 (a2_0 - a0_0)) * (wrap64 (a3_1 - a2_1)))) - (wrap64 ((wrap64 (a2_1 - a0_1)) * (wrap64 (a3_0 - a2_0)))))))))) + (wrap64 (-(wrap64 ((wrap64 ((wrap64 (a1_0 - a0_0)) * (wrap64 (a3_1 - a2_1)))) - (wrap64 ((wrap64 (a1_1 - a0_1)) * (wrap64 (a3_0 - a2_0)))))))))) (wrap64 (2 * (wrap64 (-(wrap64 ((wrap64 ((wrap64 (a1_0 - a0_0)) * (wrap64 (a3_1 - a2_1)))) - (wrap64 ((wrap64 (a1_1 - a0_1)) * (wrap64 (a3_0 - a2_0))))))))))).bind fun t168 => ((impl_floorDiv.f (wrap64 ((wrap64 ((wrap64 (2 * (wrap64 (a1_1 - a0_1)))) * (wrap64 (-(wrap64 ((wrap64 ((wrap64 (a2_0 - a0_0)) * (wrap64 (a3_1 - a2_1)))) - (wrap64 ((wrap64 (a2_1 - a0_1)) * (wrap64 (a3_0 - a2_0)))))))))) + (wrap64 (-(wrap64 ((wrap64 ((wrap64 (a1_0 - a0_0)) * (wrap64 (a3_1 - a2_1)))) - (wrap64 ((wrap64 (a1_1 - a0_1)) * (wrap64 (a3_0 - a2_0)))))))))) (wrap64 (2 * (wrap64 (-(wrap64 ((wrap64 ((wrap64 (a1_0 - a0_0)) * (wrap64 (a3_1 - a2_1)))) - (wrap64 ((wrap64 (a1_1 - a0_1)) * (wrap64 (a3_0 - a2_0))))))))))).bind fun t169 => (some (wrap64 (a0_0 + t168), wrap64 (a0_1 + t169), 0)))) else ((impl_floorDiv.f (wrap64 ((wrap64 ((wrap64 (2 * (wrap64 (a1_0 - a0_0)))) * (wrap64 ((wrap64 ((wrap64 (a2_0 - a0_0)) * (wrap64 (a3_1 - a2_1)))) - (wrap64 ((wrap64 (a2_1 - a0_1)) * (wrap64 (a3_0 - a2_0)))))))) + (wrap64 ((wrap64 ((wrap64 (a1_0 - a0_0)) * (wrap64 (a3_1 - a2_1)))) - (wrap64 ((wrap64 (a1_1 - a0_1)) * (wrap64 (a3_0 - a2_0)))))))) (wrap64 (2 * (wrap64 ((wrap64 ((wrap64 (a1_0 - a0_0)) * (wrap64 (a3_1 - a2_1)))) - (wrap64 ((wrap64 (a1_1 - a0_1)) * (wrap64 (a3_0 - a2_0))))))))).bind fun t170 => ((impl_floorDiv.f (wrap64 ((wrap64 ((wrap64 (2 * (wrap64 (a1_1 - a0_1)))) * (wrap64 ((wrap64 ((wrap64 (a2_0 - a0_0)) * (wrap64 (a3_1 - a2_1)))) - (wrap64 ((wrap64 (a2_1 - a0_1)) * (wrap64 (a3_0 - a2_0)))))))) + (wrap64 ((wrap64 ((wrap64 (a1_0 - a0_0)) * (wrap64 (a3_1 - a2_1)))) - (wrap64 ((wrap64 (a1_1 - a0_1)) * (wrap64 (a3_0 - a2_0)))))))) (wrap64 (2 * (wrap64 ((wrap64 ((wrap64 (a1_0 - a0_0)) * (wrap64 (a3_1 - a2_1)))) - (wrap64 ((wrap64 (a1_1 - a0_1)) * (wrap64 (a3_0 - a2_0))))))))).bind fun t171 => (some (wrap64 (a0_0 + t170), wrap64 (a0_1 + t171), 0))))) else (some (0, 0, 6)))) else (some (0, 0, 1))) = some (r1, r2, r3) := H
  have A5 := Aside0.mk A50
  clear A50
  by_cases c6 : t166 = true
  · subst c6
    have H1 : ((impl_crossing.f a0_0 a0_1 a1_0 a1_1 a2_0 a2_1 a3_0 a3_1).bind fun t167 => (if t167 = true then (if (wrap64 ((wrap64 ((wrap64 (a1_0 - a0_0)) * (wrap64 (a3_1 - a2_1)))) - (wrap64 ((wrap64 (a1_1 - a0_1)) * (wrap64 (a3_0 - a2_0)))))) < 0 then ((impl_floorDiv.f (wrap64 ((wrap64 ((wrap64 (2 * (wrap64 (a1_0 - a0_0)))) * (wrap64 (-(wrap64 ((wrap64 ((wrap64 (a2_0 - a0_0)) * (wrap64 (a3_1 - a2_1)))) - (wrap64 ((wrap64 (a2_1 - a0_1)) * (wrap64 (a3_0 - a2_0)))))))))) + (wrap64 (-(wrap64 ((wrap64 ((wrap64 (a1_0 - a0_0)) * (wrap64 (a3_1 - a2_1)))) - (wrap64 ((wrap64 (a1_1 - a0_1)) * (wrap64 (a3_0 - a2_0)))))))))) (wrap64 (2 * (wrap64 (-(wrap64 ((wrap64 ((wrap64 (a1_0 - a0_0)) * (wrap64 (a3_1 - a2_1)))) - (wrap64 ((wrap64 (a1_1 - a0_1)) * (wrap64 (a3_0 - a2_0))))))))))).bind fun t168 => ((impl_floorDiv.f (wrap64 ((wrap64 ((wrap64 (2 * (wrap64 (a1_1 - a0_1)))) * (wrap64 (-(wrap64 ((wrap64 ((wrap64 (a2_0 - a0_0)) * (wrap64 (a3_1 - a2_1)))) - (wrap64 ((wrap64 (a2_1 - a0_1)) * (wrap64 (a3_0 - a2_0)))))))))) + (wrap64 (-(wrap64 ((wrap64 ((wrap64 (a1_0 - a0_0)) * (wrap64 (a3_1 - a2_1)))) - (wrap64 ((wrap64 (a1_1 - a0_1)) * (wrap64 (a3_0 - a2_0)))))))))) (wrap64 (2 * (wrap64 (-(wrap64 ((wrap64 ((wrap64 (a1_0 - a0_0)) * (wrap64 (a3_1 - a2_1)))) - (wrap64 ((wrap64 (a1_1 - a0_1)) * (wrap64 (a3_0 - a2_0))))))))))).bind fun t169 => (some (wrap64 (a0_0 + t168), wrap64 (a0_1 + t169), 0)))) else ((impl_floorDiv.f (wrap64 ((wrap64 ((wrap64 (2 * (wrap64 (a1_0 - a0_0)))) * (wrap64 ((wrap64 ((wrap64 (a2_0 - a0_0)) * (wrap64 (a3_1 - a2_1)))) - (wrap64 ((wrap64 (a2_1 - a0_1)) * (wrap64 (a3_0 - a2_0)))))))) + (wrap64 ((wrap64 ((wrap64 (a1_0 - a0_0)) * (wrap64 (a3_1 - a2_1)))) - (wrap64 ((wrap64 (a1_1 - a0_1)) * (wrap64 (a3_0 - a2_0)))))))) (wrap64 (2 * (wrap64 ((wrap64 ((wrap64 (a1_0 - a0_0)) * (wrap64 (a3_1 - a2_1)))) - (wrap64 ((wrap64 (a1_1 - a0_1)) * (wrap64 (a3_0 - a2_0))))))))).bind fun t170 => ((impl_floorDiv.f (wrap64 ((wrap64 ((wrap64 (2 * (wrap64 (a1_1 - a0_1)))) * (wrap64 ((wrap64 ((wrap64 (a2_0 - a0_0)) * (wrap64 (a3_1 - a2_1)))) - (wrap64 ((wrap64 (a2_1 - a0_1)) * (wrap64 (a3_0 - a2_0)))))))) + (wrap64 ((wrap64 ((wrap64 (a1_0 - a0_0)) * (wrap64 (a3_1 - a2_1)))) - (wrap64 ((wrap64 (a1_1 - a0_1)) * (wrap64 (a3_0 - a2_0)))))))) (wrap64 (2 * (wrap64 ((wrap64 ((wrap64 (a1_0 - a0_0)) * (wrap64 (a3_1 - a2_1)))) - (wrap64 ((wrap64 (a1_1 - a0_1)) * (wrap64 (a3_0 - a2_0))))))))).bind fun t171 => (some (wrap64 (a0_0 + t170), wrap64 (a0_1 + t171), 0))))) else (some (0, 0, 6)))) = some (r1, r2, r3) := by rw [if_pos rfl] at H; exact H
    clear H
    have H := H1
    clear H1
    replace H := Option.bind_eq_some_iff.mp H
    obtain ⟨t167, A70, H⟩ := H
    replace H : (if t167 = true then (if (wrap64 ((wrap64 ((wrap64 (a1_0 - a0_0)) * (wrap64 (a3_1 - a2_1)))) - (wrap64 ((wrap64 (a1_1 - a0_1)) * (wrap64 (a3_0 - a2_0)))))) < 0 then ((impl_floorDiv.f (wrap64 ((wrap64 ((wrap64 (2 * (wrap64 (a1_0 - a0_0)))) * (wrap64 (-(wrap64 ((wrap64 ((wrap64 (a2_0 - a0_0)) * (wrap64 (a3_1 - a2_1)))) - (wrap64 ((wrap64 (a2_1 - a0_1)) * (wrap64 (a3_0 - a2_0)))))))))) + (wrap64 (-(wrap64 ((wrap64 ((wrap64 (a1_0 - a0_0)) * (wrap64 (a3_1 - a2_1)))) - (wrap64 ((wrap64 (a1_1 - a0_1)) * (wrap64 (a3_0 - a2_0)))))))))) (wrap64 (2 * (wrap64 (-(wrap64 ((wrap64 ((wrap64 (a1_0 - a0_0)) * (wrap64 (a3_1 - a2_1)))) - (wrap64 ((wrap64 (a1_1 - a0_1)) * (wrap64 (a3_0 - a2_0))))))))))).bind fun t168 => ((impl_floorDiv.f (wrap64 ((wrap64 ((wrap64 (2 * (wrap64 (a1_1 - a0_1)))) * (wrap64 (-(wrap64 ((wrap64 ((wrap64 (a2_0 - a0_0)) * (wrap64 (a3_1 - a2_1)))) - (wrap64 ((wrap64 (a2_1 - a0_1)) * (wrap64 (a3_0 - a2_0)))))))))) + (wrap64 (-(wrap64 ((wrap64 ((wrap64 (a1_0 - a0_0)) * (wrap64 (a3_1 - a2_1)))) - (wrap64 ((wrap64 (a1_1 - a0_1)) * (wrap64 (a3_0 - a2_0)))))))))) (wrap64 (2 * (wrap64 (-(wrap64 ((wrap64 ((wrap64 (a1_0 - a0_0)) * (wrap64 (a3_1 - a2_1)))) - (wrap64 ((wrap64 (a1_1 - a0_1)) * (wrap64 (a3_0 - a2_0))))))))))).bind fun t169 => (some (wrap64 (a0_0 + t168), wrap64 (a0_1 + t169), 0)))) else ((impl_floorDiv.f (wrap64 ((wrap64 ((wrap64 (2 * (wrap64 (a1_0 - a0_0)))) * (wrap64 ((wrap64 ((wrap64 (a2_0 - a0_0)) * (wrap64 (a3_1 - a2_1)))) - (wrap64 ((wrap64 (a2_1 - a0_1)) * (wrap64 (a3_0 - a2_0)))))))) + (wrap64 ((wrap64 ((wrap64 (a1_0 - a0_0)) * (wrap64 (a3_1 - a2_1)))) - (wrap64 ((wrap64 (a1_1 - a0_1)) * (wrap64 (a3_0 - a2_0)))))))) (wrap64 (2 * (wrap64 ((wrap64 ((wrap64 (a1_0 - a0_0)) * (wrap64 (a3_1 - a2_1)))) - (wrap64 ((wrap64 (a1_1 - a0_1)) * (wrap64 (a3_0 - a2_0))))))))).bind fun t170 => ((impl_floorDiv.f (wrap64 ((wrap64 ((wrap64 (2 * (wrap64 (a1_1 - a0_1)))) * (wrap64 ((wrap64 ((wrap64 (a2_0 - a0_0)) * (wrap64 (a3_1 - a2_1)))) - (wrap64 ((wrap64 (a2_1 - a0_1)) * (wrap64 (a3_0 - a2_0)))))))) + (wrap64 ((wrap64 ((wrap64 (a1_0 - a0_0)) * (wrap64 (a3_1 - a2_1)))) - (wrap64 ((wrap64 (a1_1 - a0_1)) * (wrap64 (a3_0 - a2_0)))))))) (wrap64 (2 * (wrap64 ((wrap64 ((wrap64 (a1_0 - a0_0)) * (wrap64 (a3_1 - a2_1)))) - (wrap64 ((wrap64 (a1_1 - a0_1)) * (wrap64 (a3_0 - a2_0))))))))).bind fun t171 => (some (wrap64 (a0_0 + t170), wrap64 (a0_1 + t171), 0))))) else (some (0, 0, 6))) = some (r1, r2, r3) := H
    have A7 := Aside0.mk A70
    clear A70
    by_cases c8 : t167 = true
    · subst c8
      have H1 : (if (wrap64 ((wrap64 ((wrap64 (a1_0 - a0_0)) * (wrap64 (a3_1 - a2_1)))) - (wrap64 ((wrap64 (a1_1 - a0_1)) * (wrap64 (a3_0 - a2_0)))))) < 0 then ((impl_floorDiv.f (wrap64 ((wrap64 ((wrap64 (2 * (wrap64 (a1_0 - a0_0)))) * (wrap64 (-(wrap64 ((wrap64 ((wrap64 (a2_0 - a0_0)) * (wrap64 (a3_1 - a2_1)))) - (wrap64 ((wrap64 (a2_1 - a0_1)) * (wrap64 (a3_0 - a2_0)))))))))) + (wrap64 (-(wrap64 ((wrap64 ((wrap64 (a1_0 - a0_0)) * (wrap64 (a3_1 - a2_1)))) - (wrap64 ((wrap64 (a1_1 - a0_1)) * (wrap64 (a3_0 - a2_0)))))))))) (wrap64 (2 * (wrap64 (-(wrap64 ((wrap64 ((wrap64 (a1_0 - a0_0)) * (wrap64 (a3_1 - a2_1)))) - (wrap64 ((wrap64 (a1_1 - a0_1)) * (wrap64 (a3_0 - a2_0))))))))))).bind fun t168 => ((impl_floorDiv.f (wrap64 ((wrap64 ((wrap64 (2 * (wrap64 (a1_1 - a0_1)))) * (wrap64 (-(wrap64 ((wrap64 ((wrap64 (a2_0 - a0_0)) * (wrap64 (a3_1 - a2_1)))) - (wrap64 ((wrap64 (a2_1 - a0_1)) * (wrap64 (a3_0 - a2_0)))))))))) + (wrap64 (-(wrap64 ((wrap64 ((wrap64 (a1_0 - a0_0)) * (wrap64 (a3_1 - a2_1)))) - (wrap64 ((wrap64 (a1_1 - a0_1)) * (wrap64 (a3_0 - a2_0)))))))))) (wrap64 (2 * (wrap64 (-(wrap64 ((wrap64 ((wrap64 (a1_0 - a0_0)) * (wrap64 (a3_1 - a2_1)))) - (wrap64 ((wrap64 (a1_1 - a0_1)) * (wrap64 (a3_0 - a2_0))))))))))).bind fun t169 => (some (wrap64 (a0_0 + t168), wrap64 (a0_1 + t169), 0)))) else ((impl_floorDiv.f (wrap64 ((wrap64 ((wrap64 (2 * (wrap64 (a1_0 - a0_0)))) * (wrap64 ((wrap64 ((wrap64 (a2_0 - a0_0)) * (wrap64 (a3_1 - a2_1)))) - (wrap64 ((wrap64 (a2_1 - a0_1)) * (wrap64 (a3_0 - a2_0)))))))) + (wrap64 ((wrap64 ((wrap64 (a1_0 - a0_0)) * (wrap64 (a3_1 - a2_1)))) - (wrap64 ((wrap64 (a1_1 - a0_1)) * (wrap64 (a3_0 - a2_0)))))))) (wrap64 (2 * (wrap64 ((wrap64 ((wrap64 (a1_0 - a0_0)) * (wrap64 (a3_1 - a2_1)))) - (wrap64 ((wrap64 (a1_1 - a0_1)) * (wrap64 (a3_0 - a2_0))))))))).bind fun t170 => ((impl_floorDiv.f (wrap64 ((wrap64 ((wrap64 (2 * (wrap64 (a1_1 - a0_1)))) * (wrap64 ((wrap64 ((wrap64 (a2_0 - a0_0)) * (wrap64 (a3_1 - a2_1)))) - (wrap64 ((wrap64 (a2_1 - a0_1)) * (wrap64 (a3_0 - a2_0)))))))) + (wrap64 ((wrap64 ((wrap64 (a1_0 - a0_0)) * (wrap64 (a3_1 - a2_1)))) - (wrap64 ((wrap64 (a1_1 - a0_1)) * (wrap64 (a3_0 - a2_0)))))))) (wrap64 (2 * (wrap64 ((wrap64 ((wrap64 (a1_0 - a0_0)) * (wrap64 (a3_1 - a2_1)))) - (wrap64 ((wrap64 (a1_1 - a0_1)) * (wrap64 (a3_0 - a2_0))))))))).bind fun t171 => (some (wrap64 (a0_0 + t170), wrap64 (a0_1 + t171), 0))))) = some (r1, r2, r3) := by rw [if_pos rfl] at H; exact H
      clear H
      have H := H1
      clear H1
      by_cases c9 : (wrap64 ((wrap64 ((wrap64 (a1_0 - a0_0)) * (wrap64 (a3_1 - a2_1)))) - (wrap64 ((wrap64 (a1_1 - a0_1)) * (wrap64 (a3_0 - a2_0)))))) < 0
      · rw [if_pos c9] at H
        have c9b0 : decide ((wrap64 ((wrap64 ((wrap64 (a1_0 - a0_0)) * (wrap64 (a3_1 - a2_1)))) - (wrap64 ((wrap64 (a1_1 - a0_1)) * (wrap64 (a3_0 - a2_0)))))) < 0) = true := decide_eq_true c9
        clear c9
        replace H := Option.bind_eq_some_iff.mp H
        obtain ⟨t168, A100, H⟩ := H
        replace H : ((impl_floorDiv.f (wrap64 ((wrap64 ((wrap64 (2 * (wrap64 (a1_1 - a0_1)))) * (wrap64 (-(wrap64 ((wrap64 ((wrap64 (a2_0 - a0_0)) * (wrap64 (a3_1 - a2_1)))) - (wrap64 ((wrap64 (a2_1 - a0_1)) * (wrap64 (a3_0 - a2_0)))))))))) + (wrap64 (-(wrap64 ((wrap64 ((wrap64 (a1_0 - a0_0)) * (wrap64 (a3_1 - a2_1)))) - (wrap64 ((wrap64 (a1_1 - a0_1)) * (wrap64 (a3_0 - a2_0)))))))))) (wrap64 (2 * (wrap64 (-(wrap64 ((wrap64 ((wrap64 (a1_0 - a0_0)) * (wrap64 (a3_1 - a2_1)))) - (wrap64 ((wrap64 (a1_1 - a0_1)) * (wrap64 (a3_0 - a2_0))))))))))).bind fun t169 => (some (wrap64 (a0_0 + t168), wrap64 (a0_1 + t169), 0))) = some (r1, r2, r3) := H
        have A10 := Aside0.mk A100
        clear A100
        replace H := Option.bind_eq_some_iff.mp H
        obtain ⟨t169, A110, H⟩ := H
        replace H : (some (wrap64 (a0_0 + t168), wrap64 (a0_1 + t169), 0)) = some (r1, r2, r3) := H
        have A11 := Aside0.mk A110
        clear A110
        simp only [Option.some.injEq, Prod.mk.injEq] at H
        obtain ⟨rfl, rfl, rfl⟩ := H
        go_enter Try.func27, Try.ntmps27
        try go_wp2_with (first | ((with_reducible refine gate_dst (N := 4) rfl ?_); refine box_event ?hg (N := 4) ?hd (cs := #[.int .i64 a0_0, .int .i64 a0_1]) (t := 25) ?hr ?_; (case hd => rfl); (case hg => rfl); (case hr => first | (go_simp; done) | (go_simp; rfl)); intro gb158 hg w12 hbox hb; have n0_ := sb hb; have n1_ := Aside0.mk (hbox); have n2_ := zb hg; have n3_ := zb hg; clear HB; have HB := n0_; have BK158 := n1_; have GW158 := n2_; have GE158 := n3_; clear n0_ n1_ n2_ n3_; clear hb hbox hg) | ((with_reducible refine gate_dst (N := 5) rfl ?_); refine box_event ?hg (N := 5) ?hd (cs := #[.int .i64 a1_0, .int .i64 a1_1]) (t := 25) ?hr ?_; (case hd => rfl); (case hg => rfl); (case hr => first | (go_simp; done) | (go_simp; rfl)); intro gb159 hg w13 hbox hb; have n0_ := kb BK158 hb; have n1_ := sb hb; have n2_ := Aside0.mk (hbox); have n3_ := zb hg; have n4_ := zb hg; have n5_ := nl BK158 hg; have n6_ := ng BK158 hg; clear BK158; clear HB; have BK158 := n0_; have HB := n1_; have BK159 := n2_; have GW159 := n3_; have GE159 := n4_; have NB158_159 := n5_; have NB159_158 := n6_; clear n0_ n1_ n2_ n3_ n4_ n5_ n6_; clear hb hbox hg) | ((with_reducible refine gate_dst (N := 6) rfl ?_); refine box_event ?hg (N := 6) ?hd (cs := #[.int .i64 a2_0, .int .i64 a2_1]) (t := 25) ?hr ?_; (case hd => rfl); (case hg => rfl); (case hr => first | (go_simp; done) | (go_simp; rfl)); intro gb160 hg w14 hbox hb; have n0_ := kb BK158 hb; have n1_ := kb BK159 hb; have n2_ := sb hb; have n3_ := Aside0.mk (hbox); have n4_ := zb hg; have n5_ := zb hg; have n6_ := nl BK158 hg; have n7_ := ng BK158 hg; have n8_ := nl BK159 hg; have n9_ := ng BK159 hg; clear BK158; clear BK159; clear HB; have BK158 := n0_; have BK159 := n1_; have HB := n2_; have BK160 := n3_; have GW160 := n4_; have GE160 := n5_; have NB158_160 := n6_; have NB160_158 := n7_; have NB159_160 := n8_; have NB160_159 := n9_; clear n0_ n1_ n2_ n3_ n4_ n5_ n6_ n7_ n8_ n9_; clear hb hbox hg) | ((with_reducible refine gate_dst (N := 7) rfl ?_); refine box_event ?hg (N := 7) ?hd (cs := #[.int .i64 a3_0, .int .i64 a3_1]) (t := 25) ?hr ?_; (case hd => rfl); (case hg => rfl); (case hr => first | (go_simp; done) | (go_simp; rfl)); intro gb161 hg w15 hbox hb; have n0_ := kb BK158 hb; have n1_ := kb BK159 hb; have n2_ := kb BK160 hb; have n3_ := sb hb; have n4_ := Aside0.mk (hbox); have n5_ := zb hg; have n6_ := zb hg; have n7_ := nl BK158 hg; have n8_ := ng BK158 hg; have n9_ := nl BK159 hg; have n10_ := ng BK159 hg; have n11_ := nl BK160 hg; have n12_ := ng BK160 hg; clear BK158; clear BK159; clear BK160; clear HB; have BK158 := n0_; have BK159 := n1_; have BK160 := n2_; have HB := n3_; have BK161 := n4_; have GW161 := n5_; have GE161 := n6_; have NB158_161 := n7_; have NB161_158 := n8_; have NB159_161 := n9_; have NB161_159 := n10_; have NB160_161 := n11_; have NB161_160 := n12_; clear n0_ n1_ n2_ n3_ n4_ n5_ n6_ n7_ n8_ n9_ n10_ n11_ n12_; clear hb hbox hg) | ((with_reducible refine gate_dst (N := 8) rfl ?_); refine box_event ?hg (N := 8) ?hd (cs := #[.int .i64 0, .int .i64 0]) (t := 25) ?hr ?_; (case hd => rfl); (case hg => rfl); (case hr => first | (go_simp; done) | (go_simp; rfl)); intro gb162 hg w16 hbox hb; have n0_ := kb BK158 hb; have n1_ := kb BK159 hb; have n2_ := kb BK160 hb; have n3_ := kb BK161 hb; have n4_ := sb hb; have n5_ := Aside0.mk (hbox); have n6_ := zb hg; have n7_ := zb hg; have n8_ := nl BK158 hg; have n9_ := ng BK158 hg; have n10_ := nl BK159 hg; have n11_ := ng BK159 hg; have n12_ := nl BK160 hg; have n13_ := ng BK160 hg; have n14_ := nl BK161 hg; have n15_ := ng BK161 hg; clear BK158; clear BK159; clear BK160; clear BK161; clear HB; have BK158 := n0_; have BK159 := n1_; have BK160 := n2_; have BK161 := n3_; have HB := n4_; have BK162 := n5_; have GW162 := n6_; have GE162 := n7_; have NB158_162 := n8_; have NB162_158 := n9_; have NB159_162 := n10_; have NB162_159 := n11_; have NB160_162 := n12_; have NB162_160 := n13_; have NB161_162 := n14_; have NB162_161 := n15_; clear n0_ n1_ n2_ n3_ n4_ n5_ n6_ n7_ n8_ n9_ n10_ n11_ n12_ n13_ n14_ n15_; clear hb hbox hg; have hnb17 := NB158_159.out; have hnc17 := NB159_158.out; have hnb18 := NB158_160.out; have hnc18 := NB160_158.out; have hnb19 := NB158_161.out; have hnc19 := NB161_158.out; have hnb20 := NB158_162.out; have hnc20 := NB162_158.out; have hcz21_0 := ck BK158 0; have hcz21_1 := ck BK158 1; have hfz21_0 := blk_frozen BK158.out 0; have hfz21_1 := blk_frozen BK158.out 1; have hnb22 := NB159_160.out; have hnc22 := NB160_159.out; have hnb23 := NB159_161.out; have hnc23 := NB161_159.out; have hnb24 := NB159_162.out; have hnc24 := NB162_159.out; have hcz25_0 := ck BK159 0; have hcz25_1 := ck BK159 1; have hfz25_0 := blk_frozen BK159.out 0; have hfz25_1 := blk_frozen BK159.out 1; have hnb26 := NB160_161.out; have hnc26 := NB161_160.out; have hnb27 := NB160_162.out; have hnc27 := NB162_160.out; have hcz28_0 := ck BK160 0; have hcz28_1 := ck BK160 1; have hfz28_0 := blk_frozen BK160.out 0; have hfz28_1 := blk_frozen BK160.out 1; have hnb29 := NB161_162.out; have hnc29 := NB162_161.out; have hcz30_0 := ck BK161 0; have hcz30_1 := ck BK161 1; have hfz30_0 := blk_frozen BK161.out 0; have hfz30_1 := blk_frozen BK161.out 1) | ((with_reducible refine gate_dst (N := 17) rfl ?_); refine Kd.R_lit k25 _ 25 ?hg (N := 17) ?hd (xs := ([(⟨a0_0, a0_1⟩ : S25), (⟨a1_0, a1_1⟩ : S25), (⟨a2_0, a2_1⟩ : S25), (⟨a3_0, a3_1⟩ : S25)] : List (S25))) (inner := [.int .i64 a0_0, .int .i64 a0_1, .int .i64 a1_0, .int .i64 a1_1, .int .i64 a2_0, .int .i64 a2_1, .int .i64 a3_0, .int .i64 a3_1]) (ok := fun _ => True) (okp := fun _ => True) ?hr ?hp (fun _ hk => hk) trivial (Below.refl _ _) (Nat.le_refl _) (by simp) ?_; (case hd => rfl); (case hg => rfl); (case hr => first | (go_simp; done) | (go_simp; rfl)); (case hp => exact (Reps.c2 (show Kd.M k25 _ _ _ (⟨a0_0, a0_1⟩ : S25) [.int .i64 a0_0, .int .i64 a0_1] from (k25_mkM _ _ _ (⟨a0_0, a0_1⟩ : S25) )) (Reps.c2 (show Kd.M k25 _ _ _ (⟨a1_0, a1_1⟩ : S25) [.int .i64 a1_0, .int .i64 a1_1] from (k25_mkM _ _ _ (⟨a1_0, a1_1⟩ : S25) )) (Reps.c2 (show Kd.M k25 _ _ _ (⟨a2_0, a2_1⟩ : S25) [.int .i64 a2_0, .int .i64 a2_1] from (k25_mkM _ _ _ (⟨a2_0, a2_1⟩ : S25) )) (Reps.c2 (show Kd.M k25 _ _ _ (⟨a3_0, a3_1⟩ : S25) [.int .i64 a3_0, .int .i64 a3_1] from (k25_mkM _ _ _ (⟨a3_0, a3_1⟩ : S25) )) (Reps.none _ _)))))); intro v164 w31 ho32 hb hg_ hnew_; clear hg_ hnew_; (first | rw [← Ny163.out] at ho32 | (simp only [Int.reduceToNat] at ho32; rw [← Ny163.out] at ho32)); have n0_ := Aside0.mk (Kd.R_lower (Kd.R_newB (Kd.R_newB (Kd.R_newB (Kd.R_newB (Kd.R_newB ho32 (g := gb158) (o := .cells #[.int .i64 a0_0, .int .i64 a0_1] 25 (0, 0)) (bk BK158)) (g := gb159) (o := .cells #[.int .i64 a1_0, .int .i64 a1_1] 25 (0, 0)) (bk BK159)) (g := gb160) (o := .cells #[.int .i64 a2_0, .int .i64 a2_1] 25 (0, 0)) (bk BK160)) (g := gb161) (o := .cells #[.int .i64 a3_0, .int .i64 a3_1] 25 (0, 0)) (bk BK161)) (g := gb162) (o := .cells #[.int .i64 0, .int .i64 0] 25 (0, 0)) (bk BK162)) (below_size ib)); have n1_ := kb BK158 hb; have n2_ := kb BK159 hb; have n3_ := kb BK160 hb; have n4_ := kb BK161 hb; have n5_ := kb BK162 hb; have n6_ := sb hb; clear BK158; clear BK159; clear BK160; clear BK161; clear BK162; clear HB; have HO165 := n0_; have BK158 := n1_; have BK159 := n2_; have BK160 := n3_; have BK161 := n4_; have BK162 := n5_; have HB := n6_; clear n0_ n1_ n2_ n3_ n4_ n5_ n6_; clear hb ho32; obtain ⟨Ao33, co33, eo33⟩ := Kd.R_slice HO165.out; subst eo33) | ((with_reducible refine gate_callee (f := 46) rfl ?_); refine goesL_ (some 18) rfl rfl Try.func46 (by kernel_rfl) rfl #[.slice Ao33 y163.length co33] rfl (by (try simp only [List.map_toArray, List.map_cons, List.map_nil]); first | done | rfl | (simp only [List.length_drop, List.length_take]; rfl)) ?_; (with_reducible refine (impl_validPoints.calls k _ _ y163 true _ ?side1 ?side2 A5.out).mono ?_); (case side1 => repeat (first | exact (Kd.R_reads' HO165.out).2.2 | (with_reducible refine Kd.C_alloc ?_ _) | (with_reducible refine Kd.C_drewN ?_ _) | (with_reducible refine Kd.C_drew ?_))); (case side2 => exact (Kd.R_reads' HO165.out).2.1); rintro e w34 ⟨rfl, hb⟩; refine ⟨_, rfl, ?_⟩; have n0_ := Aside0.mk (Kd.R_below (by (with_reducible repeat (first | apply Kd.R_alloc | apply Kd.R_drewN | apply Kd.R_drew)); exact HO165.out) hb); have n1_ := kb BK158 hb; have n2_ := kb BK159 hb; have n3_ := kb BK160 hb; have n4_ := kb BK161 hb; have n5_ := kb BK162 hb; have n6_ := sb hb; clear HO165; clear BK158; clear BK159; clear BK160; clear BK161; clear BK162; clear HB; have HO165 := n0_; have BK158 := n1_; have BK159 := n2_; have BK160 := n3_; have BK161 := n4_; have BK162 := n5_; have HB := n6_; clear n0_ n1_ n2_ n3_ n4_ n5_ n6_; (try clear hb); (try clear hb2); (try clear hk); (try clear hi); have hcz35_0 := ck BK158 0; have hcz35_1 := ck BK158 1; have hfz35_0 := blk_frozen BK158.out 0; have hfz35_1 := blk_frozen BK158.out 1; have hcz36_0 := ck BK159 0; have hcz36_1 := ck BK159 1; have hfz36_0 := blk_frozen BK159.out 0; have hfz36_1 := blk_frozen BK159.out 1; have hcz37_0 := ck BK160 0; have hcz37_1 := ck BK160 1; have hfz37_0 := blk_frozen BK160.out 0; have hfz37_1 := blk_frozen BK160.out 1; have hcz38_0 := ck BK161 0; have hcz38_1 := ck BK161 1; have hfz38_0 := blk_frozen BK161.out 0; have hfz38_1 := blk_frozen BK161.out 1) | ((with_reducible refine gate_callee (f := 59) rfl ?_); refine goesL_ (some 26) rfl rfl Try.func59 (by kernel_rfl) rfl #[.agg #[.int .i64 a0_0, .int .i64 a0_1], .agg #[.int .i64 a1_0, .int .i64 a1_1], .agg #[.int .i64 a2_0, .int .i64 a2_1], .agg #[.int .i64 a3_0, .int .i64 a3_1]] rfl (by (try simp only [List.map_toArray, List.map_cons, List.map_nil]); first | done | rfl | (simp only [List.length_drop, List.length_take]; rfl)) ?_; (with_reducible refine (impl_crossing.calls a0_0 a0_1 a1_0 a1_1 a2_0 a2_1 a3_0 a3_1 true _ A7.out).mono ?_); rintro e w39 ⟨rfl, hb⟩; refine ⟨_, rfl, ?_⟩; have n0_ := Aside0.mk (Kd.R_below (by (with_reducible repeat (first | apply Kd.R_alloc | apply Kd.R_drewN | apply Kd.R_drew)); exact HO165.out) hb); have n1_ := kb BK158 hb; have n2_ := kb BK159 hb; have n3_ := kb BK160 hb; have n4_ := kb BK161 hb; have n5_ := kb BK162 hb; have n6_ := sb hb; clear HO165; clear BK158; clear BK159; clear BK160; clear BK161; clear BK162; clear HB; have HO165 := n0_; have BK158 := n1_; have BK159 := n2_; have BK160 := n3_; have BK161 := n4_; have BK162 := n5_; have HB := n6_; clear n0_ n1_ n2_ n3_ n4_ n5_ n6_; (try clear hb); (try clear hb2); (try clear hk); (try clear hi); have hcz40_0 := ck BK159 0; have hcz40_1 := ck BK159 1; have hfz40_0 := blk_frozen BK159.out 0; have hfz40_1 := blk_frozen BK159.out 1; have hcz41_0 := ck BK158 0; have hcz41_1 := ck BK158 1; have hfz41_0 := blk_frozen BK158.out 0; have hfz41_1 := blk_frozen BK158.out 1; have hcz42_0 := ck BK161 0; have hcz42_1 := ck BK161 1; have hfz42_0 := blk_frozen BK161.out 0; have hfz42_1 := blk_frozen BK161.out 1; have hcz43_0 := ck BK160 0; have hcz43_1 := ck BK160 1; have hfz43_0 := blk_frozen BK160.out 0; have hfz43_1 := blk_frozen BK160.out 1))
        have n0_ := Aside0.mk (Kd.R_drew HO165.out)
        have n1_ := Aside0.mk (blk_drew BK158.out)
        have n2_ := Aside0.mk (blk_drew BK159.out)
        have n3_ := Aside0.mk (blk_drew BK160.out)
        have n4_ := Aside0.mk (blk_drew BK161.out)
        have n5_ := Aside0.mk (blk_drew BK162.out)
        have n6_ := Aside0.mk (below_drew1 HB.out)
        clear HO165
        clear BK158
        clear BK159
        clear BK160
        clear BK161
        clear BK162
        clear HB
        have HO165 := n0_
        have BK158 := n1_
        have BK159 := n2_
        have BK160 := n3_
        have BK161 := n4_
        have BK162 := n5_
        have HB := n6_
        clear n0_ n1_ n2_ n3_ n4_ n5_ n6_
        refine start_ (n := 35) (S := fun w' => w'.cell? ⟨gb158, 0, none⟩ = some (.int .i64 a0_0) ∧ w'.cell? ⟨gb158, 1, none⟩ = some (.int .i64 a0_1) ∧ w'.cell? ⟨gb159, 0, none⟩ = some (.int .i64 a1_0) ∧ w'.cell? ⟨gb159, 1, none⟩ = some (.int .i64 a1_1)) (ds := []) #[false, false, false, false, false, false, false, false, false, false, false, false, false, false, false, false, false, false, false, false, false, false, false, false, false, false, false, false, false, false, false, false, false, false, false] (by kernel_rfl) rfl rfl ⟨(blk_cell BK158.out 0).trans rfl, (blk_cell BK158.out 1).trans rfl, (blk_cell BK159.out 0).trans rfl, (blk_cell BK159.out 1).trans rfl⟩ (fun hHeld => ?_); refine with_tabW impl_CrossPoint.tab9 impl_CrossPoint.bits9 (fun HT_ HW_ => ?_)
        generalize w39.drew = w44 at HO165 BK158 BK159 BK160 BK161 BK162 HB hHeld ⊢
        refine pure_ (i := 0) (N := some 81) (v := ?_) (a' := ?_) #[true, false, false, false, false, false, false, false, false, false, false, false, false, false, false, false, false, false, false, false, false, false, false, false, false, false, false, false, false, false, false, false, false, false, false] rfl rfl (any_of HT_.out (by kernel_rfl)) (fun _ _ _ h => h) (Or.inl ⟨by rfl, ?_⟩) ?_ ?_
        rotate_left
        · intro w'
          go_simp
          with_reducible rfl
        rotate_left
        · exact pa
        refine pure_ (i := 2) (N := some 83) (v := ?_) (a' := ?_) #[true, false, true, false, false, false, false, false, false, false, false, false, false, false, false, false, false, false, false, false, false, false, false, false, false, false, false, false, false, false, false, false, false, false, false] rfl rfl (any_of HT_.out (by kernel_rfl)) (fun _ _ _ h => h) (Or.inl ⟨by rfl, ?_⟩) ?_ ?_
        rotate_left
        · intro w'
          go_simp
          with_reducible rfl
        rotate_left
        · exact pa
        refine pure_ (i := 4) (N := some 85) (v := ?_) (a' := ?_) #[true, false, true, false, true, false, false, false, false, false, false, false, false, false, false, false, false, false, false, false, false, false, false, false, false, false, false, false, false, false, false, false, false, false, false] rfl rfl (any_of HT_.out (by kernel_rfl)) (fun _ _ _ h => h) (Or.inl ⟨by rfl, ?_⟩) ?_ ?_
        rotate_left
        · intro w'
          go_simp
          with_reducible rfl
        rotate_left
        · exact pa
        refine pure_ (i := 8) (N := some 89) (v := ?_) (a' := ?_) #[true, false, true, false, true, false, false, false, true, false, false, false, false, false, false, false, false, false, false, false, false, false, false, false, false, false, false, false, false, false, false, false, false, false, false] rfl rfl (any_of HT_.out (by kernel_rfl)) (fun _ _ _ h => h) (Or.inl ⟨by rfl, ?_⟩) ?_ ?_
        rotate_left
        · intro w'
          go_simp
          with_reducible rfl
        rotate_left
        · exact pa
        refine pure_ (i := 10) (N := some 91) (v := ?_) (a' := ?_) #[true, false, true, false, true, false, false, false, true, false, true, false, false, false, false, false, false, false, false, false, false, false, false, false, false, false, false, false, false, false, false, false, false, false, false] rfl rfl (any_of HT_.out (by kernel_rfl)) (fun _ _ _ h => h) (Or.inl ⟨by rfl, ?_⟩) ?_ ?_
        rotate_left
        · intro w'
          go_simp
          with_reducible rfl
        rotate_left
        · exact pa
        refine pure_ (i := 12) (N := some 93) (v := ?_) (a' := ?_) #[true, false, true, false, true, false, false, false, true, false, true, false, true, false, false, false, false, false, false, false, false, false, false, false, false, false, false, false, false, false, false, false, false, false, false] rfl rfl (any_of HT_.out (by kernel_rfl)) (fun _ _ _ h => h) (Or.inl ⟨by rfl, ?_⟩) ?_ ?_
        rotate_left
        · intro w'
          go_simp
          with_reducible rfl
        rotate_left
        · exact pa
        refine pure_ (i := 13) (N := some 94) (v := ?_) (a' := ?_) #[true, false, true, false, true, false, false, false, true, false, true, false, true, true, false, false, false, false, false, false, false, false, false, false, false, false, false, false, false, false, false, false, false, false, false] rfl rfl (any_of HT_.out (by kernel_rfl)) (fun _ _ _ h => h) (Or.inl ⟨by rfl, ?_⟩) ?_ ?_
        rotate_left
        · intro w'
          go_simp
          with_reducible rfl
        rotate_left
        · exact pa
        refine pure_ (i := 16) (N := some 97) (v := ?_) (a' := ?_) #[true, false, true, false, true, false, false, false, true, false, true, false, true, true, false, false, true, false, false, false, false, false, false, false, false, false, false, false, false, false, false, false, false, false, false] rfl rfl (any_of HT_.out (by kernel_rfl)) (fun _ _ _ h => h) (Or.inl ⟨by rfl, ?_⟩) ?_ ?_
        rotate_left
        · intro w'
          go_simp
          with_reducible rfl
        rotate_left
        · exact pa
        refine pure_ (i := 18) (N := some 99) (v := ?_) (a' := ?_) #[true, false, true, false, true, false, false, false, true, false, true, false, true, true, false, false, true, false, true, false, false, false, false, false, false, false, false, false, false, false, false, false, false, false, false] rfl rfl (any_of HT_.out (by kernel_rfl)) (fun _ _ _ h => h) (Or.inl ⟨by rfl, ?_⟩) ?_ ?_
        rotate_left
        · intro w'
          go_simp
          with_reducible rfl
        rotate_left
        · exact pa
        refine pure_ (i := 20) (N := some 101) (v := ?_) (a' := ?_) #[true, false, true, false, true, false, false, false, true, false, true, false, true, true, false, false, true, false, true, false, true, false, false, false, false, false, false, false, false, false, false, false, false, false, false] rfl rfl (any_of HT_.out (by kernel_rfl)) (fun _ _ _ h => h) (Or.inl ⟨by rfl, ?_⟩) ?_ ?_
        rotate_left
        · intro w'
          go_simp
          with_reducible rfl
        rotate_left
        · exact pa
        refine pure_ (i := 24) (N := some 105) (v := ?_) (a' := ?_) #[true, false, true, false, true, false, false, false, true, false, true, false, true, true, false, false, true, false, true, false, true, false, false, false, true, false, false, false, false, false, false, false, false, false, false] rfl rfl (any_of HT_.out (by kernel_rfl)) (fun _ _ _ h => h) (Or.inl ⟨by rfl, ?_⟩) ?_ ?_
        rotate_left
        · intro w'
          go_simp
          with_reducible rfl
        rotate_left
        · exact pa
        refine pure_ (i := 26) (N := some 107) (v := ?_) (a' := ?_) #[true, false, true, false, true, false, false, false, true, false, true, false, true, true, false, false, true, false, true, false, true, false, false, false, true, false, true, false, false, false, false, false, false, false, false] rfl rfl (any_of HT_.out (by kernel_rfl)) (fun _ _ _ h => h) (Or.inl ⟨by rfl, ?_⟩) ?_ ?_
        rotate_left
        · intro w'
          go_simp
          with_reducible rfl
        rotate_left
        · exact pa
        refine pure_ (i := 28) (N := some 109) (v := ?_) (a' := ?_) #[true, false, true, false, true, false, false, false, true, false, true, false, true, true, false, false, true, false, true, false, true, false, false, false, true, false, true, false, true, false, false, false, false, false, false] rfl rfl (any_of HT_.out (by kernel_rfl)) (fun _ _ _ h => h) (Or.inl ⟨by rfl, ?_⟩) ?_ ?_
        rotate_left
        · intro w'
          go_simp
          with_reducible rfl
        rotate_left
        · exact pa
        refine pure_ (i := 29) (N := some 110) (v := ?_) (a' := ?_) #[true, false, true, false, true, false, false, false, true, false, true, false, true, true, false, false, true, false, true, false, true, false, false, false, true, false, true, false, true, true, false, false, false, false, false] rfl rfl (any_of HT_.out (by kernel_rfl)) (fun _ _ _ h => h) (Or.inl ⟨by rfl, ?_⟩) ?_ ?_
        rotate_left
        · intro w'
          go_simp
          with_reducible rfl
        rotate_left
        · exact pa
        refine take_ (i := 1) (N := some 82) (v := ?_) (a' := ?_) #[true, true, true, false, true, false, false, false, true, false, true, false, true, true, false, false, true, false, true, false, true, false, false, false, true, false, true, false, true, true, false, false, false, false, false] rfl rfl (take_ofW HT_.out HW_.out (by kernel_rfl)) (fun _ _ _ h => h) (Or.inl ⟨by rfl, ?_⟩) hHeld ?_ ?_
        rotate_left
        · rintro w' ⟨s0, s1, s2, s3⟩
          go_simp
          with_reducible rfl
        rotate_left
        · exact pa
        refine take_ (i := 3) (N := some 84) (v := ?_) (a' := ?_) #[true, true, true, true, true, false, false, false, true, false, true, false, true, true, false, false, true, false, true, false, true, false, false, false, true, false, true, false, true, true, false, false, false, false, false] rfl rfl (take_ofW HT_.out HW_.out (by kernel_rfl)) (fun _ _ _ h => h) (Or.inl ⟨by rfl, ?_⟩) hHeld ?_ ?_
        rotate_left
        · rintro w' ⟨s0, s1, s2, s3⟩
          go_simp
          with_reducible rfl
        rotate_left
        · exact pa
        refine take_ (i := 5) (N := some 86) (v := ?_) (a' := ?_) #[true, true, true, true, true, true, false, false, true, false, true, false, true, true, false, false, true, false, true, false, true, false, false, false, true, false, true, false, true, true, false, false, false, false, false] rfl rfl (take_ofW HT_.out HW_.out (by kernel_rfl)) (fun _ _ _ h => h) (Or.inl ⟨by rfl, ?_⟩) hHeld ?_ ?_
        rotate_left
        · rintro w' ⟨s0, s1, s2, s3⟩
          go_simp
          with_reducible rfl
        rotate_left
        · exact pa
        refine pure_ (i := 6) (N := some 87) (v := ?_) (a' := ?_) #[true, true, true, true, true, true, true, false, true, false, true, false, true, true, false, false, true, false, true, false, true, false, false, false, true, false, true, false, true, true, false, false, false, false, false] rfl rfl (any_of HT_.out (by kernel_rfl)) (fun _ _ _ h => h) (Or.inl ⟨by rfl, ?_⟩) ?_ ?_
        rotate_left
        · intro w'
          go_simp
          with_reducible rfl
        rotate_left
        · exact pa
        refine pure_ (i := 7) (N := some 88) (v := ?_) (a' := ?_) #[true, true, true, true, true, true, true, true, true, false, true, false, true, true, false, false, true, false, true, false, true, false, false, false, true, false, true, false, true, true, false, false, false, false, false] rfl rfl (any_of HT_.out (by kernel_rfl)) (fun _ _ _ h => h) (Or.inl ⟨by rfl, ?_⟩) ?_ ?_
        rotate_left
        · intro w'
          go_simp
          with_reducible rfl
        rotate_left
        · exact pa
        refine pure_ (i := 9) (N := some 90) (v := ?_) (a' := ?_) #[true, true, true, true, true, true, true, true, true, true, true, false, true, true, false, false, true, false, true, false, true, false, false, false, true, false, true, false, true, true, false, false, false, false, false] rfl rfl (any_of HT_.out (by kernel_rfl)) (fun _ _ _ h => h) (Or.inl ⟨by rfl, ?_⟩) ?_ ?_
        rotate_left
        · intro w'
          go_simp
          with_reducible rfl
        rotate_left
        · exact pa
        refine pure_ (i := 11) (N := some 92) (v := ?_) (a' := ?_) #[true, true, true, true, true, true, true, true, true, true, true, true, true, true, false, false, true, false, true, false, true, false, false, false, true, false, true, false, true, true, false, false, false, false, false] rfl rfl (any_of HT_.out (by kernel_rfl)) (fun _ _ _ h => h) (Or.inl ⟨by rfl, ?_⟩) ?_ ?_
        rotate_left
        · intro w'
          go_simp
          with_reducible rfl
        rotate_left
        · exact pa
        refine take_ (i := 17) (N := some 98) (v := ?_) (a' := ?_) #[true, true, true, true, true, true, true, true, true, true, true, true, true, true, false, false, true, true, true, false, true, false, false, false, true, false, true, false, true, true, false, false, false, false, false] rfl rfl (take_ofW HT_.out HW_.out (by kernel_rfl)) (fun _ _ _ h => h) (Or.inl ⟨by rfl, ?_⟩) hHeld ?_ ?_
        rotate_left
        · rintro w' ⟨s0, s1, s2, s3⟩
          go_simp
          with_reducible rfl
        rotate_left
        · exact pa
        refine take_ (i := 19) (N := some 100) (v := ?_) (a' := ?_) #[true, true, true, true, true, true, true, true, true, true, true, true, true, true, false, false, true, true, true, true, true, false, false, false, true, false, true, false, true, true, false, false, false, false, false] rfl rfl (take_ofW HT_.out HW_.out (by kernel_rfl)) (fun _ _ _ h => h) (Or.inl ⟨by rfl, ?_⟩) hHeld ?_ ?_
        rotate_left
        · rintro w' ⟨s0, s1, s2, s3⟩
          go_simp
          with_reducible rfl
        rotate_left
        · exact pa
        refine take_ (i := 21) (N := some 102) (v := ?_) (a' := ?_) #[true, true, true, true, true, true, true, true, true, true, true, true, true, true, false, false, true, true, true, true, true, true, false, false, true, false, true, false, true, true, false, false, false, false, false] rfl rfl (take_ofW HT_.out HW_.out (by kernel_rfl)) (fun _ _ _ h => h) (Or.inl ⟨by rfl, ?_⟩) hHeld ?_ ?_
        rotate_left
        · rintro w' ⟨s0, s1, s2, s3⟩
          go_simp
          with_reducible rfl
        rotate_left
        · exact pa
        refine pure_ (i := 22) (N := some 103) (v := ?_) (a' := ?_) #[true, true, true, true, true, true, true, true, true, true, true, true, true, true, false, false, true, true, true, true, true, true, true, false, true, false, true, false, true, true, false, false, false, false, false] rfl rfl (any_of HT_.out (by kernel_rfl)) (fun _ _ _ h => h) (Or.inl ⟨by rfl, ?_⟩) ?_ ?_
        rotate_left
        · intro w'
          go_simp
          with_reducible rfl
        rotate_left
        · exact pa
        refine pure_ (i := 23) (N := some 104) (v := ?_) (a' := ?_) #[true, true, true, true, true, true, true, true, true, true, true, true, true, true, false, false, true, true, true, true, true, true, true, true, true, false, true, false, true, true, false, false, false, false, false] rfl rfl (any_of HT_.out (by kernel_rfl)) (fun _ _ _ h => h) (Or.inl ⟨by rfl, ?_⟩) ?_ ?_
        rotate_left
        · intro w'
          go_simp
          with_reducible rfl
        rotate_left
        · exact pa
        refine pure_ (i := 25) (N := some 106) (v := ?_) (a' := ?_) #[true, true, true, true, true, true, true, true, true, true, true, true, true, true, false, false, true, true, true, true, true, true, true, true, true, true, true, false, true, true, false, false, false, false, false] rfl rfl (any_of HT_.out (by kernel_rfl)) (fun _ _ _ h => h) (Or.inl ⟨by rfl, ?_⟩) ?_ ?_
        rotate_left
        · intro w'
          go_simp
          with_reducible rfl
        rotate_left
        · exact pa
        refine pure_ (i := 27) (N := some 108) (v := ?_) (a' := ?_) #[true, true, true, true, true, true, true, true, true, true, true, true, true, true, false, false, true, true, true, true, true, true, true, true, true, true, true, true, true, true, false, false, false, false, false] rfl rfl (any_of HT_.out (by kernel_rfl)) (fun _ _ _ h => h) (Or.inl ⟨by rfl, ?_⟩) ?_ ?_
        rotate_left
        · intro w'
          go_simp
          with_reducible rfl
        rotate_left
        · exact pa
        refine one_ (i := 14) (N := some 95) #[true, true, true, true, true, true, true, true, true, true, true, true, true, true, true, false, true, true, true, true, true, true, true, true, true, true, true, true, true, true, false, false, false, false, false] rfl rfl (one_of HT_.out (by kernel_rfl)) (by decide) (fun K hK => ?_)
        refine goes_ Try.func60 (by kernel_rfl) rfl #[.int .i64 (wrap64 ((wrap64 ((wrap64 (2 * (wrap64 (a1_0 - a0_0)))) * (wrap64 (-(wrap64 ((wrap64 ((wrap64 (a2_0 - a0_0)) * (wrap64 (a3_1 - a2_1)))) - (wrap64 ((wrap64 (a2_1 - a0_1)) * (wrap64 (a3_0 - a2_0)))))))))) + (wrap64 (-(wrap64 ((wrap64 ((wrap64 (a1_0 - a0_0)) * (wrap64 (a3_1 - a2_1)))) - (wrap64 ((wrap64 (a1_1 - a0_1)) * (wrap64 (a3_0 - a2_0)))))))))), .int .i64 (wrap64 (2 * (wrap64 (-(wrap64 ((wrap64 ((wrap64 (a1_0 - a0_0)) * (wrap64 (a3_1 - a2_1)))) - (wrap64 ((wrap64 (a1_1 - a0_1)) * (wrap64 (a3_0 - a2_0))))))))))] (by rfl) rfl rfl (by (try simp only [List.map_toArray, List.map_cons, List.map_nil]); first | done | rfl | (simp only [List.length_drop, List.length_take]; rfl)) ?_
        with_reducible refine (impl_floorDiv.calls (wrap64 ((wrap64 ((wrap64 (2 * (wrap64 (a1_0 - a0_0)))) * (wrap64 (-(wrap64 ((wrap64 ((wrap64 (a2_0 - a0_0)) * (wrap64 (a3_1 - a2_1)))) - (wrap64 ((wrap64 (a2_1 - a0_1)) * (wrap64 (a3_0 - a2_0)))))))))) + (wrap64 (-(wrap64 ((wrap64 ((wrap64 (a1_0 - a0_0)) * (wrap64 (a3_1 - a2_1)))) - (wrap64 ((wrap64 (a1_1 - a0_1)) * (wrap64 (a3_0 - a2_0)))))))))) (wrap64 (2 * (wrap64 (-(wrap64 ((wrap64 ((wrap64 (a1_0 - a0_0)) * (wrap64 (a3_1 - a2_1)))) - (wrap64 ((wrap64 (a1_1 - a0_1)) * (wrap64 (a3_0 - a2_0)))))))))) t168 _ A10.out).mono ?_
        rintro e w' ⟨rfl, ⟨nd, rfl⟩⟩
        refine ⟨_, rfl, ?_⟩
        refine hK.out _ _ ⟨(blk_cell BK158.out 0).trans rfl, (blk_cell BK158.out 1).trans rfl, (blk_cell BK159.out 0).trans rfl, (blk_cell BK159.out 1).trans rfl⟩ (fun hHeld => ?_)
        clear hK K
        refine norm_ (a' := ?_) ?_ ?_
        rotate_left
        · show Act.put _ (some 95) _ = _
          simp only [Act.put, List.setIfInBounds_toArray, List.set_cons_zero, List.set_cons_succ, i64_w, i32_w]
          rfl
        refine pure_ (i := 15) (N := some 96) (v := ?_) (a' := ?_) #[true, true, true, true, true, true, true, true, true, true, true, true, true, true, true, true, true, true, true, true, true, true, true, true, true, true, true, true, true, true, false, false, false, false, false] rfl rfl (any_of HT_.out (by kernel_rfl)) (fun _ _ _ h => h) (Or.inl ⟨by rfl, ?_⟩) ?_ ?_
        rotate_left
        · intro w'
          go_simp
          with_reducible rfl
        rotate_left
        · exact pa
        refine one_ (i := 30) (N := some 111) #[true, true, true, true, true, true, true, true, true, true, true, true, true, true, true, true, true, true, true, true, true, true, true, true, true, true, true, true, true, true, true, false, false, false, false] rfl rfl (one_of HT_.out (by kernel_rfl)) (by decide) (fun K hK => ?_)
        refine goes_ Try.func60 (by kernel_rfl) rfl #[.int .i64 (wrap64 ((wrap64 ((wrap64 (2 * (wrap64 (a1_1 - a0_1)))) * (wrap64 (-(wrap64 ((wrap64 ((wrap64 (a2_0 - a0_0)) * (wrap64 (a3_1 - a2_1)))) - (wrap64 ((wrap64 (a2_1 - a0_1)) * (wrap64 (a3_0 - a2_0)))))))))) + (wrap64 (-(wrap64 ((wrap64 ((wrap64 (a1_0 - a0_0)) * (wrap64 (a3_1 - a2_1)))) - (wrap64 ((wrap64 (a1_1 - a0_1)) * (wrap64 (a3_0 - a2_0)))))))))), .int .i64 (wrap64 (2 * (wrap64 (-(wrap64 ((wrap64 ((wrap64 (a1_0 - a0_0)) * (wrap64 (a3_1 - a2_1)))) - (wrap64 ((wrap64 (a1_1 - a0_1)) * (wrap64 (a3_0 - a2_0))))))))))] (by rfl) rfl rfl (by (try simp only [List.map_toArray, List.map_cons, List.map_nil]); first | done | rfl | (simp only [List.length_drop, List.length_take]; rfl)) ?_
        with_reducible refine (impl_floorDiv.calls (wrap64 ((wrap64 ((wrap64 (2 * (wrap64 (a1_1 - a0_1)))) * (wrap64 (-(wrap64 ((wrap64 ((wrap64 (a2_0 - a0_0)) * (wrap64 (a3_1 - a2_1)))) - (wrap64 ((wrap64 (a2_1 - a0_1)) * (wrap64 (a3_0 - a2_0)))))))))) + (wrap64 (-(wrap64 ((wrap64 ((wrap64 (a1_0 - a0_0)) * (wrap64 (a3_1 - a2_1)))) - (wrap64 ((wrap64 (a1_1 - a0_1)) * (wrap64 (a3_0 - a2_0)))))))))) (wrap64 (2 * (wrap64 (-(wrap64 ((wrap64 ((wrap64 (a1_0 - a0_0)) * (wrap64 (a3_1 - a2_1)))) - (wrap64 ((wrap64 (a1_1 - a0_1)) * (wrap64 (a3_0 - a2_0)))))))))) t169 _ A11.out).mono ?_
        rintro e w' ⟨rfl, ⟨nd, rfl⟩⟩
        refine ⟨_, rfl, ?_⟩
        refine hK.out _ _ ⟨(blk_cell BK158.out 0).trans rfl, (blk_cell BK158.out 1).trans rfl, (blk_cell BK159.out 0).trans rfl, (blk_cell BK159.out 1).trans rfl⟩ (fun hHeld => ?_)
        clear hK K
        refine norm_ (a' := ?_) ?_ ?_
        rotate_left
        · show Act.put _ (some 111) _ = _
          simp only [Act.put, List.setIfInBounds_toArray, List.set_cons_zero, List.set_cons_succ, i64_w, i32_w]
          rfl
        refine pure_ (i := 31) (N := some 112) (v := ?_) (a' := ?_) #[true, true, true, true, true, true, true, true, true, true, true, true, true, true, true, true, true, true, true, true, true, true, true, true, true, true, true, true, true, true, true, true, false, false, false] rfl rfl (any_of HT_.out (by kernel_rfl)) (fun _ _ _ h => h) (Or.inl ⟨by rfl, ?_⟩) ?_ ?_
        rotate_left
        · intro w'
          go_simp
          with_reducible rfl
        rotate_left
        · exact pa
        refine pure_ (i := 32) (N := some 113) (v := ?_) (a' := ?_) #[true, true, true, true, true, true, true, true, true, true, true, true, true, true, true, true, true, true, true, true, true, true, true, true, true, true, true, true, true, true, true, true, true, false, false] rfl rfl (any_of HT_.out (by kernel_rfl)) (fun _ _ _ h => h) (Or.inl ⟨by rfl, ?_⟩) ?_ ?_
        rotate_left
        · intro w'
          go_simp
          with_reducible rfl
        rotate_left
        · exact pa
        refine one_ (i := 33) (N := none) #[true, true, true, true, true, true, true, true, true, true, true, true, true, true, true, true, true, true, true, true, true, true, true, true, true, true, true, true, true, true, true, true, true, true, false] rfl rfl (one_of HT_.out (by kernel_rfl)) (by decide) (fun K hK => ?_)
        have hs45 : w44.cell? ⟨gb162, 0, none⟩ = some (.int .i64 0) := (blk_cell BK162.out 0).trans rfl
        have hfs45 := blk_frozen BK162.out 0
        have hns45_0 := NB158_162.out
        have hns45_1 := NB159_162.out
        have hns45_2 := NB160_162.out
        have hns45_3 := NB161_162.out
        have hms45_0 := NB162_158.out
        have hms45_1 := NB162_159.out
        have hms45_2 := NB162_160.out
        have hms45_3 := NB162_161.out
        have hs46 : w44.cell? ⟨gb162, 1, none⟩ = some (.int .i64 0) := (blk_cell BK162.out 1).trans rfl
        have hfs46 := blk_frozen BK162.out 1
        have hns46_0 := NB158_162.out
        have hns46_1 := NB159_162.out
        have hns46_2 := NB160_162.out
        have hns46_3 := NB161_162.out
        have hms46_0 := NB162_158.out
        have hms46_1 := NB162_159.out
        have hms46_2 := NB162_160.out
        have hms46_3 := NB162_161.out
        refine skip_ (w1 := ?_) (by rfl) rfl ?_ ?_
        rotate_left
        · go_simp
          rfl
        refine hK.out _ _ ⟨((cell_far (p := ⟨gb162, _, none⟩) NB158_162.out _).trans (((cell_far (p := ⟨gb162, _, none⟩) NB158_162.out _).trans (hHeld.1)))), ((cell_far (p := ⟨gb162, _, none⟩) NB158_162.out _).trans (((cell_far (p := ⟨gb162, _, none⟩) NB158_162.out _).trans (hHeld.2.1)))), ((cell_far (p := ⟨gb162, _, none⟩) NB159_162.out _).trans (((cell_far (p := ⟨gb162, _, none⟩) NB159_162.out _).trans (hHeld.2.2.1)))), ((cell_far (p := ⟨gb162, _, none⟩) NB159_162.out _).trans (((cell_far (p := ⟨gb162, _, none⟩) NB159_162.out _).trans (hHeld.2.2.2))))⟩ (fun hHeld => ?_)
        clear hK K
        refine pure_ (i := 34) (N := some 9) (v := ?_) (a' := ?_) #[true, true, true, true, true, true, true, true, true, true, true, true, true, true, true, true, true, true, true, true, true, true, true, true, true, true, true, true, true, true, true, true, true, true, true] rfl rfl (any_of HT_.out (by kernel_rfl)) (fun _ _ _ h => h) (Or.inl ⟨by rfl, ?_⟩) ?_ ?_
        rotate_left
        · intro w'
          go_simp
          with_reducible rfl
        rotate_left
        · exact pa
        refine done_ (done_of HT_.out (by kernel_rfl)) ?_
        try go_wp2
        refine bodyPost_ret (results_ct rfl _ _ gb162 25 #[.int .i64 (wrap64 (a0_0 + t168)), .int .i64 (wrap64 (a0_1 + t169))] (0, 0) _ rfl (by (with_reducible repeat (first | refine blk_drewN ?_ _ | refine blk_drew ?_ | refine blk_alloc ?_ _)); refine blk_put (cs := #[.int .i64 (wrap64 (a0_0 + t168)), .int .i64 0]) ?_ 1 _ rfl; (with_reducible repeat (first | refine blk_drewN ?_ _ | refine blk_drew ?_ | refine blk_alloc ?_ _)); refine blk_put (cs := #[.int .i64 0, .int .i64 0]) ?_ 0 _ rfl; (with_reducible repeat (first | refine blk_drewN ?_ _ | refine blk_drew ?_ | refine blk_alloc ?_ _)); exact BK162.out) Try.underlying25 rfl (by kernel_rfl)) rfl ?_
        exact ⟨by first | rfl | (simp [errW_none, errW_some] <;> rfl) | (simp [*, errW_none, errW_some] <;> rfl), by repeat (first | (with_reducible first | exact HB.out | apply below_alloc | apply pw_below_drewN | apply below_drew1 | refine below_set ?_ GE158.out | refine below_set ?_ GE159.out | refine below_set ?_ GE160.out | refine below_set ?_ GE161.out | refine below_set ?_ GE162.out) | exact HB.out)⟩
      · rw [if_neg c9] at H
        have c9b0 : decide ((wrap64 ((wrap64 ((wrap64 (a1_0 - a0_0)) * (wrap64 (a3_1 - a2_1)))) - (wrap64 ((wrap64 (a1_1 - a0_1)) * (wrap64 (a3_0 - a2_0)))))) < 0) = false := decide_eq_false c9
        clear c9
        replace H := Option.bind_eq_some_iff.mp H
        obtain ⟨t170, A470, H⟩ := H
        replace H : ((impl_floorDiv.f (wrap64 ((wrap64 ((wrap64 (2 * (wrap64 (a1_1 - a0_1)))) * (wrap64 ((wrap64 ((wrap64 (a2_0 - a0_0)) * (wrap64 (a3_1 - a2_1)))) - (wrap64 ((wrap64 (a2_1 - a0_1)) * (wrap64 (a3_0 - a2_0)))))))) + (wrap64 ((wrap64 ((wrap64 (a1_0 - a0_0)) * (wrap64 (a3_1 - a2_1)))) - (wrap64 ((wrap64 (a1_1 - a0_1)) * (wrap64 (a3_0 - a2_0)))))))) (wrap64 (2 * (wrap64 ((wrap64 ((wrap64 (a1_0 - a0_0)) * (wrap64 (a3_1 - a2_1)))) - (wrap64 ((wrap64 (a1_1 - a0_1)) * (wrap64 (a3_0 - a2_0))))))))).bind fun t171 => (some (wrap64 (a0_0 + t170), wrap64 (a0_1 + t171), 0))) = some (r1, r2, r3) := H
        have A47 := Aside0.mk A470
        clear A470
        replace H := Option.bind_eq_some_iff.mp H
        obtain ⟨t171, A480, H⟩ := H
        replace H : (some (wrap64 (a0_0 + t170), wrap64 (a0_1 + t171), 0)) = some (r1, r2, r3) := H
        have A48 := Aside0.mk A480
        clear A480
        simp only [Option.some.injEq, Prod.mk.injEq] at H
        obtain ⟨rfl, rfl, rfl⟩ := H
        go_enter Try.func27, Try.ntmps27
        try go_wp2_with (first | ((with_reducible refine gate_dst (N := 4) rfl ?_); refine box_event ?hg (N := 4) ?hd (cs := #[.int .i64 a0_0, .int .i64 a0_1]) (t := 25) ?hr ?_; (case hd => rfl); (case hg => rfl); (case hr => first | (go_simp; done) | (go_simp; rfl)); intro gb158 hg w49 hbox hb; have n0_ := sb hb; have n1_ := Aside0.mk (hbox); have n2_ := zb hg; have n3_ := zb hg; clear HB; have HB := n0_; have BK158 := n1_; have GW158 := n2_; have GE158 := n3_; clear n0_ n1_ n2_ n3_; clear hb hbox hg) | ((with_reducible refine gate_dst (N := 5) rfl ?_); refine box_event ?hg (N := 5) ?hd (cs := #[.int .i64 a1_0, .int .i64 a1_1]) (t := 25) ?hr ?_; (case hd => rfl); (case hg => rfl); (case hr => first | (go_simp; done) | (go_simp; rfl)); intro gb159 hg w50 hbox hb; have n0_ := kb BK158 hb; have n1_ := sb hb; have n2_ := Aside0.mk (hbox); have n3_ := zb hg; have n4_ := zb hg; have n5_ := nl BK158 hg; have n6_ := ng BK158 hg; clear BK158; clear HB; have BK158 := n0_; have HB := n1_; have BK159 := n2_; have GW159 := n3_; have GE159 := n4_; have NB158_159 := n5_; have NB159_158 := n6_; clear n0_ n1_ n2_ n3_ n4_ n5_ n6_; clear hb hbox hg) | ((with_reducible refine gate_dst (N := 6) rfl ?_); refine box_event ?hg (N := 6) ?hd (cs := #[.int .i64 a2_0, .int .i64 a2_1]) (t := 25) ?hr ?_; (case hd => rfl); (case hg => rfl); (case hr => first | (go_simp; done) | (go_simp; rfl)); intro gb160 hg w51 hbox hb; have n0_ := kb BK158 hb; have n1_ := kb BK159 hb; have n2_ := sb hb; have n3_ := Aside0.mk (hbox); have n4_ := zb hg; have n5_ := zb hg; have n6_ := nl BK158 hg; have n7_ := ng BK158 hg; have n8_ := nl BK159 hg; have n9_ := ng BK159 hg; clear BK158; clear BK159; clear HB; have BK158 := n0_; have BK159 := n1_; have HB := n2_; have BK160 := n3_; have GW160 := n4_; have GE160 := n5_; have NB158_160 := n6_; have NB160_158 := n7_; have NB159_160 := n8_; have NB160_159 := n9_; clear n0_ n1_ n2_ n3_ n4_ n5_ n6_ n7_ n8_ n9_; clear hb hbox hg) | ((with_reducible refine gate_dst (N := 7) rfl ?_); refine box_event ?hg (N := 7) ?hd (cs := #[.int .i64 a3_0, .int .i64 a3_1]) (t := 25) ?hr ?_; (case hd => rfl); (case hg => rfl); (case hr => first | (go_simp; done) | (go_simp; rfl)); intro gb161 hg w52 hbox hb; have n0_ := kb BK158 hb; have n1_ := kb BK159 hb; have n2_ := kb BK160 hb; have n3_ := sb hb; have n4_ := Aside0.mk (hbox); have n5_ := zb hg; have n6_ := zb hg; have n7_ := nl BK158 hg; have n8_ := ng BK158 hg; have n9_ := nl BK159 hg; have n10_ := ng BK159 hg; have n11_ := nl BK160 hg; have n12_ := ng BK160 hg; clear BK158; clear BK159; clear BK160; clear HB; have BK158 := n0_; have BK159 := n1_; have BK160 := n2_; have HB := n3_; have BK161 := n4_; have GW161 := n5_; have GE161 := n6_; have NB158_161 := n7_; have NB161_158 := n8_; have NB159_161 := n9_; have NB161_159 := n10_; have NB160_161 := n11_; have NB161_160 := n12_; clear n0_ n1_ n2_ n3_ n4_ n5_ n6_ n7_ n8_ n9_ n10_ n11_ n12_; clear hb hbox hg) | ((with_reducible refine gate_dst (N := 8) rfl ?_); refine box_event ?hg (N := 8) ?hd (cs := #[.int .i64 0, .int .i64 0]) (t := 25) ?hr ?_; (case hd => rfl); (case hg => rfl); (case hr => first | (go_simp; done) | (go_simp; rfl)); intro gb162 hg w53 hbox hb; have n0_ := kb BK158 hb; have n1_ := kb BK159 hb; have n2_ := kb BK160 hb; have n3_ := kb BK161 hb; have n4_ := sb hb; have n5_ := Aside0.mk (hbox); have n6_ := zb hg; have n7_ := zb hg; have n8_ := nl BK158 hg; have n9_ := ng BK158 hg; have n10_ := nl BK159 hg; have n11_ := ng BK159 hg; have n12_ := nl BK160 hg; have n13_ := ng BK160 hg; have n14_ := nl BK161 hg; have n15_ := ng BK161 hg; clear BK158; clear BK159; clear BK160; clear BK161; clear HB; have BK158 := n0_; have BK159 := n1_; have BK160 := n2_; have BK161 := n3_; have HB := n4_; have BK162 := n5_; have GW162 := n6_; have GE162 := n7_; have NB158_162 := n8_; have NB162_158 := n9_; have NB159_162 := n10_; have NB162_159 := n11_; have NB160_162 := n12_; have NB162_160 := n13_; have NB161_162 := n14_; have NB162_161 := n15_; clear n0_ n1_ n2_ n3_ n4_ n5_ n6_ n7_ n8_ n9_ n10_ n11_ n12_ n13_ n14_ n15_; clear hb hbox hg; have hnb54 := NB158_159.out; have hnc54 := NB159_158.out; have hnb55 := NB158_160.out; have hnc55 := NB160_158.out; have hnb56 := NB158_161.out; have hnc56 := NB161_158.out; have hnb57 := NB158_162.out; have hnc57 := NB162_158.out; have hcz58_0 := ck BK158 0; have hcz58_1 := ck BK158 1; have hfz58_0 := blk_frozen BK158.out 0; have hfz58_1 := blk_frozen BK158.out 1; have hnb59 := NB159_160.out; have hnc59 := NB160_159.out; have hnb60 := NB159_161.out; have hnc60 := NB161_159.out; have hnb61 := NB159_162.out; have hnc61 := NB162_159.out; have hcz62_0 := ck BK159 0; have hcz62_1 := ck BK159 1; have hfz62_0 := blk_frozen BK159.out 0; have hfz62_1 := blk_frozen BK159.out 1; have hnb63 := NB160_161.out; have hnc63 := NB161_160.out; have hnb64 := NB160_162.out; have hnc64 := NB162_160.out; have hcz65_0 := ck BK160 0; have hcz65_1 := ck BK160 1; have hfz65_0 := blk_frozen BK160.out 0; have hfz65_1 := blk_frozen BK160.out 1; have hnb66 := NB161_162.out; have hnc66 := NB162_161.out; have hcz67_0 := ck BK161 0; have hcz67_1 := ck BK161 1; have hfz67_0 := blk_frozen BK161.out 0; have hfz67_1 := blk_frozen BK161.out 1) | ((with_reducible refine gate_dst (N := 17) rfl ?_); refine Kd.R_lit k25 _ 25 ?hg (N := 17) ?hd (xs := ([(⟨a0_0, a0_1⟩ : S25), (⟨a1_0, a1_1⟩ : S25), (⟨a2_0, a2_1⟩ : S25), (⟨a3_0, a3_1⟩ : S25)] : List (S25))) (inner := [.int .i64 a0_0, .int .i64 a0_1, .int .i64 a1_0, .int .i64 a1_1, .int .i64 a2_0, .int .i64 a2_1, .int .i64 a3_0, .int .i64 a3_1]) (ok := fun _ => True) (okp := fun _ => True) ?hr ?hp (fun _ hk => hk) trivial (Below.refl _ _) (Nat.le_refl _) (by simp) ?_; (case hd => rfl); (case hg => rfl); (case hr => first | (go_simp; done) | (go_simp; rfl)); (case hp => exact (Reps.c2 (show Kd.M k25 _ _ _ (⟨a0_0, a0_1⟩ : S25) [.int .i64 a0_0, .int .i64 a0_1] from (k25_mkM _ _ _ (⟨a0_0, a0_1⟩ : S25) )) (Reps.c2 (show Kd.M k25 _ _ _ (⟨a1_0, a1_1⟩ : S25) [.int .i64 a1_0, .int .i64 a1_1] from (k25_mkM _ _ _ (⟨a1_0, a1_1⟩ : S25) )) (Reps.c2 (show Kd.M k25 _ _ _ (⟨a2_0, a2_1⟩ : S25) [.int .i64 a2_0, .int .i64 a2_1] from (k25_mkM _ _ _ (⟨a2_0, a2_1⟩ : S25) )) (Reps.c2 (show Kd.M k25 _ _ _ (⟨a3_0, a3_1⟩ : S25) [.int .i64 a3_0, .int .i64 a3_1] from (k25_mkM _ _ _ (⟨a3_0, a3_1⟩ : S25) )) (Reps.none _ _)))))); intro v164 w68 ho69 hb hg_ hnew_; clear hg_ hnew_; (first | rw [← Ny163.out] at ho69 | (simp only [Int.reduceToNat] at ho69; rw [← Ny163.out] at ho69)); have n0_ := Aside0.mk (Kd.R_lower (Kd.R_newB (Kd.R_newB (Kd.R_newB (Kd.R_newB (Kd.R_newB ho69 (g := gb158) (o := .cells #[.int .i64 a0_0, .int .i64 a0_1] 25 (0, 0)) (bk BK158)) (g := gb159) (o := .cells #[.int .i64 a1_0, .int .i64 a1_1] 25 (0, 0)) (bk BK159)) (g := gb160) (o := .cells #[.int .i64 a2_0, .int .i64 a2_1] 25 (0, 0)) (bk BK160)) (g := gb161) (o := .cells #[.int .i64 a3_0, .int .i64 a3_1] 25 (0, 0)) (bk BK161)) (g := gb162) (o := .cells #[.int .i64 0, .int .i64 0] 25 (0, 0)) (bk BK162)) (below_size ib)); have n1_ := kb BK158 hb; have n2_ := kb BK159 hb; have n3_ := kb BK160 hb; have n4_ := kb BK161 hb; have n5_ := kb BK162 hb; have n6_ := sb hb; clear BK158; clear BK159; clear BK160; clear BK161; clear BK162; clear HB; have HO165 := n0_; have BK158 := n1_; have BK159 := n2_; have BK160 := n3_; have BK161 := n4_; have BK162 := n5_; have HB := n6_; clear n0_ n1_ n2_ n3_ n4_ n5_ n6_; clear hb ho69; obtain ⟨Ao70, co70, eo70⟩ := Kd.R_slice HO165.out; subst eo70) | ((with_reducible refine gate_callee (f := 46) rfl ?_); refine goesL_ (some 18) rfl rfl Try.func46 (by kernel_rfl) rfl #[.slice Ao70 y163.length co70] rfl (by (try simp only [List.map_toArray, List.map_cons, List.map_nil]); first | done | rfl | (simp only [List.length_drop, List.length_take]; rfl)) ?_; (with_reducible refine (impl_validPoints.calls k _ _ y163 true _ ?side1 ?side2 A5.out).mono ?_); (case side1 => repeat (first | exact (Kd.R_reads' HO165.out).2.2 | (with_reducible refine Kd.C_alloc ?_ _) | (with_reducible refine Kd.C_drewN ?_ _) | (with_reducible refine Kd.C_drew ?_))); (case side2 => exact (Kd.R_reads' HO165.out).2.1); rintro e w71 ⟨rfl, hb⟩; refine ⟨_, rfl, ?_⟩; have n0_ := Aside0.mk (Kd.R_below (by (with_reducible repeat (first | apply Kd.R_alloc | apply Kd.R_drewN | apply Kd.R_drew)); exact HO165.out) hb); have n1_ := kb BK158 hb; have n2_ := kb BK159 hb; have n3_ := kb BK160 hb; have n4_ := kb BK161 hb; have n5_ := kb BK162 hb; have n6_ := sb hb; clear HO165; clear BK158; clear BK159; clear BK160; clear BK161; clear BK162; clear HB; have HO165 := n0_; have BK158 := n1_; have BK159 := n2_; have BK160 := n3_; have BK161 := n4_; have BK162 := n5_; have HB := n6_; clear n0_ n1_ n2_ n3_ n4_ n5_ n6_; (try clear hb); (try clear hb2); (try clear hk); (try clear hi); have hcz72_0 := ck BK158 0; have hcz72_1 := ck BK158 1; have hfz72_0 := blk_frozen BK158.out 0; have hfz72_1 := blk_frozen BK158.out 1; have hcz73_0 := ck BK159 0; have hcz73_1 := ck BK159 1; have hfz73_0 := blk_frozen BK159.out 0; have hfz73_1 := blk_frozen BK159.out 1; have hcz74_0 := ck BK160 0; have hcz74_1 := ck BK160 1; have hfz74_0 := blk_frozen BK160.out 0; have hfz74_1 := blk_frozen BK160.out 1; have hcz75_0 := ck BK161 0; have hcz75_1 := ck BK161 1; have hfz75_0 := blk_frozen BK161.out 0; have hfz75_1 := blk_frozen BK161.out 1) | ((with_reducible refine gate_callee (f := 59) rfl ?_); refine goesL_ (some 26) rfl rfl Try.func59 (by kernel_rfl) rfl #[.agg #[.int .i64 a0_0, .int .i64 a0_1], .agg #[.int .i64 a1_0, .int .i64 a1_1], .agg #[.int .i64 a2_0, .int .i64 a2_1], .agg #[.int .i64 a3_0, .int .i64 a3_1]] rfl (by (try simp only [List.map_toArray, List.map_cons, List.map_nil]); first | done | rfl | (simp only [List.length_drop, List.length_take]; rfl)) ?_; (with_reducible refine (impl_crossing.calls a0_0 a0_1 a1_0 a1_1 a2_0 a2_1 a3_0 a3_1 true _ A7.out).mono ?_); rintro e w76 ⟨rfl, hb⟩; refine ⟨_, rfl, ?_⟩; have n0_ := Aside0.mk (Kd.R_below (by (with_reducible repeat (first | apply Kd.R_alloc | apply Kd.R_drewN | apply Kd.R_drew)); exact HO165.out) hb); have n1_ := kb BK158 hb; have n2_ := kb BK159 hb; have n3_ := kb BK160 hb; have n4_ := kb BK161 hb; have n5_ := kb BK162 hb; have n6_ := sb hb; clear HO165; clear BK158; clear BK159; clear BK160; clear BK161; clear BK162; clear HB; have HO165 := n0_; have BK158 := n1_; have BK159 := n2_; have BK160 := n3_; have BK161 := n4_; have BK162 := n5_; have HB := n6_; clear n0_ n1_ n2_ n3_ n4_ n5_ n6_; (try clear hb); (try clear hb2); (try clear hk); (try clear hi); have hcz77_0 := ck BK159 0; have hcz77_1 := ck BK159 1; have hfz77_0 := blk_frozen BK159.out 0; have hfz77_1 := blk_frozen BK159.out 1; have hcz78_0 := ck BK158 0; have hcz78_1 := ck BK158 1; have hfz78_0 := blk_frozen BK158.out 0; have hfz78_1 := blk_frozen BK158.out 1; have hcz79_0 := ck BK161 0; have hcz79_1 := ck BK161 1; have hfz79_0 := blk_frozen BK161.out 0; have hfz79_1 := blk_frozen BK161.out 1; have hcz80_0 := ck BK160 0; have hcz80_1 := ck BK160 1; have hfz80_0 := blk_frozen BK160.out 0; have hfz80_1 := blk_frozen BK160.out 1))
        have n0_ := Aside0.mk (Kd.R_drew HO165.out)
        have n1_ := Aside0.mk (blk_drew BK158.out)
        have n2_ := Aside0.mk (blk_drew BK159.out)
        have n3_ := Aside0.mk (blk_drew BK160.out)
        have n4_ := Aside0.mk (blk_drew BK161.out)
        have n5_ := Aside0.mk (blk_drew BK162.out)
        have n6_ := Aside0.mk (below_drew1 HB.out)
        clear HO165
        clear BK158
        clear BK159
        clear BK160
        clear BK161
        clear BK162
        clear HB
        have HO165 := n0_
        have BK158 := n1_
        have BK159 := n2_
        have BK160 := n3_
        have BK161 := n4_
        have BK162 := n5_
        have HB := n6_
        clear n0_ n1_ n2_ n3_ n4_ n5_ n6_
        refine start_ (n := 35) (S := fun w' => w'.cell? ⟨gb158, 0, none⟩ = some (.int .i64 a0_0) ∧ w'.cell? ⟨gb158, 1, none⟩ = some (.int .i64 a0_1) ∧ w'.cell? ⟨gb159, 0, none⟩ = some (.int .i64 a1_0) ∧ w'.cell? ⟨gb159, 1, none⟩ = some (.int .i64 a1_1)) (ds := []) #[false, false, false, false, false, false, false, false, false, false, false, false, false, false, false, false, false, false, false, false, false, false, false, false, false, false, false, false, false, false, false, false, false, false, false] (by kernel_rfl) rfl rfl ⟨(blk_cell BK158.out 0).trans rfl, (blk_cell BK158.out 1).trans rfl, (blk_cell BK159.out 0).trans rfl, (blk_cell BK159.out 1).trans rfl⟩ (fun hHeld => ?_); refine with_tabW impl_CrossPoint.tab9 impl_CrossPoint.bits9 (fun HT_ HW_ => ?_)
        generalize w76.drew = w81 at HO165 BK158 BK159 BK160 BK161 BK162 HB hHeld ⊢
        refine pure_ (i := 0) (N := some 81) (v := ?_) (a' := ?_) #[true, false, false, false, false, false, false, false, false, false, false, false, false, false, false, false, false, false, false, false, false, false, false, false, false, false, false, false, false, false, false, false, false, false, false] rfl rfl (any_of HT_.out (by kernel_rfl)) (fun _ _ _ h => h) (Or.inl ⟨by rfl, ?_⟩) ?_ ?_
        rotate_left
        · intro w'
          go_simp
          with_reducible rfl
        rotate_left
        · exact pa
        refine pure_ (i := 2) (N := some 83) (v := ?_) (a' := ?_) #[true, false, true, false, false, false, false, false, false, false, false, false, false, false, false, false, false, false, false, false, false, false, false, false, false, false, false, false, false, false, false, false, false, false, false] rfl rfl (any_of HT_.out (by kernel_rfl)) (fun _ _ _ h => h) (Or.inl ⟨by rfl, ?_⟩) ?_ ?_
        rotate_left
        · intro w'
          go_simp
          with_reducible rfl
        rotate_left
        · exact pa
        refine pure_ (i := 4) (N := some 85) (v := ?_) (a' := ?_) #[true, false, true, false, true, false, false, false, false, false, false, false, false, false, false, false, false, false, false, false, false, false, false, false, false, false, false, false, false, false, false, false, false, false, false] rfl rfl (any_of HT_.out (by kernel_rfl)) (fun _ _ _ h => h) (Or.inl ⟨by rfl, ?_⟩) ?_ ?_
        rotate_left
        · intro w'
          go_simp
          with_reducible rfl
        rotate_left
        · exact pa
        refine pure_ (i := 8) (N := some 89) (v := ?_) (a' := ?_) #[true, false, true, false, true, false, false, false, true, false, false, false, false, false, false, false, false, false, false, false, false, false, false, false, false, false, false, false, false, false, false, false, false, false, false] rfl rfl (any_of HT_.out (by kernel_rfl)) (fun _ _ _ h => h) (Or.inl ⟨by rfl, ?_⟩) ?_ ?_
        rotate_left
        · intro w'
          go_simp
          with_reducible rfl
        rotate_left
        · exact pa
        refine pure_ (i := 10) (N := some 91) (v := ?_) (a' := ?_) #[true, false, true, false, true, false, false, false, true, false, true, false, false, false, false, false, false, false, false, false, false, false, false, false, false, false, false, false, false, false, false, false, false, false, false] rfl rfl (any_of HT_.out (by kernel_rfl)) (fun _ _ _ h => h) (Or.inl ⟨by rfl, ?_⟩) ?_ ?_
        rotate_left
        · intro w'
          go_simp
          with_reducible rfl
        rotate_left
        · exact pa
        refine pure_ (i := 12) (N := some 93) (v := ?_) (a' := ?_) #[true, false, true, false, true, false, false, false, true, false, true, false, true, false, false, false, false, false, false, false, false, false, false, false, false, false, false, false, false, false, false, false, false, false, false] rfl rfl (any_of HT_.out (by kernel_rfl)) (fun _ _ _ h => h) (Or.inl ⟨by rfl, ?_⟩) ?_ ?_
        rotate_left
        · intro w'
          go_simp
          with_reducible rfl
        rotate_left
        · exact pa
        refine pure_ (i := 13) (N := some 94) (v := ?_) (a' := ?_) #[true, false, true, false, true, false, false, false, true, false, true, false, true, true, false, false, false, false, false, false, false, false, false, false, false, false, false, false, false, false, false, false, false, false, false] rfl rfl (any_of HT_.out (by kernel_rfl)) (fun _ _ _ h => h) (Or.inl ⟨by rfl, ?_⟩) ?_ ?_
        rotate_left
        · intro w'
          go_simp
          with_reducible rfl
        rotate_left
        · exact pa
        refine pure_ (i := 16) (N := some 97) (v := ?_) (a' := ?_) #[true, false, true, false, true, false, false, false, true, false, true, false, true, true, false, false, true, false, false, false, false, false, false, false, false, false, false, false, false, false, false, false, false, false, false] rfl rfl (any_of HT_.out (by kernel_rfl)) (fun _ _ _ h => h) (Or.inl ⟨by rfl, ?_⟩) ?_ ?_
        rotate_left
        · intro w'
          go_simp
          with_reducible rfl
        rotate_left
        · exact pa
        refine pure_ (i := 18) (N := some 99) (v := ?_) (a' := ?_) #[true, false, true, false, true, false, false, false, true, false, true, false, true, true, false, false, true, false, true, false, false, false, false, false, false, false, false, false, false, false, false, false, false, false, false] rfl rfl (any_of HT_.out (by kernel_rfl)) (fun _ _ _ h => h) (Or.inl ⟨by rfl, ?_⟩) ?_ ?_
        rotate_left
        · intro w'
          go_simp
          with_reducible rfl
        rotate_left
        · exact pa
        refine pure_ (i := 20) (N := some 101) (v := ?_) (a' := ?_) #[true, false, true, false, true, false, false, false, true, false, true, false, true, true, false, false, true, false, true, false, true, false, false, false, false, false, false, false, false, false, false, false, false, false, false] rfl rfl (any_of HT_.out (by kernel_rfl)) (fun _ _ _ h => h) (Or.inl ⟨by rfl, ?_⟩) ?_ ?_
        rotate_left
        · intro w'
          go_simp
          with_reducible rfl
        rotate_left
        · exact pa
        refine pure_ (i := 24) (N := some 105) (v := ?_) (a' := ?_) #[true, false, true, false, true, false, false, false, true, false, true, false, true, true, false, false, true, false, true, false, true, false, false, false, true, false, false, false, false, false, false, false, false, false, false] rfl rfl (any_of HT_.out (by kernel_rfl)) (fun _ _ _ h => h) (Or.inl ⟨by rfl, ?_⟩) ?_ ?_
        rotate_left
        · intro w'
          go_simp
          with_reducible rfl
        rotate_left
        · exact pa
        refine pure_ (i := 26) (N := some 107) (v := ?_) (a' := ?_) #[true, false, true, false, true, false, false, false, true, false, true, false, true, true, false, false, true, false, true, false, true, false, false, false, true, false, true, false, false, false, false, false, false, false, false] rfl rfl (any_of HT_.out (by kernel_rfl)) (fun _ _ _ h => h) (Or.inl ⟨by rfl, ?_⟩) ?_ ?_
        rotate_left
        · intro w'
          go_simp
          with_reducible rfl
        rotate_left
        · exact pa
        refine pure_ (i := 28) (N := some 109) (v := ?_) (a' := ?_) #[true, false, true, false, true, false, false, false, true, false, true, false, true, true, false, false, true, false, true, false, true, false, false, false, true, false, true, false, true, false, false, false, false, false, false] rfl rfl (any_of HT_.out (by kernel_rfl)) (fun _ _ _ h => h) (Or.inl ⟨by rfl, ?_⟩) ?_ ?_
        rotate_left
        · intro w'
          go_simp
          with_reducible rfl
        rotate_left
        · exact pa
        refine pure_ (i := 29) (N := some 110) (v := ?_) (a' := ?_) #[true, false, true, false, true, false, false, false, true, false, true, false, true, true, false, false, true, false, true, false, true, false, false, false, true, false, true, false, true, true, false, false, false, false, false] rfl rfl (any_of HT_.out (by kernel_rfl)) (fun _ _ _ h => h) (Or.inl ⟨by rfl, ?_⟩) ?_ ?_
        rotate_left
        · intro w'
          go_simp
          with_reducible rfl
        rotate_left
        · exact pa
        refine take_ (i := 1) (N := some 82) (v := ?_) (a' := ?_) #[true, true, true, false, true, false, false, false, true, false, true, false, true, true, false, false, true, false, true, false, true, false, false, false, true, false, true, false, true, true, false, false, false, false, false] rfl rfl (take_ofW HT_.out HW_.out (by kernel_rfl)) (fun _ _ _ h => h) (Or.inl ⟨by rfl, ?_⟩) hHeld ?_ ?_
        rotate_left
        · rintro w' ⟨s0, s1, s2, s3⟩
          go_simp
          with_reducible rfl
        rotate_left
        · exact pa
        refine take_ (i := 3) (N := some 84) (v := ?_) (a' := ?_) #[true, true, true, true, true, false, false, false, true, false, true, false, true, true, false, false, true, false, true, false, true, false, false, false, true, false, true, false, true, true, false, false, false, false, false] rfl rfl (take_ofW HT_.out HW_.out (by kernel_rfl)) (fun _ _ _ h => h) (Or.inl ⟨by rfl, ?_⟩) hHeld ?_ ?_
        rotate_left
        · rintro w' ⟨s0, s1, s2, s3⟩
          go_simp
          with_reducible rfl
        rotate_left
        · exact pa
        refine take_ (i := 5) (N := some 86) (v := ?_) (a' := ?_) #[true, true, true, true, true, true, false, false, true, false, true, false, true, true, false, false, true, false, true, false, true, false, false, false, true, false, true, false, true, true, false, false, false, false, false] rfl rfl (take_ofW HT_.out HW_.out (by kernel_rfl)) (fun _ _ _ h => h) (Or.inl ⟨by rfl, ?_⟩) hHeld ?_ ?_
        rotate_left
        · rintro w' ⟨s0, s1, s2, s3⟩
          go_simp
          with_reducible rfl
        rotate_left
        · exact pa
        refine pure_ (i := 6) (N := some 87) (v := ?_) (a' := ?_) #[true, true, true, true, true, true, true, false, true, false, true, false, true, true, false, false, true, false, true, false, true, false, false, false, true, false, true, false, true, true, false, false, false, false, false] rfl rfl (any_of HT_.out (by kernel_rfl)) (fun _ _ _ h => h) (Or.inl ⟨by rfl, ?_⟩) ?_ ?_
        rotate_left
        · intro w'
          go_simp
          with_reducible rfl
        rotate_left
        · exact pa
        refine pure_ (i := 7) (N := some 88) (v := ?_) (a' := ?_) #[true, true, true, true, true, true, true, true, true, false, true, false, true, true, false, false, true, false, true, false, true, false, false, false, true, false, true, false, true, true, false, false, false, false, false] rfl rfl (any_of HT_.out (by kernel_rfl)) (fun _ _ _ h => h) (Or.inl ⟨by rfl, ?_⟩) ?_ ?_
        rotate_left
        · intro w'
          go_simp
          with_reducible rfl
        rotate_left
        · exact pa
        refine pure_ (i := 9) (N := some 90) (v := ?_) (a' := ?_) #[true, true, true, true, true, true, true, true, true, true, true, false, true, true, false, false, true, false, true, false, true, false, false, false, true, false, true, false, true, true, false, false, false, false, false] rfl rfl (any_of HT_.out (by kernel_rfl)) (fun _ _ _ h => h) (Or.inl ⟨by rfl, ?_⟩) ?_ ?_
        rotate_left
        · intro w'
          go_simp
          with_reducible rfl
        rotate_left
        · exact pa
        refine pure_ (i := 11) (N := some 92) (v := ?_) (a' := ?_) #[true, true, true, true, true, true, true, true, true, true, true, true, true, true, false, false, true, false, true, false, true, false, false, false, true, false, true, false, true, true, false, false, false, false, false] rfl rfl (any_of HT_.out (by kernel_rfl)) (fun _ _ _ h => h) (Or.inl ⟨by rfl, ?_⟩) ?_ ?_
        rotate_left
        · intro w'
          go_simp
          with_reducible rfl
        rotate_left
        · exact pa
        refine take_ (i := 17) (N := some 98) (v := ?_) (a' := ?_) #[true, true, true, true, true, true, true, true, true, true, true, true, true, true, false, false, true, true, true, false, true, false, false, false, true, false, true, false, true, true, false, false, false, false, false] rfl rfl (take_ofW HT_.out HW_.out (by kernel_rfl)) (fun _ _ _ h => h) (Or.inl ⟨by rfl, ?_⟩) hHeld ?_ ?_
        rotate_left
        · rintro w' ⟨s0, s1, s2, s3⟩
          go_simp
          with_reducible rfl
        rotate_left
        · exact pa
        refine take_ (i := 19) (N := some 100) (v := ?_) (a' := ?_) #[true, true, true, true, true, true, true, true, true, true, true, true, true, true, false, false, true, true, true, true, true, false, false, false, true, false, true, false, true, true, false, false, false, false, false] rfl rfl (take_ofW HT_.out HW_.out (by kernel_rfl)) (fun _ _ _ h => h) (Or.inl ⟨by rfl, ?_⟩) hHeld ?_ ?_
        rotate_left
        · rintro w' ⟨s0, s1, s2, s3⟩
          go_simp
          with_reducible rfl
        rotate_left
        · exact pa
        refine take_ (i := 21) (N := some 102) (v := ?_) (a' := ?_) #[true, true, true, true, true, true, true, true, true, true, true, true, true, true, false, false, true, true, true, true, true, true, false, false, true, false, true, false, true, true, false, false, false, false, false] rfl rfl (take_ofW HT_.out HW_.out (by kernel_rfl)) (fun _ _ _ h => h) (Or.inl ⟨by rfl, ?_⟩) hHeld ?_ ?_
        rotate_left
        · rintro w' ⟨s0, s1, s2, s3⟩
          go_simp
          with_reducible rfl
        rotate_left
        · exact pa
        refine pure_ (i := 22) (N := some 103) (v := ?_) (a' := ?_) #[true, true, true, true, true, true, true, true, true, true, true, true, true, true, false, false, true, true, true, true, true, true, true, false, true, false, true, false, true, true, false, false, false, false, false] rfl rfl (any_of HT_.out (by kernel_rfl)) (fun _ _ _ h => h) (Or.inl ⟨by rfl, ?_⟩) ?_ ?_
        rotate_left
        · intro w'
          go_simp
          with_reducible rfl
        rotate_left
        · exact pa
        refine pure_ (i := 23) (N := some 104) (v := ?_) (a' := ?_) #[true, true, true, true, true, true, true, true, true, true, true, true, true, true, false, false, true, true, true, true, true, true, true, true, true, false, true, false, true, true, false, false, false, false, false] rfl rfl (any_of HT_.out (by kernel_rfl)) (fun _ _ _ h => h) (Or.inl ⟨by rfl, ?_⟩) ?_ ?_
        rotate_left
        · intro w'
          go_simp
          with_reducible rfl
        rotate_left
        · exact pa
        refine pure_ (i := 25) (N := some 106) (v := ?_) (a' := ?_) #[true, true, true, true, true, true, true, true, true, true, true, true, true, true, false, false, true, true, true, true, true, true, true, true, true, true, true, false, true, true, false, false, false, false, false] rfl rfl (any_of HT_.out (by kernel_rfl)) (fun _ _ _ h => h) (Or.inl ⟨by rfl, ?_⟩) ?_ ?_
        rotate_left
        · intro w'
          go_simp
          with_reducible rfl
        rotate_left
        · exact pa
        refine pure_ (i := 27) (N := some 108) (v := ?_) (a' := ?_) #[true, true, true, true, true, true, true, true, true, true, true, true, true, true, false, false, true, true, true, true, true, true, true, true, true, true, true, true, true, true, false, false, false, false, false] rfl rfl (any_of HT_.out (by kernel_rfl)) (fun _ _ _ h => h) (Or.inl ⟨by rfl, ?_⟩) ?_ ?_
        rotate_left
        · intro w'
          go_simp
          with_reducible rfl
        rotate_left
        · exact pa
        refine one_ (i := 14) (N := some 95) #[true, true, true, true, true, true, true, true, true, true, true, true, true, true, true, false, true, true, true, true, true, true, true, true, true, true, true, true, true, true, false, false, false, false, false] rfl rfl (one_of HT_.out (by kernel_rfl)) (by decide) (fun K hK => ?_)
        refine goes_ Try.func60 (by kernel_rfl) rfl #[.int .i64 (wrap64 ((wrap64 ((wrap64 (2 * (wrap64 (a1_0 - a0_0)))) * (wrap64 ((wrap64 ((wrap64 (a2_0 - a0_0)) * (wrap64 (a3_1 - a2_1)))) - (wrap64 ((wrap64 (a2_1 - a0_1)) * (wrap64 (a3_0 - a2_0)))))))) + (wrap64 ((wrap64 ((wrap64 (a1_0 - a0_0)) * (wrap64 (a3_1 - a2_1)))) - (wrap64 ((wrap64 (a1_1 - a0_1)) * (wrap64 (a3_0 - a2_0)))))))), .int .i64 (wrap64 (2 * (wrap64 ((wrap64 ((wrap64 (a1_0 - a0_0)) * (wrap64 (a3_1 - a2_1)))) - (wrap64 ((wrap64 (a1_1 - a0_1)) * (wrap64 (a3_0 - a2_0))))))))] (by rfl) rfl rfl (by (try simp only [List.map_toArray, List.map_cons, List.map_nil]); first | done | rfl | (simp only [List.length_drop, List.length_take]; rfl)) ?_
        with_reducible refine (impl_floorDiv.calls (wrap64 ((wrap64 ((wrap64 (2 * (wrap64 (a1_0 - a0_0)))) * (wrap64 ((wrap64 ((wrap64 (a2_0 - a0_0)) * (wrap64 (a3_1 - a2_1)))) - (wrap64 ((wrap64 (a2_1 - a0_1)) * (wrap64 (a3_0 - a2_0)))))))) + (wrap64 ((wrap64 ((wrap64 (a1_0 - a0_0)) * (wrap64 (a3_1 - a2_1)))) - (wrap64 ((wrap64 (a1_1 - a0_1)) * (wrap64 (a3_0 - a2_0)))))))) (wrap64 (2 * (wrap64 ((wrap64 ((wrap64 (a1_0 - a0_0)) * (wrap64 (a3_1 - a2_1)))) - (wrap64 ((wrap64 (a1_1 - a0_1)) * (wrap64 (a3_0 - a2_0)))))))) t170 _ A47.out).mono ?_
        rintro e w' ⟨rfl, ⟨nd, rfl⟩⟩
        refine ⟨_, rfl, ?_⟩
        refine hK.out _ _ ⟨(blk_cell BK158.out 0).trans rfl, (blk_cell BK158.out 1).trans rfl, (blk_cell BK159.out 0).trans rfl, (blk_cell BK159.out 1).trans rfl⟩ (fun hHeld => ?_)
        clear hK K
        refine norm_ (a' := ?_) ?_ ?_
        rotate_left
        · show Act.put _ (some 95) _ = _
          simp only [Act.put, List.setIfInBounds_toArray, List.set_cons_zero, List.set_cons_succ, i64_w, i32_w]
          rfl
        refine pure_ (i := 15) (N := some 96) (v := ?_) (a' := ?_) #[true, true, true, true, true, true, true, true, true, true, true, true, true, true, true, true, true, true, true, true, true, true, true, true, true, true, true, true, true, true, false, false, false, false, false] rfl rfl (any_of HT_.out (by kernel_rfl)) (fun _ _ _ h => h) (Or.inl ⟨by rfl, ?_⟩) ?_ ?_
        rotate_left
        · intro w'
          go_simp
          with_reducible rfl
        rotate_left
        · exact pa
        refine one_ (i := 30) (N := some 111) #[true, true, true, true, true, true, true, true, true, true, true, true, true, true, true, true, true, true, true, true, true, true, true, true, true, true, true, true, true, true, true, false, false, false, false] rfl rfl (one_of HT_.out (by kernel_rfl)) (by decide) (fun K hK => ?_)
        refine goes_ Try.func60 (by kernel_rfl) rfl #[.int .i64 (wrap64 ((wrap64 ((wrap64 (2 * (wrap64 (a1_1 - a0_1)))) * (wrap64 ((wrap64 ((wrap64 (a2_0 - a0_0)) * (wrap64 (a3_1 - a2_1)))) - (wrap64 ((wrap64 (a2_1 - a0_1)) * (wrap64 (a3_0 - a2_0)))))))) + (wrap64 ((wrap64 ((wrap64 (a1_0 - a0_0)) * (wrap64 (a3_1 - a2_1)))) - (wrap64 ((wrap64 (a1_1 - a0_1)) * (wrap64 (a3_0 - a2_0)))))))), .int .i64 (wrap64 (2 * (wrap64 ((wrap64 ((wrap64 (a1_0 - a0_0)) * (wrap64 (a3_1 - a2_1)))) - (wrap64 ((wrap64 (a1_1 - a0_1)) * (wrap64 (a3_0 - a2_0))))))))] (by rfl) rfl rfl (by (try simp only [List.map_toArray, List.map_cons, List.map_nil]); first | done | rfl | (simp only [List.length_drop, List.length_take]; rfl)) ?_
        with_reducible refine (impl_floorDiv.calls (wrap64 ((wrap64 ((wrap64 (2 * (wrap64 (a1_1 - a0_1)))) * (wrap64 ((wrap64 ((wrap64 (a2_0 - a0_0)) * (wrap64 (a3_1 - a2_1)))) - (wrap64 ((wrap64 (a2_1 - a0_1)) * (wrap64 (a3_0 - a2_0)))))))) + (wrap64 ((wrap64 ((wrap64 (a1_0 - a0_0)) * (wrap64 (a3_1 - a2_1)))) - (wrap64 ((wrap64 (a1_1 - a0_1)) * (wrap64 (a3_0 - a2_0)))))))) (wrap64 (2 * (wrap64 ((wrap64 ((wrap64 (a1_0 - a0_0)) * (wrap64 (a3_1 - a2_1)))) - (wrap64 ((wrap64 (a1_1 - a0_1)) * (wrap64 (a3_0 - a2_0)))))))) t171 _ A48.out).mono ?_
        rintro e w' ⟨rfl, ⟨nd, rfl⟩⟩
        refine ⟨_, rfl, ?_⟩
        refine hK.out _ _ ⟨(blk_cell BK158.out 0).trans rfl, (blk_cell BK158.out 1).trans rfl, (blk_cell BK159.out 0).trans rfl, (blk_cell BK159.out 1).trans rfl⟩ (fun hHeld => ?_)
        clear hK K
        refine norm_ (a' := ?_) ?_ ?_
        rotate_left
        · show Act.put _ (some 111) _ = _
          simp only [Act.put, List.setIfInBounds_toArray, List.set_cons_zero, List.set_cons_succ, i64_w, i32_w]
          rfl
        refine pure_ (i := 31) (N := some 112) (v := ?_) (a' := ?_) #[true, true, true, true, true, true, true, true, true, true, true, true, true, true, true, true, true, true, true, true, true, true, true, true, true, true, true, true, true, true, true, true, false, false, false] rfl rfl (any_of HT_.out (by kernel_rfl)) (fun _ _ _ h => h) (Or.inl ⟨by rfl, ?_⟩) ?_ ?_
        rotate_left
        · intro w'
          go_simp
          with_reducible rfl
        rotate_left
        · exact pa
        refine pure_ (i := 32) (N := some 113) (v := ?_) (a' := ?_) #[true, true, true, true, true, true, true, true, true, true, true, true, true, true, true, true, true, true, true, true, true, true, true, true, true, true, true, true, true, true, true, true, true, false, false] rfl rfl (any_of HT_.out (by kernel_rfl)) (fun _ _ _ h => h) (Or.inl ⟨by rfl, ?_⟩) ?_ ?_
        rotate_left
        · intro w'
          go_simp
          with_reducible rfl
        rotate_left
        · exact pa
        refine one_ (i := 33) (N := none) #[true, true, true, true, true, true, true, true, true, true, true, true, true, true, true, true, true, true, true, true, true, true, true, true, true, true, true, true, true, true, true, true, true, true, false] rfl rfl (one_of HT_.out (by kernel_rfl)) (by decide) (fun K hK => ?_)
        have hs82 : w81.cell? ⟨gb162, 0, none⟩ = some (.int .i64 0) := (blk_cell BK162.out 0).trans rfl
        have hfs82 := blk_frozen BK162.out 0
        have hns82_0 := NB158_162.out
        have hns82_1 := NB159_162.out
        have hns82_2 := NB160_162.out
        have hns82_3 := NB161_162.out
        have hms82_0 := NB162_158.out
        have hms82_1 := NB162_159.out
        have hms82_2 := NB162_160.out
        have hms82_3 := NB162_161.out
        have hs83 : w81.cell? ⟨gb162, 1, none⟩ = some (.int .i64 0) := (blk_cell BK162.out 1).trans rfl
        have hfs83 := blk_frozen BK162.out 1
        have hns83_0 := NB158_162.out
        have hns83_1 := NB159_162.out
        have hns83_2 := NB160_162.out
        have hns83_3 := NB161_162.out
        have hms83_0 := NB162_158.out
        have hms83_1 := NB162_159.out
        have hms83_2 := NB162_160.out
        have hms83_3 := NB162_161.out
        refine skip_ (w1 := ?_) (by rfl) rfl ?_ ?_
        rotate_left
        · go_simp
          rfl
        refine hK.out _ _ ⟨((cell_far (p := ⟨gb162, _, none⟩) NB158_162.out _).trans (((cell_far (p := ⟨gb162, _, none⟩) NB158_162.out _).trans (hHeld.1)))), ((cell_far (p := ⟨gb162, _, none⟩) NB158_162.out _).trans (((cell_far (p := ⟨gb162, _, none⟩) NB158_162.out _).trans (hHeld.2.1)))), ((cell_far (p := ⟨gb162, _, none⟩) NB159_162.out _).trans (((cell_far (p := ⟨gb162, _, none⟩) NB159_162.out _).trans (hHeld.2.2.1)))), ((cell_far (p := ⟨gb162, _, none⟩) NB159_162.out _).trans (((cell_far (p := ⟨gb162, _, none⟩) NB159_162.out _).trans (hHeld.2.2.2))))⟩ (fun hHeld => ?_)
        clear hK K
        refine pure_ (i := 34) (N := some 9) (v := ?_) (a' := ?_) #[true, true, true, true, true, true, true, true, true, true, true, true, true, true, true, true, true, true, true, true, true, true, true, true, true, true, true, true, true, true, true, true, true, true, true] rfl rfl (any_of HT_.out (by kernel_rfl)) (fun _ _ _ h => h) (Or.inl ⟨by rfl, ?_⟩) ?_ ?_
        rotate_left
        · intro w'
          go_simp
          with_reducible rfl
        rotate_left
        · exact pa
        refine done_ (done_of HT_.out (by kernel_rfl)) ?_
        try go_wp2
        refine bodyPost_ret (results_ct rfl _ _ gb162 25 #[.int .i64 (wrap64 (a0_0 + t170)), .int .i64 (wrap64 (a0_1 + t171))] (0, 0) _ rfl (by (with_reducible repeat (first | refine blk_drewN ?_ _ | refine blk_drew ?_ | refine blk_alloc ?_ _)); refine blk_put (cs := #[.int .i64 (wrap64 (a0_0 + t170)), .int .i64 0]) ?_ 1 _ rfl; (with_reducible repeat (first | refine blk_drewN ?_ _ | refine blk_drew ?_ | refine blk_alloc ?_ _)); refine blk_put (cs := #[.int .i64 0, .int .i64 0]) ?_ 0 _ rfl; (with_reducible repeat (first | refine blk_drewN ?_ _ | refine blk_drew ?_ | refine blk_alloc ?_ _)); exact BK162.out) Try.underlying25 rfl (by kernel_rfl)) rfl ?_
        exact ⟨by first | rfl | (simp [errW_none, errW_some] <;> rfl) | (simp [*, errW_none, errW_some] <;> rfl), by repeat (first | (with_reducible first | exact HB.out | apply below_alloc | apply pw_below_drewN | apply below_drew1 | refine below_set ?_ GE158.out | refine below_set ?_ GE159.out | refine below_set ?_ GE160.out | refine below_set ?_ GE161.out | refine below_set ?_ GE162.out) | exact HB.out)⟩
    · replace c8 := Bool.eq_false_iff.mpr c8
      subst c8
      have H1 : (some (0, 0, 6)) = some (r1, r2, r3) := by rw [if_neg (show ¬ (false = true) by decide)] at H; exact H
      clear H
      have H := H1
      clear H1
      simp only [Option.some.injEq, Prod.mk.injEq] at H
      obtain ⟨rfl, rfl, rfl⟩ := H
      go_enter Try.func27, Try.ntmps27
      go_wp2_with (first | ((with_reducible refine gate_dst (N := 4) rfl ?_); refine box_event ?hg (N := 4) ?hd (cs := #[.int .i64 a0_0, .int .i64 a0_1]) (t := 25) ?hr ?_; (case hd => rfl); (case hg => rfl); (case hr => first | (go_simp; done) | (go_simp; rfl)); intro gb158 hg w84 hbox hb; have n0_ := sb hb; have n1_ := Aside0.mk (hbox); have n2_ := zb hg; have n3_ := zb hg; clear HB; have HB := n0_; have BK158 := n1_; have GW158 := n2_; have GE158 := n3_; clear n0_ n1_ n2_ n3_; clear hb hbox hg) | ((with_reducible refine gate_dst (N := 5) rfl ?_); refine box_event ?hg (N := 5) ?hd (cs := #[.int .i64 a1_0, .int .i64 a1_1]) (t := 25) ?hr ?_; (case hd => rfl); (case hg => rfl); (case hr => first | (go_simp; done) | (go_simp; rfl)); intro gb159 hg w85 hbox hb; have n0_ := kb BK158 hb; have n1_ := sb hb; have n2_ := Aside0.mk (hbox); have n3_ := zb hg; have n4_ := zb hg; have n5_ := nl BK158 hg; have n6_ := ng BK158 hg; clear BK158; clear HB; have BK158 := n0_; have HB := n1_; have BK159 := n2_; have GW159 := n3_; have GE159 := n4_; have NB158_159 := n5_; have NB159_158 := n6_; clear n0_ n1_ n2_ n3_ n4_ n5_ n6_; clear hb hbox hg) | ((with_reducible refine gate_dst (N := 6) rfl ?_); refine box_event ?hg (N := 6) ?hd (cs := #[.int .i64 a2_0, .int .i64 a2_1]) (t := 25) ?hr ?_; (case hd => rfl); (case hg => rfl); (case hr => first | (go_simp; done) | (go_simp; rfl)); intro gb160 hg w86 hbox hb; have n0_ := kb BK158 hb; have n1_ := kb BK159 hb; have n2_ := sb hb; have n3_ := Aside0.mk (hbox); have n4_ := zb hg; have n5_ := zb hg; have n6_ := nl BK158 hg; have n7_ := ng BK158 hg; have n8_ := nl BK159 hg; have n9_ := ng BK159 hg; clear BK158; clear BK159; clear HB; have BK158 := n0_; have BK159 := n1_; have HB := n2_; have BK160 := n3_; have GW160 := n4_; have GE160 := n5_; have NB158_160 := n6_; have NB160_158 := n7_; have NB159_160 := n8_; have NB160_159 := n9_; clear n0_ n1_ n2_ n3_ n4_ n5_ n6_ n7_ n8_ n9_; clear hb hbox hg) | ((with_reducible refine gate_dst (N := 7) rfl ?_); refine box_event ?hg (N := 7) ?hd (cs := #[.int .i64 a3_0, .int .i64 a3_1]) (t := 25) ?hr ?_; (case hd => rfl); (case hg => rfl); (case hr => first | (go_simp; done) | (go_simp; rfl)); intro gb161 hg w87 hbox hb; have n0_ := kb BK158 hb; have n1_ := kb BK159 hb; have n2_ := kb BK160 hb; have n3_ := sb hb; have n4_ := Aside0.mk (hbox); have n5_ := zb hg; have n6_ := zb hg; have n7_ := nl BK158 hg; have n8_ := ng BK158 hg; have n9_ := nl BK159 hg; have n10_ := ng BK159 hg; have n11_ := nl BK160 hg; have n12_ := ng BK160 hg; clear BK158; clear BK159; clear BK160; clear HB; have BK158 := n0_; have BK159 := n1_; have BK160 := n2_; have HB := n3_; have BK161 := n4_; have GW161 := n5_; have GE161 := n6_; have NB158_161 := n7_; have NB161_158 := n8_; have NB159_161 := n9_; have NB161_159 := n10_; have NB160_161 := n11_; have NB161_160 := n12_; clear n0_ n1_ n2_ n3_ n4_ n5_ n6_ n7_ n8_ n9_ n10_ n11_ n12_; clear hb hbox hg) | ((with_reducible refine gate_dst (N := 8) rfl ?_); refine box_event ?hg (N := 8) ?hd (cs := #[.int .i64 0, .int .i64 0]) (t := 25) ?hr ?_; (case hd => rfl); (case hg => rfl); (case hr => first | (go_simp; done) | (go_simp; rfl)); intro gb162 hg w88 hbox hb; have n0_ := kb BK158 hb; have n1_ := kb BK159 hb; have n2_ := kb BK160 hb; have n3_ := kb BK161 hb; have n4_ := sb hb; have n5_ := Aside0.mk (hbox); have n6_ := zb hg; have n7_ := zb hg; have n8_ := nl BK158 hg; have n9_ := ng BK158 hg; have n10_ := nl BK159 hg; have n11_ := ng BK159 hg; have n12_ := nl BK160 hg; have n13_ := ng BK160 hg; have n14_ := nl BK161 hg; have n15_ := ng BK161 hg; clear BK158; clear BK159; clear BK160; clear BK161; clear HB; have BK158 := n0_; have BK159 := n1_; have BK160 := n2_; have BK161 := n3_; have HB := n4_; have BK162 := n5_; have GW162 := n6_; have GE162 := n7_; have NB158_162 := n8_; have NB162_158 := n9_; have NB159_162 := n10_; have NB162_159 := n11_; have NB160_162 := n12_; have NB162_160 := n13_; have NB161_162 := n14_; have NB162_161 := n15_; clear n0_ n1_ n2_ n3_ n4_ n5_ n6_ n7_ n8_ n9_ n10_ n11_ n12_ n13_ n14_ n15_; clear hb hbox hg; have hnb89 := NB158_159.out; have hnc89 := NB159_158.out; have hnb90 := NB158_160.out; have hnc90 := NB160_158.out; have hnb91 := NB158_161.out; have hnc91 := NB161_158.out; have hnb92 := NB158_162.out; have hnc92 := NB162_158.out; have hcz93_0 := ck BK158 0; have hcz93_1 := ck BK158 1; have hfz93_0 := blk_frozen BK158.out 0; have hfz93_1 := blk_frozen BK158.out 1; have hnb94 := NB159_160.out; have hnc94 := NB160_159.out; have hnb95 := NB159_161.out; have hnc95 := NB161_159.out; have hnb96 := NB159_162.out; have hnc96 := NB162_159.out; have hcz97_0 := ck BK159 0; have hcz97_1 := ck BK159 1; have hfz97_0 := blk_frozen BK159.out 0; have hfz97_1 := blk_frozen BK159.out 1; have hnb98 := NB160_161.out; have hnc98 := NB161_160.out; have hnb99 := NB160_162.out; have hnc99 := NB162_160.out; have hcz100_0 := ck BK160 0; have hcz100_1 := ck BK160 1; have hfz100_0 := blk_frozen BK160.out 0; have hfz100_1 := blk_frozen BK160.out 1; have hnb101 := NB161_162.out; have hnc101 := NB162_161.out; have hcz102_0 := ck BK161 0; have hcz102_1 := ck BK161 1; have hfz102_0 := blk_frozen BK161.out 0; have hfz102_1 := blk_frozen BK161.out 1) | ((with_reducible refine gate_dst (N := 17) rfl ?_); refine Kd.R_lit k25 _ 25 ?hg (N := 17) ?hd (xs := ([(⟨a0_0, a0_1⟩ : S25), (⟨a1_0, a1_1⟩ : S25), (⟨a2_0, a2_1⟩ : S25), (⟨a3_0, a3_1⟩ : S25)] : List (S25))) (inner := [.int .i64 a0_0, .int .i64 a0_1, .int .i64 a1_0, .int .i64 a1_1, .int .i64 a2_0, .int .i64 a2_1, .int .i64 a3_0, .int .i64 a3_1]) (ok := fun _ => True) (okp := fun _ => True) ?hr ?hp (fun _ hk => hk) trivial (Below.refl _ _) (Nat.le_refl _) (by simp) ?_; (case hd => rfl); (case hg => rfl); (case hr => first | (go_simp; done) | (go_simp; rfl)); (case hp => exact (Reps.c2 (show Kd.M k25 _ _ _ (⟨a0_0, a0_1⟩ : S25) [.int .i64 a0_0, .int .i64 a0_1] from (k25_mkM _ _ _ (⟨a0_0, a0_1⟩ : S25) )) (Reps.c2 (show Kd.M k25 _ _ _ (⟨a1_0, a1_1⟩ : S25) [.int .i64 a1_0, .int .i64 a1_1] from (k25_mkM _ _ _ (⟨a1_0, a1_1⟩ : S25) )) (Reps.c2 (show Kd.M k25 _ _ _ (⟨a2_0, a2_1⟩ : S25) [.int .i64 a2_0, .int .i64 a2_1] from (k25_mkM _ _ _ (⟨a2_0, a2_1⟩ : S25) )) (Reps.c2 (show Kd.M k25 _ _ _ (⟨a3_0, a3_1⟩ : S25) [.int .i64 a3_0, .int .i64 a3_1] from (k25_mkM _ _ _ (⟨a3_0, a3_1⟩ : S25) )) (Reps.none _ _)))))); intro v164 w103 ho104 hb hg_ hnew_; clear hg_ hnew_; (first | rw [← Ny163.out] at ho104 | (simp only [Int.reduceToNat] at ho104; rw [← Ny163.out] at ho104)); have n0_ := Aside0.mk (Kd.R_lower (Kd.R_newB (Kd.R_newB (Kd.R_newB (Kd.R_newB (Kd.R_newB ho104 (g := gb158) (o := .cells #[.int .i64 a0_0, .int .i64 a0_1] 25 (0, 0)) (bk BK158)) (g := gb159) (o := .cells #[.int .i64 a1_0, .int .i64 a1_1] 25 (0, 0)) (bk BK159)) (g := gb160) (o := .cells #[.int .i64 a2_0, .int .i64 a2_1] 25 (0, 0)) (bk BK160)) (g := gb161) (o := .cells #[.int .i64 a3_0, .int .i64 a3_1] 25 (0, 0)) (bk BK161)) (g := gb162) (o := .cells #[.int .i64 0, .int .i64 0] 25 (0, 0)) (bk BK162)) (below_size ib)); have n1_ := kb BK158 hb; have n2_ := kb BK159 hb; have n3_ := kb BK160 hb; have n4_ := kb BK161 hb; have n5_ := kb BK162 hb; have n6_ := sb hb; clear BK158; clear BK159; clear BK160; clear BK161; clear BK162; clear HB; have HO165 := n0_; have BK158 := n1_; have BK159 := n2_; have BK160 := n3_; have BK161 := n4_; have BK162 := n5_; have HB := n6_; clear n0_ n1_ n2_ n3_ n4_ n5_ n6_; clear hb ho104; obtain ⟨Ao105, co105, eo105⟩ := Kd.R_slice HO165.out; subst eo105) | ((with_reducible refine gate_callee (f := 46) rfl ?_); refine goesL_ (some 18) rfl rfl Try.func46 (by kernel_rfl) rfl #[.slice Ao105 y163.length co105] rfl (by (try simp only [List.map_toArray, List.map_cons, List.map_nil]); first | done | rfl | (simp only [List.length_drop, List.length_take]; rfl)) ?_; (with_reducible refine (impl_validPoints.calls k _ _ y163 true _ ?side1 ?side2 A5.out).mono ?_); (case side1 => repeat (first | exact (Kd.R_reads' HO165.out).2.2 | (with_reducible refine Kd.C_alloc ?_ _) | (with_reducible refine Kd.C_drewN ?_ _) | (with_reducible refine Kd.C_drew ?_))); (case side2 => exact (Kd.R_reads' HO165.out).2.1); rintro e w106 ⟨rfl, hb⟩; refine ⟨_, rfl, ?_⟩; have n0_ := Aside0.mk (Kd.R_below (by (with_reducible repeat (first | apply Kd.R_alloc | apply Kd.R_drewN | apply Kd.R_drew)); exact HO165.out) hb); have n1_ := kb BK158 hb; have n2_ := kb BK159 hb; have n3_ := kb BK160 hb; have n4_ := kb BK161 hb; have n5_ := kb BK162 hb; have n6_ := sb hb; clear HO165; clear BK158; clear BK159; clear BK160; clear BK161; clear BK162; clear HB; have HO165 := n0_; have BK158 := n1_; have BK159 := n2_; have BK160 := n3_; have BK161 := n4_; have BK162 := n5_; have HB := n6_; clear n0_ n1_ n2_ n3_ n4_ n5_ n6_; (try clear hb); (try clear hb2); (try clear hk); (try clear hi); have hcz107_0 := ck BK158 0; have hcz107_1 := ck BK158 1; have hfz107_0 := blk_frozen BK158.out 0; have hfz107_1 := blk_frozen BK158.out 1; have hcz108_0 := ck BK159 0; have hcz108_1 := ck BK159 1; have hfz108_0 := blk_frozen BK159.out 0; have hfz108_1 := blk_frozen BK159.out 1; have hcz109_0 := ck BK160 0; have hcz109_1 := ck BK160 1; have hfz109_0 := blk_frozen BK160.out 0; have hfz109_1 := blk_frozen BK160.out 1; have hcz110_0 := ck BK161 0; have hcz110_1 := ck BK161 1; have hfz110_0 := blk_frozen BK161.out 0; have hfz110_1 := blk_frozen BK161.out 1) | ((with_reducible refine gate_callee (f := 59) rfl ?_); refine goesL_ (some 26) rfl rfl Try.func59 (by kernel_rfl) rfl #[.agg #[.int .i64 a0_0, .int .i64 a0_1], .agg #[.int .i64 a1_0, .int .i64 a1_1], .agg #[.int .i64 a2_0, .int .i64 a2_1], .agg #[.int .i64 a3_0, .int .i64 a3_1]] rfl (by (try simp only [List.map_toArray, List.map_cons, List.map_nil]); first | done | rfl | (simp only [List.length_drop, List.length_take]; rfl)) ?_; (with_reducible refine (impl_crossing.calls a0_0 a0_1 a1_0 a1_1 a2_0 a2_1 a3_0 a3_1 false _ A7.out).mono ?_); rintro e w111 ⟨rfl, hb⟩; refine ⟨_, rfl, ?_⟩; have n0_ := Aside0.mk (Kd.R_below (by (with_reducible repeat (first | apply Kd.R_alloc | apply Kd.R_drewN | apply Kd.R_drew)); exact HO165.out) hb); have n1_ := kb BK158 hb; have n2_ := kb BK159 hb; have n3_ := kb BK160 hb; have n4_ := kb BK161 hb; have n5_ := kb BK162 hb; have n6_ := sb hb; clear HO165; clear BK158; clear BK159; clear BK160; clear BK161; clear BK162; clear HB; have HO165 := n0_; have BK158 := n1_; have BK159 := n2_; have BK160 := n3_; have BK161 := n4_; have BK162 := n5_; have HB := n6_; clear n0_ n1_ n2_ n3_ n4_ n5_ n6_; (try clear hb); (try clear hb2); (try clear hk); (try clear hi); have hcz112_0 := ck BK162 0; have hcz112_1 := ck BK162 1; have hfz112_0 := blk_frozen BK162.out 0; have hfz112_1 := blk_frozen BK162.out 1))
      refine bodyPost_ret (results_ct rfl _ _ gb162 25 #[.int .i64 0, .int .i64 0] (0, 0) _ rfl (by (with_reducible repeat (first | refine blk_drewN ?_ _ | refine blk_drew ?_ | refine blk_alloc ?_ _)); refine blk_put (cs := #[.int .i64 0, .int .i64 0]) ?_ 1 _ rfl; (with_reducible repeat (first | refine blk_drewN ?_ _ | refine blk_drew ?_ | refine blk_alloc ?_ _)); refine blk_put (cs := #[.int .i64 0, .int .i64 0]) ?_ 0 _ rfl; (with_reducible repeat (first | refine blk_drewN ?_ _ | refine blk_drew ?_ | refine blk_alloc ?_ _)); exact BK162.out) Try.underlying25 rfl (by kernel_rfl)) rfl ?_
      exact ⟨by first | rfl | (simp [errW_none, errW_some] <;> rfl) | (simp [*, errW_none, errW_some] <;> rfl), by repeat (first | (with_reducible first | exact HB.out | apply below_alloc | apply pw_below_drewN | apply below_drew1 | refine below_set ?_ GE158.out | refine below_set ?_ GE159.out | refine below_set ?_ GE160.out | refine below_set ?_ GE161.out | refine below_set ?_ GE162.out) | exact HB.out)⟩
  · replace c6 := Bool.eq_false_iff.mpr c6
    subst c6
    have H1 : (some (0, 0, 1)) = some (r1, r2, r3) := by rw [if_neg (show ¬ (false = true) by decide)] at H; exact H
    clear H
    have H := H1
    clear H1
    simp only [Option.some.injEq, Prod.mk.injEq] at H
    obtain ⟨rfl, rfl, rfl⟩ := H
    go_enter Try.func27, Try.ntmps27
    go_wp2_with (first | ((with_reducible refine gate_dst (N := 4) rfl ?_); refine box_event ?hg (N := 4) ?hd (cs := #[.int .i64 a0_0, .int .i64 a0_1]) (t := 25) ?hr ?_; (case hd => rfl); (case hg => rfl); (case hr => first | (go_simp; done) | (go_simp; rfl)); intro gb158 hg w113 hbox hb; have n0_ := sb hb; have n1_ := Aside0.mk (hbox); have n2_ := zb hg; have n3_ := zb hg; clear HB; have HB := n0_; have BK158 := n1_; have GW158 := n2_; have GE158 := n3_; clear n0_ n1_ n2_ n3_; clear hb hbox hg) | ((with_reducible refine gate_dst (N := 5) rfl ?_); refine box_event ?hg (N := 5) ?hd (cs := #[.int .i64 a1_0, .int .i64 a1_1]) (t := 25) ?hr ?_; (case hd => rfl); (case hg => rfl); (case hr => first | (go_simp; done) | (go_simp; rfl)); intro gb159 hg w114 hbox hb; have n0_ := kb BK158 hb; have n1_ := sb hb; have n2_ := Aside0.mk (hbox); have n3_ := zb hg; have n4_ := zb hg; have n5_ := nl BK158 hg; have n6_ := ng BK158 hg; clear BK158; clear HB; have BK158 := n0_; have HB := n1_; have BK159 := n2_; have GW159 := n3_; have GE159 := n4_; have NB158_159 := n5_; have NB159_158 := n6_; clear n0_ n1_ n2_ n3_ n4_ n5_ n6_; clear hb hbox hg) | ((with_reducible refine gate_dst (N := 6) rfl ?_); refine box_event ?hg (N := 6) ?hd (cs := #[.int .i64 a2_0, .int .i64 a2_1]) (t := 25) ?hr ?_; (case hd => rfl); (case hg => rfl); (case hr => first | (go_simp; done) | (go_simp; rfl)); intro gb160 hg w115 hbox hb; have n0_ := kb BK158 hb; have n1_ := kb BK159 hb; have n2_ := sb hb; have n3_ := Aside0.mk (hbox); have n4_ := zb hg; have n5_ := zb hg; have n6_ := nl BK158 hg; have n7_ := ng BK158 hg; have n8_ := nl BK159 hg; have n9_ := ng BK159 hg; clear BK158; clear BK159; clear HB; have BK158 := n0_; have BK159 := n1_; have HB := n2_; have BK160 := n3_; have GW160 := n4_; have GE160 := n5_; have NB158_160 := n6_; have NB160_158 := n7_; have NB159_160 := n8_; have NB160_159 := n9_; clear n0_ n1_ n2_ n3_ n4_ n5_ n6_ n7_ n8_ n9_; clear hb hbox hg) | ((with_reducible refine gate_dst (N := 7) rfl ?_); refine box_event ?hg (N := 7) ?hd (cs := #[.int .i64 a3_0, .int .i64 a3_1]) (t := 25) ?hr ?_; (case hd => rfl); (case hg => rfl); (case hr => first | (go_simp; done) | (go_simp; rfl)); intro gb161 hg w116 hbox hb; have n0_ := kb BK158 hb; have n1_ := kb BK159 hb; have n2_ := kb BK160 hb; have n3_ := sb hb; have n4_ := Aside0.mk (hbox); have n5_ := zb hg; have n6_ := zb hg; have n7_ := nl BK158 hg; have n8_ := ng BK158 hg; have n9_ := nl BK159 hg; have n10_ := ng BK159 hg; have n11_ := nl BK160 hg; have n12_ := ng BK160 hg; clear BK158; clear BK159; clear BK160; clear HB; have BK158 := n0_; have BK159 := n1_; have BK160 := n2_; have HB := n3_; have BK161 := n4_; have GW161 := n5_; have GE161 := n6_; have NB158_161 := n7_; have NB161_158 := n8_; have NB159_161 := n9_; have NB161_159 := n10_; have NB160_161 := n11_; have NB161_160 := n12_; clear n0_ n1_ n2_ n3_ n4_ n5_ n6_ n7_ n8_ n9_ n10_ n11_ n12_; clear hb hbox hg) | ((with_reducible refine gate_dst (N := 8) rfl ?_); refine box_event ?hg (N := 8) ?hd (cs := #[.int .i64 0, .int .i64 0]) (t := 25) ?hr ?_; (case hd => rfl); (case hg => rfl); (case hr => first | (go_simp; done) | (go_simp; rfl)); intro gb162 hg w117 hbox hb; have n0_ := kb BK158 hb; have n1_ := kb BK159 hb; have n2_ := kb BK160 hb; have n3_ := kb BK161 hb; have n4_ := sb hb; have n5_ := Aside0.mk (hbox); have n6_ := zb hg; have n7_ := zb hg; have n8_ := nl BK158 hg; have n9_ := ng BK158 hg; have n10_ := nl BK159 hg; have n11_ := ng BK159 hg; have n12_ := nl BK160 hg; have n13_ := ng BK160 hg; have n14_ := nl BK161 hg; have n15_ := ng BK161 hg; clear BK158; clear BK159; clear BK160; clear BK161; clear HB; have BK158 := n0_; have BK159 := n1_; have BK160 := n2_; have BK161 := n3_; have HB := n4_; have BK162 := n5_; have GW162 := n6_; have GE162 := n7_; have NB158_162 := n8_; have NB162_158 := n9_; have NB159_162 := n10_; have NB162_159 := n11_; have NB160_162 := n12_; have NB162_160 := n13_; have NB161_162 := n14_; have NB162_161 := n15_; clear n0_ n1_ n2_ n3_ n4_ n5_ n6_ n7_ n8_ n9_ n10_ n11_ n12_ n13_ n14_ n15_; clear hb hbox hg; have hnb118 := NB158_159.out; have hnc118 := NB159_158.out; have hnb119 := NB158_160.out; have hnc119 := NB160_158.out; have hnb120 := NB158_161.out; have hnc120 := NB161_158.out; have hnb121 := NB158_162.out; have hnc121 := NB162_158.out; have hcz122_0 := ck BK158 0; have hcz122_1 := ck BK158 1; have hfz122_0 := blk_frozen BK158.out 0; have hfz122_1 := blk_frozen BK158.out 1; have hnb123 := NB159_160.out; have hnc123 := NB160_159.out; have hnb124 := NB159_161.out; have hnc124 := NB161_159.out; have hnb125 := NB159_162.out; have hnc125 := NB162_159.out; have hcz126_0 := ck BK159 0; have hcz126_1 := ck BK159 1; have hfz126_0 := blk_frozen BK159.out 0; have hfz126_1 := blk_frozen BK159.out 1; have hnb127 := NB160_161.out; have hnc127 := NB161_160.out; have hnb128 := NB160_162.out; have hnc128 := NB162_160.out; have hcz129_0 := ck BK160 0; have hcz129_1 := ck BK160 1; have hfz129_0 := blk_frozen BK160.out 0; have hfz129_1 := blk_frozen BK160.out 1; have hnb130 := NB161_162.out; have hnc130 := NB162_161.out; have hcz131_0 := ck BK161 0; have hcz131_1 := ck BK161 1; have hfz131_0 := blk_frozen BK161.out 0; have hfz131_1 := blk_frozen BK161.out 1) | ((with_reducible refine gate_dst (N := 17) rfl ?_); refine Kd.R_lit k25 _ 25 ?hg (N := 17) ?hd (xs := ([(⟨a0_0, a0_1⟩ : S25), (⟨a1_0, a1_1⟩ : S25), (⟨a2_0, a2_1⟩ : S25), (⟨a3_0, a3_1⟩ : S25)] : List (S25))) (inner := [.int .i64 a0_0, .int .i64 a0_1, .int .i64 a1_0, .int .i64 a1_1, .int .i64 a2_0, .int .i64 a2_1, .int .i64 a3_0, .int .i64 a3_1]) (ok := fun _ => True) (okp := fun _ => True) ?hr ?hp (fun _ hk => hk) trivial (Below.refl _ _) (Nat.le_refl _) (by simp) ?_; (case hd => rfl); (case hg => rfl); (case hr => first | (go_simp; done) | (go_simp; rfl)); (case hp => exact (Reps.c2 (show Kd.M k25 _ _ _ (⟨a0_0, a0_1⟩ : S25) [.int .i64 a0_0, .int .i64 a0_1] from (k25_mkM _ _ _ (⟨a0_0, a0_1⟩ : S25) )) (Reps.c2 (show Kd.M k25 _ _ _ (⟨a1_0, a1_1⟩ : S25) [.int .i64 a1_0, .int .i64 a1_1] from (k25_mkM _ _ _ (⟨a1_0, a1_1⟩ : S25) )) (Reps.c2 (show Kd.M k25 _ _ _ (⟨a2_0, a2_1⟩ : S25) [.int .i64 a2_0, .int .i64 a2_1] from (k25_mkM _ _ _ (⟨a2_0, a2_1⟩ : S25) )) (Reps.c2 (show Kd.M k25 _ _ _ (⟨a3_0, a3_1⟩ : S25) [.int .i64 a3_0, .int .i64 a3_1] from (k25_mkM _ _ _ (⟨a3_0, a3_1⟩ : S25) )) (Reps.none _ _)))))); intro v164 w132 ho133 hb hg_ hnew_; clear hg_ hnew_; (first | rw [← Ny163.out] at ho133 | (simp only [Int.reduceToNat] at ho133; rw [← Ny163.out] at ho133)); have n0_ := Aside0.mk (Kd.R_lower (Kd.R_newB (Kd.R_newB (Kd.R_newB (Kd.R_newB (Kd.R_newB ho133 (g := gb158) (o := .cells #[.int .i64 a0_0, .int .i64 a0_1] 25 (0, 0)) (bk BK158)) (g := gb159) (o := .cells #[.int .i64 a1_0, .int .i64 a1_1] 25 (0, 0)) (bk BK159)) (g := gb160) (o := .cells #[.int .i64 a2_0, .int .i64 a2_1] 25 (0, 0)) (bk BK160)) (g := gb161) (o := .cells #[.int .i64 a3_0, .int .i64 a3_1] 25 (0, 0)) (bk BK161)) (g := gb162) (o := .cells #[.int .i64 0, .int .i64 0] 25 (0, 0)) (bk BK162)) (below_size ib)); have n1_ := kb BK158 hb; have n2_ := kb BK159 hb; have n3_ := kb BK160 hb; have n4_ := kb BK161 hb; have n5_ := kb BK162 hb; have n6_ := sb hb; clear BK158; clear BK159; clear BK160; clear BK161; clear BK162; clear HB; have HO165 := n0_; have BK158 := n1_; have BK159 := n2_; have BK160 := n3_; have BK161 := n4_; have BK162 := n5_; have HB := n6_; clear n0_ n1_ n2_ n3_ n4_ n5_ n6_; clear hb ho133; obtain ⟨Ao134, co134, eo134⟩ := Kd.R_slice HO165.out; subst eo134) | ((with_reducible refine gate_callee (f := 46) rfl ?_); refine goesL_ (some 18) rfl rfl Try.func46 (by kernel_rfl) rfl #[.slice Ao134 y163.length co134] rfl (by (try simp only [List.map_toArray, List.map_cons, List.map_nil]); first | done | rfl | (simp only [List.length_drop, List.length_take]; rfl)) ?_; (with_reducible refine (impl_validPoints.calls k _ _ y163 false _ ?side1 ?side2 A5.out).mono ?_); (case side1 => repeat (first | exact (Kd.R_reads' HO165.out).2.2 | (with_reducible refine Kd.C_alloc ?_ _) | (with_reducible refine Kd.C_drewN ?_ _) | (with_reducible refine Kd.C_drew ?_))); (case side2 => exact (Kd.R_reads' HO165.out).2.1); rintro e w135 ⟨rfl, hb⟩; refine ⟨_, rfl, ?_⟩; have n0_ := Aside0.mk (Kd.R_below (by (with_reducible repeat (first | apply Kd.R_alloc | apply Kd.R_drewN | apply Kd.R_drew)); exact HO165.out) hb); have n1_ := kb BK158 hb; have n2_ := kb BK159 hb; have n3_ := kb BK160 hb; have n4_ := kb BK161 hb; have n5_ := kb BK162 hb; have n6_ := sb hb; clear HO165; clear BK158; clear BK159; clear BK160; clear BK161; clear BK162; clear HB; have HO165 := n0_; have BK158 := n1_; have BK159 := n2_; have BK160 := n3_; have BK161 := n4_; have BK162 := n5_; have HB := n6_; clear n0_ n1_ n2_ n3_ n4_ n5_ n6_; (try clear hb); (try clear hb2); (try clear hk); (try clear hi); have hcz136_0 := ck BK162 0; have hcz136_1 := ck BK162 1; have hfz136_0 := blk_frozen BK162.out 0; have hfz136_1 := blk_frozen BK162.out 1))
    refine bodyPost_ret (results_ct rfl _ _ gb162 25 #[.int .i64 0, .int .i64 0] (0, 0) _ rfl (by (with_reducible repeat (first | refine blk_drewN ?_ _ | refine blk_drew ?_ | refine blk_alloc ?_ _)); refine blk_put (cs := #[.int .i64 0, .int .i64 0]) ?_ 1 _ rfl; (with_reducible repeat (first | refine blk_drewN ?_ _ | refine blk_drew ?_ | refine blk_alloc ?_ _)); refine blk_put (cs := #[.int .i64 0, .int .i64 0]) ?_ 0 _ rfl; (with_reducible repeat (first | refine blk_drewN ?_ _ | refine blk_drew ?_ | refine blk_alloc ?_ _)); exact BK162.out) Try.underlying25 rfl (by kernel_rfl)) rfl ?_
    exact ⟨by first | rfl | (simp [errW_none, errW_some] <;> rfl) | (simp [*, errW_none, errW_some] <;> rfl), by repeat (first | (with_reducible first | exact HB.out | apply below_alloc | apply pw_below_drewN | apply below_drew1 | refine below_set ?_ GE158.out | refine below_set ?_ GE159.out | refine below_set ?_ GE160.out | refine below_set ?_ GE161.out | refine below_set ?_ GE162.out) | exact HB.out)⟩
def laws_eqPoint.f (a0_0 : Int) (a0_1 : Int) (a1_0 : Int) (a1_1 : Int) : Option (Bool) := if a0_0 = a1_0 then (if a0_1 = a1_1 then (some true) else (some false)) else (some false)
set_option maxHeartbeats 8000000 in
set_option maxRecDepth 100000 in
theorem laws_eqPoint.calls (a0_0 : Int) (a0_1 : Int) (a1_0 : Int) (a1_1 : Int) (r : Bool) (w : World) (h : laws_eqPoint.f a0_0 a0_1 a1_0 a1_1 = some r) :
    Calls Try.prog 28 #[.agg #[.int .i64 a0_0, .int .i64 a0_1], .agg #[.int .i64 a1_0, .int .i64 a1_1]] w fun e w' => e = .returned (.bool r) ∧ Below w.heap.size w w' := by
  have hu25 := Try.underlying25
  have HB := Aside0.mk (Below.refl w.heap.size w)
  have H : (if a0_0 = a1_0 then (if a0_1 = a1_1 then (some true) else (some false)) else (some false)) = some r := h
  clear h
  by_cases c3 : a0_0 = a1_0
  · rw [if_pos c3] at H
    have c3b0 : (a0_0 == a1_0) = true := beq_iff_eq.mpr c3
    have c3b1 : (a0_0 != a1_0) = false := bne_eq_false_iff_eq.mpr c3
    clear c3
    by_cases c4 : a0_1 = a1_1
    · rw [if_pos c4] at H
      have c4b0 : (a0_1 == a1_1) = true := beq_iff_eq.mpr c4
      have c4b1 : (a0_1 != a1_1) = false := bne_eq_false_iff_eq.mpr c4
      clear c4
      obtain rfl := Option.some.inj H
      go_enter Try.func28, Try.ntmps28
      go_wp2_with (first | ((with_reducible refine gate_dst (N := 2) rfl ?_); refine box_event ?hg (N := 2) ?hd (cs := #[.int .i64 a0_0, .int .i64 a0_1]) (t := 25) ?hr ?_; (case hd => rfl); (case hg => rfl); (case hr => first | (go_simp; done) | (go_simp; rfl)); intro gb172 hg w5 hbox hb; have n0_ := sb hb; have n1_ := Aside0.mk (hbox); have n2_ := zb hg; have n3_ := zb hg; clear HB; have HB := n0_; have BK172 := n1_; have GW172 := n2_; have GE172 := n3_; clear n0_ n1_ n2_ n3_; clear hb hbox hg) | ((with_reducible refine gate_dst (N := 3) rfl ?_); refine box_event ?hg (N := 3) ?hd (cs := #[.int .i64 a1_0, .int .i64 a1_1]) (t := 25) ?hr ?_; (case hd => rfl); (case hg => rfl); (case hr => first | (go_simp; done) | (go_simp; rfl)); intro gb173 hg w6 hbox hb; have n0_ := kb BK172 hb; have n1_ := sb hb; have n2_ := Aside0.mk (hbox); have n3_ := zb hg; have n4_ := zb hg; have n5_ := nl BK172 hg; have n6_ := ng BK172 hg; clear BK172; clear HB; have BK172 := n0_; have HB := n1_; have BK173 := n2_; have GW173 := n3_; have GE173 := n4_; have NB172_173 := n5_; have NB173_172 := n6_; clear n0_ n1_ n2_ n3_ n4_ n5_ n6_; clear hb hbox hg; have hnb7 := NB172_173.out; have hnc7 := NB173_172.out; have hcz8_0 := ck BK172 0; have hcz8_1 := ck BK172 1; have hfz8_0 := blk_frozen BK172.out 0; have hfz8_1 := blk_frozen BK172.out 1; have hcz9_0 := ck BK173 0; have hcz9_1 := ck BK173 1; have hfz9_0 := blk_frozen BK173.out 0; have hfz9_1 := blk_frozen BK173.out 1))
      go_ret
      exact ⟨by first | rfl | (simp [errW_none, errW_some] <;> rfl) | (simp [*, errW_none, errW_some] <;> rfl), by repeat (first | (with_reducible first | exact HB.out | apply below_alloc | apply pw_below_drewN | apply below_drew1 | refine below_set ?_ GE172.out | refine below_set ?_ GE173.out) | exact HB.out)⟩
    · rw [if_neg c4] at H
      have c4b0 : (a0_1 == a1_1) = false := beq_eq_false_iff_ne.mpr c4
      have c4b1 : (a0_1 != a1_1) = true := bne_iff_ne.mpr c4
      obtain rfl := Option.some.inj H
      go_enter Try.func28, Try.ntmps28
      go_wp2_with (first | ((with_reducible refine gate_dst (N := 2) rfl ?_); refine box_event ?hg (N := 2) ?hd (cs := #[.int .i64 a0_0, .int .i64 a0_1]) (t := 25) ?hr ?_; (case hd => rfl); (case hg => rfl); (case hr => first | (go_simp; done) | (go_simp; rfl)); intro gb172 hg w10 hbox hb; have n0_ := sb hb; have n1_ := Aside0.mk (hbox); have n2_ := zb hg; have n3_ := zb hg; clear HB; have HB := n0_; have BK172 := n1_; have GW172 := n2_; have GE172 := n3_; clear n0_ n1_ n2_ n3_; clear hb hbox hg) | ((with_reducible refine gate_dst (N := 3) rfl ?_); refine box_event ?hg (N := 3) ?hd (cs := #[.int .i64 a1_0, .int .i64 a1_1]) (t := 25) ?hr ?_; (case hd => rfl); (case hg => rfl); (case hr => first | (go_simp; done) | (go_simp; rfl)); intro gb173 hg w11 hbox hb; have n0_ := kb BK172 hb; have n1_ := sb hb; have n2_ := Aside0.mk (hbox); have n3_ := zb hg; have n4_ := zb hg; have n5_ := nl BK172 hg; have n6_ := ng BK172 hg; clear BK172; clear HB; have BK172 := n0_; have HB := n1_; have BK173 := n2_; have GW173 := n3_; have GE173 := n4_; have NB172_173 := n5_; have NB173_172 := n6_; clear n0_ n1_ n2_ n3_ n4_ n5_ n6_; clear hb hbox hg; have hnb12 := NB172_173.out; have hnc12 := NB173_172.out; have hcz13_0 := ck BK172 0; have hcz13_1 := ck BK172 1; have hfz13_0 := blk_frozen BK172.out 0; have hfz13_1 := blk_frozen BK172.out 1; have hcz14_0 := ck BK173 0; have hcz14_1 := ck BK173 1; have hfz14_0 := blk_frozen BK173.out 0; have hfz14_1 := blk_frozen BK173.out 1))
      go_ret
      exact ⟨by first | rfl | (simp [errW_none, errW_some] <;> rfl) | (simp [*, errW_none, errW_some] <;> rfl), by repeat (first | (with_reducible first | exact HB.out | apply below_alloc | apply pw_below_drewN | apply below_drew1 | refine below_set ?_ GE172.out | refine below_set ?_ GE173.out) | exact HB.out)⟩
  · rw [if_neg c3] at H
    have c3b0 : (a0_0 == a1_0) = false := beq_eq_false_iff_ne.mpr c3
    have c3b1 : (a0_0 != a1_0) = true := bne_iff_ne.mpr c3
    obtain rfl := Option.some.inj H
    go_enter Try.func28, Try.ntmps28
    go_wp2_with (first | ((with_reducible refine gate_dst (N := 2) rfl ?_); refine box_event ?hg (N := 2) ?hd (cs := #[.int .i64 a0_0, .int .i64 a0_1]) (t := 25) ?hr ?_; (case hd => rfl); (case hg => rfl); (case hr => first | (go_simp; done) | (go_simp; rfl)); intro gb172 hg w15 hbox hb; have n0_ := sb hb; have n1_ := Aside0.mk (hbox); have n2_ := zb hg; have n3_ := zb hg; clear HB; have HB := n0_; have BK172 := n1_; have GW172 := n2_; have GE172 := n3_; clear n0_ n1_ n2_ n3_; clear hb hbox hg) | ((with_reducible refine gate_dst (N := 3) rfl ?_); refine box_event ?hg (N := 3) ?hd (cs := #[.int .i64 a1_0, .int .i64 a1_1]) (t := 25) ?hr ?_; (case hd => rfl); (case hg => rfl); (case hr => first | (go_simp; done) | (go_simp; rfl)); intro gb173 hg w16 hbox hb; have n0_ := kb BK172 hb; have n1_ := sb hb; have n2_ := Aside0.mk (hbox); have n3_ := zb hg; have n4_ := zb hg; have n5_ := nl BK172 hg; have n6_ := ng BK172 hg; clear BK172; clear HB; have BK172 := n0_; have HB := n1_; have BK173 := n2_; have GW173 := n3_; have GE173 := n4_; have NB172_173 := n5_; have NB173_172 := n6_; clear n0_ n1_ n2_ n3_ n4_ n5_ n6_; clear hb hbox hg; have hnb17 := NB172_173.out; have hnc17 := NB173_172.out; have hcz18_0 := ck BK172 0; have hcz18_1 := ck BK172 1; have hfz18_0 := blk_frozen BK172.out 0; have hfz18_1 := blk_frozen BK172.out 1; have hcz19_0 := ck BK173 0; have hcz19_1 := ck BK173 1; have hfz19_0 := blk_frozen BK173.out 0; have hfz19_1 := blk_frozen BK173.out 1))
    go_ret
    exact ⟨by first | rfl | (simp [errW_none, errW_some] <;> rfl) | (simp [*, errW_none, errW_some] <;> rfl), by repeat (first | (with_reducible first | exact HB.out | apply below_alloc | apply pw_below_drewN | apply below_drew1 | refine below_set ?_ GE172.out | refine below_set ?_ GE173.out) | exact HB.out)⟩
end Go.Proofs.Ytolccaaoimjbdaa.PFnExactCrossPoint
