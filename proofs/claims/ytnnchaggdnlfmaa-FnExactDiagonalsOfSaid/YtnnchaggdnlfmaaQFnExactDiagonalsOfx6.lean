/- Contracts of functions that FnExactDiagonalsOf reaches, out of the lines of the kit's print. -/
import Derived.Test.YtnnchaggdnlfmaaQFnExactDiagonalsOfx0
import Derived.Test.YtnnchaggdnlfmaaQFnExactDiagonalsOfx2
import Derived.Test.YtnnchaggdnlfmaaQFnExactDiagonalsOfx3
import Derived.Test.YtnnchaggdnlfmaaQFnExactDiagonalsOfx4
namespace Go.Proofs.Ytnnchaggdnlfmaa.PFnExactDiagonalsOf
open Go.RowKit Go.Proofs.YtnnchaggdnlfmaaW.PrintWords Go.Proofs.YtnnchaggdnlfmaaW.PrintLast Go.Proofs.YtnnchaggdnlfmaaW.PrintMore
open Bool renaming true → tT, false → fF
open Go.World renaming block_lt_of_cell? → bL
attribute [local go_sem] max2_int min2_int max_two min_two max_three min_three max_four min_four
set_option linter.unusedVariables false
set_option linter.unusedSimpArgs false
mutual
def spec_l04Diagonal.l0 : Nat → List (S73) → Int → Int → Int → Int → Int → Int → Int → Int → Option (Bool)
 | 0, _, _, _, _, _, _, _, _, _ => none
 | k + 1, x0, x1, x2, x7, x10, x173000, x173001, x175000, x175001 => if x10 < x7 then (if x10 = x1 then (spec_l04Diagonal.j1 k x0 x1 x2 x7 x10 false x173000 x173001 x175000 x175001) else (if x10 = x2 then (spec_l04Diagonal.j1 k x0 x1 x2 x7 x10 false x173000 x173001 x175000 x175001) else (if 0 ≤ x10 then (if x10 < (x0.length : Int) then ((spec_l02On.f x173000 x173001 x175000 x175001 ((rd_T73 x0 x10).f0) ((rd_T73 x0 x10).f1)).bind fun t176 => (spec_l04Diagonal.j1 k x0 x1 x2 x7 x10 t176 x173000 x173001 x175000 x175001)) else (none)) else (none)))) else (if x7 = 0 then (none) else (if (Int.tmod (wrap64 (x1 + 1)) x7) = x2 then (spec_l04Diagonal.j2 k x0 x1 x7 true x173000 x173001 x175000 x175001) else (spec_l04Diagonal.j2 k x0 x1 x7 ((Int.tmod (wrap64 (x2 + 1)) x7) == x1) x173000 x173001 x175000 x175001)))
def spec_l04Diagonal.j1 : Nat → List (S73) → Int → Int → Int → Int → Bool → Int → Int → Int → Int → Option (Bool)
 | 0, _, _, _, _, _, _, _, _, _, _ => none
 | k + 1, x0, x1, x2, x7, x10, x47, x173000, x173001, x175000, x175001 => if x47 = true then (some false) else (if 0 ≤ x10 then (if x10 < (x0.length : Int) then (if x7 = 0 then (none) else (if 0 ≤ (Int.tmod (wrap64 (x10 + 1)) x7) then (if (Int.tmod (wrap64 (x10 + 1)) x7) < (x0.length : Int) then ((spec_l02Crosses.f x173000 x173001 x175000 x175001 ((rd_T73 x0 x10).f0) ((rd_T73 x0 x10).f1) ((rd_T73 x0 (Int.tmod (wrap64 (x10 + 1)) x7)).f0) ((rd_T73 x0 (Int.tmod (wrap64 (x10 + 1)) x7)).f1)).bind fun t179 => (if t179 = true then (some false) else (spec_l04Diagonal.l0 k x0 x1 x2 x7 (wrap64 (x10 + 1)) x173000 x173001 x175000 x175001))) else (none)) else (none))) else (none)) else (none))
def spec_l04Diagonal.j2 : Nat → List (S73) → Int → Int → Bool → Int → Int → Int → Int → Option (Bool)
 | 0, _, _, _, _, _, _, _, _ => none
 | k + 1, x0, x1, x7, x75, x173000, x173001, x175000, x175001 => if x75 = true then (some false) else (if x7 = 0 then (none) else (if 0 ≤ (Int.tmod (wrap64 ((wrap64 (x1 + x7)) - 1)) x7) then (if (Int.tmod (wrap64 ((wrap64 (x1 + x7)) - 1)) x7) < (x0.length : Int) then (if 0 ≤ (Int.tmod (wrap64 (x1 + 1)) x7) then (if (Int.tmod (wrap64 (x1 + 1)) x7) < (x0.length : Int) then ((spec_l02Side.f ((rd_T73 x0 (Int.tmod (wrap64 ((wrap64 (x1 + x7)) - 1)) x7)).f0) ((rd_T73 x0 (Int.tmod (wrap64 ((wrap64 (x1 + x7)) - 1)) x7)).f1) x173000 x173001 ((rd_T73 x0 (Int.tmod (wrap64 (x1 + 1)) x7)).f0) ((rd_T73 x0 (Int.tmod (wrap64 (x1 + 1)) x7)).f1)).bind fun t184 => (if t184 ≥ 0 then ((spec_l02Side.f x173000 x173001 x175000 x175001 ((rd_T73 x0 (Int.tmod (wrap64 ((wrap64 (x1 + x7)) - 1)) x7)).f0) ((rd_T73 x0 (Int.tmod (wrap64 ((wrap64 (x1 + x7)) - 1)) x7)).f1)).bind fun t185 => (if t185 > 0 then ((spec_l02Side.f x175000 x175001 x173000 x173001 ((rd_T73 x0 (Int.tmod (wrap64 (x1 + 1)) x7)).f0) ((rd_T73 x0 (Int.tmod (wrap64 (x1 + 1)) x7)).f1)).bind fun t186 => (some (decide (t186 > 0)))) else (some false))) else ((spec_l02Side.f x173000 x173001 x175000 x175001 ((rd_T73 x0 (Int.tmod (wrap64 (x1 + 1)) x7)).f0) ((rd_T73 x0 (Int.tmod (wrap64 (x1 + 1)) x7)).f1)).bind fun t187 => (if t187 ≥ 0 then ((spec_l02Side.f x175000 x175001 x173000 x173001 ((rd_T73 x0 (Int.tmod (wrap64 ((wrap64 (x1 + x7)) - 1)) x7)).f0) ((rd_T73 x0 (Int.tmod (wrap64 ((wrap64 (x1 + x7)) - 1)) x7)).f1)).bind fun t188 => (some (!(decide (t188 ≥ 0))))) else (some (!false)))))) else (none)) else (none)) else (none)) else (none)))
end
def spec_l04Diagonal.f (k : Nat) (l0 : List (S73)) (a1 : Int) (a2 : Int) : Option (Bool) := if a1 = a2 then (some false) else (if 0 ≤ a1 then (if a1 < (l0.length : Int) then (if 0 ≤ a2 then (if a2 < (l0.length : Int) then (spec_l04Diagonal.l0 k l0 a1 a2 (l0.length : Int) 0 ((rd_T73 l0 a1).f0) ((rd_T73 l0 a1).f1) ((rd_T73 l0 a2).f0) ((rd_T73 l0 a2).f1)) else (none)) else (none)) else (none)) else (none))
theorem spec_l04Diagonal.mono_l : ∀ k, (∀ y0 y1 y2 y3 y4 y5 y6 y7 y8, LeO (spec_l04Diagonal.l0 k y0 y1 y2 y3 y4 y5 y6 y7 y8) (spec_l04Diagonal.l0 (k + 1) y0 y1 y2 y3 y4 y5 y6 y7 y8)) ∧ (∀ y0 y1 y2 y3 y4 y5 y6 y7 y8 y9, LeO (spec_l04Diagonal.j1 k y0 y1 y2 y3 y4 y5 y6 y7 y8 y9) (spec_l04Diagonal.j1 (k + 1) y0 y1 y2 y3 y4 y5 y6 y7 y8 y9)) ∧ (∀ y0 y1 y2 y3 y4 y5 y6 y7, LeO (spec_l04Diagonal.j2 k y0 y1 y2 y3 y4 y5 y6 y7) (spec_l04Diagonal.j2 (k + 1) y0 y1 y2 y3 y4 y5 y6 y7))
 | 0 => ⟨fun _ _ _ _ _ _ _ _ _ r h => by simp [spec_l04Diagonal.l0] at h, fun _ _ _ _ _ _ _ _ _ _ r h => by simp [spec_l04Diagonal.j1] at h, fun _ _ _ _ _ _ _ _ r h => by simp [spec_l04Diagonal.j2] at h⟩
 | k + 1 => by
  obtain ⟨ih0, ih1, ih2⟩ := spec_l04Diagonal.mono_l k
  refine ⟨?_, ?_, ?_⟩
  ·intro y0 y1 y2 y3 y4 y5 y6 y7 y8
   unfold spec_l04Diagonal.l0
   repeat' first
   | (with_reducible exact ih0 _ _ _ _ _ _ _ _ _)
   | (with_reducible exact ih1 _ _ _ _ _ _ _ _ _ _)
   | (with_reducible exact ih2 _ _ _ _ _ _ _ _)
   | (with_reducible exact LeO.refl _)
   | (with_reducible exact LeO.none _)
   | (with_reducible refine LeO.ite ?_ ?_)
   | (with_reducible refine LeO.bind ?_ (fun _ => ?_))
   | exact ih0 _ _ _ _ _ _ _ _ _
   | exact ih1 _ _ _ _ _ _ _ _ _ _
   | exact ih2 _ _ _ _ _ _ _ _
   | exact LeO.none _
   | refine LeO.ite ?_ ?_
   | refine LeO.bind ?_ (fun _ => ?_)
  ·intro y0 y1 y2 y3 y4 y5 y6 y7 y8 y9
   unfold spec_l04Diagonal.j1
   repeat' first
   | (with_reducible exact ih0 _ _ _ _ _ _ _ _ _)
   | (with_reducible exact ih1 _ _ _ _ _ _ _ _ _ _)
   | (with_reducible exact ih2 _ _ _ _ _ _ _ _)
   | (with_reducible exact LeO.refl _)
   | (with_reducible exact LeO.none _)
   | (with_reducible refine LeO.ite ?_ ?_)
   | (with_reducible refine LeO.bind ?_ (fun _ => ?_))
   | exact ih0 _ _ _ _ _ _ _ _ _
   | exact ih1 _ _ _ _ _ _ _ _ _ _
   | exact ih2 _ _ _ _ _ _ _ _
   | exact LeO.none _
   | refine LeO.ite ?_ ?_
   | refine LeO.bind ?_ (fun _ => ?_)
  ·intro y0 y1 y2 y3 y4 y5 y6 y7
   unfold spec_l04Diagonal.j2
   repeat' first
   | (with_reducible exact ih0 _ _ _ _ _ _ _ _ _)
   | (with_reducible exact ih1 _ _ _ _ _ _ _ _ _ _)
   | (with_reducible exact ih2 _ _ _ _ _ _ _ _)
   | (with_reducible exact LeO.refl _)
   | (with_reducible exact LeO.none _)
   | (with_reducible refine LeO.ite ?_ ?_)
   | (with_reducible refine LeO.bind ?_ (fun _ => ?_))
   | exact ih0 _ _ _ _ _ _ _ _ _
   | exact ih1 _ _ _ _ _ _ _ _ _ _
   | exact ih2 _ _ _ _ _ _ _ _
   | exact LeO.none _
   | refine LeO.ite ?_ ?_
   | refine LeO.bind ?_ (fun _ => ?_)
theorem spec_l04Diagonal.mono : ∀ a0 a1 a2 k, LeO (spec_l04Diagonal.f k a0 a1 a2) (spec_l04Diagonal.f (k + 1) a0 a1 a2) := by
 intro a0 a1 a2 k
 obtain ⟨ih0, ih1, ih2⟩ := spec_l04Diagonal.mono_l k
 unfold spec_l04Diagonal.f
 repeat' first
   | (with_reducible exact ih0 _ _ _ _ _ _ _ _ _)
   | (with_reducible exact ih1 _ _ _ _ _ _ _ _ _ _)
   | (with_reducible exact ih2 _ _ _ _ _ _ _ _)
   | (with_reducible exact LeO.refl _)
   | (with_reducible exact LeO.none _)
   | (with_reducible refine LeO.ite ?_ ?_)
   | (with_reducible refine LeO.bind ?_ (fun _ => ?_))
   | exact ih0 _ _ _ _ _ _ _ _ _
   | exact ih1 _ _ _ _ _ _ _ _ _ _
   | exact ih2 _ _ _ _ _ _ _ _
   | exact LeO.none _
   | refine LeO.ite ?_ ?_
   | refine LeO.bind ?_ (fun _ => ?_)
def spec_l04Diagonal.T9 : Bool × List (List Nat × List Nat) := (true, [([], []), ([], []), ([0, 1], [0, 1]), ([2], [2]), ([3], [3]), ([3], [3]), ([4, 5, 3], [3, 4, 5]), ([3, 6], [3, 6]), ([7, 3], [7]), ([8], [8]), ([8], [8]), ([8], [8]), ([8], [8]), ([11, 12, 8], [8, 11, 12]), ([13, 8], [8, 13]), ([9, 10, 14, 8, 8], [8, 9, 10, 14]), ([8, 15], [8, 15])])
def spec_l04Diagonal.B9 : List Nat := [0, 0, 3, 7, 15, 15, 63, 127, 255, 511, 511, 511, 511, 6655, 14847, 32767, 65535]
theorem spec_l04Diagonal.tab9 : rtab .any (opsOf Try.f59 9) = spec_l04Diagonal.T9 := by kernel_rfl
theorem spec_l04Diagonal.bits9 : waitsOk spec_l04Diagonal.T9.2 spec_l04Diagonal.B9 = true := by kernel_rfl
def spec_l04Diagonal.T11 : Bool × List (List Nat × List Nat) := (true, [([], []), ([], []), ([], []), ([], []), ([2, 3], [2, 3]), ([4], [4]), ([], []), ([], []), ([7], [7]), ([], []), ([8, 9], [8, 9]), ([6, 10], [6, 10]), ([11], [11]), ([0, 1, 5, 12], [0, 1, 5, 12])])
def spec_l04Diagonal.B11 : List Nat := [0, 0, 0, 0, 12, 28, 0, 0, 128, 0, 896, 1984, 4032, 8191]
theorem spec_l04Diagonal.tab11 : rtab .any (opsOf Try.f59 11) = spec_l04Diagonal.T11 := by kernel_rfl
theorem spec_l04Diagonal.bits11 : waitsOk spec_l04Diagonal.T11.2 spec_l04Diagonal.B11 = true := by kernel_rfl
set_option maxHeartbeats 8000000 in
set_option maxRecDepth 100000 in
theorem spec_l04Diagonal.calls (k : Nat) (A0 : Option Addr) (c0 : Nat) (l0 : List (S73)) (a1 : Int) (a2 : Int) (r : Bool) (w : World) (hr0 : Kd.C k73 w A0 l0.length l0) (hc0 : l0.length ≤ c0) (h : spec_l04Diagonal.f k l0 a1 a2 = some r) :
  Calls Try.prog 59 #[.slice A0 l0.length c0, .int .i64 a1, .int .i64 a2] w fun e w' => e = .returned (.bool r) ∧ Below w.heap.size w w' := by
 have hu73 := Try.underlying73
 have HR0 := Aside0.mk hr0
 have HC0 := Aside0.mk hc0
 clear hr0 hc0
 have HB := Aside0.mk (Below.refl w.heap.size w)
 have H : (if a1 = a2 then (some false) else (if 0 ≤ a1 then (if a1 < (l0.length : Int) then (if 0 ≤ a2 then (if a2 < (l0.length : Int) then (spec_l04Diagonal.l0 k l0 a1 a2 (l0.length : Int) 0 ((rd_T73 l0 a1).f0) ((rd_T73 l0 a1).f1) ((rd_T73 l0 a2).f0) ((rd_T73 l0 a2).f1)) else (none)) else (none)) else (none)) else (none))) = some r := h
 clear h
 by_cases c4 : a1 = a2
 ·rw [if_pos c4] at H
  have c4b0 : (a1 == a2) = true := beq_iff_eq.mpr c4
  have c4b1 : (a1 != a2) = false := bne_eq_false_iff_eq.mpr c4
  clear c4
  obtain rfl := Option.some.inj H
  go_enter Try.func59, Try.ntmps59
  go_wp2
  go_ret
  exact ⟨by first | rfl | (simp [errW_none, errW_some] <;> rfl) | (simp [*, errW_none, errW_some] <;> rfl), by repeat (first | (with_reducible first | exact HB.out | apply below_alloc | apply pw_below_drewN | apply below_drew1) | exact HB.out)⟩
 ·rw [if_neg c4] at H
  have c4b0 : (a1 == a2) = false := beq_eq_false_iff_ne.mpr c4
  have c4b1 : (a1 != a2) = true := bne_iff_ne.mpr c4
  by_cases c5 : 0 ≤ a1
  ·rw [if_pos c5] at H
   have c5b0 : decide (0 ≤ a1) = true := decide_eq_true c5
   clear c5
   by_cases c6 : a1 < (l0.length : Int)
   ·rw [if_pos c6] at H
    have c6b0 : decide (a1 < (l0.length : Int)) = true := decide_eq_true c6
    clear c6
    by_cases c7 : 0 ≤ a2
    ·rw [if_pos c7] at H
     have c7b0 : decide (0 ≤ a2) = true := decide_eq_true c7
     clear c7
     by_cases c8 : a2 < (l0.length : Int)
     ·rw [if_pos c8] at H
      have c8b0 : decide (a2 < (l0.length : Int)) = true := decide_eq_true c8
      clear c8
      have H' := Aside0.mk H
      clear H
      have p171 : 0 ≤ (a1 : Int) := da
      have q171 : a1 < (l0.length : Int) := da
      obtain ⟨ad171, e171, hx171_0, hx171_1⟩ := at_T73 HR0.out a1 p171 q171
      cases e171
      replace p171 := eq_true p171
      replace q171 := eq_true q171
      go_enter Try.func59, Try.ntmps59
      go_wp2_with (first | ((with_reducible refine gate_dst (N := 8) rfl ?_); refine bx (cs := #[.int .i64 0, .int .i64 0]) (t := 73) ?_; intro gb172 hg w9 hbox hb; have n0_ := sb hb; have n1_ := Aside0.mk (hbox); have n2_ := zb hg; have n3_ := zb hg; clear HB; have HB := n0_; have BK172 := n1_; have GW172 := n2_; have GE172 := n3_; clear n0_ n1_ n2_ n3_; clear hb hbox hg; have hcz10_0 := ck BK172 0; have hcz10_1 := ck BK172 1; have hfz10_0 := blk_frozen BK172.out 0; have hfz10_1 := blk_frozen BK172.out 1; have p173 : 0 ≤ (a2 : Int) := da; have q173 : a2 < (l0.length : Int) := da; obtain ⟨ad173, e173, hx173_0, hx173_1⟩ := at_T73 HR0.out a2 p173 q173; obtain rfl : ad171 = ad173 := (by injection e173); have hn173_0 : ad171.block ≠ gb172 := nw hx173_0 GW172; have hn173_1 : ad171.block ≠ gb172 := nw hx173_0 GW172; replace hx173_0 := (HB.out.cell (bL w _ hx173_0)).trans hx173_0; replace hx173_1 := (HB.out.cell (bL w _ hx173_1)).trans hx173_1; replace hx173_0 := cf hn173_0 hx173_0 0 (.int .i64 ((rd_T73 l0 a1).f0)); replace hx173_1 := cf hn173_0 hx173_1 0 (.int .i64 ((rd_T73 l0 a1).f0)); replace hx173_0 := cf hn173_1 hx173_0 1 (.int .i64 ((rd_T73 l0 a1).f1)); replace hx173_1 := cf hn173_1 hx173_1 1 (.int .i64 ((rd_T73 l0 a1).f1)); clear hn173_0; clear hn173_1; replace p173 := eq_true p173; replace q173 := eq_true q173) | ((with_reducible refine gate_dst (N := 9) rfl ?_); refine bx (cs := #[.int .i64 0, .int .i64 0]) (t := 73) ?_; intro gb174 hg w11 hbox hb; have z0_ := mz hb (g := gb172) (o := .cells #[.int .i64 ((rd_T73 l0 a1).f0), .int .i64 ((rd_T73 l0 a1).f1)] 73 (0, 0)) (by refine bP (cs := #[.int .i64 ((rd_T73 l0 a1).f0), .int .i64 0]) 1 ?_; refine bP (cs := #[.int .i64 0, .int .i64 0]) 0 ?_; exact bk BK172); have n0_ := kc z0_ hb; have n1_ := sb hb; have n2_ := Aside0.mk (hbox); have n3_ := zb hg; have n4_ := zb hg; have n5_ := nm z0_ hg; have n6_ := nn z0_ hg; clear BK172; clear HB; have BK172 := n0_; have HB := n1_; have BK174 := n2_; have GW174 := n3_; have GE174 := n4_; have NB172_174 := n5_; have NB174_172 := n6_; clear z0_ n0_ n1_ n2_ n3_ n4_ n5_ n6_; clear hb hbox hg; have hnb12 := NB174_172.out; have hnc12 := NB172_174.out; have hcz13_0 := ck BK174 0; have hcz13_1 := ck BK174 1; have hfz13_0 := blk_frozen BK174.out 0; have hfz13_1 := blk_frozen BK174.out 1))
      go_loopg [10] k (fun kq v10 w' => ∃ (x10_1 : Int), v10 = .int .i64 x10_1 ∧ Aside0 (spec_l04Diagonal.l0 kq l0 a1 a2 (l0.length : Int) x10_1 ((rd_T73 l0 a1).f0) ((rd_T73 l0 a1).f1) ((rd_T73 l0 a2).f0) ((rd_T73 l0 a2).f1) = some r) ∧ Aside0 (kq ≤ k) ∧ Aside0 (w'.heap[gb172]? = some (.cells #[.int .i64 ((rd_T73 l0 a1).f0), .int .i64 ((rd_T73 l0 a1).f1)] 73 (0, 0))) ∧ Aside0 (w'.heap[gb174]? = some (.cells #[.int .i64 ((rd_T73 l0 a2).f0), .int .i64 ((rd_T73 l0 a2).f1)] 73 (0, 0))) ∧ Aside0 (Below w.heap.size w w'))
      case atStart => exact ⟨(0), (by first | rfl | (simp; done) | (simp [*]; done)), H', ⟨Nat.le_refl _⟩, ⟨by refine bF NB172_174.out ?_; refine bF NB172_174.out ?_; exact bk BK172⟩, ⟨by refine bP (cs := #[.int .i64 ((rd_T73 l0 a2).f0), .int .i64 0]) 1 ?_; refine bP (cs := #[.int .i64 0, .int .i64 0]) 0 ?_; exact bk BK174⟩, ⟨by repeat (first | (with_reducible first | exact HB.out | apply below_alloc | apply pw_below_drewN | apply below_drew1 | refine below_set ?_ GE172.out | refine below_set ?_ GE174.out) | exact HB.out)⟩⟩
      case round =>
       clear H'
       try clear c1
       try clear p1
       try clear q1
       try clear hx1
       try clear p2
       try clear c4
       try clear c4b0
       try clear c4b1
       try clear c5
       try clear c5b0
       try clear c6
       try clear c6b0
       try clear c7
       try clear c7b0
       try clear c8
       try clear c8b0
       try clear c12
       try clear hcz10_0
       try clear hcz10_1
       try clear hcz13_0
       try clear hcz13_1
       try clear hfz10_0
       try clear hfz10_1
       try clear hfz13_0
       try clear hfz13_1
       try clear hx171_0
       try clear hx171_1
       try clear hx173_0
       try clear hx173_1
       try clear p171
       try clear p173
       try clear q171
       try clear q173
       obtain ⟨x10_1, rfl, HA, HK1, BK172, BK174, HB⟩ := hrel
       cases gk with
       | zero => exact absurd HA.out (by simp [spec_l04Diagonal.l0])
       | succ k1 =>
        have H := HA.out
        clear HA
        simp only [spec_l04Diagonal.l0] at H
        by_cases c14 : x10_1 < (l0.length : Int)
        ·rw [if_pos c14] at H
         have c14b0 : decide (x10_1 < (l0.length : Int)) = true := decide_eq_true c14
         clear c14
         have HC15 := Aside0.mk H
         clear H
         go_upto_region 9 with (fail)
         go_cut [47] (fun v47 wc => ∃ (kq : Nat) (x47_14 : Bool), v47 = .bool x47_14 ∧ Aside0 (spec_l04Diagonal.j1 kq l0 a1 a2 (l0.length : Int) x10_1 x47_14 ((rd_T73 l0 a1).f0) ((rd_T73 l0 a1).f1) ((rd_T73 l0 a2).f0) ((rd_T73 l0 a2).f1) = some r) ∧ Aside0 (kq ≤ k1) ∧ Aside0 (wc.heap[gb172]? = some (.cells #[.int .i64 ((rd_T73 l0 a1).f0), .int .i64 ((rd_T73 l0 a1).f1)] 73 (0, 0))) ∧ Aside0 (wc.heap[gb174]? = some (.cells #[.int .i64 ((rd_T73 l0 a2).f0), .int .i64 ((rd_T73 l0 a2).f1)] 73 (0, 0))) ∧ Aside0 (Below w.heap.size w wc))
         case first =>
          have H := HC15.out
          clear HC15
          by_cases c16 : x10_1 = a1
          ·rw [if_pos c16] at H
           have c16b0 : (x10_1 == a1) = true := beq_iff_eq.mpr c16
           have c16b1 : (x10_1 != a1) = false := bne_eq_false_iff_eq.mpr c16
           clear c16
           (first | rw [c16b0] | (simp only [i64_w, i32_w]; rw [c16b0]) | skip)
           have H' := Aside0.mk H
           clear H
           try go_wp2
           have n0_ := Aside0.mk (blk_drew BK172.out)
           have n1_ := Aside0.mk (blk_drew BK174.out)
           have n2_ := Aside0.mk (below_drew1 HB.out)
           clear BK172
           clear BK174
           clear HB
           have BK172 := n0_
           have BK174 := n1_
           have HB := n2_
           clear n0_ n1_ n2_
           refine start_ (n := 17) (S := fun w' => True) (ds := []) #[fF,fF,fF,fF,fF,fF,fF,fF,fF,fF,fF,fF,fF,fF,fF,fF,fF] (by kernel_rfl) rfl rfl trivial (fun hHeld => ?_); refine with_tabW spec_l04Diagonal.tab9 spec_l04Diagonal.bits9 (fun HT_ HW_ => ?_)
           generalize wr.drew = w17 at BK172 BK174 HB hHeld ⊢
           refine pu 0 31 HT_ ?_
           refine pu 1 32 HT_ ?_
           refine pu 2 33 HT_ ?_
           refine pu 3 34 HT_ ?_
           refine pd 4 35 HT_ ?_
           refine pd 5 36 HT_ ?_
           refine pd 6 37 HT_ ?_
           refine pu 7 38 HT_ ?_
           refine pu 8 39 HT_ ?_
           refine pd 9 40 HT_ ?_
           refine pd 10 41 HT_ ?_
           refine pd 11 42 HT_ ?_
           refine pd 12 43 HT_ ?_
           refine pd 13 44 HT_ ?_
           refine pd 14 45 HT_ ?_
           refine pd 15 46 HT_ ?_
           refine pu 16 47 HT_ ?_
           refine done_ (done_of HT_.out (by kernel_rfl)) ?_
           try go_wp2
           go_meet
           case rel => exact ⟨_, (false), (by first | rfl | (simp; done) | (simp [*]; done)), H', ⟨by have := HK1.out; first | omega | exact Nat.le_refl _⟩, ⟨by exact bk BK172⟩, ⟨by exact bk BK174⟩, ⟨by repeat (first | (with_reducible first | exact HB.out | apply below_alloc | apply pw_below_drewN | apply below_drew1 | refine below_set ?_ GE172.out | refine below_set ?_ GE174.out) | exact HB.out)⟩⟩
          ·rw [if_neg c16] at H
           have c16b0 : (x10_1 == a1) = false := beq_eq_false_iff_ne.mpr c16
           have c16b1 : (x10_1 != a1) = true := bne_iff_ne.mpr c16
           (first | rw [c16b0] | (simp only [i64_w, i32_w]; rw [c16b0]) | skip)
           by_cases c18 : x10_1 = a2
           ·rw [if_pos c18] at H
            have c18b0 : (x10_1 == a2) = true := beq_iff_eq.mpr c18
            have c18b1 : (x10_1 != a2) = false := bne_eq_false_iff_eq.mpr c18
            clear c18
            have H' := Aside0.mk H
            clear H
            try go_wp2
            have n0_ := Aside0.mk (blk_drew BK172.out)
            have n1_ := Aside0.mk (blk_drew BK174.out)
            have n2_ := Aside0.mk (below_drew1 HB.out)
            clear BK172
            clear BK174
            clear HB
            have BK172 := n0_
            have BK174 := n1_
            have HB := n2_
            clear n0_ n1_ n2_
            refine start_ (n := 17) (S := fun w' => True) (ds := []) #[fF,fF,fF,fF,fF,fF,fF,fF,fF,fF,fF,fF,fF,fF,fF,fF,fF] (by kernel_rfl) rfl rfl trivial (fun hHeld => ?_); refine with_tabW spec_l04Diagonal.tab9 spec_l04Diagonal.bits9 (fun HT_ HW_ => ?_)
            generalize wr.drew = w19 at BK172 BK174 HB hHeld ⊢
            refine pu 0 31 HT_ ?_
            refine pu 1 32 HT_ ?_
            refine pu 2 33 HT_ ?_
            refine pu 3 34 HT_ ?_
            refine pu 4 35 HT_ ?_
            refine pu 5 36 HT_ ?_
            refine pu 6 37 HT_ ?_
            refine pu 7 38 HT_ ?_
            refine pu 8 39 HT_ ?_
            refine pd 9 40 HT_ ?_
            refine pd 10 41 HT_ ?_
            refine pd 11 42 HT_ ?_
            refine pd 12 43 HT_ ?_
            refine pd 13 44 HT_ ?_
            refine pd 14 45 HT_ ?_
            refine pd 15 46 HT_ ?_
            refine pu 16 47 HT_ ?_
            refine done_ (done_of HT_.out (by kernel_rfl)) ?_
            try go_wp2
            go_meet
            case rel => exact ⟨_, (false), (by first | rfl | (simp; done) | (simp [*]; done)), H', ⟨by have := HK1.out; first | omega | exact Nat.le_refl _⟩, ⟨by exact bk BK172⟩, ⟨by exact bk BK174⟩, ⟨by repeat (first | (with_reducible first | exact HB.out | apply below_alloc | apply pw_below_drewN | apply below_drew1 | refine below_set ?_ GE172.out | refine below_set ?_ GE174.out) | exact HB.out)⟩⟩
           ·rw [if_neg c18] at H
            have c18b0 : (x10_1 == a2) = false := beq_eq_false_iff_ne.mpr c18
            have c18b1 : (x10_1 != a2) = true := bne_iff_ne.mpr c18
            by_cases c20 : 0 ≤ x10_1
            ·rw [if_pos c20] at H
             have c20b0 : decide (0 ≤ x10_1) = true := decide_eq_true c20
             clear c20
             by_cases c21 : x10_1 < (l0.length : Int)
             ·rw [if_pos c21] at H
              have c21b0 : decide (x10_1 < (l0.length : Int)) = true := decide_eq_true c21
              clear c21
              replace H := Option.bind_eq_some_iff.mp H
              obtain ⟨t176, A220, H⟩ := H
              replace H : (spec_l04Diagonal.j1 k1 l0 a1 a2 (l0.length : Int) x10_1 t176 ((rd_T73 l0 a1).f0) ((rd_T73 l0 a1).f1) ((rd_T73 l0 a2).f0) ((rd_T73 l0 a2).f1)) = some r := H
              have A22 := Aside0.mk A220
              clear A220
              have H' := Aside0.mk H
              clear H
              try go_wp2
              have n0_ := Aside0.mk (blk_drew BK172.out)
              have n1_ := Aside0.mk (blk_drew BK174.out)
              have n2_ := Aside0.mk (below_drew1 HB.out)
              clear BK172
              clear BK174
              clear HB
              have BK172 := n0_
              have BK174 := n1_
              have HB := n2_
              clear n0_ n1_ n2_
              have p175 : 0 ≤ (x10_1 : Int) := da
              have q175 : x10_1 < (l0.length : Int) := da
              obtain ⟨ad175, e175, hx175_0, hx175_1⟩ := at_T73 HR0.out x10_1 p175 q175
              have hw175_1 := hx175_1
              have hw175_0 := hx175_0
              obtain rfl : ad171 = ad175 := (by injection e175)
              replace hx175_0 := (HB.out.cell (bL w _ hx175_0)).trans hx175_0
              replace hx175_1 := (HB.out.cell (bL w _ hx175_1)).trans hx175_1
              replace p175 := eq_true p175
              replace q175 := eq_true q175
              refine start_ (n := 17) (S := fun w' => w'.cell? ⟨gb172, 0, none⟩ = some (.int .i64 ((rd_T73 l0 a1).f0)) ∧ w'.cell? ⟨gb172, 1, none⟩ = some (.int .i64 ((rd_T73 l0 a1).f1)) ∧ w'.cell? ⟨gb174, 0, none⟩ = some (.int .i64 ((rd_T73 l0 a2).f0)) ∧ w'.cell? ⟨gb174, 1, none⟩ = some (.int .i64 ((rd_T73 l0 a2).f1)) ∧ w'.cell? (ad171.add ((x10_1).toNat * 2)) = some (.int .i64 ((rd_T73 l0 x10_1).f0)) ∧ w'.cell? ⟨(ad171.add ((x10_1).toNat * 2)).block, (ad171.add ((x10_1).toNat * 2)).off + 1, none⟩ = some (.int .i64 ((rd_T73 l0 x10_1).f1))) (ds := []) #[fF,fF,fF,fF,fF,fF,fF,fF,fF,fF,fF,fF,fF,fF,fF,fF,fF] (by kernel_rfl) rfl rfl ⟨(blk_cell BK172.out 0).trans rfl, (blk_cell BK172.out 1).trans rfl, (blk_cell BK174.out 0).trans rfl, (blk_cell BK174.out 1).trans rfl, ((HB.out.cell (bL w _ hw175_0)).trans hw175_0), ((HB.out.cell (bL w _ hw175_1)).trans hw175_1)⟩ (fun hHeld => ?_); refine with_tabW spec_l04Diagonal.tab9 spec_l04Diagonal.bits9 (fun HT_ HW_ => ?_)
              generalize wr.drew = w23 at BK172 BK174 HB hx175_0 hx175_1 hHeld ⊢
              refine pu 0 31 HT_ ?_
              refine pu 1 32 HT_ ?_
              refine pu 2 33 HT_ ?_
              refine pu 3 34 HT_ ?_
              refine pu 4 35 HT_ ?_
              refine pu 5 36 HT_ ?_
              refine pu 6 37 HT_ ?_
              refine pu 7 38 HT_ ?_
              refine pu 8 39 HT_ ?_
              refine pu 11 42 HT_ ?_
              refine pu 12 43 HT_ ?_
              refine pu 13 44 HT_ ?_
              refine tk 9 40 HT_ HW_ hHeld ?_
              refine tk 10 41 HT_ HW_ hHeld ?_
              refine tk 14 45 HT_ HW_ hHeld ?_
              refine on 15 46 HT_ (fun K hK => ?_)
              refine goes_ Try.func99 (by kernel_rfl) rfl #[.agg #[.int .i64 ((rd_T73 l0 a1).f0), .int .i64 ((rd_T73 l0 a1).f1)], .agg #[.int .i64 ((rd_T73 l0 a2).f0), .int .i64 ((rd_T73 l0 a2).f1)], .agg #[.int .i64 ((rd_T73 l0 x10_1).f0), .int .i64 ((rd_T73 l0 x10_1).f1)]] (by rfl) rfl rfl (by (try simp only [List.map_toArray, List.map_cons, List.map_nil]); first | done | rfl | (simp only [List.length_drop, List.length_take]; rfl)) ?_
              with_reducible refine (spec_l02On.calls ((rd_T73 l0 a1).f0) ((rd_T73 l0 a1).f1) ((rd_T73 l0 a2).f0) ((rd_T73 l0 a2).f1) ((rd_T73 l0 x10_1).f0) ((rd_T73 l0 x10_1).f1) t176 _ A22.out).mono ?_
              rintro e w24 ⟨rfl, hb⟩
              refine ⟨_, rfl, ?_⟩
              have n0_ := kb BK172 hb
              have n1_ := kb BK174 hb
              have n2_ := sb hb
              clear BK172
              clear BK174
              clear HB
              have BK172 := n0_
              have BK174 := n1_
              have HB := n2_
              clear n0_ n1_ n2_
              (try clear hb)
              (try clear hb2)
              (try clear hk)
              (try clear hi)
              refine hK.out _ _ ⟨(blk_cell BK172.out 0).trans rfl, (blk_cell BK172.out 1).trans rfl, (blk_cell BK174.out 0).trans rfl, (blk_cell BK174.out 1).trans rfl, ((HB.out.cell (bL w _ hw175_0)).trans hw175_0), ((HB.out.cell (bL w _ hw175_1)).trans hw175_1)⟩ (fun hHeld => ?_)
              clear hK K
              refine norm_ (a' := ?_) ?_ ?_
              rotate_left
              ·show Act.put _ (some 46) _ = _
               simp only [Act.put, List.setIfInBounds_toArray, List.set_cons_zero, List.set_cons_succ, i64_w, i32_w]
               rfl
              refine pu 16 47 HT_ ?_
              refine done_ (done_of HT_.out (by kernel_rfl)) ?_
              try go_wp2
              go_meet
              case rel => exact ⟨_, (t176), (by first | rfl | (simp; done) | (simp [*]; done)), H', ⟨by have := HK1.out; first | omega | exact Nat.le_refl _⟩, ⟨by exact bk BK172⟩, ⟨by exact bk BK174⟩, ⟨by repeat (first | (with_reducible first | exact HB.out | apply below_alloc | apply pw_below_drewN | apply below_drew1 | refine below_set ?_ GE172.out | refine below_set ?_ GE174.out) | exact HB.out)⟩⟩
             ·rw [if_neg c21] at H
              exact absurd H (by simp)
            ·rw [if_neg c20] at H
             exact absurd H (by simp)
         case rest =>
          clear HC15
          try clear c1
          try clear p1
          try clear q1
          try clear hx1
          try clear c2
          try clear p2
          try clear c4
          try clear c4b0
          try clear c4b1
          try clear c5
          try clear c5b0
          try clear c6
          try clear c6b0
          try clear c7
          try clear c7b0
          try clear c8
          try clear c8b0
          try clear c9
          try clear c12
          try clear c14
          try clear c14b0
          try clear c16
          try clear c16b0
          try clear c16b1
          try clear p17
          try clear q17
          try clear hx17
          try clear c18
          try clear c18b0
          try clear c18b1
          try clear c20
          try clear c20b0
          try clear c21
          try clear c21b0
          try clear hcz10_0
          try clear hcz10_1
          try clear hcz13_0
          try clear hcz13_1
          try clear hfz10_0
          try clear hfz10_1
          try clear hfz13_0
          try clear hfz13_1
          try clear hx171_0
          try clear hx171_1
          try clear hx173_0
          try clear hx173_1
          try clear hx175_0
          try clear hx175_1
          try clear p1
          try clear p171
          try clear p173
          try clear p175
          try clear p2
          try clear q1
          try clear q171
          try clear q173
          try clear q175
          obtain ⟨kq, x47_14, rfl, HA, HJ14, BK172, BK174, HB⟩ := hcut
          cases kq with
          | zero => exact absurd HA.out (by simp [spec_l04Diagonal.j1])
          | succ kj14 =>
           have H := HA.out
           clear HA
           simp only [spec_l04Diagonal.j1] at H
           by_cases c25 : x47_14 = true
           ·subst c25
            have H1 : (some false) = some r := by rw [if_pos rfl] at H; exact H
            clear H
            have H := H1
            clear H1
            obtain rfl := Option.some.inj H
            go_wp2
            go_ret
            exact ⟨by first | rfl | (simp [errW_none, errW_some] <;> rfl) | (simp [*, errW_none, errW_some] <;> rfl), by repeat (first | (with_reducible first | exact HB.out | apply below_alloc | apply pw_below_drewN | apply below_drew1 | refine below_set ?_ GE172.out | refine below_set ?_ GE174.out) | exact HB.out)⟩
           ·replace c25 := Bool.eq_false_iff.mpr c25
            subst c25
            have H1 : (if 0 ≤ x10_1 then (if x10_1 < (l0.length : Int) then (if (l0.length : Int) = 0 then (none) else (if 0 ≤ (Int.tmod (wrap64 (x10_1 + 1)) (l0.length : Int)) then (if (Int.tmod (wrap64 (x10_1 + 1)) (l0.length : Int)) < (l0.length : Int) then ((spec_l02Crosses.f ((rd_T73 l0 a1).f0) ((rd_T73 l0 a1).f1) ((rd_T73 l0 a2).f0) ((rd_T73 l0 a2).f1) ((rd_T73 l0 x10_1).f0) ((rd_T73 l0 x10_1).f1) ((rd_T73 l0 (Int.tmod (wrap64 (x10_1 + 1)) (l0.length : Int))).f0) ((rd_T73 l0 (Int.tmod (wrap64 (x10_1 + 1)) (l0.length : Int))).f1)).bind fun t179 => (if t179 = true then (some false) else (spec_l04Diagonal.l0 kj14 l0 a1 a2 (l0.length : Int) (wrap64 (x10_1 + 1)) ((rd_T73 l0 a1).f0) ((rd_T73 l0 a1).f1) ((rd_T73 l0 a2).f0) ((rd_T73 l0 a2).f1)))) else (none)) else (none))) else (none)) else (none)) = some r := by rw [if_neg (show ¬ (false = true) by decide)] at H; exact H
            clear H
            have H := H1
            clear H1
            by_cases c26 : 0 ≤ x10_1
            ·rw [if_pos c26] at H
             have c26b0 : decide (0 ≤ x10_1) = true := decide_eq_true c26
             clear c26
             by_cases c27 : x10_1 < (l0.length : Int)
             ·rw [if_pos c27] at H
              have c27b0 : decide (x10_1 < (l0.length : Int)) = true := decide_eq_true c27
              clear c27
              by_cases c28 : (l0.length : Int) = 0
              ·rw [if_pos c28] at H
               exact absurd H (by simp)
              ·rw [if_neg c28] at H
               have c28b0 : ((l0.length : Int) == 0) = false := beq_eq_false_iff_ne.mpr c28
               have c28b1 : ((l0.length : Int) != 0) = true := bne_iff_ne.mpr c28
               have c28b2 : ¬ (l0 = []) := fun h_ => c28 (by rw [h_]; rfl)
               obtain ⟨ji29, hji29⟩ : ∃ j_ : Int, (Int.tmod (wrap64 (x10_1 + 1)) (l0.length : Int)) = j_ := ⟨_, rfl⟩
               replace H : (if 0 ≤ (ji29) then (if (ji29) < (l0.length : Int) then ((spec_l02Crosses.f ((rd_T73 l0 a1).f0) ((rd_T73 l0 a1).f1) ((rd_T73 l0 a2).f0) ((rd_T73 l0 a2).f1) ((rd_T73 l0 x10_1).f0) ((rd_T73 l0 x10_1).f1) ((rd_T73 l0 (ji29)).f0) ((rd_T73 l0 (ji29)).f1)).bind fun t179 => (if t179 = true then (some false) else (spec_l04Diagonal.l0 kj14 l0 a1 a2 (l0.length : Int) (wrap64 (x10_1 + 1)) ((rd_T73 l0 a1).f0) ((rd_T73 l0 a1).f1) ((rd_T73 l0 a2).f0) ((rd_T73 l0 a2).f1)))) else (none)) else (none)) = some r := by first | (rw [hji29] at H; exact H) | (simp only [hji29] at H ⊢; exact H)
               by_cases c30 : 0 ≤ (ji29)
               ·rw [if_pos c30] at H
                have c30b0 : decide (0 ≤ (ji29)) = true := decide_eq_true c30
                clear c30
                by_cases c31 : (ji29) < (l0.length : Int)
                ·rw [if_pos c31] at H
                 have c31b0 : decide ((ji29) < (l0.length : Int)) = true := decide_eq_true c31
                 clear c31
                 replace H := Option.bind_eq_some_iff.mp H
                 obtain ⟨t179, A320, H⟩ := H
                 replace H : (if t179 = true then (some false) else (spec_l04Diagonal.l0 kj14 l0 a1 a2 (l0.length : Int) (wrap64 (x10_1 + 1)) ((rd_T73 l0 a1).f0) ((rd_T73 l0 a1).f1) ((rd_T73 l0 a2).f0) ((rd_T73 l0 a2).f1))) = some r := H
                 have A32 := Aside0.mk A320
                 clear A320
                 by_cases c33 : t179 = true
                 ·subst c33
                  have H1 : (some false) = some r := by rw [if_pos rfl] at H; exact H
                  clear H
                  have H := H1
                  clear H1
                  obtain rfl := Option.some.inj H
                  try go_wp2
                  have n0_ := Aside0.mk (blk_drew BK172.out)
                  have n1_ := Aside0.mk (blk_drew BK174.out)
                  have n2_ := Aside0.mk (below_drew1 HB.out)
                  clear BK172
                  clear BK174
                  clear HB
                  have BK172 := n0_
                  have BK174 := n1_
                  have HB := n2_
                  clear n0_ n1_ n2_
                  have p177 : 0 ≤ (x10_1 : Int) := da
                  have q177 : x10_1 < (l0.length : Int) := da
                  obtain ⟨ad177, e177, hx177_0, hx177_1⟩ := at_T73 HR0.out x10_1 p177 q177
                  have hw177_1 := hx177_1
                  have hw177_0 := hx177_0
                  obtain rfl : ad171 = ad177 := (by injection e177)
                  replace hx177_0 := (HB.out.cell (bL w _ hx177_0)).trans hx177_0
                  replace hx177_1 := (HB.out.cell (bL w _ hx177_1)).trans hx177_1
                  replace p177 := eq_true p177
                  replace q177 := eq_true q177
                  have p178 : 0 ≤ ((ji29) : Int) := da
                  have q178 : (ji29) < (l0.length : Int) := da
                  obtain ⟨ad178, e178, hx178_0, hx178_1⟩ := at_T73 HR0.out (ji29) p178 q178
                  have hw178_1 := hx178_1
                  have hw178_0 := hx178_0
                  obtain rfl : ad171 = ad178 := (by injection e178)
                  replace hx178_0 := (HB.out.cell (bL w _ hx178_0)).trans hx178_0
                  replace hx178_1 := (HB.out.cell (bL w _ hx178_1)).trans hx178_1
                  replace p178 := eq_true p178
                  replace q178 := eq_true q178
                  refine start_ (n := 14) (S := fun w' => w'.cell? ⟨gb172, 0, none⟩ = some (.int .i64 ((rd_T73 l0 a1).f0)) ∧ w'.cell? ⟨gb172, 1, none⟩ = some (.int .i64 ((rd_T73 l0 a1).f1)) ∧ w'.cell? ⟨gb174, 0, none⟩ = some (.int .i64 ((rd_T73 l0 a2).f0)) ∧ w'.cell? ⟨gb174, 1, none⟩ = some (.int .i64 ((rd_T73 l0 a2).f1)) ∧ w'.cell? (ad171.add ((x10_1).toNat * 2)) = some (.int .i64 ((rd_T73 l0 x10_1).f0)) ∧ w'.cell? ⟨(ad171.add ((x10_1).toNat * 2)).block, (ad171.add ((x10_1).toNat * 2)).off + 1, none⟩ = some (.int .i64 ((rd_T73 l0 x10_1).f1)) ∧ w'.cell? (ad171.add (((ji29)).toNat * 2)) = some (.int .i64 ((rd_T73 l0 (ji29)).f0)) ∧ w'.cell? ⟨(ad171.add (((ji29)).toNat * 2)).block, (ad171.add (((ji29)).toNat * 2)).off + 1, none⟩ = some (.int .i64 ((rd_T73 l0 (ji29)).f1))) (ds := []) #[fF,fF,fF,fF,fF,fF,fF,fF,fF,fF,fF,fF,fF,fF] (by kernel_rfl) rfl rfl ⟨(blk_cell BK172.out 0).trans rfl, (blk_cell BK172.out 1).trans rfl, (blk_cell BK174.out 0).trans rfl, (blk_cell BK174.out 1).trans rfl, ((HB.out.cell (bL w _ hw177_0)).trans hw177_0), ((HB.out.cell (bL w _ hw177_1)).trans hw177_1), ((HB.out.cell (bL w _ hw178_0)).trans hw178_0), ((HB.out.cell (bL w _ hw178_1)).trans hw178_1)⟩ (fun hHeld => ?_); refine with_tabW spec_l04Diagonal.tab11 spec_l04Diagonal.bits11 (fun HT_ HW_ => ?_)
                  generalize wc.drew = w34 at BK172 BK174 HB hx177_0 hx177_1 hx178_0 hx178_1 hHeld ⊢
                  refine pu 2 50 HT_ ?_
                  refine pu 3 51 HT_ ?_
                  refine pu 4 52 HT_ ?_
                  refine pu 6 54 HT_ ?_
                  refine pu 7 55 HT_ ?_
                  refine pu 8 56 HT_ ?_
                  refine pu 9 57 HT_ ?_
                  refine pu 10 58 HT_ ?_
                  refine pu 11 59 HT_ ?_
                  refine tk 0 48 HT_ HW_ hHeld ?_
                  refine tk 1 49 HT_ HW_ hHeld ?_
                  refine tk 5 53 HT_ HW_ hHeld ?_
                  refine tk 12 60 HT_ HW_ hHeld ?_
                  refine on 13 61 HT_ (fun K hK => ?_)
                  refine goes_ Try.func102 (by kernel_rfl) rfl #[.agg #[.int .i64 ((rd_T73 l0 a1).f0), .int .i64 ((rd_T73 l0 a1).f1)], .agg #[.int .i64 ((rd_T73 l0 a2).f0), .int .i64 ((rd_T73 l0 a2).f1)], .agg #[.int .i64 ((rd_T73 l0 x10_1).f0), .int .i64 ((rd_T73 l0 x10_1).f1)], .agg #[.int .i64 ((rd_T73 l0 (ji29)).f0), .int .i64 ((rd_T73 l0 (ji29)).f1)]] (by rfl) rfl rfl (by (try simp only [List.map_toArray, List.map_cons, List.map_nil]); first | done | (simp only [hji29]; rfl) | rfl | (simp only [List.length_drop, List.length_take]; rfl)) ?_
                  with_reducible refine (spec_l02Crosses.calls ((rd_T73 l0 a1).f0) ((rd_T73 l0 a1).f1) ((rd_T73 l0 a2).f0) ((rd_T73 l0 a2).f1) ((rd_T73 l0 x10_1).f0) ((rd_T73 l0 x10_1).f1) ((rd_T73 l0 (ji29)).f0) ((rd_T73 l0 (ji29)).f1) true _ A32.out).mono ?_
                  rintro e w35 ⟨rfl, hb⟩
                  refine ⟨_, rfl, ?_⟩
                  have n0_ := kb BK172 hb
                  have n1_ := kb BK174 hb
                  have n2_ := sb hb
                  clear BK172
                  clear BK174
                  clear HB
                  have BK172 := n0_
                  have BK174 := n1_
                  have HB := n2_
                  clear n0_ n1_ n2_
                  (try clear hb)
                  (try clear hb2)
                  (try clear hk)
                  (try clear hi)
                  refine hK.out _ _ ⟨(blk_cell BK172.out 0).trans rfl, (blk_cell BK172.out 1).trans rfl, (blk_cell BK174.out 0).trans rfl, (blk_cell BK174.out 1).trans rfl, ((HB.out.cell (bL w _ hw177_0)).trans hw177_0), ((HB.out.cell (bL w _ hw177_1)).trans hw177_1), ((HB.out.cell (bL w _ hw178_0)).trans hw178_0), ((HB.out.cell (bL w _ hw178_1)).trans hw178_1)⟩ (fun hHeld => ?_)
                  clear hK K
                  refine norm_ (a' := ?_) ?_ ?_
                  rotate_left
                  ·show Act.put _ (some 61) _ = _
                   simp only [Act.put, List.setIfInBounds_toArray, List.set_cons_zero, List.set_cons_succ, i64_w, i32_w]
                   rfl
                  refine done_ (done_of HT_.out (by kernel_rfl)) ?_
                  try go_wp2
                  go_ret
                  exact ⟨by first | rfl | (simp [errW_none, errW_some] <;> rfl) | (simp only [← hji29]; first | rfl | (simp [errW_none, errW_some] <;> rfl)) | (simp [*, errW_none, errW_some] <;> rfl), by repeat (first | (with_reducible first | exact HB.out | apply below_alloc | apply pw_below_drewN | apply below_drew1 | refine below_set ?_ GE172.out | refine below_set ?_ GE174.out) | exact HB.out)⟩
                 ·replace c33 := Bool.eq_false_iff.mpr c33
                  subst c33
                  have H1 : (spec_l04Diagonal.l0 kj14 l0 a1 a2 (l0.length : Int) (wrap64 (x10_1 + 1)) ((rd_T73 l0 a1).f0) ((rd_T73 l0 a1).f1) ((rd_T73 l0 a2).f0) ((rd_T73 l0 a2).f1)) = some r := by rw [if_neg (show ¬ (false = true) by decide)] at H; exact H
                  clear H
                  have H := H1
                  clear H1
                  have H' := Aside0.mk H
                  clear H
                  try go_wp2
                  have n0_ := Aside0.mk (blk_drew BK172.out)
                  have n1_ := Aside0.mk (blk_drew BK174.out)
                  have n2_ := Aside0.mk (below_drew1 HB.out)
                  clear BK172
                  clear BK174
                  clear HB
                  have BK172 := n0_
                  have BK174 := n1_
                  have HB := n2_
                  clear n0_ n1_ n2_
                  have p177 : 0 ≤ (x10_1 : Int) := da
                  have q177 : x10_1 < (l0.length : Int) := da
                  obtain ⟨ad177, e177, hx177_0, hx177_1⟩ := at_T73 HR0.out x10_1 p177 q177
                  have hw177_1 := hx177_1
                  have hw177_0 := hx177_0
                  obtain rfl : ad171 = ad177 := (by injection e177)
                  replace hx177_0 := (HB.out.cell (bL w _ hx177_0)).trans hx177_0
                  replace hx177_1 := (HB.out.cell (bL w _ hx177_1)).trans hx177_1
                  replace p177 := eq_true p177
                  replace q177 := eq_true q177
                  have p178 : 0 ≤ ((ji29) : Int) := da
                  have q178 : (ji29) < (l0.length : Int) := da
                  obtain ⟨ad178, e178, hx178_0, hx178_1⟩ := at_T73 HR0.out (ji29) p178 q178
                  have hw178_1 := hx178_1
                  have hw178_0 := hx178_0
                  obtain rfl : ad171 = ad178 := (by injection e178)
                  replace hx178_0 := (HB.out.cell (bL w _ hx178_0)).trans hx178_0
                  replace hx178_1 := (HB.out.cell (bL w _ hx178_1)).trans hx178_1
                  replace p178 := eq_true p178
                  replace q178 := eq_true q178
                  refine start_ (n := 14) (S := fun w' => w'.cell? ⟨gb172, 0, none⟩ = some (.int .i64 ((rd_T73 l0 a1).f0)) ∧ w'.cell? ⟨gb172, 1, none⟩ = some (.int .i64 ((rd_T73 l0 a1).f1)) ∧ w'.cell? ⟨gb174, 0, none⟩ = some (.int .i64 ((rd_T73 l0 a2).f0)) ∧ w'.cell? ⟨gb174, 1, none⟩ = some (.int .i64 ((rd_T73 l0 a2).f1)) ∧ w'.cell? (ad171.add ((x10_1).toNat * 2)) = some (.int .i64 ((rd_T73 l0 x10_1).f0)) ∧ w'.cell? ⟨(ad171.add ((x10_1).toNat * 2)).block, (ad171.add ((x10_1).toNat * 2)).off + 1, none⟩ = some (.int .i64 ((rd_T73 l0 x10_1).f1)) ∧ w'.cell? (ad171.add (((ji29)).toNat * 2)) = some (.int .i64 ((rd_T73 l0 (ji29)).f0)) ∧ w'.cell? ⟨(ad171.add (((ji29)).toNat * 2)).block, (ad171.add (((ji29)).toNat * 2)).off + 1, none⟩ = some (.int .i64 ((rd_T73 l0 (ji29)).f1))) (ds := []) #[fF,fF,fF,fF,fF,fF,fF,fF,fF,fF,fF,fF,fF,fF] (by kernel_rfl) rfl rfl ⟨(blk_cell BK172.out 0).trans rfl, (blk_cell BK172.out 1).trans rfl, (blk_cell BK174.out 0).trans rfl, (blk_cell BK174.out 1).trans rfl, ((HB.out.cell (bL w _ hw177_0)).trans hw177_0), ((HB.out.cell (bL w _ hw177_1)).trans hw177_1), ((HB.out.cell (bL w _ hw178_0)).trans hw178_0), ((HB.out.cell (bL w _ hw178_1)).trans hw178_1)⟩ (fun hHeld => ?_); refine with_tabW spec_l04Diagonal.tab11 spec_l04Diagonal.bits11 (fun HT_ HW_ => ?_)
                  generalize wc.drew = w36 at BK172 BK174 HB hx177_0 hx177_1 hx178_0 hx178_1 hHeld ⊢
                  refine pu 2 50 HT_ ?_
                  refine pu 3 51 HT_ ?_
                  refine pu 4 52 HT_ ?_
                  refine pu 6 54 HT_ ?_
                  refine pu 7 55 HT_ ?_
                  refine pu 8 56 HT_ ?_
                  refine pu 9 57 HT_ ?_
                  refine pu 10 58 HT_ ?_
                  refine pu 11 59 HT_ ?_
                  refine tk 0 48 HT_ HW_ hHeld ?_
                  refine tk 1 49 HT_ HW_ hHeld ?_
                  refine tk 5 53 HT_ HW_ hHeld ?_
                  refine tk 12 60 HT_ HW_ hHeld ?_
                  refine on 13 61 HT_ (fun K hK => ?_)
                  refine goes_ Try.func102 (by kernel_rfl) rfl #[.agg #[.int .i64 ((rd_T73 l0 a1).f0), .int .i64 ((rd_T73 l0 a1).f1)], .agg #[.int .i64 ((rd_T73 l0 a2).f0), .int .i64 ((rd_T73 l0 a2).f1)], .agg #[.int .i64 ((rd_T73 l0 x10_1).f0), .int .i64 ((rd_T73 l0 x10_1).f1)], .agg #[.int .i64 ((rd_T73 l0 (ji29)).f0), .int .i64 ((rd_T73 l0 (ji29)).f1)]] (by rfl) rfl rfl (by (try simp only [List.map_toArray, List.map_cons, List.map_nil]); first | done | (simp only [hji29]; rfl) | rfl | (simp only [List.length_drop, List.length_take]; rfl)) ?_
                  with_reducible refine (spec_l02Crosses.calls ((rd_T73 l0 a1).f0) ((rd_T73 l0 a1).f1) ((rd_T73 l0 a2).f0) ((rd_T73 l0 a2).f1) ((rd_T73 l0 x10_1).f0) ((rd_T73 l0 x10_1).f1) ((rd_T73 l0 (ji29)).f0) ((rd_T73 l0 (ji29)).f1) false _ A32.out).mono ?_
                  rintro e w37 ⟨rfl, hb⟩
                  refine ⟨_, rfl, ?_⟩
                  have n0_ := kb BK172 hb
                  have n1_ := kb BK174 hb
                  have n2_ := sb hb
                  clear BK172
                  clear BK174
                  clear HB
                  have BK172 := n0_
                  have BK174 := n1_
                  have HB := n2_
                  clear n0_ n1_ n2_
                  (try clear hb)
                  (try clear hb2)
                  (try clear hk)
                  (try clear hi)
                  refine hK.out _ _ ⟨(blk_cell BK172.out 0).trans rfl, (blk_cell BK172.out 1).trans rfl, (blk_cell BK174.out 0).trans rfl, (blk_cell BK174.out 1).trans rfl, ((HB.out.cell (bL w _ hw177_0)).trans hw177_0), ((HB.out.cell (bL w _ hw177_1)).trans hw177_1), ((HB.out.cell (bL w _ hw178_0)).trans hw178_0), ((HB.out.cell (bL w _ hw178_1)).trans hw178_1)⟩ (fun hHeld => ?_)
                  clear hK K
                  refine norm_ (a' := ?_) ?_ ?_
                  rotate_left
                  ·show Act.put _ (some 61) _ = _
                   simp only [Act.put, List.setIfInBounds_toArray, List.set_cons_zero, List.set_cons_succ, i64_w, i32_w]
                   rfl
                  refine done_ (done_of HT_.out (by kernel_rfl)) ?_
                  try go_wp2
                  go_roundg kj14
                  case measure => have := HK1.out; have := HJ14.out; omega
                  case rel => exact ⟨(wrap64 (x10_1 + 1)), (by first | rfl | (simp; done) | (simp [*]; done)), H', ⟨by have := HK1.out; have := HJ14.out; omega⟩, ⟨by exact bk BK172⟩, ⟨by exact bk BK174⟩, ⟨by repeat (first | (with_reducible first | exact HB.out | apply below_alloc | apply pw_below_drewN | apply below_drew1 | refine below_set ?_ GE172.out | refine below_set ?_ GE174.out) | exact HB.out)⟩⟩
                ·rw [if_neg c31] at H
                 exact absurd H (by simp)
               ·rw [if_neg c30] at H
                exact absurd H (by simp)
             ·rw [if_neg c27] at H
              exact absurd H (by simp)
            ·rw [if_neg c26] at H
             exact absurd H (by simp)
        ·rw [if_neg c14] at H
         have c14b0 : decide (x10_1 < (l0.length : Int)) = false := decide_eq_false c14
         clear c14
         have HC38 := Aside0.mk H
         clear H
         go_upto_region 13 with (fail)
         go_cut [75] (fun v75 wc => ∃ (kq : Nat) (x75_37 : Bool), v75 = .bool x75_37 ∧ Aside0 (spec_l04Diagonal.j2 kq l0 a1 (l0.length : Int) x75_37 ((rd_T73 l0 a1).f0) ((rd_T73 l0 a1).f1) ((rd_T73 l0 a2).f0) ((rd_T73 l0 a2).f1) = some r) ∧ Aside0 (kq ≤ k1) ∧ Aside0 (wc.heap[gb172]? = some (.cells #[.int .i64 ((rd_T73 l0 a1).f0), .int .i64 ((rd_T73 l0 a1).f1)] 73 (0, 0))) ∧ Aside0 (wc.heap[gb174]? = some (.cells #[.int .i64 ((rd_T73 l0 a2).f0), .int .i64 ((rd_T73 l0 a2).f1)] 73 (0, 0))) ∧ Aside0 (Below w.heap.size w wc))
         case first =>
          have H := HC38.out
          clear HC38
          by_cases c39 : (l0.length : Int) = 0
          ·rw [if_pos c39] at H
           exact absurd H (by simp)
          ·rw [if_neg c39] at H
           have c39b0 : ((l0.length : Int) == 0) = false := beq_eq_false_iff_ne.mpr c39
           have c39b1 : ((l0.length : Int) != 0) = true := bne_iff_ne.mpr c39
           have c39b2 : ¬ (l0 = []) := fun h_ => c39 (by rw [h_]; rfl)
           (first | rw [c39b0] | (simp only [i64_w, i32_w]; rw [c39b0]) | skip)
           by_cases c40 : (Int.tmod (wrap64 (a1 + 1)) (l0.length : Int)) = a2
           ·rw [if_pos c40] at H
            have c40b0 : ((Int.tmod (wrap64 (a1 + 1)) (l0.length : Int)) == a2) = true := beq_iff_eq.mpr c40
            have c40b1 : ((Int.tmod (wrap64 (a1 + 1)) (l0.length : Int)) != a2) = false := bne_eq_false_iff_eq.mpr c40
            clear c40
            have H' := Aside0.mk H
            clear H
            go_wp2
            go_meet
            case rel => exact ⟨_, (true), (by first | rfl | (simp; done) | (simp [*]; done)), H', ⟨by have := HK1.out; first | omega | exact Nat.le_refl _⟩, ⟨by exact bk BK172⟩, ⟨by exact bk BK174⟩, ⟨by repeat (first | (with_reducible first | exact HB.out | apply below_alloc | apply pw_below_drewN | apply below_drew1 | refine below_set ?_ GE172.out | refine below_set ?_ GE174.out) | exact HB.out)⟩⟩
           ·rw [if_neg c40] at H
            have c40b0 : ((Int.tmod (wrap64 (a1 + 1)) (l0.length : Int)) == a2) = false := beq_eq_false_iff_ne.mpr c40
            have c40b1 : ((Int.tmod (wrap64 (a1 + 1)) (l0.length : Int)) != a2) = true := bne_iff_ne.mpr c40
            have H' := Aside0.mk H
            clear H
            go_wp2
            go_meet
            case rel => exact ⟨_, (((Int.tmod (wrap64 (a2 + 1)) (l0.length : Int)) == a1)), (by first | rfl | (simp; done) | (simp [*]; done)), H', ⟨by have := HK1.out; first | omega | exact Nat.le_refl _⟩, ⟨by exact bk BK172⟩, ⟨by exact bk BK174⟩, ⟨by repeat (first | (with_reducible first | exact HB.out | apply below_alloc | apply pw_below_drewN | apply below_drew1 | refine below_set ?_ GE172.out | refine below_set ?_ GE174.out) | exact HB.out)⟩⟩
         case rest =>
          clear HC38
          try clear c1
          try clear p1
          try clear q1
          try clear hx1
          try clear c2
          try clear p2
          try clear c3
          try clear c4
          try clear c4b0
          try clear c4b1
          try clear c5
          try clear c5b0
          try clear c6
          try clear c6b0
          try clear p6
          try clear c7
          try clear c7b0
          try clear c8
          try clear c8b0
          try clear c9
          try clear c10
          try clear c12
          try clear c14
          try clear c14b0
          try clear c16
          try clear c16b0
          try clear c16b1
          try clear p17
          try clear q17
          try clear hx17
          try clear c18
          try clear c18b0
          try clear c18b1
          try clear c20
          try clear c20b0
          try clear c21
          try clear c21b0
          try clear c25
          try clear c26
          try clear c26b0
          try clear c27
          try clear c27b0
          try clear c28
          try clear c28b0
          try clear c28b1
          try clear c28b2
          try clear c30
          try clear c30b0
          try clear c31
          try clear c31b0
          try clear c33
          try clear c39
          try clear c39b0
          try clear c39b1
          try clear c39b2
          try clear c40
          try clear c40b0
          try clear c40b1
          try clear hcz10_0
          try clear hcz10_1
          try clear hcz13_0
          try clear hcz13_1
          try clear hfz10_0
          try clear hfz10_1
          try clear hfz13_0
          try clear hfz13_1
          try clear hx171_0
          try clear hx171_1
          try clear hx173_0
          try clear hx173_1
          try clear hx175_0
          try clear hx175_1
          try clear hx177_0
          try clear hx177_1
          try clear hx178_0
          try clear hx178_1
          try clear p1
          try clear p17
          try clear p171
          try clear p173
          try clear p175
          try clear p177
          try clear p178
          try clear p2
          try clear q1
          try clear q17
          try clear q171
          try clear q173
          try clear q175
          try clear q177
          try clear q178
          obtain ⟨kq, x75_37, rfl, HA, HJ37, BK172, BK174, HB⟩ := hcut
          cases kq with
          | zero => exact absurd HA.out (by simp [spec_l04Diagonal.j2])
          | succ kj37 =>
           have H := HA.out
           clear HA
           simp only [spec_l04Diagonal.j2] at H
           by_cases c41 : x75_37 = true
           ·subst c41
            have H1 : (some false) = some r := by rw [if_pos rfl] at H; exact H
            clear H
            have H := H1
            clear H1
            obtain rfl := Option.some.inj H
            go_wp2
            go_ret
            exact ⟨by first | rfl | (simp [errW_none, errW_some] <;> rfl) | (simp [*, errW_none, errW_some] <;> rfl), by repeat (first | (with_reducible first | exact HB.out | apply below_alloc | apply pw_below_drewN | apply below_drew1 | refine below_set ?_ GE172.out | refine below_set ?_ GE174.out) | exact HB.out)⟩
           ·replace c41 := Bool.eq_false_iff.mpr c41
            subst c41
            have H1 : (if (l0.length : Int) = 0 then (none) else (if 0 ≤ (Int.tmod (wrap64 ((wrap64 (a1 + (l0.length : Int))) - 1)) (l0.length : Int)) then (if (Int.tmod (wrap64 ((wrap64 (a1 + (l0.length : Int))) - 1)) (l0.length : Int)) < (l0.length : Int) then (if 0 ≤ (Int.tmod (wrap64 (a1 + 1)) (l0.length : Int)) then (if (Int.tmod (wrap64 (a1 + 1)) (l0.length : Int)) < (l0.length : Int) then ((spec_l02Side.f ((rd_T73 l0 (Int.tmod (wrap64 ((wrap64 (a1 + (l0.length : Int))) - 1)) (l0.length : Int))).f0) ((rd_T73 l0 (Int.tmod (wrap64 ((wrap64 (a1 + (l0.length : Int))) - 1)) (l0.length : Int))).f1) ((rd_T73 l0 a1).f0) ((rd_T73 l0 a1).f1) ((rd_T73 l0 (Int.tmod (wrap64 (a1 + 1)) (l0.length : Int))).f0) ((rd_T73 l0 (Int.tmod (wrap64 (a1 + 1)) (l0.length : Int))).f1)).bind fun t184 => (if t184 ≥ 0 then ((spec_l02Side.f ((rd_T73 l0 a1).f0) ((rd_T73 l0 a1).f1) ((rd_T73 l0 a2).f0) ((rd_T73 l0 a2).f1) ((rd_T73 l0 (Int.tmod (wrap64 ((wrap64 (a1 + (l0.length : Int))) - 1)) (l0.length : Int))).f0) ((rd_T73 l0 (Int.tmod (wrap64 ((wrap64 (a1 + (l0.length : Int))) - 1)) (l0.length : Int))).f1)).bind fun t185 => (if t185 > 0 then ((spec_l02Side.f ((rd_T73 l0 a2).f0) ((rd_T73 l0 a2).f1) ((rd_T73 l0 a1).f0) ((rd_T73 l0 a1).f1) ((rd_T73 l0 (Int.tmod (wrap64 (a1 + 1)) (l0.length : Int))).f0) ((rd_T73 l0 (Int.tmod (wrap64 (a1 + 1)) (l0.length : Int))).f1)).bind fun t186 => (some (decide (t186 > 0)))) else (some false))) else ((spec_l02Side.f ((rd_T73 l0 a1).f0) ((rd_T73 l0 a1).f1) ((rd_T73 l0 a2).f0) ((rd_T73 l0 a2).f1) ((rd_T73 l0 (Int.tmod (wrap64 (a1 + 1)) (l0.length : Int))).f0) ((rd_T73 l0 (Int.tmod (wrap64 (a1 + 1)) (l0.length : Int))).f1)).bind fun t187 => (if t187 ≥ 0 then ((spec_l02Side.f ((rd_T73 l0 a2).f0) ((rd_T73 l0 a2).f1) ((rd_T73 l0 a1).f0) ((rd_T73 l0 a1).f1) ((rd_T73 l0 (Int.tmod (wrap64 ((wrap64 (a1 + (l0.length : Int))) - 1)) (l0.length : Int))).f0) ((rd_T73 l0 (Int.tmod (wrap64 ((wrap64 (a1 + (l0.length : Int))) - 1)) (l0.length : Int))).f1)).bind fun t188 => (some (!(decide (t188 ≥ 0))))) else (some (!false)))))) else (none)) else (none)) else (none)) else (none))) = some r := by rw [if_neg (show ¬ (false = true) by decide)] at H; exact H
            clear H
            have H := H1
            clear H1
            by_cases c42 : (l0.length : Int) = 0
            ·rw [if_pos c42] at H
             exact absurd H (by simp)
            ·rw [if_neg c42] at H
             have c42b0 : ((l0.length : Int) == 0) = false := beq_eq_false_iff_ne.mpr c42
             have c42b1 : ((l0.length : Int) != 0) = true := bne_iff_ne.mpr c42
             have c42b2 : ¬ (l0 = []) := fun h_ => c42 (by rw [h_]; rfl)
             obtain ⟨ji43, hji43⟩ : ∃ j_ : Int, (Int.tmod (wrap64 ((wrap64 (a1 + (l0.length : Int))) - 1)) (l0.length : Int)) = j_ := ⟨_, rfl⟩
             replace H : (if 0 ≤ (ji43) then (if (ji43) < (l0.length : Int) then (if 0 ≤ (Int.tmod (wrap64 (a1 + 1)) (l0.length : Int)) then (if (Int.tmod (wrap64 (a1 + 1)) (l0.length : Int)) < (l0.length : Int) then ((spec_l02Side.f ((rd_T73 l0 (ji43)).f0) ((rd_T73 l0 (ji43)).f1) ((rd_T73 l0 a1).f0) ((rd_T73 l0 a1).f1) ((rd_T73 l0 (Int.tmod (wrap64 (a1 + 1)) (l0.length : Int))).f0) ((rd_T73 l0 (Int.tmod (wrap64 (a1 + 1)) (l0.length : Int))).f1)).bind fun t184 => (if t184 ≥ 0 then ((spec_l02Side.f ((rd_T73 l0 a1).f0) ((rd_T73 l0 a1).f1) ((rd_T73 l0 a2).f0) ((rd_T73 l0 a2).f1) ((rd_T73 l0 (ji43)).f0) ((rd_T73 l0 (ji43)).f1)).bind fun t185 => (if t185 > 0 then ((spec_l02Side.f ((rd_T73 l0 a2).f0) ((rd_T73 l0 a2).f1) ((rd_T73 l0 a1).f0) ((rd_T73 l0 a1).f1) ((rd_T73 l0 (Int.tmod (wrap64 (a1 + 1)) (l0.length : Int))).f0) ((rd_T73 l0 (Int.tmod (wrap64 (a1 + 1)) (l0.length : Int))).f1)).bind fun t186 => (some (decide (t186 > 0)))) else (some false))) else ((spec_l02Side.f ((rd_T73 l0 a1).f0) ((rd_T73 l0 a1).f1) ((rd_T73 l0 a2).f0) ((rd_T73 l0 a2).f1) ((rd_T73 l0 (Int.tmod (wrap64 (a1 + 1)) (l0.length : Int))).f0) ((rd_T73 l0 (Int.tmod (wrap64 (a1 + 1)) (l0.length : Int))).f1)).bind fun t187 => (if t187 ≥ 0 then ((spec_l02Side.f ((rd_T73 l0 a2).f0) ((rd_T73 l0 a2).f1) ((rd_T73 l0 a1).f0) ((rd_T73 l0 a1).f1) ((rd_T73 l0 (ji43)).f0) ((rd_T73 l0 (ji43)).f1)).bind fun t188 => (some (!(decide (t188 ≥ 0))))) else (some (!false)))))) else (none)) else (none)) else (none)) else (none)) = some r := by first | (rw [hji43] at H; exact H) | (simp only [hji43] at H ⊢; exact H)
             by_cases c44 : 0 ≤ (ji43)
             ·rw [if_pos c44] at H
              have c44b0 : decide (0 ≤ (ji43)) = true := decide_eq_true c44
              clear c44
              by_cases c45 : (ji43) < (l0.length : Int)
              ·rw [if_pos c45] at H
               have c45b0 : decide ((ji43) < (l0.length : Int)) = true := decide_eq_true c45
               clear c45
               obtain ⟨ji46, hji46⟩ : ∃ j_ : Int, (Int.tmod (wrap64 (a1 + 1)) (l0.length : Int)) = j_ := ⟨_, rfl⟩
               replace H : (if 0 ≤ (ji46) then (if (ji46) < (l0.length : Int) then ((spec_l02Side.f ((rd_T73 l0 (ji43)).f0) ((rd_T73 l0 (ji43)).f1) ((rd_T73 l0 a1).f0) ((rd_T73 l0 a1).f1) ((rd_T73 l0 (ji46)).f0) ((rd_T73 l0 (ji46)).f1)).bind fun t184 => (if t184 ≥ 0 then ((spec_l02Side.f ((rd_T73 l0 a1).f0) ((rd_T73 l0 a1).f1) ((rd_T73 l0 a2).f0) ((rd_T73 l0 a2).f1) ((rd_T73 l0 (ji43)).f0) ((rd_T73 l0 (ji43)).f1)).bind fun t185 => (if t185 > 0 then ((spec_l02Side.f ((rd_T73 l0 a2).f0) ((rd_T73 l0 a2).f1) ((rd_T73 l0 a1).f0) ((rd_T73 l0 a1).f1) ((rd_T73 l0 (ji46)).f0) ((rd_T73 l0 (ji46)).f1)).bind fun t186 => (some (decide (t186 > 0)))) else (some false))) else ((spec_l02Side.f ((rd_T73 l0 a1).f0) ((rd_T73 l0 a1).f1) ((rd_T73 l0 a2).f0) ((rd_T73 l0 a2).f1) ((rd_T73 l0 (ji46)).f0) ((rd_T73 l0 (ji46)).f1)).bind fun t187 => (if t187 ≥ 0 then ((spec_l02Side.f ((rd_T73 l0 a2).f0) ((rd_T73 l0 a2).f1) ((rd_T73 l0 a1).f0) ((rd_T73 l0 a1).f1) ((rd_T73 l0 (ji43)).f0) ((rd_T73 l0 (ji43)).f1)).bind fun t188 => (some (!(decide (t188 ≥ 0))))) else (some (!false)))))) else (none)) else (none)) = some r := by first | (rw [hji46] at H; exact H) | (simp only [hji46] at H ⊢; exact H)
               by_cases c47 : 0 ≤ (ji46)
               ·rw [if_pos c47] at H
                have c47b0 : decide (0 ≤ (ji46)) = true := decide_eq_true c47
                clear c47
                by_cases c48 : (ji46) < (l0.length : Int)
                ·rw [if_pos c48] at H
                 have c48b0 : decide ((ji46) < (l0.length : Int)) = true := decide_eq_true c48
                 clear c48
                 replace H := Option.bind_eq_some_iff.mp H
                 obtain ⟨t184, A490, H⟩ := H
                 replace H : (if t184 ≥ 0 then ((spec_l02Side.f ((rd_T73 l0 a1).f0) ((rd_T73 l0 a1).f1) ((rd_T73 l0 a2).f0) ((rd_T73 l0 a2).f1) ((rd_T73 l0 (ji43)).f0) ((rd_T73 l0 (ji43)).f1)).bind fun t185 => (if t185 > 0 then ((spec_l02Side.f ((rd_T73 l0 a2).f0) ((rd_T73 l0 a2).f1) ((rd_T73 l0 a1).f0) ((rd_T73 l0 a1).f1) ((rd_T73 l0 (ji46)).f0) ((rd_T73 l0 (ji46)).f1)).bind fun t186 => (some (decide (t186 > 0)))) else (some false))) else ((spec_l02Side.f ((rd_T73 l0 a1).f0) ((rd_T73 l0 a1).f1) ((rd_T73 l0 a2).f0) ((rd_T73 l0 a2).f1) ((rd_T73 l0 (ji46)).f0) ((rd_T73 l0 (ji46)).f1)).bind fun t187 => (if t187 ≥ 0 then ((spec_l02Side.f ((rd_T73 l0 a2).f0) ((rd_T73 l0 a2).f1) ((rd_T73 l0 a1).f0) ((rd_T73 l0 a1).f1) ((rd_T73 l0 (ji43)).f0) ((rd_T73 l0 (ji43)).f1)).bind fun t188 => (some (!(decide (t188 ≥ 0))))) else (some (!false))))) = some r := H
                 have A49 := Aside0.mk A490
                 clear A490
                 by_cases c50 : t184 ≥ 0
                 ·rw [if_pos c50] at H
                  have c50b0 : decide (0 ≤ t184) = true := decide_eq_true c50
                  clear c50
                  replace H := Option.bind_eq_some_iff.mp H
                  obtain ⟨t185, A510, H⟩ := H
                  replace H : (if t185 > 0 then ((spec_l02Side.f ((rd_T73 l0 a2).f0) ((rd_T73 l0 a2).f1) ((rd_T73 l0 a1).f0) ((rd_T73 l0 a1).f1) ((rd_T73 l0 (ji46)).f0) ((rd_T73 l0 (ji46)).f1)).bind fun t186 => (some (decide (t186 > 0)))) else (some false)) = some r := H
                  have A51 := Aside0.mk A510
                  clear A510
                  by_cases c52 : t185 > 0
                  ·rw [if_pos c52] at H
                   have c52b0 : decide (0 < t185) = true := decide_eq_true c52
                   clear c52
                   replace H := Option.bind_eq_some_iff.mp H
                   obtain ⟨t186, A530, H⟩ := H
                   replace H : (some (decide (t186 > 0))) = some r := H
                   have A53 := Aside0.mk A530
                   clear A530
                   obtain rfl := Option.some.inj H
                   have p180 : 0 ≤ ((ji43) : Int) := da
                   have q180 : (ji43) < (l0.length : Int) := da
                   obtain ⟨ad180, e180, hx180_0, hx180_1⟩ := at_T73 HR0.out (ji43) p180 q180
                   obtain rfl : ad171 = ad180 := (by injection e180)
                   replace hx180_0 := (HB.out.cell (bL w _ hx180_0)).trans hx180_0
                   replace hx180_1 := (HB.out.cell (bL w _ hx180_1)).trans hx180_1
                   replace p180 := eq_true p180
                   replace q180 := eq_true q180
                   go_wp2_with (first | ((with_reducible refine gate_dst (N := 11) rfl ?_); refine bx (cs := #[.int .i64 0, .int .i64 0]) (t := 73) ?_; intro gb181 hg w54 hbox hb; have n0_ := kb BK172 hb; have n1_ := kb BK174 hb; have n2_ := sb hb; have n3_ := Aside0.mk (hbox); have n4_ := zb hg; have n5_ := zb hg; have n6_ := nl BK172 hg; have n7_ := ng BK172 hg; have n8_ := nl BK174 hg; have n9_ := ng BK174 hg; clear BK172; clear BK174; clear HB; have BK172 := n0_; have BK174 := n1_; have HB := n2_; have BK181 := n3_; have GW181 := n4_; have GE181 := n5_; have NB172_181 := n6_; have NB181_172 := n7_; have NB174_181 := n8_; have NB181_174 := n9_; clear n0_ n1_ n2_ n3_ n4_ n5_ n6_ n7_ n8_ n9_; clear hb hbox hg; have hnb55 := NB181_172.out; have hnc55 := NB172_181.out; have hnb56 := NB181_174.out; have hnc56 := NB174_181.out; have hcz57_0 := ck BK181 0; have hcz57_1 := ck BK181 1; have hfz57_0 := blk_frozen BK181.out 0; have hfz57_1 := blk_frozen BK181.out 1; have p182 : 0 ≤ ((ji46) : Int) := da; have q182 : (ji46) < (l0.length : Int) := da; obtain ⟨ad182, e182, hx182_0, hx182_1⟩ := at_T73 HR0.out (ji46) p182 q182; obtain rfl : ad171 = ad182 := (by injection e182); have hn182_0 : ad171.block ≠ gb181 := nw hx182_0 GW181; have hn182_1 : ad171.block ≠ gb181 := nw hx182_0 GW181; replace hx182_0 := (HB.out.cell (bL w _ hx182_0)).trans hx182_0; replace hx182_1 := (HB.out.cell (bL w _ hx182_1)).trans hx182_1; replace hx182_0 := cf hn182_0 hx182_0 0 (.int .i64 ((rd_T73 l0 (ji43)).f0)); replace hx182_1 := cf hn182_0 hx182_1 0 (.int .i64 ((rd_T73 l0 (ji43)).f0)); replace hx182_0 := cf hn182_1 hx182_0 1 (.int .i64 ((rd_T73 l0 (ji43)).f1)); replace hx182_1 := cf hn182_1 hx182_1 1 (.int .i64 ((rd_T73 l0 (ji43)).f1)); clear hn182_0; clear hn182_1; replace p182 := eq_true p182; replace q182 := eq_true q182) | ((with_reducible refine gate_dst (N := 12) rfl ?_); refine bx (cs := #[.int .i64 0, .int .i64 0]) (t := 73) ?_; intro gb183 hg w58 hbox hb; have z0_ := mz hb (g := gb172) (o := .cells #[.int .i64 ((rd_T73 l0 a1).f0), .int .i64 ((rd_T73 l0 a1).f1)] 73 (0, 0)) (by refine bF NB172_181.out ?_; refine bF NB172_181.out ?_; exact bk BK172); have n0_ := kc z0_ hb; have z1_ := mz hb (g := gb174) (o := .cells #[.int .i64 ((rd_T73 l0 a2).f0), .int .i64 ((rd_T73 l0 a2).f1)] 73 (0, 0)) (by refine bF NB174_181.out ?_; refine bF NB174_181.out ?_; exact bk BK174); have n1_ := kc z1_ hb; have z2_ := mz hb (g := gb181) (o := .cells #[.int .i64 ((rd_T73 l0 (ji43)).f0), .int .i64 ((rd_T73 l0 (ji43)).f1)] 73 (0, 0)) (by refine bP (cs := #[.int .i64 ((rd_T73 l0 (ji43)).f0), .int .i64 0]) 1 ?_; refine bP (cs := #[.int .i64 0, .int .i64 0]) 0 ?_; exact bk BK181); have n2_ := kc z2_ hb; have n3_ := sb hb; have n4_ := Aside0.mk (hbox); have n5_ := zb hg; have n6_ := zb hg; have n7_ := nm z0_ hg; have n8_ := nn z0_ hg; have n9_ := nm z1_ hg; have n10_ := nn z1_ hg; have n11_ := nm z2_ hg; have n12_ := nn z2_ hg; clear BK172; clear BK174; clear BK181; clear HB; have BK172 := n0_; have BK174 := n1_; have BK181 := n2_; have HB := n3_; have BK183 := n4_; have GW183 := n5_; have GE183 := n6_; have NB172_183 := n7_; have NB183_172 := n8_; have NB174_183 := n9_; have NB183_174 := n10_; have NB181_183 := n11_; have NB183_181 := n12_; clear z0_ z1_ z2_ n0_ n1_ n2_ n3_ n4_ n5_ n6_ n7_ n8_ n9_ n10_ n11_ n12_; clear hb hbox hg; have hnb59 := NB183_172.out; have hnc59 := NB172_183.out; have hnb60 := NB183_174.out; have hnc60 := NB174_183.out; have hnb61 := NB183_181.out; have hnc61 := NB181_183.out; have hcz62_0 := ck BK183 0; have hcz62_1 := ck BK183 1; have hfz62_0 := blk_frozen BK183.out 0; have hfz62_1 := blk_frozen BK183.out 1; have hcz63_0 := ck BK181 0; have hcz63_1 := ck BK181 1; have hfz63_0 := blk_frozen BK181.out 0; have hfz63_1 := blk_frozen BK181.out 1; have hnb64 := NB172_174.out; have hnc64 := NB174_172.out; have hcz65_0 := ck BK172 0; have hcz65_1 := ck BK172 1; have hfz65_0 := blk_frozen BK172.out 0; have hfz65_1 := blk_frozen BK172.out 1) | ((with_reducible refine gate_callee (f := 103) rfl ?_); refine goesL_ (some 95) rfl rfl Try.func103 (by kernel_rfl) rfl #[.agg #[.int .i64 ((rd_T73 l0 (ji43)).f0), .int .i64 ((rd_T73 l0 (ji43)).f1)], .agg #[.int .i64 ((rd_T73 l0 a1).f0), .int .i64 ((rd_T73 l0 a1).f1)], .agg #[.int .i64 ((rd_T73 l0 (ji46)).f0), .int .i64 ((rd_T73 l0 (ji46)).f1)]] rfl (by (try simp only [List.map_toArray, List.map_cons, List.map_nil]); first | done | (simp only [hji43, hji46]; rfl) | rfl | (simp only [List.length_drop, List.length_take]; rfl)) ?_; (with_reducible refine (spec_l02Side.calls ((rd_T73 l0 (ji43)).f0) ((rd_T73 l0 (ji43)).f1) ((rd_T73 l0 a1).f0) ((rd_T73 l0 a1).f1) ((rd_T73 l0 (ji46)).f0) ((rd_T73 l0 (ji46)).f1) t184 _ A49.out).mono ?_); rintro e w66 ⟨rfl, hb⟩; refine ⟨_, rfl, ?_⟩; have n0_ := Aside0.mk (blk_below (g := gb172) (o := .cells #[.int .i64 ((rd_T73 l0 a1).f0), .int .i64 ((rd_T73 l0 a1).f1)] 73 (0, 0)) (by refine bF NB172_183.out ?_; refine bF NB172_183.out ?_; exact bk BK172) hb); have n1_ := Aside0.mk (blk_below (g := gb174) (o := .cells #[.int .i64 ((rd_T73 l0 a2).f0), .int .i64 ((rd_T73 l0 a2).f1)] 73 (0, 0)) (by refine bF NB174_183.out ?_; refine bF NB174_183.out ?_; exact bk BK174) hb); have n2_ := Aside0.mk (blk_below (g := gb181) (o := .cells #[.int .i64 ((rd_T73 l0 (ji43)).f0), .int .i64 ((rd_T73 l0 (ji43)).f1)] 73 (0, 0)) (by refine bF NB181_183.out ?_; refine bF NB181_183.out ?_; exact bk BK181) hb); have n3_ := Aside0.mk (blk_below (g := gb183) (o := .cells #[.int .i64 ((rd_T73 l0 (ji46)).f0), .int .i64 ((rd_T73 l0 (ji46)).f1)] 73 (0, 0)) (by refine bP (cs := #[.int .i64 ((rd_T73 l0 (ji46)).f0), .int .i64 0]) 1 ?_; refine bP (cs := #[.int .i64 0, .int .i64 0]) 0 ?_; exact bk BK183) hb); have n4_ := sb hb; clear BK172; clear BK174; clear BK181; clear BK183; clear HB; have BK172 := n0_; have BK174 := n1_; have BK181 := n2_; have BK183 := n3_; have HB := n4_; clear n0_ n1_ n2_ n3_ n4_; (try clear hb); (try clear hb2); (try clear hk); (try clear hi); have hcz67_0 := ck BK172 0; have hcz67_1 := ck BK172 1; have hfz67_0 := blk_frozen BK172.out 0; have hfz67_1 := blk_frozen BK172.out 1; have hcz68_0 := ck BK174 0; have hcz68_1 := ck BK174 1; have hfz68_0 := blk_frozen BK174.out 0; have hfz68_1 := blk_frozen BK174.out 1; have hcz69_0 := ck BK181 0; have hcz69_1 := ck BK181 1; have hfz69_0 := blk_frozen BK181.out 0; have hfz69_1 := blk_frozen BK181.out 1) | ((with_reducible refine gate_callee (f := 103) rfl ?_); refine goesL_ (some 100) rfl rfl Try.func103 (by kernel_rfl) rfl #[.agg #[.int .i64 ((rd_T73 l0 a1).f0), .int .i64 ((rd_T73 l0 a1).f1)], .agg #[.int .i64 ((rd_T73 l0 a2).f0), .int .i64 ((rd_T73 l0 a2).f1)], .agg #[.int .i64 ((rd_T73 l0 (ji43)).f0), .int .i64 ((rd_T73 l0 (ji43)).f1)]] rfl (by (try simp only [List.map_toArray, List.map_cons, List.map_nil]); first | done | (simp only [hji43]; rfl) | rfl | (simp only [List.length_drop, List.length_take]; rfl)) ?_; (with_reducible refine (spec_l02Side.calls ((rd_T73 l0 a1).f0) ((rd_T73 l0 a1).f1) ((rd_T73 l0 a2).f0) ((rd_T73 l0 a2).f1) ((rd_T73 l0 (ji43)).f0) ((rd_T73 l0 (ji43)).f1) t185 _ A51.out).mono ?_); rintro e w70 ⟨rfl, hb⟩; refine ⟨_, rfl, ?_⟩; have n0_ := kb BK172 hb; have n1_ := kb BK174 hb; have n2_ := kb BK181 hb; have n3_ := kb BK183 hb; have n4_ := sb hb; clear BK172; clear BK174; clear BK181; clear BK183; clear HB; have BK172 := n0_; have BK174 := n1_; have BK181 := n2_; have BK183 := n3_; have HB := n4_; clear n0_ n1_ n2_ n3_ n4_; (try clear hb); (try clear hb2); (try clear hk); (try clear hi); have hcz71_0 := ck BK174 0; have hcz71_1 := ck BK174 1; have hfz71_0 := blk_frozen BK174.out 0; have hfz71_1 := blk_frozen BK174.out 1; have hcz72_0 := ck BK172 0; have hcz72_1 := ck BK172 1; have hfz72_0 := blk_frozen BK172.out 0; have hfz72_1 := blk_frozen BK172.out 1; have hcz73_0 := ck BK183 0; have hcz73_1 := ck BK183 1; have hfz73_0 := blk_frozen BK183.out 0; have hfz73_1 := blk_frozen BK183.out 1) | (go_at_call 103; (with_reducible refine (spec_l02Side.calls ((rd_T73 l0 a2).f0) ((rd_T73 l0 a2).f1) ((rd_T73 l0 a1).f0) ((rd_T73 l0 a1).f1) ((rd_T73 l0 (ji46)).f0) ((rd_T73 l0 (ji46)).f1) t186 _ A53.out).mono ?_); rintro e w74 ⟨rfl, hb⟩; have n0_ := kb BK172 hb; have n1_ := kb BK174 hb; have n2_ := kb BK181 hb; have n3_ := kb BK183 hb; have n4_ := sb hb; clear BK172; clear BK174; clear BK181; clear BK183; clear HB; have BK172 := n0_; have BK174 := n1_; have BK181 := n2_; have BK183 := n3_; have HB := n4_; clear n0_ n1_ n2_ n3_ n4_; (try clear hb); (try clear hb2); (try clear hk); (try clear hi)))
                   go_ret
                   exact ⟨by first | rfl | (simp [errW_none, errW_some] <;> rfl) | (simp only [← hji43, ← hji46]; first | rfl | (simp [errW_none, errW_some] <;> rfl)) | (simp [*, errW_none, errW_some] <;> rfl), by repeat (first | (with_reducible first | exact HB.out | apply below_alloc | apply pw_below_drewN | apply below_drew1 | refine below_set ?_ GE172.out | refine below_set ?_ GE174.out | refine below_set ?_ GE181.out | refine below_set ?_ GE183.out) | exact HB.out)⟩
                  ·rw [if_neg c52] at H
                   have c52b0 : decide (0 < t185) = false := decide_eq_false c52
                   clear c52
                   obtain rfl := Option.some.inj H
                   have p180 : 0 ≤ ((ji43) : Int) := da
                   have q180 : (ji43) < (l0.length : Int) := da
                   obtain ⟨ad180, e180, hx180_0, hx180_1⟩ := at_T73 HR0.out (ji43) p180 q180
                   obtain rfl : ad171 = ad180 := (by injection e180)
                   replace hx180_0 := (HB.out.cell (bL w _ hx180_0)).trans hx180_0
                   replace hx180_1 := (HB.out.cell (bL w _ hx180_1)).trans hx180_1
                   replace p180 := eq_true p180
                   replace q180 := eq_true q180
                   go_wp2_with (first | ((with_reducible refine gate_dst (N := 11) rfl ?_); refine bx (cs := #[.int .i64 0, .int .i64 0]) (t := 73) ?_; intro gb181 hg w75 hbox hb; have n0_ := kb BK172 hb; have n1_ := kb BK174 hb; have n2_ := sb hb; have n3_ := Aside0.mk (hbox); have n4_ := zb hg; have n5_ := zb hg; have n6_ := nl BK172 hg; have n7_ := ng BK172 hg; have n8_ := nl BK174 hg; have n9_ := ng BK174 hg; clear BK172; clear BK174; clear HB; have BK172 := n0_; have BK174 := n1_; have HB := n2_; have BK181 := n3_; have GW181 := n4_; have GE181 := n5_; have NB172_181 := n6_; have NB181_172 := n7_; have NB174_181 := n8_; have NB181_174 := n9_; clear n0_ n1_ n2_ n3_ n4_ n5_ n6_ n7_ n8_ n9_; clear hb hbox hg; have hnb76 := NB181_172.out; have hnc76 := NB172_181.out; have hnb77 := NB181_174.out; have hnc77 := NB174_181.out; have hcz78_0 := ck BK181 0; have hcz78_1 := ck BK181 1; have hfz78_0 := blk_frozen BK181.out 0; have hfz78_1 := blk_frozen BK181.out 1; have p182 : 0 ≤ ((ji46) : Int) := da; have q182 : (ji46) < (l0.length : Int) := da; obtain ⟨ad182, e182, hx182_0, hx182_1⟩ := at_T73 HR0.out (ji46) p182 q182; obtain rfl : ad171 = ad182 := (by injection e182); have hn182_0 : ad171.block ≠ gb181 := nw hx182_0 GW181; have hn182_1 : ad171.block ≠ gb181 := nw hx182_0 GW181; replace hx182_0 := (HB.out.cell (bL w _ hx182_0)).trans hx182_0; replace hx182_1 := (HB.out.cell (bL w _ hx182_1)).trans hx182_1; replace hx182_0 := cf hn182_0 hx182_0 0 (.int .i64 ((rd_T73 l0 (ji43)).f0)); replace hx182_1 := cf hn182_0 hx182_1 0 (.int .i64 ((rd_T73 l0 (ji43)).f0)); replace hx182_0 := cf hn182_1 hx182_0 1 (.int .i64 ((rd_T73 l0 (ji43)).f1)); replace hx182_1 := cf hn182_1 hx182_1 1 (.int .i64 ((rd_T73 l0 (ji43)).f1)); clear hn182_0; clear hn182_1; replace p182 := eq_true p182; replace q182 := eq_true q182) | ((with_reducible refine gate_dst (N := 12) rfl ?_); refine bx (cs := #[.int .i64 0, .int .i64 0]) (t := 73) ?_; intro gb183 hg w79 hbox hb; have z0_ := mz hb (g := gb172) (o := .cells #[.int .i64 ((rd_T73 l0 a1).f0), .int .i64 ((rd_T73 l0 a1).f1)] 73 (0, 0)) (by refine bF NB172_181.out ?_; refine bF NB172_181.out ?_; exact bk BK172); have n0_ := kc z0_ hb; have z1_ := mz hb (g := gb174) (o := .cells #[.int .i64 ((rd_T73 l0 a2).f0), .int .i64 ((rd_T73 l0 a2).f1)] 73 (0, 0)) (by refine bF NB174_181.out ?_; refine bF NB174_181.out ?_; exact bk BK174); have n1_ := kc z1_ hb; have z2_ := mz hb (g := gb181) (o := .cells #[.int .i64 ((rd_T73 l0 (ji43)).f0), .int .i64 ((rd_T73 l0 (ji43)).f1)] 73 (0, 0)) (by refine bP (cs := #[.int .i64 ((rd_T73 l0 (ji43)).f0), .int .i64 0]) 1 ?_; refine bP (cs := #[.int .i64 0, .int .i64 0]) 0 ?_; exact bk BK181); have n2_ := kc z2_ hb; have n3_ := sb hb; have n4_ := Aside0.mk (hbox); have n5_ := zb hg; have n6_ := zb hg; have n7_ := nm z0_ hg; have n8_ := nn z0_ hg; have n9_ := nm z1_ hg; have n10_ := nn z1_ hg; have n11_ := nm z2_ hg; have n12_ := nn z2_ hg; clear BK172; clear BK174; clear BK181; clear HB; have BK172 := n0_; have BK174 := n1_; have BK181 := n2_; have HB := n3_; have BK183 := n4_; have GW183 := n5_; have GE183 := n6_; have NB172_183 := n7_; have NB183_172 := n8_; have NB174_183 := n9_; have NB183_174 := n10_; have NB181_183 := n11_; have NB183_181 := n12_; clear z0_ z1_ z2_ n0_ n1_ n2_ n3_ n4_ n5_ n6_ n7_ n8_ n9_ n10_ n11_ n12_; clear hb hbox hg; have hnb80 := NB183_172.out; have hnc80 := NB172_183.out; have hnb81 := NB183_174.out; have hnc81 := NB174_183.out; have hnb82 := NB183_181.out; have hnc82 := NB181_183.out; have hcz83_0 := ck BK183 0; have hcz83_1 := ck BK183 1; have hfz83_0 := blk_frozen BK183.out 0; have hfz83_1 := blk_frozen BK183.out 1; have hcz84_0 := ck BK181 0; have hcz84_1 := ck BK181 1; have hfz84_0 := blk_frozen BK181.out 0; have hfz84_1 := blk_frozen BK181.out 1; have hnb85 := NB172_174.out; have hnc85 := NB174_172.out; have hcz86_0 := ck BK172 0; have hcz86_1 := ck BK172 1; have hfz86_0 := blk_frozen BK172.out 0; have hfz86_1 := blk_frozen BK172.out 1) | ((with_reducible refine gate_callee (f := 103) rfl ?_); refine goesL_ (some 95) rfl rfl Try.func103 (by kernel_rfl) rfl #[.agg #[.int .i64 ((rd_T73 l0 (ji43)).f0), .int .i64 ((rd_T73 l0 (ji43)).f1)], .agg #[.int .i64 ((rd_T73 l0 a1).f0), .int .i64 ((rd_T73 l0 a1).f1)], .agg #[.int .i64 ((rd_T73 l0 (ji46)).f0), .int .i64 ((rd_T73 l0 (ji46)).f1)]] rfl (by (try simp only [List.map_toArray, List.map_cons, List.map_nil]); first | done | (simp only [hji43, hji46]; rfl) | rfl | (simp only [List.length_drop, List.length_take]; rfl)) ?_; (with_reducible refine (spec_l02Side.calls ((rd_T73 l0 (ji43)).f0) ((rd_T73 l0 (ji43)).f1) ((rd_T73 l0 a1).f0) ((rd_T73 l0 a1).f1) ((rd_T73 l0 (ji46)).f0) ((rd_T73 l0 (ji46)).f1) t184 _ A49.out).mono ?_); rintro e w87 ⟨rfl, hb⟩; refine ⟨_, rfl, ?_⟩; have n0_ := Aside0.mk (blk_below (g := gb172) (o := .cells #[.int .i64 ((rd_T73 l0 a1).f0), .int .i64 ((rd_T73 l0 a1).f1)] 73 (0, 0)) (by refine bF NB172_183.out ?_; refine bF NB172_183.out ?_; exact bk BK172) hb); have n1_ := Aside0.mk (blk_below (g := gb174) (o := .cells #[.int .i64 ((rd_T73 l0 a2).f0), .int .i64 ((rd_T73 l0 a2).f1)] 73 (0, 0)) (by refine bF NB174_183.out ?_; refine bF NB174_183.out ?_; exact bk BK174) hb); have n2_ := Aside0.mk (blk_below (g := gb181) (o := .cells #[.int .i64 ((rd_T73 l0 (ji43)).f0), .int .i64 ((rd_T73 l0 (ji43)).f1)] 73 (0, 0)) (by refine bF NB181_183.out ?_; refine bF NB181_183.out ?_; exact bk BK181) hb); have n3_ := Aside0.mk (blk_below (g := gb183) (o := .cells #[.int .i64 ((rd_T73 l0 (ji46)).f0), .int .i64 ((rd_T73 l0 (ji46)).f1)] 73 (0, 0)) (by refine bP (cs := #[.int .i64 ((rd_T73 l0 (ji46)).f0), .int .i64 0]) 1 ?_; refine bP (cs := #[.int .i64 0, .int .i64 0]) 0 ?_; exact bk BK183) hb); have n4_ := sb hb; clear BK172; clear BK174; clear BK181; clear BK183; clear HB; have BK172 := n0_; have BK174 := n1_; have BK181 := n2_; have BK183 := n3_; have HB := n4_; clear n0_ n1_ n2_ n3_ n4_; (try clear hb); (try clear hb2); (try clear hk); (try clear hi); have hcz88_0 := ck BK172 0; have hcz88_1 := ck BK172 1; have hfz88_0 := blk_frozen BK172.out 0; have hfz88_1 := blk_frozen BK172.out 1; have hcz89_0 := ck BK174 0; have hcz89_1 := ck BK174 1; have hfz89_0 := blk_frozen BK174.out 0; have hfz89_1 := blk_frozen BK174.out 1; have hcz90_0 := ck BK181 0; have hcz90_1 := ck BK181 1; have hfz90_0 := blk_frozen BK181.out 0; have hfz90_1 := blk_frozen BK181.out 1) | ((with_reducible refine gate_callee (f := 103) rfl ?_); refine goesL_ (some 100) rfl rfl Try.func103 (by kernel_rfl) rfl #[.agg #[.int .i64 ((rd_T73 l0 a1).f0), .int .i64 ((rd_T73 l0 a1).f1)], .agg #[.int .i64 ((rd_T73 l0 a2).f0), .int .i64 ((rd_T73 l0 a2).f1)], .agg #[.int .i64 ((rd_T73 l0 (ji43)).f0), .int .i64 ((rd_T73 l0 (ji43)).f1)]] rfl (by (try simp only [List.map_toArray, List.map_cons, List.map_nil]); first | done | (simp only [hji43]; rfl) | rfl | (simp only [List.length_drop, List.length_take]; rfl)) ?_; (with_reducible refine (spec_l02Side.calls ((rd_T73 l0 a1).f0) ((rd_T73 l0 a1).f1) ((rd_T73 l0 a2).f0) ((rd_T73 l0 a2).f1) ((rd_T73 l0 (ji43)).f0) ((rd_T73 l0 (ji43)).f1) t185 _ A51.out).mono ?_); rintro e w91 ⟨rfl, hb⟩; refine ⟨_, rfl, ?_⟩; have n0_ := kb BK172 hb; have n1_ := kb BK174 hb; have n2_ := kb BK181 hb; have n3_ := kb BK183 hb; have n4_ := sb hb; clear BK172; clear BK174; clear BK181; clear BK183; clear HB; have BK172 := n0_; have BK174 := n1_; have BK181 := n2_; have BK183 := n3_; have HB := n4_; clear n0_ n1_ n2_ n3_ n4_; (try clear hb); (try clear hb2); (try clear hk); (try clear hi)))
                   go_ret
                   exact ⟨by first | rfl | (simp [errW_none, errW_some] <;> rfl) | (simp only [← hji43, ← hji46]; first | rfl | (simp [errW_none, errW_some] <;> rfl)) | (simp [*, errW_none, errW_some] <;> rfl), by repeat (first | (with_reducible first | exact HB.out | apply below_alloc | apply pw_below_drewN | apply below_drew1 | refine below_set ?_ GE172.out | refine below_set ?_ GE174.out | refine below_set ?_ GE181.out | refine below_set ?_ GE183.out) | exact HB.out)⟩
                 ·rw [if_neg c50] at H
                  have c50b0 : decide (0 ≤ t184) = false := decide_eq_false c50
                  clear c50
                  replace H := Option.bind_eq_some_iff.mp H
                  obtain ⟨t187, A920, H⟩ := H
                  replace H : (if t187 ≥ 0 then ((spec_l02Side.f ((rd_T73 l0 a2).f0) ((rd_T73 l0 a2).f1) ((rd_T73 l0 a1).f0) ((rd_T73 l0 a1).f1) ((rd_T73 l0 (ji43)).f0) ((rd_T73 l0 (ji43)).f1)).bind fun t188 => (some (!(decide (t188 ≥ 0))))) else (some (!false))) = some r := H
                  have A92 := Aside0.mk A920
                  clear A920
                  by_cases c93 : t187 ≥ 0
                  ·rw [if_pos c93] at H
                   have c93b0 : decide (0 ≤ t187) = true := decide_eq_true c93
                   clear c93
                   replace H := Option.bind_eq_some_iff.mp H
                   obtain ⟨t188, A940, H⟩ := H
                   replace H : (some (!(decide (t188 ≥ 0)))) = some r := H
                   have A94 := Aside0.mk A940
                   clear A940
                   obtain rfl := Option.some.inj H
                   have p180 : 0 ≤ ((ji43) : Int) := da
                   have q180 : (ji43) < (l0.length : Int) := da
                   obtain ⟨ad180, e180, hx180_0, hx180_1⟩ := at_T73 HR0.out (ji43) p180 q180
                   obtain rfl : ad171 = ad180 := (by injection e180)
                   replace hx180_0 := (HB.out.cell (bL w _ hx180_0)).trans hx180_0
                   replace hx180_1 := (HB.out.cell (bL w _ hx180_1)).trans hx180_1
                   replace p180 := eq_true p180
                   replace q180 := eq_true q180
                   go_wp2_with (first | ((with_reducible refine gate_dst (N := 11) rfl ?_); refine bx (cs := #[.int .i64 0, .int .i64 0]) (t := 73) ?_; intro gb181 hg w95 hbox hb; have n0_ := kb BK172 hb; have n1_ := kb BK174 hb; have n2_ := sb hb; have n3_ := Aside0.mk (hbox); have n4_ := zb hg; have n5_ := zb hg; have n6_ := nl BK172 hg; have n7_ := ng BK172 hg; have n8_ := nl BK174 hg; have n9_ := ng BK174 hg; clear BK172; clear BK174; clear HB; have BK172 := n0_; have BK174 := n1_; have HB := n2_; have BK181 := n3_; have GW181 := n4_; have GE181 := n5_; have NB172_181 := n6_; have NB181_172 := n7_; have NB174_181 := n8_; have NB181_174 := n9_; clear n0_ n1_ n2_ n3_ n4_ n5_ n6_ n7_ n8_ n9_; clear hb hbox hg; have hnb96 := NB181_172.out; have hnc96 := NB172_181.out; have hnb97 := NB181_174.out; have hnc97 := NB174_181.out; have hcz98_0 := ck BK181 0; have hcz98_1 := ck BK181 1; have hfz98_0 := blk_frozen BK181.out 0; have hfz98_1 := blk_frozen BK181.out 1; have p182 : 0 ≤ ((ji46) : Int) := da; have q182 : (ji46) < (l0.length : Int) := da; obtain ⟨ad182, e182, hx182_0, hx182_1⟩ := at_T73 HR0.out (ji46) p182 q182; obtain rfl : ad171 = ad182 := (by injection e182); have hn182_0 : ad171.block ≠ gb181 := nw hx182_0 GW181; have hn182_1 : ad171.block ≠ gb181 := nw hx182_0 GW181; replace hx182_0 := (HB.out.cell (bL w _ hx182_0)).trans hx182_0; replace hx182_1 := (HB.out.cell (bL w _ hx182_1)).trans hx182_1; replace hx182_0 := cf hn182_0 hx182_0 0 (.int .i64 ((rd_T73 l0 (ji43)).f0)); replace hx182_1 := cf hn182_0 hx182_1 0 (.int .i64 ((rd_T73 l0 (ji43)).f0)); replace hx182_0 := cf hn182_1 hx182_0 1 (.int .i64 ((rd_T73 l0 (ji43)).f1)); replace hx182_1 := cf hn182_1 hx182_1 1 (.int .i64 ((rd_T73 l0 (ji43)).f1)); clear hn182_0; clear hn182_1; replace p182 := eq_true p182; replace q182 := eq_true q182) | ((with_reducible refine gate_dst (N := 12) rfl ?_); refine bx (cs := #[.int .i64 0, .int .i64 0]) (t := 73) ?_; intro gb183 hg w99 hbox hb; have z0_ := mz hb (g := gb172) (o := .cells #[.int .i64 ((rd_T73 l0 a1).f0), .int .i64 ((rd_T73 l0 a1).f1)] 73 (0, 0)) (by refine bF NB172_181.out ?_; refine bF NB172_181.out ?_; exact bk BK172); have n0_ := kc z0_ hb; have z1_ := mz hb (g := gb174) (o := .cells #[.int .i64 ((rd_T73 l0 a2).f0), .int .i64 ((rd_T73 l0 a2).f1)] 73 (0, 0)) (by refine bF NB174_181.out ?_; refine bF NB174_181.out ?_; exact bk BK174); have n1_ := kc z1_ hb; have z2_ := mz hb (g := gb181) (o := .cells #[.int .i64 ((rd_T73 l0 (ji43)).f0), .int .i64 ((rd_T73 l0 (ji43)).f1)] 73 (0, 0)) (by refine bP (cs := #[.int .i64 ((rd_T73 l0 (ji43)).f0), .int .i64 0]) 1 ?_; refine bP (cs := #[.int .i64 0, .int .i64 0]) 0 ?_; exact bk BK181); have n2_ := kc z2_ hb; have n3_ := sb hb; have n4_ := Aside0.mk (hbox); have n5_ := zb hg; have n6_ := zb hg; have n7_ := nm z0_ hg; have n8_ := nn z0_ hg; have n9_ := nm z1_ hg; have n10_ := nn z1_ hg; have n11_ := nm z2_ hg; have n12_ := nn z2_ hg; clear BK172; clear BK174; clear BK181; clear HB; have BK172 := n0_; have BK174 := n1_; have BK181 := n2_; have HB := n3_; have BK183 := n4_; have GW183 := n5_; have GE183 := n6_; have NB172_183 := n7_; have NB183_172 := n8_; have NB174_183 := n9_; have NB183_174 := n10_; have NB181_183 := n11_; have NB183_181 := n12_; clear z0_ z1_ z2_ n0_ n1_ n2_ n3_ n4_ n5_ n6_ n7_ n8_ n9_ n10_ n11_ n12_; clear hb hbox hg; have hnb100 := NB183_172.out; have hnc100 := NB172_183.out; have hnb101 := NB183_174.out; have hnc101 := NB174_183.out; have hnb102 := NB183_181.out; have hnc102 := NB181_183.out; have hcz103_0 := ck BK183 0; have hcz103_1 := ck BK183 1; have hfz103_0 := blk_frozen BK183.out 0; have hfz103_1 := blk_frozen BK183.out 1; have hcz104_0 := ck BK181 0; have hcz104_1 := ck BK181 1; have hfz104_0 := blk_frozen BK181.out 0; have hfz104_1 := blk_frozen BK181.out 1; have hnb105 := NB172_174.out; have hnc105 := NB174_172.out; have hcz106_0 := ck BK172 0; have hcz106_1 := ck BK172 1; have hfz106_0 := blk_frozen BK172.out 0; have hfz106_1 := blk_frozen BK172.out 1) | ((with_reducible refine gate_callee (f := 103) rfl ?_); refine goesL_ (some 95) rfl rfl Try.func103 (by kernel_rfl) rfl #[.agg #[.int .i64 ((rd_T73 l0 (ji43)).f0), .int .i64 ((rd_T73 l0 (ji43)).f1)], .agg #[.int .i64 ((rd_T73 l0 a1).f0), .int .i64 ((rd_T73 l0 a1).f1)], .agg #[.int .i64 ((rd_T73 l0 (ji46)).f0), .int .i64 ((rd_T73 l0 (ji46)).f1)]] rfl (by (try simp only [List.map_toArray, List.map_cons, List.map_nil]); first | done | (simp only [hji43, hji46]; rfl) | rfl | (simp only [List.length_drop, List.length_take]; rfl)) ?_; (with_reducible refine (spec_l02Side.calls ((rd_T73 l0 (ji43)).f0) ((rd_T73 l0 (ji43)).f1) ((rd_T73 l0 a1).f0) ((rd_T73 l0 a1).f1) ((rd_T73 l0 (ji46)).f0) ((rd_T73 l0 (ji46)).f1) t184 _ A49.out).mono ?_); rintro e w107 ⟨rfl, hb⟩; refine ⟨_, rfl, ?_⟩; have n0_ := Aside0.mk (blk_below (g := gb172) (o := .cells #[.int .i64 ((rd_T73 l0 a1).f0), .int .i64 ((rd_T73 l0 a1).f1)] 73 (0, 0)) (by refine bF NB172_183.out ?_; refine bF NB172_183.out ?_; exact bk BK172) hb); have n1_ := Aside0.mk (blk_below (g := gb174) (o := .cells #[.int .i64 ((rd_T73 l0 a2).f0), .int .i64 ((rd_T73 l0 a2).f1)] 73 (0, 0)) (by refine bF NB174_183.out ?_; refine bF NB174_183.out ?_; exact bk BK174) hb); have n2_ := Aside0.mk (blk_below (g := gb181) (o := .cells #[.int .i64 ((rd_T73 l0 (ji43)).f0), .int .i64 ((rd_T73 l0 (ji43)).f1)] 73 (0, 0)) (by refine bF NB181_183.out ?_; refine bF NB181_183.out ?_; exact bk BK181) hb); have n3_ := Aside0.mk (blk_below (g := gb183) (o := .cells #[.int .i64 ((rd_T73 l0 (ji46)).f0), .int .i64 ((rd_T73 l0 (ji46)).f1)] 73 (0, 0)) (by refine bP (cs := #[.int .i64 ((rd_T73 l0 (ji46)).f0), .int .i64 0]) 1 ?_; refine bP (cs := #[.int .i64 0, .int .i64 0]) 0 ?_; exact bk BK183) hb); have n4_ := sb hb; clear BK172; clear BK174; clear BK181; clear BK183; clear HB; have BK172 := n0_; have BK174 := n1_; have BK181 := n2_; have BK183 := n3_; have HB := n4_; clear n0_ n1_ n2_ n3_ n4_; (try clear hb); (try clear hb2); (try clear hk); (try clear hi); have hcz108_0 := ck BK172 0; have hcz108_1 := ck BK172 1; have hfz108_0 := blk_frozen BK172.out 0; have hfz108_1 := blk_frozen BK172.out 1; have hcz109_0 := ck BK174 0; have hcz109_1 := ck BK174 1; have hfz109_0 := blk_frozen BK174.out 0; have hfz109_1 := blk_frozen BK174.out 1; have hcz110_0 := ck BK183 0; have hcz110_1 := ck BK183 1; have hfz110_0 := blk_frozen BK183.out 0; have hfz110_1 := blk_frozen BK183.out 1) | ((with_reducible refine gate_callee (f := 103) rfl ?_); refine goesL_ (some 112) rfl rfl Try.func103 (by kernel_rfl) rfl #[.agg #[.int .i64 ((rd_T73 l0 a1).f0), .int .i64 ((rd_T73 l0 a1).f1)], .agg #[.int .i64 ((rd_T73 l0 a2).f0), .int .i64 ((rd_T73 l0 a2).f1)], .agg #[.int .i64 ((rd_T73 l0 (ji46)).f0), .int .i64 ((rd_T73 l0 (ji46)).f1)]] rfl (by (try simp only [List.map_toArray, List.map_cons, List.map_nil]); first | done | (simp only [hji46]; rfl) | rfl | (simp only [List.length_drop, List.length_take]; rfl)) ?_; (with_reducible refine (spec_l02Side.calls ((rd_T73 l0 a1).f0) ((rd_T73 l0 a1).f1) ((rd_T73 l0 a2).f0) ((rd_T73 l0 a2).f1) ((rd_T73 l0 (ji46)).f0) ((rd_T73 l0 (ji46)).f1) t187 _ A92.out).mono ?_); rintro e w111 ⟨rfl, hb⟩; refine ⟨_, rfl, ?_⟩; have n0_ := kb BK172 hb; have n1_ := kb BK174 hb; have n2_ := kb BK181 hb; have n3_ := kb BK183 hb; have n4_ := sb hb; clear BK172; clear BK174; clear BK181; clear BK183; clear HB; have BK172 := n0_; have BK174 := n1_; have BK181 := n2_; have BK183 := n3_; have HB := n4_; clear n0_ n1_ n2_ n3_ n4_; (try clear hb); (try clear hb2); (try clear hk); (try clear hi); have hcz112_0 := ck BK174 0; have hcz112_1 := ck BK174 1; have hfz112_0 := blk_frozen BK174.out 0; have hfz112_1 := blk_frozen BK174.out 1; have hcz113_0 := ck BK172 0; have hcz113_1 := ck BK172 1; have hfz113_0 := blk_frozen BK172.out 0; have hfz113_1 := blk_frozen BK172.out 1; have hcz114_0 := ck BK181 0; have hcz114_1 := ck BK181 1; have hfz114_0 := blk_frozen BK181.out 0; have hfz114_1 := blk_frozen BK181.out 1) | (go_at_call 103; (with_reducible refine (spec_l02Side.calls ((rd_T73 l0 a2).f0) ((rd_T73 l0 a2).f1) ((rd_T73 l0 a1).f0) ((rd_T73 l0 a1).f1) ((rd_T73 l0 (ji43)).f0) ((rd_T73 l0 (ji43)).f1) t188 _ A94.out).mono ?_); rintro e w115 ⟨rfl, hb⟩; have n0_ := kb BK172 hb; have n1_ := kb BK174 hb; have n2_ := kb BK181 hb; have n3_ := kb BK183 hb; have n4_ := sb hb; clear BK172; clear BK174; clear BK181; clear BK183; clear HB; have BK172 := n0_; have BK174 := n1_; have BK181 := n2_; have BK183 := n3_; have HB := n4_; clear n0_ n1_ n2_ n3_ n4_; (try clear hb); (try clear hb2); (try clear hk); (try clear hi)))
                   go_ret
                   exact ⟨by first | rfl | (simp [errW_none, errW_some] <;> rfl) | (simp only [← hji43, ← hji46]; first | rfl | (simp [errW_none, errW_some] <;> rfl)) | (simp [*, errW_none, errW_some] <;> rfl), by repeat (first | (with_reducible first | exact HB.out | apply below_alloc | apply pw_below_drewN | apply below_drew1 | refine below_set ?_ GE172.out | refine below_set ?_ GE174.out | refine below_set ?_ GE181.out | refine below_set ?_ GE183.out) | exact HB.out)⟩
                  ·rw [if_neg c93] at H
                   have c93b0 : decide (0 ≤ t187) = false := decide_eq_false c93
                   clear c93
                   obtain rfl := Option.some.inj H
                   have p180 : 0 ≤ ((ji43) : Int) := da
                   have q180 : (ji43) < (l0.length : Int) := da
                   obtain ⟨ad180, e180, hx180_0, hx180_1⟩ := at_T73 HR0.out (ji43) p180 q180
                   obtain rfl : ad171 = ad180 := (by injection e180)
                   replace hx180_0 := (HB.out.cell (bL w _ hx180_0)).trans hx180_0
                   replace hx180_1 := (HB.out.cell (bL w _ hx180_1)).trans hx180_1
                   replace p180 := eq_true p180
                   replace q180 := eq_true q180
                   go_wp2_with (first | ((with_reducible refine gate_dst (N := 11) rfl ?_); refine bx (cs := #[.int .i64 0, .int .i64 0]) (t := 73) ?_; intro gb181 hg w116 hbox hb; have n0_ := kb BK172 hb; have n1_ := kb BK174 hb; have n2_ := sb hb; have n3_ := Aside0.mk (hbox); have n4_ := zb hg; have n5_ := zb hg; have n6_ := nl BK172 hg; have n7_ := ng BK172 hg; have n8_ := nl BK174 hg; have n9_ := ng BK174 hg; clear BK172; clear BK174; clear HB; have BK172 := n0_; have BK174 := n1_; have HB := n2_; have BK181 := n3_; have GW181 := n4_; have GE181 := n5_; have NB172_181 := n6_; have NB181_172 := n7_; have NB174_181 := n8_; have NB181_174 := n9_; clear n0_ n1_ n2_ n3_ n4_ n5_ n6_ n7_ n8_ n9_; clear hb hbox hg; have hnb117 := NB181_172.out; have hnc117 := NB172_181.out; have hnb118 := NB181_174.out; have hnc118 := NB174_181.out; have hcz119_0 := ck BK181 0; have hcz119_1 := ck BK181 1; have hfz119_0 := blk_frozen BK181.out 0; have hfz119_1 := blk_frozen BK181.out 1; have p182 : 0 ≤ ((ji46) : Int) := da; have q182 : (ji46) < (l0.length : Int) := da; obtain ⟨ad182, e182, hx182_0, hx182_1⟩ := at_T73 HR0.out (ji46) p182 q182; obtain rfl : ad171 = ad182 := (by injection e182); have hn182_0 : ad171.block ≠ gb181 := nw hx182_0 GW181; have hn182_1 : ad171.block ≠ gb181 := nw hx182_0 GW181; replace hx182_0 := (HB.out.cell (bL w _ hx182_0)).trans hx182_0; replace hx182_1 := (HB.out.cell (bL w _ hx182_1)).trans hx182_1; replace hx182_0 := cf hn182_0 hx182_0 0 (.int .i64 ((rd_T73 l0 (ji43)).f0)); replace hx182_1 := cf hn182_0 hx182_1 0 (.int .i64 ((rd_T73 l0 (ji43)).f0)); replace hx182_0 := cf hn182_1 hx182_0 1 (.int .i64 ((rd_T73 l0 (ji43)).f1)); replace hx182_1 := cf hn182_1 hx182_1 1 (.int .i64 ((rd_T73 l0 (ji43)).f1)); clear hn182_0; clear hn182_1; replace p182 := eq_true p182; replace q182 := eq_true q182) | ((with_reducible refine gate_dst (N := 12) rfl ?_); refine bx (cs := #[.int .i64 0, .int .i64 0]) (t := 73) ?_; intro gb183 hg w120 hbox hb; have z0_ := mz hb (g := gb172) (o := .cells #[.int .i64 ((rd_T73 l0 a1).f0), .int .i64 ((rd_T73 l0 a1).f1)] 73 (0, 0)) (by refine bF NB172_181.out ?_; refine bF NB172_181.out ?_; exact bk BK172); have n0_ := kc z0_ hb; have z1_ := mz hb (g := gb174) (o := .cells #[.int .i64 ((rd_T73 l0 a2).f0), .int .i64 ((rd_T73 l0 a2).f1)] 73 (0, 0)) (by refine bF NB174_181.out ?_; refine bF NB174_181.out ?_; exact bk BK174); have n1_ := kc z1_ hb; have z2_ := mz hb (g := gb181) (o := .cells #[.int .i64 ((rd_T73 l0 (ji43)).f0), .int .i64 ((rd_T73 l0 (ji43)).f1)] 73 (0, 0)) (by refine bP (cs := #[.int .i64 ((rd_T73 l0 (ji43)).f0), .int .i64 0]) 1 ?_; refine bP (cs := #[.int .i64 0, .int .i64 0]) 0 ?_; exact bk BK181); have n2_ := kc z2_ hb; have n3_ := sb hb; have n4_ := Aside0.mk (hbox); have n5_ := zb hg; have n6_ := zb hg; have n7_ := nm z0_ hg; have n8_ := nn z0_ hg; have n9_ := nm z1_ hg; have n10_ := nn z1_ hg; have n11_ := nm z2_ hg; have n12_ := nn z2_ hg; clear BK172; clear BK174; clear BK181; clear HB; have BK172 := n0_; have BK174 := n1_; have BK181 := n2_; have HB := n3_; have BK183 := n4_; have GW183 := n5_; have GE183 := n6_; have NB172_183 := n7_; have NB183_172 := n8_; have NB174_183 := n9_; have NB183_174 := n10_; have NB181_183 := n11_; have NB183_181 := n12_; clear z0_ z1_ z2_ n0_ n1_ n2_ n3_ n4_ n5_ n6_ n7_ n8_ n9_ n10_ n11_ n12_; clear hb hbox hg; have hnb121 := NB183_172.out; have hnc121 := NB172_183.out; have hnb122 := NB183_174.out; have hnc122 := NB174_183.out; have hnb123 := NB183_181.out; have hnc123 := NB181_183.out; have hcz124_0 := ck BK183 0; have hcz124_1 := ck BK183 1; have hfz124_0 := blk_frozen BK183.out 0; have hfz124_1 := blk_frozen BK183.out 1; have hcz125_0 := ck BK181 0; have hcz125_1 := ck BK181 1; have hfz125_0 := blk_frozen BK181.out 0; have hfz125_1 := blk_frozen BK181.out 1; have hnb126 := NB172_174.out; have hnc126 := NB174_172.out; have hcz127_0 := ck BK172 0; have hcz127_1 := ck BK172 1; have hfz127_0 := blk_frozen BK172.out 0; have hfz127_1 := blk_frozen BK172.out 1) | ((with_reducible refine gate_callee (f := 103) rfl ?_); refine goesL_ (some 95) rfl rfl Try.func103 (by kernel_rfl) rfl #[.agg #[.int .i64 ((rd_T73 l0 (ji43)).f0), .int .i64 ((rd_T73 l0 (ji43)).f1)], .agg #[.int .i64 ((rd_T73 l0 a1).f0), .int .i64 ((rd_T73 l0 a1).f1)], .agg #[.int .i64 ((rd_T73 l0 (ji46)).f0), .int .i64 ((rd_T73 l0 (ji46)).f1)]] rfl (by (try simp only [List.map_toArray, List.map_cons, List.map_nil]); first | done | (simp only [hji43, hji46]; rfl) | rfl | (simp only [List.length_drop, List.length_take]; rfl)) ?_; (with_reducible refine (spec_l02Side.calls ((rd_T73 l0 (ji43)).f0) ((rd_T73 l0 (ji43)).f1) ((rd_T73 l0 a1).f0) ((rd_T73 l0 a1).f1) ((rd_T73 l0 (ji46)).f0) ((rd_T73 l0 (ji46)).f1) t184 _ A49.out).mono ?_); rintro e w128 ⟨rfl, hb⟩; refine ⟨_, rfl, ?_⟩; have n0_ := Aside0.mk (blk_below (g := gb172) (o := .cells #[.int .i64 ((rd_T73 l0 a1).f0), .int .i64 ((rd_T73 l0 a1).f1)] 73 (0, 0)) (by refine bF NB172_183.out ?_; refine bF NB172_183.out ?_; exact bk BK172) hb); have n1_ := Aside0.mk (blk_below (g := gb174) (o := .cells #[.int .i64 ((rd_T73 l0 a2).f0), .int .i64 ((rd_T73 l0 a2).f1)] 73 (0, 0)) (by refine bF NB174_183.out ?_; refine bF NB174_183.out ?_; exact bk BK174) hb); have n2_ := Aside0.mk (blk_below (g := gb181) (o := .cells #[.int .i64 ((rd_T73 l0 (ji43)).f0), .int .i64 ((rd_T73 l0 (ji43)).f1)] 73 (0, 0)) (by refine bF NB181_183.out ?_; refine bF NB181_183.out ?_; exact bk BK181) hb); have n3_ := Aside0.mk (blk_below (g := gb183) (o := .cells #[.int .i64 ((rd_T73 l0 (ji46)).f0), .int .i64 ((rd_T73 l0 (ji46)).f1)] 73 (0, 0)) (by refine bP (cs := #[.int .i64 ((rd_T73 l0 (ji46)).f0), .int .i64 0]) 1 ?_; refine bP (cs := #[.int .i64 0, .int .i64 0]) 0 ?_; exact bk BK183) hb); have n4_ := sb hb; clear BK172; clear BK174; clear BK181; clear BK183; clear HB; have BK172 := n0_; have BK174 := n1_; have BK181 := n2_; have BK183 := n3_; have HB := n4_; clear n0_ n1_ n2_ n3_ n4_; (try clear hb); (try clear hb2); (try clear hk); (try clear hi); have hcz129_0 := ck BK172 0; have hcz129_1 := ck BK172 1; have hfz129_0 := blk_frozen BK172.out 0; have hfz129_1 := blk_frozen BK172.out 1; have hcz130_0 := ck BK174 0; have hcz130_1 := ck BK174 1; have hfz130_0 := blk_frozen BK174.out 0; have hfz130_1 := blk_frozen BK174.out 1; have hcz131_0 := ck BK183 0; have hcz131_1 := ck BK183 1; have hfz131_0 := blk_frozen BK183.out 0; have hfz131_1 := blk_frozen BK183.out 1) | ((with_reducible refine gate_callee (f := 103) rfl ?_); refine goesL_ (some 112) rfl rfl Try.func103 (by kernel_rfl) rfl #[.agg #[.int .i64 ((rd_T73 l0 a1).f0), .int .i64 ((rd_T73 l0 a1).f1)], .agg #[.int .i64 ((rd_T73 l0 a2).f0), .int .i64 ((rd_T73 l0 a2).f1)], .agg #[.int .i64 ((rd_T73 l0 (ji46)).f0), .int .i64 ((rd_T73 l0 (ji46)).f1)]] rfl (by (try simp only [List.map_toArray, List.map_cons, List.map_nil]); first | done | (simp only [hji46]; rfl) | rfl | (simp only [List.length_drop, List.length_take]; rfl)) ?_; (with_reducible refine (spec_l02Side.calls ((rd_T73 l0 a1).f0) ((rd_T73 l0 a1).f1) ((rd_T73 l0 a2).f0) ((rd_T73 l0 a2).f1) ((rd_T73 l0 (ji46)).f0) ((rd_T73 l0 (ji46)).f1) t187 _ A92.out).mono ?_); rintro e w132 ⟨rfl, hb⟩; refine ⟨_, rfl, ?_⟩; have n0_ := kb BK172 hb; have n1_ := kb BK174 hb; have n2_ := kb BK181 hb; have n3_ := kb BK183 hb; have n4_ := sb hb; clear BK172; clear BK174; clear BK181; clear BK183; clear HB; have BK172 := n0_; have BK174 := n1_; have BK181 := n2_; have BK183 := n3_; have HB := n4_; clear n0_ n1_ n2_ n3_ n4_; (try clear hb); (try clear hb2); (try clear hk); (try clear hi)))
                   go_ret
                   exact ⟨by first | rfl | (simp [errW_none, errW_some] <;> rfl) | (simp only [← hji43, ← hji46]; first | rfl | (simp [errW_none, errW_some] <;> rfl)) | (simp [*, errW_none, errW_some] <;> rfl), by repeat (first | (with_reducible first | exact HB.out | apply below_alloc | apply pw_below_drewN | apply below_drew1 | refine below_set ?_ GE172.out | refine below_set ?_ GE174.out | refine below_set ?_ GE181.out | refine below_set ?_ GE183.out) | exact HB.out)⟩
                ·rw [if_neg c48] at H
                 exact absurd H (by simp)
               ·rw [if_neg c47] at H
                exact absurd H (by simp)
              ·rw [if_neg c45] at H
               exact absurd H (by simp)
             ·rw [if_neg c44] at H
              exact absurd H (by simp)
     ·rw [if_neg c8] at H
      exact absurd H (by simp)
    ·rw [if_neg c7] at H
     exact absurd H (by simp)
   ·rw [if_neg c6] at H
    exact absurd H (by simp)
  ·rw [if_neg c5] at H
   exact absurd H (by simp)
end Go.Proofs.Ytnnchaggdnlfmaa.PFnExactDiagonalsOf
