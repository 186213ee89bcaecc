/- Contracts of functions that FnExactTurnsOf reaches, out of the lines of the kit's print. -/
import Derived.Test.YtfhgfdphdmlpbaaQFnExactTurnsOfx0
import Derived.Test.YtfhgfdphdmlpbaaQFnExactTurnsOfx2
namespace Go.Proofs.Ytfhgfdphdmlpbaa.PFnExactTurnsOf
open Go.RowKit Go.Proofs.YtfhgfdphdmlpbaaW.PrintWords Go.Proofs.YtfhgfdphdmlpbaaW.PrintLast Go.Proofs.YtfhgfdphdmlpbaaW.PrintMore
open Bool renaming true → tT, false → fF
open Go.World renaming block_lt_of_cell? → bL
attribute [local go_sem] max2_int min2_int max_two min_two max_three min_three max_four min_four
set_option linter.unusedVariables false
set_option linter.unusedSimpArgs false
def spec_l03Bounds.l0 : Nat → List (S51) → Int → Int → Int → Int → Int → Option (Int × Int × Int × Int)
 | 0, _, _, _, _, _, _ => none
 | k + 1, x0, x6, x179000, x179001, x181000, x181001 => if x6 < (x0.length : Int) then (if 0 ≤ x6 then ((spec_l00Min.f x179000 ((rd_T51 x0 x6).f0)).bind fun t182 => ((spec_l00Min.f x179001 ((rd_T51 x0 x6).f1)).bind fun t184 => ((spec_l00Max.f x181000 ((rd_T51 x0 x6).f0)).bind fun t186 => ((spec_l00Max.f x181001 ((rd_T51 x0 x6).f1)).bind fun t188 => (spec_l03Bounds.l0 k x0 (wrap64 (x6 + 1)) t182 t184 t186 t188))))) else (none)) else (some (x179000, x179001, x181000, x181001))
def spec_l03Bounds.f (k : Nat) (l0 : List (S51)) : Option (Int × Int × Int × Int) := if 0 < (l0.length : Int) then (spec_l03Bounds.l0 k l0 1 ((rd_T51 l0 0).f0) ((rd_T51 l0 0).f1) ((rd_T51 l0 0).f0) ((rd_T51 l0 0).f1)) else (none)
theorem spec_l03Bounds.mono_l : ∀ k, (∀ y0 y1 y2 y3 y4 y5, LeO (spec_l03Bounds.l0 k y0 y1 y2 y3 y4 y5) (spec_l03Bounds.l0 (k + 1) y0 y1 y2 y3 y4 y5))
 | 0 => fun _ _ _ _ _ _ r h => by simp [spec_l03Bounds.l0] at h
 | k + 1 => by
  have ih0 := spec_l03Bounds.mono_l k
  ·intro y0 y1 y2 y3 y4 y5
   unfold spec_l03Bounds.l0
   repeat' first
   | (with_reducible exact ih0 _ _ _ _ _ _)
   | (with_reducible exact LeO.refl _)
   | (with_reducible exact LeO.none _)
   | (with_reducible refine LeO.ite ?_ ?_)
   | (with_reducible refine LeO.bind ?_ (fun _ => ?_))
   | exact ih0 _ _ _ _ _ _
   | exact LeO.none _
   | refine LeO.ite ?_ ?_
   | refine LeO.bind ?_ (fun _ => ?_)
theorem spec_l03Bounds.mono : ∀ a0 k, LeO (spec_l03Bounds.f k a0) (spec_l03Bounds.f (k + 1) a0) := by
 intro a0 k
 have ih0 := spec_l03Bounds.mono_l k
 unfold spec_l03Bounds.f
 repeat' first
   | (with_reducible exact ih0 _ _ _ _ _ _)
   | (with_reducible exact LeO.refl _)
   | (with_reducible exact LeO.none _)
   | (with_reducible refine LeO.ite ?_ ?_)
   | (with_reducible refine LeO.bind ?_ (fun _ => ?_))
   | exact ih0 _ _ _ _ _ _
   | exact LeO.none _
   | refine LeO.ite ?_ ?_
   | refine LeO.bind ?_ (fun _ => ?_)
def spec_l03Bounds.T6 : Bool × List (List Nat × List Nat) := (true, [([], []), ([0], [0]), ([], []), ([], []), ([2, 3], [2, 3]), ([4], [4]), ([5], [5]), ([1, 6], [1, 6]), ([0, 1, 2, 3, 4, 5, 6, 7], []), ([8, 7, 7, 0, 1, 2, 3, 4, 5, 6, 7], [7, 8])])
def spec_l03Bounds.B6 : List Nat := [0, 1, 0, 0, 12, 28, 60, 127, 255, 511]
theorem spec_l03Bounds.tab6 : rtab .any (opsOf Try.f47 6) = spec_l03Bounds.T6 := by kernel_rfl
theorem spec_l03Bounds.bits6 : waitsOk spec_l03Bounds.T6.2 spec_l03Bounds.B6 = true := by kernel_rfl
def spec_l03Bounds.T7 : Bool × List (List Nat × List Nat) := (true, [([], []), ([0], [0]), ([], []), ([], []), ([2, 3], [2, 3]), ([4], [4]), ([5], [5]), ([1, 6], [1, 6]), ([0, 1, 2, 3, 4, 5, 6, 7], []), ([8, 7, 7, 0, 1, 2, 3, 4, 5, 6, 7], [7, 8])])
def spec_l03Bounds.B7 : List Nat := [0, 1, 0, 0, 12, 28, 60, 127, 255, 511]
theorem spec_l03Bounds.tab7 : rtab .any (opsOf Try.f47 7) = spec_l03Bounds.T7 := by kernel_rfl
theorem spec_l03Bounds.bits7 : waitsOk spec_l03Bounds.T7.2 spec_l03Bounds.B7 = true := by kernel_rfl
def spec_l03Bounds.T8 : Bool × List (List Nat × List Nat) := (true, [([], []), ([0], [0]), ([], []), ([], []), ([2, 3], [2, 3]), ([4], [4]), ([5], [5]), ([1, 6], [1, 6]), ([0, 1, 2, 3, 4, 5, 6, 7], []), ([8, 7, 7, 0, 1, 2, 3, 4, 5, 6, 7], [7, 8])])
def spec_l03Bounds.B8 : List Nat := [0, 1, 0, 0, 12, 28, 60, 127, 255, 511]
theorem spec_l03Bounds.tab8 : rtab .any (opsOf Try.f47 8) = spec_l03Bounds.T8 := by kernel_rfl
theorem spec_l03Bounds.bits8 : waitsOk spec_l03Bounds.T8.2 spec_l03Bounds.B8 = true := by kernel_rfl
def spec_l03Bounds.T9 : Bool × List (List Nat × List Nat) := (true, [([], []), ([0], [0]), ([], []), ([], []), ([2, 3], [2, 3]), ([4], [4]), ([5], [5]), ([1, 6], [1, 6]), ([0, 1, 2, 3, 4, 5, 6, 7], []), ([8, 7, 7, 0, 1, 2, 3, 4, 5, 6, 7], [7, 8])])
def spec_l03Bounds.B9 : List Nat := [0, 1, 0, 0, 12, 28, 60, 127, 255, 511]
theorem spec_l03Bounds.tab9 : rtab .any (opsOf Try.f47 9) = spec_l03Bounds.T9 := by kernel_rfl
theorem spec_l03Bounds.bits9 : waitsOk spec_l03Bounds.T9.2 spec_l03Bounds.B9 = true := by kernel_rfl
set_option maxHeartbeats 8000000 in
set_option maxRecDepth 100000 in
theorem spec_l03Bounds.calls (k : Nat) (A0 : Option Addr) (c0 : Nat) (l0 : List (S51)) (r1 : Int) (r2 : Int) (r3 : Int) (r4 : Int) (w : World) (hr0 : Kd.C k51 w A0 l0.length l0) (hc0 : l0.length ≤ c0) (h : spec_l03Bounds.f k l0 = some (r1, r2, r3, r4)) :
  Calls Try.prog 47 #[.slice A0 l0.length c0] w fun e w' => e = .returned (.tuple #[.agg #[.int .i64 r1, .int .i64 r2], .agg #[.int .i64 r3, .int .i64 r4]]) ∧ Below w.heap.size w w' := by
 have hu51 := Try.underlying51
 have HR0 := Aside0.mk hr0
 have HC0 := Aside0.mk hc0
 clear hr0 hc0
 have HB := Aside0.mk (Below.refl w.heap.size w)
 have H : (if 0 < (l0.length : Int) then (spec_l03Bounds.l0 k l0 1 ((rd_T51 l0 0).f0) ((rd_T51 l0 0).f1) ((rd_T51 l0 0).f0) ((rd_T51 l0 0).f1)) else (none)) = some (r1, r2, r3, r4) := h
 clear h
 by_cases c2 : 0 < (l0.length : Int)
 ·rw [if_pos c2] at H
  have c2b0 : decide (0 < (l0.length : Int)) = true := decide_eq_true c2
  have c2b1 : decide (0 < l0.length) = true := decide_eq_true (by omega)
  clear c2
  have H' := Aside0.mk H
  clear H
  go_enter Try.func47, Try.ntmps47
  go_wp2_with (first | ((with_reducible refine gate_dst (N := 2) rfl ?_); refine bx (cs := #[.int .i64 0, .int .i64 0]) (t := 51) ?_; intro gb175 hg w3 hbox hb; have n0_ := sb hb; have n1_ := Aside0.mk (hbox); have n2_ := zb hg; have n3_ := zb hg; clear HB; have HB := n0_; have BK175 := n1_; have GW175 := n2_; have GE175 := n3_; clear n0_ n1_ n2_ n3_; clear hb hbox hg) | ((with_reducible refine gate_dst (N := 3) rfl ?_); refine bx (cs := #[.int .i64 0, .int .i64 0]) (t := 51) ?_; intro gb176 hg w4 hbox hb; have n0_ := kb BK175 hb; have n1_ := sb hb; have n2_ := Aside0.mk (hbox); have n3_ := zb hg; have n4_ := zb hg; have n5_ := nl BK175 hg; have n6_ := ng BK175 hg; clear BK175; clear HB; have BK175 := n0_; have HB := n1_; have BK176 := n2_; have GW176 := n3_; have GE176 := n4_; have NB175_176 := n5_; have NB176_175 := n6_; clear n0_ n1_ n2_ n3_ n4_ n5_ n6_; clear hb hbox hg; have p177 : 0 ≤ (0 : Int) := (by omega); have q177 : 0 < (l0.length : Int) := da; obtain ⟨ad177, e177, hx177_0, hx177_1⟩ := at_T51 HR0.out 0 p177 q177; cases e177; have qi177 : (0 < l0.length) = True := eq_true (by omega); (try rw [show ((0 : Int)).toNat = 0 from rfl] at hx177_0); (try rw [show 0 * 2 = 0 from rfl] at hx177_0); (try rw [Addr.add_zero'] at hx177_0); (try rw [show ((0 : Int)).toNat = 0 from rfl] at hx177_1); (try rw [show 0 * 2 = 0 from rfl] at hx177_1); (try rw [Addr.add_zero'] at hx177_1); replace hx177_0 := (HB.out.cell (bL w _ hx177_0)).trans hx177_0; replace hx177_1 := (HB.out.cell (bL w _ hx177_1)).trans hx177_1; replace p177 := eq_true p177; replace q177 := eq_true q177) | ((with_reducible refine gate_dst (N := 4) rfl ?_); refine bx (cs := #[.int .i64 0, .int .i64 0]) (t := 51) ?_; intro gb178 hg w5 hbox hb; have n0_ := kb BK175 hb; have n1_ := kb BK176 hb; have n2_ := sb hb; have n3_ := Aside0.mk (hbox); have n4_ := zb hg; have n5_ := zb hg; have n6_ := nl BK175 hg; have n7_ := ng BK175 hg; have n8_ := nl BK176 hg; have n9_ := ng BK176 hg; clear BK175; clear BK176; clear HB; have BK175 := n0_; have BK176 := n1_; have HB := n2_; have BK178 := n3_; have GW178 := n4_; have GE178 := n5_; have NB175_178 := n6_; have NB178_175 := n7_; have NB176_178 := n8_; have NB178_176 := n9_; clear n0_ n1_ n2_ n3_ n4_ n5_ n6_ n7_ n8_ n9_; clear hb hbox hg; have hnb6 := NB178_175.out; have hnc6 := NB175_178.out; have hnb7 := NB178_176.out; have hnc7 := NB176_178.out; have hcz8_0 := ck BK178 0; have hcz8_1 := ck BK178 1; have hfz8_0 := blk_frozen BK178.out 0; have hfz8_1 := blk_frozen BK178.out 1; have p179 : 0 ≤ (0 : Int) := (by omega); have q179 : 0 < (l0.length : Int) := da; obtain ⟨ad179, e179, hx179_0, hx179_1⟩ := at_T51 HR0.out 0 p179 q179; obtain rfl : ad177 = ad179 := (by injection e179); have qi179 : (0 < l0.length) = True := eq_true (by omega); (try rw [show ((0 : Int)).toNat = 0 from rfl] at hx179_0); (try rw [show 0 * 2 = 0 from rfl] at hx179_0); (try rw [Addr.add_zero'] at hx179_0); (try rw [show ((0 : Int)).toNat = 0 from rfl] at hx179_1); (try rw [show 0 * 2 = 0 from rfl] at hx179_1); (try rw [Addr.add_zero'] at hx179_1); have hn179_0 : ad177.block ≠ gb178 := nw hx179_0 GW178; have hn179_1 : ad177.block ≠ gb178 := nw hx179_0 GW178; replace hx179_0 := (HB.out.cell (bL w _ hx179_0)).trans hx179_0; replace hx179_1 := (HB.out.cell (bL w _ hx179_1)).trans hx179_1; replace hx179_0 := cf hn179_0 hx179_0 0 (.int .i64 ((rd_T51 l0 0).f0)); replace hx179_1 := cf hn179_0 hx179_1 0 (.int .i64 ((rd_T51 l0 0).f0)); replace hx179_0 := cf hn179_1 hx179_0 1 (.int .i64 ((rd_T51 l0 0).f1)); replace hx179_1 := cf hn179_1 hx179_1 1 (.int .i64 ((rd_T51 l0 0).f1)); clear hn179_0; clear hn179_1; replace p179 := eq_true p179; replace q179 := eq_true q179) | ((with_reducible refine gate_dst (N := 5) rfl ?_); refine bx (cs := #[.int .i64 0, .int .i64 0]) (t := 51) ?_; intro gb180 hg w9 hbox hb; have z0_ := mz hb (g := gb175) (o := .cells #[.int .i64 0, .int .i64 0] 51 (0, 0)) (by refine bF NB175_178.out ?_; refine bF NB175_178.out ?_; exact bk BK175); have n0_ := kc z0_ hb; have z1_ := mz hb (g := gb176) (o := .cells #[.int .i64 0, .int .i64 0] 51 (0, 0)) (by refine bF NB176_178.out ?_; refine bF NB176_178.out ?_; exact bk BK176); have n1_ := kc z1_ hb; have z2_ := mz hb (g := gb178) (o := .cells #[.int .i64 ((rd_T51 l0 0).f0), .int .i64 ((rd_T51 l0 0).f1)] 51 (0, 0)) (by refine bP (cs := #[.int .i64 ((rd_T51 l0 0).f0), .int .i64 0]) 1 ?_; refine bP (cs := #[.int .i64 0, .int .i64 0]) 0 ?_; exact bk BK178); have n2_ := kc z2_ hb; have n3_ := sb hb; have n4_ := Aside0.mk (hbox); have n5_ := zb hg; have n6_ := zb hg; have n7_ := nm z0_ hg; have n8_ := nn z0_ hg; have n9_ := nm z1_ hg; have n10_ := nn z1_ hg; have n11_ := nm z2_ hg; have n12_ := nn z2_ hg; clear BK175; clear BK176; clear BK178; clear HB; have BK175 := n0_; have BK176 := n1_; have BK178 := n2_; have HB := n3_; have BK180 := n4_; have GW180 := n5_; have GE180 := n6_; have NB175_180 := n7_; have NB180_175 := n8_; have NB176_180 := n9_; have NB180_176 := n10_; have NB178_180 := n11_; have NB180_178 := n12_; clear z0_ z1_ z2_ n0_ n1_ n2_ n3_ n4_ n5_ n6_ n7_ n8_ n9_ n10_ n11_ n12_; clear hb hbox hg; have hnb10 := NB180_175.out; have hnc10 := NB175_180.out; have hnb11 := NB180_176.out; have hnc11 := NB176_180.out; have hnb12 := NB180_178.out; have hnc12 := NB178_180.out; have hcz13_0 := ck BK180 0; have hcz13_1 := ck BK180 1; have hfz13_0 := blk_frozen BK180.out 0; have hfz13_1 := blk_frozen BK180.out 1))
  go_loopg [6] k (fun kq v6 w' => ∃ (x6_1 : Int) (x179000_1 : Int) (x179001_1 : Int) (x181000_1 : Int) (x181001_1 : Int), v6 = .int .i64 x6_1 ∧ Aside0 (spec_l03Bounds.l0 kq l0 x6_1 x179000_1 x179001_1 x181000_1 x181001_1 = some (r1, r2, r3, r4)) ∧ Aside0 (kq ≤ k) ∧ Aside0 (w'.heap[gb175]? = some (.cells #[.int .i64 0, .int .i64 0] 51 (0, 0))) ∧ Aside0 (w'.heap[gb176]? = some (.cells #[.int .i64 0, .int .i64 0] 51 (0, 0))) ∧ Aside0 (w'.heap[gb178]? = some (.cells #[.int .i64 x179000_1, .int .i64 x179001_1] 51 (0, 0))) ∧ Aside0 (w'.heap[gb180]? = some (.cells #[.int .i64 x181000_1, .int .i64 x181001_1] 51 (0, 0))) ∧ Aside0 (Below w.heap.size w w'))
  case atStart => exact ⟨(1), ((rd_T51 l0 0).f0), ((rd_T51 l0 0).f1), ((rd_T51 l0 0).f0), ((rd_T51 l0 0).f1), (by first | rfl | (simp; done) | (simp [*]; done)), H', ⟨Nat.le_refl _⟩, ⟨by refine bF NB175_180.out ?_; refine bF NB175_180.out ?_; exact bk BK175⟩, ⟨by refine bF NB176_180.out ?_; refine bF NB176_180.out ?_; exact bk BK176⟩, ⟨by refine bF NB178_180.out ?_; refine bF NB178_180.out ?_; exact bk BK178⟩, ⟨by refine bP (cs := #[.int .i64 ((rd_T51 l0 0).f0), .int .i64 0]) 1 ?_; refine bP (cs := #[.int .i64 0, .int .i64 0]) 0 ?_; exact bk BK180⟩, ⟨by repeat (first | (with_reducible first | exact HB.out | apply below_alloc | apply pw_below_drewN | apply below_drew1 | refine below_set ?_ GE175.out | refine below_set ?_ GE176.out | refine below_set ?_ GE178.out | refine below_set ?_ GE180.out) | exact HB.out)⟩⟩
  case round =>
   clear H'
   try clear c1
   try clear p1
   try clear q1
   try clear hx1
   try clear qi1
   try clear c2
   try clear c2b0
   try clear c2b1
   try clear p2
   try clear c4
   try clear c6
   try clear c7
   try clear c10
   try clear c11
   try clear c12
   try clear hcz13_0
   try clear hcz13_1
   try clear hcz8_0
   try clear hcz8_1
   try clear hfz13_0
   try clear hfz13_1
   try clear hfz8_0
   try clear hfz8_1
   try clear hx177_0
   try clear hx177_1
   try clear hx179_0
   try clear hx179_1
   try clear p177
   try clear p179
   try clear q177
   try clear q179
   obtain ⟨x6_1, x179000_1, x179001_1, x181000_1, x181001_1, rfl, HA, HK1, BK175, BK176, BK178, BK180, HB⟩ := hrel
   cases gk with
   | zero => exact absurd HA.out (by simp [spec_l03Bounds.l0])
   | succ k1 =>
    have H := HA.out
    clear HA
    simp only [spec_l03Bounds.l0] at H
    by_cases c14 : x6_1 < (l0.length : Int)
    ·rw [if_pos c14] at H
     have c14b0 : decide (x6_1 < (l0.length : Int)) = true := decide_eq_true c14
     clear c14
     by_cases c15 : 0 ≤ x6_1
     ·rw [if_pos c15] at H
      have c15b0 : decide (0 ≤ x6_1) = true := decide_eq_true c15
      clear c15
      replace H := Option.bind_eq_some_iff.mp H
      obtain ⟨t182, A160, H⟩ := H
      replace H : ((spec_l00Min.f x179001_1 ((rd_T51 l0 x6_1).f1)).bind fun t184 => ((spec_l00Max.f x181000_1 ((rd_T51 l0 x6_1).f0)).bind fun t186 => ((spec_l00Max.f x181001_1 ((rd_T51 l0 x6_1).f1)).bind fun t188 => (spec_l03Bounds.l0 k1 l0 (wrap64 (x6_1 + 1)) t182 t184 t186 t188)))) = some (r1, r2, r3, r4) := H
      have A16 := Aside0.mk A160
      clear A160
      replace H := Option.bind_eq_some_iff.mp H
      obtain ⟨t184, A170, H⟩ := H
      replace H : ((spec_l00Max.f x181000_1 ((rd_T51 l0 x6_1).f0)).bind fun t186 => ((spec_l00Max.f x181001_1 ((rd_T51 l0 x6_1).f1)).bind fun t188 => (spec_l03Bounds.l0 k1 l0 (wrap64 (x6_1 + 1)) t182 t184 t186 t188))) = some (r1, r2, r3, r4) := H
      have A17 := Aside0.mk A170
      clear A170
      replace H := Option.bind_eq_some_iff.mp H
      obtain ⟨t186, A180, H⟩ := H
      replace H : ((spec_l00Max.f x181001_1 ((rd_T51 l0 x6_1).f1)).bind fun t188 => (spec_l03Bounds.l0 k1 l0 (wrap64 (x6_1 + 1)) t182 t184 t186 t188)) = some (r1, r2, r3, r4) := H
      have A18 := Aside0.mk A180
      clear A180
      replace H := Option.bind_eq_some_iff.mp H
      obtain ⟨t188, A190, H⟩ := H
      replace H : (spec_l03Bounds.l0 k1 l0 (wrap64 (x6_1 + 1)) t182 t184 t186 t188) = some (r1, r2, r3, r4) := H
      have A19 := Aside0.mk A190
      clear A190
      have H' := Aside0.mk H
      clear H
      try go_wp2
      have n0_ := Aside0.mk (blk_drew BK175.out)
      have n1_ := Aside0.mk (blk_drew BK176.out)
      have n2_ := Aside0.mk (blk_drew BK178.out)
      have n3_ := Aside0.mk (blk_drew BK180.out)
      have n4_ := Aside0.mk (below_drew1 HB.out)
      clear BK175
      clear BK176
      clear BK178
      clear BK180
      clear HB
      have BK175 := n0_
      have BK176 := n1_
      have BK178 := n2_
      have BK180 := n3_
      have HB := n4_
      clear n0_ n1_ n2_ n3_ n4_
      have p181 : 0 ≤ (x6_1 : Int) := da
      have q181 : x6_1 < (l0.length : Int) := da
      obtain ⟨ad181, e181, hx181_0, hx181_1⟩ := at_T51 HR0.out x6_1 p181 q181
      have hw181_1 := hx181_1
      have hw181_0 := hx181_0
      obtain rfl : ad177 = ad181 := (by injection e181)
      replace hx181_0 := (HB.out.cell (bL w _ hx181_0)).trans hx181_0
      replace hx181_1 := (HB.out.cell (bL w _ hx181_1)).trans hx181_1
      replace p181 := eq_true p181
      replace q181 := eq_true q181
      refine start_ (n := 10) (S := fun w' => w'.cell? ⟨gb178, 0, none⟩ = some (.int .i64 x179000_1) ∧ w'.cell? ⟨gb178, 1, none⟩ = some (.int .i64 x179001_1) ∧ w'.cell? (ad177.add ((x6_1).toNat * 2)) = some (.int .i64 ((rd_T51 l0 x6_1).f0)) ∧ w'.cell? ⟨(ad177.add ((x6_1).toNat * 2)).block, (ad177.add ((x6_1).toNat * 2)).off + 1, none⟩ = some (.int .i64 ((rd_T51 l0 x6_1).f1))) (ds := [9]) #[fF,fF,fF,fF,fF,fF,fF,fF,fF,fF] (by kernel_rfl) rfl rfl ⟨(blk_cell BK178.out 0).trans rfl, (blk_cell BK178.out 1).trans rfl, ((HB.out.cell (bL w _ hw181_0)).trans hw181_0), ((HB.out.cell (bL w _ hw181_1)).trans hw181_1)⟩ (fun hHeld => ?_); refine with_tabW spec_l03Bounds.tab6 spec_l03Bounds.bits6 (fun HT_ HW_ => ?_)
      generalize wr.drew = w20 at BK175 BK176 BK178 BK180 HB hx181_0 hx181_1 hHeld ⊢
      refine pu 0 19 HT_ ?_
      refine pu 2 21 HT_ ?_
      refine pu 3 22 HT_ ?_
      refine pu 4 23 HT_ ?_
      refine pu 5 24 HT_ ?_
      refine tk 1 20 HT_ HW_ hHeld ?_
      refine tk 6 25 HT_ HW_ hHeld ?_
      refine on 7 26 HT_ (fun K hK => ?_)
      refine goes_ Try.func65 (by kernel_rfl) rfl #[.int .i64 x179000_1, .int .i64 ((rd_T51 l0 x6_1).f0)] (by rfl) rfl rfl (by (try simp only [List.map_toArray, List.map_cons, List.map_nil]); first | done | rfl | (simp only [List.length_drop, List.length_take]; rfl)) ?_
      with_reducible refine (spec_l00Min.calls x179000_1 ((rd_T51 l0 x6_1).f0) t182 _ A16.out).mono ?_
      rintro e w' ⟨rfl, ⟨nd, rfl⟩⟩
      refine ⟨_, rfl, ?_⟩
      have n0_ := rb (n := nd) BK175
      have n1_ := rb (n := nd) BK176
      have n2_ := rb (n := nd) BK178
      have n3_ := rb (n := nd) BK180
      have n4_ := rB (n := nd) HB
      clear BK175 BK176 BK178 BK180 HB
      have BK175 := n0_
      have BK176 := n1_
      have BK178 := n2_
      have BK180 := n3_
      have HB := n4_
      clear n0_ n1_ n2_ n3_ n4_
      generalize World.drewN w20 nd = w20 at BK175 BK176 BK178 BK180 HB ⊢
      refine hK.out _ _ ⟨(blk_cell BK178.out 0).trans rfl, (blk_cell BK178.out 1).trans rfl, ((HB.out.cell (bL w _ hw181_0)).trans hw181_0), ((HB.out.cell (bL w _ hw181_1)).trans hw181_1)⟩ (fun hHeld => ?_)
      clear hK K
      refine norm_ (a' := ?_) ?_ ?_
      rotate_left
      ·show Act.put _ (some 26) _ = _
       simp only [Act.put, List.setIfInBounds_toArray, List.set_cons_zero, List.set_cons_succ, i64_w, i32_w]
       rfl
      refine pu 8 27 HT_ ?_
      refine last_ (i := 9) (N := none) #[tT,tT,tT,tT,tT,tT,tT,tT,tT,tT] rfl rfl (one_of HT_.out (by kernel_rfl)) (by decide) (fun K hK => ?_)
      have hs21 : w20.cell? ⟨gb178, 0, none⟩ = some (.int .i64 x179000_1) := (blk_cell BK178.out 0).trans rfl
      have hfs21 := blk_frozen BK178.out 0
      have hns21_0 := NB175_178.out
      have hns21_1 := NB176_178.out
      have hns21_3 := NB180_178.out
      have hms21_0 := NB178_175.out
      have hms21_1 := NB178_176.out
      have hms21_3 := NB178_180.out
      refine skip_ (w1 := ?_) (by rfl) rfl ?_ ?_
      rotate_left
      ·go_simp
       rfl
      refine hK.out _ _ ?_
      clear hK K
      refine done_ (done_of HT_.out (by kernel_rfl)) ?_
      try go_wp2
      have n0_ : Aside0 ((w20.setCell ⟨gb178, 0, none⟩ (.int .i64 t182)).heap[gb175]? = some (.cells #[.int .i64 0, .int .i64 0] 51 (0, 0))) := ⟨by refine bF NB175_178.out ?_; exact bk BK175⟩
      have n1_ : Aside0 ((w20.setCell ⟨gb178, 0, none⟩ (.int .i64 t182)).heap[gb176]? = some (.cells #[.int .i64 0, .int .i64 0] 51 (0, 0))) := ⟨by refine bF NB176_178.out ?_; exact bk BK176⟩
      have n2_ : Aside0 ((w20.setCell ⟨gb178, 0, none⟩ (.int .i64 t182)).heap[gb178]? = some (.cells #[.int .i64 t182, .int .i64 x179001_1] 51 (0, 0))) := ⟨by refine bP (cs := #[.int .i64 x179000_1, .int .i64 x179001_1]) 0 ?_; exact bk BK178⟩
      have n3_ : Aside0 ((w20.setCell ⟨gb178, 0, none⟩ (.int .i64 t182)).heap[gb180]? = some (.cells #[.int .i64 x181000_1, .int .i64 x181001_1] 51 (0, 0))) := ⟨by refine bF NB180_178.out ?_; exact bk BK180⟩
      have n4_ : Aside0 (Below w.heap.size w (w20.setCell ⟨gb178, 0, none⟩ (.int .i64 t182))) := ⟨by repeat (first | (with_reducible first | exact HB.out | apply below_alloc | apply pw_below_drewN | apply below_drew1 | refine below_set ?_ GE175.out | refine below_set ?_ GE176.out | refine below_set ?_ GE178.out | refine below_set ?_ GE180.out) | exact HB.out)⟩
      (try clear BK175)
      (try clear BK176)
      (try clear BK178)
      (try clear BK180)
      (try clear HB)
      generalize (w20.setCell ⟨gb178, 0, none⟩ (.int .i64 t182)) = w22 at n0_ n1_ n2_ n3_ n4_ ⊢
      have BK175 := n0_
      have BK176 := n1_
      have BK178 := n2_
      have BK180 := n3_
      have HB := n4_
      clear n0_ n1_ n2_ n3_ n4_
      (try (rw [drewN_self w22]; generalize hq_ : World.drewN w22 _ = w22; have n0_ : Aside0 (w22.heap[gb175]? = some (.cells #[.int .i64 0, .int .i64 0] 51 (0, 0))) := ⟨by rw [← hq_]; exact (bk BK175)⟩; have n1_ : Aside0 (w22.heap[gb176]? = some (.cells #[.int .i64 0, .int .i64 0] 51 (0, 0))) := ⟨by rw [← hq_]; exact (bk BK176)⟩; have n2_ : Aside0 (w22.heap[gb178]? = some (.cells #[.int .i64 t182, .int .i64 x179001_1] 51 (0, 0))) := ⟨by rw [← hq_]; exact (bk BK178)⟩; have n3_ : Aside0 (w22.heap[gb180]? = some (.cells #[.int .i64 x181000_1, .int .i64 x181001_1] 51 (0, 0))) := ⟨by rw [← hq_]; exact (bk BK180)⟩; have n4_ : Aside0 (Below w.heap.size w w22) := ⟨by rw [← hq_]; exact ib⟩; clear BK175 BK176 BK178 BK180 HB hq_; have BK175 := n0_; have BK176 := n1_; have BK178 := n2_; have BK180 := n3_; have HB := n4_; clear n0_ n1_ n2_ n3_ n4_))
      have n0_ := Aside0.mk (blk_drew BK175.out)
      have n1_ := Aside0.mk (blk_drew BK176.out)
      have n2_ := Aside0.mk (blk_drew BK178.out)
      have n3_ := Aside0.mk (blk_drew BK180.out)
      have n4_ := Aside0.mk (below_drew1 HB.out)
      clear BK175
      clear BK176
      clear BK178
      clear BK180
      clear HB
      have BK175 := n0_
      have BK176 := n1_
      have BK178 := n2_
      have BK180 := n3_
      have HB := n4_
      clear n0_ n1_ n2_ n3_ n4_
      have p183 : 0 ≤ (x6_1 : Int) := da
      have q183 : x6_1 < (l0.length : Int) := da
      obtain ⟨ad183, e183, hx183_0, hx183_1⟩ := at_T51 HR0.out x6_1 p183 q183
      have hw183_1 := hx183_1
      have hw183_0 := hx183_0
      obtain rfl : ad177 = ad183 := (by injection e183)
      replace hx183_0 := (HB.out.cell (bL w _ hx183_0)).trans hx183_0
      replace hx183_1 := (HB.out.cell (bL w _ hx183_1)).trans hx183_1
      replace p183 := eq_true p183
      replace q183 := eq_true q183
      refine start_ (n := 10) (S := fun w' => w'.cell? ⟨gb178, 0, none⟩ = some (.int .i64 t182) ∧ w'.cell? ⟨gb178, 1, none⟩ = some (.int .i64 x179001_1) ∧ w'.cell? (ad177.add ((x6_1).toNat * 2)) = some (.int .i64 ((rd_T51 l0 x6_1).f0)) ∧ w'.cell? ⟨(ad177.add ((x6_1).toNat * 2)).block, (ad177.add ((x6_1).toNat * 2)).off + 1, none⟩ = some (.int .i64 ((rd_T51 l0 x6_1).f1))) (ds := [9]) #[fF,fF,fF,fF,fF,fF,fF,fF,fF,fF] (by kernel_rfl) rfl rfl ⟨(blk_cell BK178.out 0).trans rfl, (blk_cell BK178.out 1).trans rfl, ((HB.out.cell (bL w _ hw183_0)).trans hw183_0), ((HB.out.cell (bL w _ hw183_1)).trans hw183_1)⟩ (fun hHeld => ?_); refine with_tabW spec_l03Bounds.tab7 spec_l03Bounds.bits7 (fun HT_ HW_ => ?_)
      generalize w22.drew = w23 at BK175 BK176 BK178 BK180 HB hx183_0 hx183_1 hHeld ⊢
      refine pu 0 28 HT_ ?_
      refine pu 2 30 HT_ ?_
      refine pu 3 31 HT_ ?_
      refine pu 4 32 HT_ ?_
      refine pu 5 33 HT_ ?_
      refine tk 1 29 HT_ HW_ hHeld ?_
      refine tk 6 34 HT_ HW_ hHeld ?_
      refine on 7 35 HT_ (fun K hK => ?_)
      refine goes_ Try.func65 (by kernel_rfl) rfl #[.int .i64 x179001_1, .int .i64 ((rd_T51 l0 x6_1).f1)] (by rfl) rfl rfl (by (try simp only [List.map_toArray, List.map_cons, List.map_nil]); first | done | rfl | (simp only [List.length_drop, List.length_take]; rfl)) ?_
      with_reducible refine (spec_l00Min.calls x179001_1 ((rd_T51 l0 x6_1).f1) t184 _ A17.out).mono ?_
      rintro e w' ⟨rfl, ⟨nd, rfl⟩⟩
      refine ⟨_, rfl, ?_⟩
      have n0_ := rb (n := nd) BK175
      have n1_ := rb (n := nd) BK176
      have n2_ := rb (n := nd) BK178
      have n3_ := rb (n := nd) BK180
      have n4_ := rB (n := nd) HB
      clear BK175 BK176 BK178 BK180 HB
      have BK175 := n0_
      have BK176 := n1_
      have BK178 := n2_
      have BK180 := n3_
      have HB := n4_
      clear n0_ n1_ n2_ n3_ n4_
      generalize World.drewN w23 nd = w23 at BK175 BK176 BK178 BK180 HB ⊢
      refine hK.out _ _ ⟨(blk_cell BK178.out 0).trans rfl, (blk_cell BK178.out 1).trans rfl, ((HB.out.cell (bL w _ hw183_0)).trans hw183_0), ((HB.out.cell (bL w _ hw183_1)).trans hw183_1)⟩ (fun hHeld => ?_)
      clear hK K
      refine norm_ (a' := ?_) ?_ ?_
      rotate_left
      ·show Act.put _ (some 35) _ = _
       simp only [Act.put, List.setIfInBounds_toArray, List.set_cons_zero, List.set_cons_succ, i64_w, i32_w]
       rfl
      refine pu 8 36 HT_ ?_
      refine last_ (i := 9) (N := none) #[tT,tT,tT,tT,tT,tT,tT,tT,tT,tT] rfl rfl (one_of HT_.out (by kernel_rfl)) (by decide) (fun K hK => ?_)
      have hs24 : w23.cell? ⟨gb178, 1, none⟩ = some (.int .i64 x179001_1) := (blk_cell BK178.out 1).trans rfl
      have hfs24 := blk_frozen BK178.out 1
      have hns24_0 := NB175_178.out
      have hns24_1 := NB176_178.out
      have hns24_3 := NB180_178.out
      have hms24_0 := NB178_175.out
      have hms24_1 := NB178_176.out
      have hms24_3 := NB178_180.out
      refine skip_ (w1 := ?_) (by rfl) rfl ?_ ?_
      rotate_left
      ·go_simp
       rfl
      refine hK.out _ _ ?_
      clear hK K
      refine done_ (done_of HT_.out (by kernel_rfl)) ?_
      try go_wp2
      have n0_ : Aside0 ((w23.setCell ⟨gb178, 1, none⟩ (.int .i64 t184)).heap[gb175]? = some (.cells #[.int .i64 0, .int .i64 0] 51 (0, 0))) := ⟨by refine bF NB175_178.out ?_; exact bk BK175⟩
      have n1_ : Aside0 ((w23.setCell ⟨gb178, 1, none⟩ (.int .i64 t184)).heap[gb176]? = some (.cells #[.int .i64 0, .int .i64 0] 51 (0, 0))) := ⟨by refine bF NB176_178.out ?_; exact bk BK176⟩
      have n2_ : Aside0 ((w23.setCell ⟨gb178, 1, none⟩ (.int .i64 t184)).heap[gb178]? = some (.cells #[.int .i64 t182, .int .i64 t184] 51 (0, 0))) := ⟨by refine bP (cs := #[.int .i64 t182, .int .i64 x179001_1]) 1 ?_; exact bk BK178⟩
      have n3_ : Aside0 ((w23.setCell ⟨gb178, 1, none⟩ (.int .i64 t184)).heap[gb180]? = some (.cells #[.int .i64 x181000_1, .int .i64 x181001_1] 51 (0, 0))) := ⟨by refine bF NB180_178.out ?_; exact bk BK180⟩
      have n4_ : Aside0 (Below w.heap.size w (w23.setCell ⟨gb178, 1, none⟩ (.int .i64 t184))) := ⟨by repeat (first | (with_reducible first | exact HB.out | apply below_alloc | apply pw_below_drewN | apply below_drew1 | refine below_set ?_ GE175.out | refine below_set ?_ GE176.out | refine below_set ?_ GE178.out | refine below_set ?_ GE180.out) | exact HB.out)⟩
      (try clear BK175)
      (try clear BK176)
      (try clear BK178)
      (try clear BK180)
      (try clear HB)
      generalize (w23.setCell ⟨gb178, 1, none⟩ (.int .i64 t184)) = w25 at n0_ n1_ n2_ n3_ n4_ ⊢
      have BK175 := n0_
      have BK176 := n1_
      have BK178 := n2_
      have BK180 := n3_
      have HB := n4_
      clear n0_ n1_ n2_ n3_ n4_
      (try (rw [drewN_self w25]; generalize hq_ : World.drewN w25 _ = w25; have n0_ : Aside0 (w25.heap[gb175]? = some (.cells #[.int .i64 0, .int .i64 0] 51 (0, 0))) := ⟨by rw [← hq_]; exact (bk BK175)⟩; have n1_ : Aside0 (w25.heap[gb176]? = some (.cells #[.int .i64 0, .int .i64 0] 51 (0, 0))) := ⟨by rw [← hq_]; exact (bk BK176)⟩; have n2_ : Aside0 (w25.heap[gb178]? = some (.cells #[.int .i64 t182, .int .i64 t184] 51 (0, 0))) := ⟨by rw [← hq_]; exact (bk BK178)⟩; have n3_ : Aside0 (w25.heap[gb180]? = some (.cells #[.int .i64 x181000_1, .int .i64 x181001_1] 51 (0, 0))) := ⟨by rw [← hq_]; exact (bk BK180)⟩; have n4_ : Aside0 (Below w.heap.size w w25) := ⟨by rw [← hq_]; exact ib⟩; clear BK175 BK176 BK178 BK180 HB hq_; have BK175 := n0_; have BK176 := n1_; have BK178 := n2_; have BK180 := n3_; have HB := n4_; clear n0_ n1_ n2_ n3_ n4_))
      have n0_ := Aside0.mk (blk_drew BK175.out)
      have n1_ := Aside0.mk (blk_drew BK176.out)
      have n2_ := Aside0.mk (blk_drew BK178.out)
      have n3_ := Aside0.mk (blk_drew BK180.out)
      have n4_ := Aside0.mk (below_drew1 HB.out)
      clear BK175
      clear BK176
      clear BK178
      clear BK180
      clear HB
      have BK175 := n0_
      have BK176 := n1_
      have BK178 := n2_
      have BK180 := n3_
      have HB := n4_
      clear n0_ n1_ n2_ n3_ n4_
      have p185 : 0 ≤ (x6_1 : Int) := da
      have q185 : x6_1 < (l0.length : Int) := da
      obtain ⟨ad185, e185, hx185_0, hx185_1⟩ := at_T51 HR0.out x6_1 p185 q185
      have hw185_1 := hx185_1
      have hw185_0 := hx185_0
      obtain rfl : ad177 = ad185 := (by injection e185)
      replace hx185_0 := (HB.out.cell (bL w _ hx185_0)).trans hx185_0
      replace hx185_1 := (HB.out.cell (bL w _ hx185_1)).trans hx185_1
      replace p185 := eq_true p185
      replace q185 := eq_true q185
      refine start_ (n := 10) (S := fun w' => w'.cell? ⟨gb180, 0, none⟩ = some (.int .i64 x181000_1) ∧ w'.cell? ⟨gb180, 1, none⟩ = some (.int .i64 x181001_1) ∧ w'.cell? (ad177.add ((x6_1).toNat * 2)) = some (.int .i64 ((rd_T51 l0 x6_1).f0)) ∧ w'.cell? ⟨(ad177.add ((x6_1).toNat * 2)).block, (ad177.add ((x6_1).toNat * 2)).off + 1, none⟩ = some (.int .i64 ((rd_T51 l0 x6_1).f1))) (ds := [9]) #[fF,fF,fF,fF,fF,fF,fF,fF,fF,fF] (by kernel_rfl) rfl rfl ⟨(blk_cell BK180.out 0).trans rfl, (blk_cell BK180.out 1).trans rfl, ((HB.out.cell (bL w _ hw185_0)).trans hw185_0), ((HB.out.cell (bL w _ hw185_1)).trans hw185_1)⟩ (fun hHeld => ?_); refine with_tabW spec_l03Bounds.tab8 spec_l03Bounds.bits8 (fun HT_ HW_ => ?_)
      generalize w25.drew = w26 at BK175 BK176 BK178 BK180 HB hx185_0 hx185_1 hHeld ⊢
      refine pu 0 37 HT_ ?_
      refine pu 2 39 HT_ ?_
      refine pu 3 40 HT_ ?_
      refine pu 4 41 HT_ ?_
      refine pu 5 42 HT_ ?_
      refine tk 1 38 HT_ HW_ hHeld ?_
      refine tk 6 43 HT_ HW_ hHeld ?_
      refine on 7 44 HT_ (fun K hK => ?_)
      refine goes_ Try.func66 (by kernel_rfl) rfl #[.int .i64 x181000_1, .int .i64 ((rd_T51 l0 x6_1).f0)] (by rfl) rfl rfl (by (try simp only [List.map_toArray, List.map_cons, List.map_nil]); first | done | rfl | (simp only [List.length_drop, List.length_take]; rfl)) ?_
      with_reducible refine (spec_l00Max.calls x181000_1 ((rd_T51 l0 x6_1).f0) t186 _ A18.out).mono ?_
      rintro e w' ⟨rfl, ⟨nd, rfl⟩⟩
      refine ⟨_, rfl, ?_⟩
      have n0_ := rb (n := nd) BK175
      have n1_ := rb (n := nd) BK176
      have n2_ := rb (n := nd) BK178
      have n3_ := rb (n := nd) BK180
      have n4_ := rB (n := nd) HB
      clear BK175 BK176 BK178 BK180 HB
      have BK175 := n0_
      have BK176 := n1_
      have BK178 := n2_
      have BK180 := n3_
      have HB := n4_
      clear n0_ n1_ n2_ n3_ n4_
      generalize World.drewN w26 nd = w26 at BK175 BK176 BK178 BK180 HB ⊢
      refine hK.out _ _ ⟨(blk_cell BK180.out 0).trans rfl, (blk_cell BK180.out 1).trans rfl, ((HB.out.cell (bL w _ hw185_0)).trans hw185_0), ((HB.out.cell (bL w _ hw185_1)).trans hw185_1)⟩ (fun hHeld => ?_)
      clear hK K
      refine norm_ (a' := ?_) ?_ ?_
      rotate_left
      ·show Act.put _ (some 44) _ = _
       simp only [Act.put, List.setIfInBounds_toArray, List.set_cons_zero, List.set_cons_succ, i64_w, i32_w]
       rfl
      refine pu 8 45 HT_ ?_
      refine last_ (i := 9) (N := none) #[tT,tT,tT,tT,tT,tT,tT,tT,tT,tT] rfl rfl (one_of HT_.out (by kernel_rfl)) (by decide) (fun K hK => ?_)
      have hs27 : w26.cell? ⟨gb180, 0, none⟩ = some (.int .i64 x181000_1) := (blk_cell BK180.out 0).trans rfl
      have hfs27 := blk_frozen BK180.out 0
      have hns27_0 := NB175_180.out
      have hns27_1 := NB176_180.out
      have hns27_2 := NB178_180.out
      have hms27_0 := NB180_175.out
      have hms27_1 := NB180_176.out
      have hms27_2 := NB180_178.out
      refine skip_ (w1 := ?_) (by rfl) rfl ?_ ?_
      rotate_left
      ·go_simp
       rfl
      refine hK.out _ _ ?_
      clear hK K
      refine done_ (done_of HT_.out (by kernel_rfl)) ?_
      try go_wp2
      have n0_ : Aside0 ((w26.setCell ⟨gb180, 0, none⟩ (.int .i64 t186)).heap[gb175]? = some (.cells #[.int .i64 0, .int .i64 0] 51 (0, 0))) := ⟨by refine bF NB175_180.out ?_; exact bk BK175⟩
      have n1_ : Aside0 ((w26.setCell ⟨gb180, 0, none⟩ (.int .i64 t186)).heap[gb176]? = some (.cells #[.int .i64 0, .int .i64 0] 51 (0, 0))) := ⟨by refine bF NB176_180.out ?_; exact bk BK176⟩
      have n2_ : Aside0 ((w26.setCell ⟨gb180, 0, none⟩ (.int .i64 t186)).heap[gb178]? = some (.cells #[.int .i64 t182, .int .i64 t184] 51 (0, 0))) := ⟨by refine bF NB178_180.out ?_; exact bk BK178⟩
      have n3_ : Aside0 ((w26.setCell ⟨gb180, 0, none⟩ (.int .i64 t186)).heap[gb180]? = some (.cells #[.int .i64 t186, .int .i64 x181001_1] 51 (0, 0))) := ⟨by refine bP (cs := #[.int .i64 x181000_1, .int .i64 x181001_1]) 0 ?_; exact bk BK180⟩
      have n4_ : Aside0 (Below w.heap.size w (w26.setCell ⟨gb180, 0, none⟩ (.int .i64 t186))) := ⟨by repeat (first | (with_reducible first | exact HB.out | apply below_alloc | apply pw_below_drewN | apply below_drew1 | refine below_set ?_ GE175.out | refine below_set ?_ GE176.out | refine below_set ?_ GE178.out | refine below_set ?_ GE180.out) | exact HB.out)⟩
      (try clear BK175)
      (try clear BK176)
      (try clear BK178)
      (try clear BK180)
      (try clear HB)
      generalize (w26.setCell ⟨gb180, 0, none⟩ (.int .i64 t186)) = w28 at n0_ n1_ n2_ n3_ n4_ ⊢
      have BK175 := n0_
      have BK176 := n1_
      have BK178 := n2_
      have BK180 := n3_
      have HB := n4_
      clear n0_ n1_ n2_ n3_ n4_
      (try (rw [drewN_self w28]; generalize hq_ : World.drewN w28 _ = w28; have n0_ : Aside0 (w28.heap[gb175]? = some (.cells #[.int .i64 0, .int .i64 0] 51 (0, 0))) := ⟨by rw [← hq_]; exact (bk BK175)⟩; have n1_ : Aside0 (w28.heap[gb176]? = some (.cells #[.int .i64 0, .int .i64 0] 51 (0, 0))) := ⟨by rw [← hq_]; exact (bk BK176)⟩; have n2_ : Aside0 (w28.heap[gb178]? = some (.cells #[.int .i64 t182, .int .i64 t184] 51 (0, 0))) := ⟨by rw [← hq_]; exact (bk BK178)⟩; have n3_ : Aside0 (w28.heap[gb180]? = some (.cells #[.int .i64 t186, .int .i64 x181001_1] 51 (0, 0))) := ⟨by rw [← hq_]; exact (bk BK180)⟩; have n4_ : Aside0 (Below w.heap.size w w28) := ⟨by rw [← hq_]; exact ib⟩; clear BK175 BK176 BK178 BK180 HB hq_; have BK175 := n0_; have BK176 := n1_; have BK178 := n2_; have BK180 := n3_; have HB := n4_; clear n0_ n1_ n2_ n3_ n4_))
      have n0_ := Aside0.mk (blk_drew BK175.out)
      have n1_ := Aside0.mk (blk_drew BK176.out)
      have n2_ := Aside0.mk (blk_drew BK178.out)
      have n3_ := Aside0.mk (blk_drew BK180.out)
      have n4_ := Aside0.mk (below_drew1 HB.out)
      clear BK175
      clear BK176
      clear BK178
      clear BK180
      clear HB
      have BK175 := n0_
      have BK176 := n1_
      have BK178 := n2_
      have BK180 := n3_
      have HB := n4_
      clear n0_ n1_ n2_ n3_ n4_
      have p187 : 0 ≤ (x6_1 : Int) := da
      have q187 : x6_1 < (l0.length : Int) := da
      obtain ⟨ad187, e187, hx187_0, hx187_1⟩ := at_T51 HR0.out x6_1 p187 q187
      have hw187_1 := hx187_1
      have hw187_0 := hx187_0
      obtain rfl : ad177 = ad187 := (by injection e187)
      replace hx187_0 := (HB.out.cell (bL w _ hx187_0)).trans hx187_0
      replace hx187_1 := (HB.out.cell (bL w _ hx187_1)).trans hx187_1
      replace p187 := eq_true p187
      replace q187 := eq_true q187
      refine start_ (n := 10) (S := fun w' => w'.cell? ⟨gb180, 0, none⟩ = some (.int .i64 t186) ∧ w'.cell? ⟨gb180, 1, none⟩ = some (.int .i64 x181001_1) ∧ w'.cell? (ad177.add ((x6_1).toNat * 2)) = some (.int .i64 ((rd_T51 l0 x6_1).f0)) ∧ w'.cell? ⟨(ad177.add ((x6_1).toNat * 2)).block, (ad177.add ((x6_1).toNat * 2)).off + 1, none⟩ = some (.int .i64 ((rd_T51 l0 x6_1).f1))) (ds := [9]) #[fF,fF,fF,fF,fF,fF,fF,fF,fF,fF] (by kernel_rfl) rfl rfl ⟨(blk_cell BK180.out 0).trans rfl, (blk_cell BK180.out 1).trans rfl, ((HB.out.cell (bL w _ hw187_0)).trans hw187_0), ((HB.out.cell (bL w _ hw187_1)).trans hw187_1)⟩ (fun hHeld => ?_); refine with_tabW spec_l03Bounds.tab9 spec_l03Bounds.bits9 (fun HT_ HW_ => ?_)
      generalize w28.drew = w29 at BK175 BK176 BK178 BK180 HB hx187_0 hx187_1 hHeld ⊢
      refine pu 0 46 HT_ ?_
      refine pu 2 48 HT_ ?_
      refine pu 3 49 HT_ ?_
      refine pu 4 50 HT_ ?_
      refine pu 5 51 HT_ ?_
      refine tk 1 47 HT_ HW_ hHeld ?_
      refine tk 6 52 HT_ HW_ hHeld ?_
      refine on 7 53 HT_ (fun K hK => ?_)
      refine goes_ Try.func66 (by kernel_rfl) rfl #[.int .i64 x181001_1, .int .i64 ((rd_T51 l0 x6_1).f1)] (by rfl) rfl rfl (by (try simp only [List.map_toArray, List.map_cons, List.map_nil]); first | done | rfl | (simp only [List.length_drop, List.length_take]; rfl)) ?_
      with_reducible refine (spec_l00Max.calls x181001_1 ((rd_T51 l0 x6_1).f1) t188 _ A19.out).mono ?_
      rintro e w' ⟨rfl, ⟨nd, rfl⟩⟩
      refine ⟨_, rfl, ?_⟩
      have n0_ := rb (n := nd) BK175
      have n1_ := rb (n := nd) BK176
      have n2_ := rb (n := nd) BK178
      have n3_ := rb (n := nd) BK180
      have n4_ := rB (n := nd) HB
      clear BK175 BK176 BK178 BK180 HB
      have BK175 := n0_
      have BK176 := n1_
      have BK178 := n2_
      have BK180 := n3_
      have HB := n4_
      clear n0_ n1_ n2_ n3_ n4_
      generalize World.drewN w29 nd = w29 at BK175 BK176 BK178 BK180 HB ⊢
      refine hK.out _ _ ⟨(blk_cell BK180.out 0).trans rfl, (blk_cell BK180.out 1).trans rfl, ((HB.out.cell (bL w _ hw187_0)).trans hw187_0), ((HB.out.cell (bL w _ hw187_1)).trans hw187_1)⟩ (fun hHeld => ?_)
      clear hK K
      refine norm_ (a' := ?_) ?_ ?_
      rotate_left
      ·show Act.put _ (some 53) _ = _
       simp only [Act.put, List.setIfInBounds_toArray, List.set_cons_zero, List.set_cons_succ, i64_w, i32_w]
       rfl
      refine pu 8 54 HT_ ?_
      refine last_ (i := 9) (N := none) #[tT,tT,tT,tT,tT,tT,tT,tT,tT,tT] rfl rfl (one_of HT_.out (by kernel_rfl)) (by decide) (fun K hK => ?_)
      have hs30 : w29.cell? ⟨gb180, 1, none⟩ = some (.int .i64 x181001_1) := (blk_cell BK180.out 1).trans rfl
      have hfs30 := blk_frozen BK180.out 1
      have hns30_0 := NB175_180.out
      have hns30_1 := NB176_180.out
      have hns30_2 := NB178_180.out
      have hms30_0 := NB180_175.out
      have hms30_1 := NB180_176.out
      have hms30_2 := NB180_178.out
      refine skip_ (w1 := ?_) (by rfl) rfl ?_ ?_
      rotate_left
      ·go_simp
       rfl
      refine hK.out _ _ ?_
      clear hK K
      refine done_ (done_of HT_.out (by kernel_rfl)) ?_
      try go_wp2
      go_roundg k1
      case measure => have := HK1.out; omega
      case rel => exact ⟨(wrap64 (x6_1 + 1)), (t182), (t184), (t186), (t188), (by first | rfl | (simp; done) | (simp [*]; done)), H', ⟨by have := HK1.out; omega⟩, ⟨by refine bF NB175_180.out ?_; exact bk BK175⟩, ⟨by refine bF NB176_180.out ?_; exact bk BK176⟩, ⟨by refine bF NB178_180.out ?_; exact bk BK178⟩, ⟨by refine bP (cs := #[.int .i64 t186, .int .i64 x181001_1]) 1 ?_; exact bk BK180⟩, ⟨by repeat (first | (with_reducible first | exact HB.out | apply below_alloc | apply pw_below_drewN | apply below_drew1 | refine below_set ?_ GE175.out | refine below_set ?_ GE176.out | refine below_set ?_ GE178.out | refine below_set ?_ GE180.out) | exact HB.out)⟩⟩
     ·rw [if_neg c15] at H
      exact absurd H (by simp)
    ·rw [if_neg c14] at H
     have c14b0 : decide (x6_1 < (l0.length : Int)) = false := decide_eq_false c14
     clear c14
     simp only [Option.some.injEq, Prod.mk.injEq] at H
     obtain ⟨rfl, rfl, rfl, rfl⟩ := H
     try go_wp2
     have n0_ := Aside0.mk (blk_drew BK175.out)
     have n1_ := Aside0.mk (blk_drew BK176.out)
     have n2_ := Aside0.mk (blk_drew BK178.out)
     have n3_ := Aside0.mk (blk_drew BK180.out)
     have n4_ := Aside0.mk (below_drew1 HB.out)
     clear BK175
     clear BK176
     clear BK178
     clear BK180
     clear HB
     have BK175 := n0_
     have BK176 := n1_
     have BK178 := n2_
     have BK180 := n3_
     have HB := n4_
     clear n0_ n1_ n2_ n3_ n4_
     refine start_ (n := 4) (S := fun w' => w'.cell? ⟨gb178, 0, none⟩ = some (.int .i64 x179000_1) ∧ w'.cell? ⟨gb178, 1, none⟩ = some (.int .i64 x179001_1) ∧ w'.cell? ⟨gb180, 0, none⟩ = some (.int .i64 x181000_1) ∧ w'.cell? ⟨gb180, 1, none⟩ = some (.int .i64 x181001_1)) (ds := []) #[fF,fF,fF,fF] (by kernel_rfl) rfl rfl ⟨(blk_cell BK178.out 0).trans rfl, (blk_cell BK178.out 1).trans rfl, (blk_cell BK180.out 0).trans rfl, (blk_cell BK180.out 1).trans rfl⟩ (fun hHeld => ?_)
     generalize wr.drew = w31 at BK175 BK176 BK178 BK180 HB hHeld ⊢
     refine take_ (i := 0) (N := some 55) (v := ?_) (a' := ?_) #[tT,fF,fF,fF] rfl rfl (by kernel_rfl) (fun _ _ _ h => h) (Or.inl ⟨by rfl, ?_⟩) hHeld ?_ ?_
     rotate_left
     ·rintro w' ⟨s0, s1, s2, s3⟩
      go_simp
      with_reducible rfl
     rotate_left
     ·exact pa
     refine take_ (i := 1) (N := some 56) (v := ?_) (a' := ?_) #[tT,tT,fF,fF] rfl rfl (by kernel_rfl) (fun _ _ _ h => h) (Or.inl ⟨by rfl, ?_⟩) hHeld ?_ ?_
     rotate_left
     ·rintro w' ⟨s0, s1, s2, s3⟩
      go_simp
      with_reducible rfl
     rotate_left
     ·exact pa
     refine one_ (i := 2) (N := none) #[tT,tT,tT,fF] rfl rfl (by kernel_rfl) (by decide) (fun K hK => ?_)
     have hs32 : w31.cell? ⟨gb175, 0, none⟩ = some (.int .i64 0) := (blk_cell BK175.out 0).trans rfl
     have hfs32 := blk_frozen BK175.out 0
     have hns32_1 := NB176_175.out
     have hns32_2 := NB178_175.out
     have hns32_3 := NB180_175.out
     have hms32_1 := NB175_176.out
     have hms32_2 := NB175_178.out
     have hms32_3 := NB175_180.out
     have hs33 : w31.cell? ⟨gb175, 1, none⟩ = some (.int .i64 0) := (blk_cell BK175.out 1).trans rfl
     have hfs33 := blk_frozen BK175.out 1
     have hns33_1 := NB176_175.out
     have hns33_2 := NB178_175.out
     have hns33_3 := NB180_175.out
     have hms33_1 := NB175_176.out
     have hms33_2 := NB175_178.out
     have hms33_3 := NB175_180.out
     refine skip_ (w1 := ?_) (by rfl) rfl ?_ ?_
     rotate_left
     ·go_simp
      rfl
     refine hK.out _ _ ⟨((cell_far (p := ⟨gb175, _, none⟩) NB178_175.out _).trans (((cell_far (p := ⟨gb175, _, none⟩) NB178_175.out _).trans (hHeld.1)))), ((cell_far (p := ⟨gb175, _, none⟩) NB178_175.out _).trans (((cell_far (p := ⟨gb175, _, none⟩) NB178_175.out _).trans (hHeld.2.1)))), ((cell_far (p := ⟨gb175, _, none⟩) NB180_175.out _).trans (((cell_far (p := ⟨gb175, _, none⟩) NB180_175.out _).trans (hHeld.2.2.1)))), ((cell_far (p := ⟨gb175, _, none⟩) NB180_175.out _).trans (((cell_far (p := ⟨gb175, _, none⟩) NB180_175.out _).trans (hHeld.2.2.2))))⟩ (fun hHeld => ?_)
     clear hK K
     refine one_ (i := 3) (N := none) #[tT,tT,tT,tT] rfl rfl (by kernel_rfl) (by decide) (fun K hK => ?_)
     have hs34 : w31.cell? ⟨gb176, 0, none⟩ = some (.int .i64 0) := (blk_cell BK176.out 0).trans rfl
     have hfs34 := blk_frozen BK176.out 0
     have hns34_0 := NB175_176.out
     have hns34_2 := NB178_176.out
     have hns34_3 := NB180_176.out
     have hms34_0 := NB176_175.out
     have hms34_2 := NB176_178.out
     have hms34_3 := NB176_180.out
     have hs35 : w31.cell? ⟨gb176, 1, none⟩ = some (.int .i64 0) := (blk_cell BK176.out 1).trans rfl
     have hfs35 := blk_frozen BK176.out 1
     have hns35_0 := NB175_176.out
     have hns35_2 := NB178_176.out
     have hns35_3 := NB180_176.out
     have hms35_0 := NB176_175.out
     have hms35_2 := NB176_178.out
     have hms35_3 := NB176_180.out
     refine skip_ (w1 := ?_) (by rfl) rfl ?_ ?_
     rotate_left
     ·go_simp
      rfl
     refine hK.out _ _ ⟨((cell_far (p := ⟨gb176, _, none⟩) NB178_176.out _).trans (((cell_far (p := ⟨gb176, _, none⟩) NB178_176.out _).trans (hHeld.1)))), ((cell_far (p := ⟨gb176, _, none⟩) NB178_176.out _).trans (((cell_far (p := ⟨gb176, _, none⟩) NB178_176.out _).trans (hHeld.2.1)))), ((cell_far (p := ⟨gb176, _, none⟩) NB180_176.out _).trans (((cell_far (p := ⟨gb176, _, none⟩) NB180_176.out _).trans (hHeld.2.2.1)))), ((cell_far (p := ⟨gb176, _, none⟩) NB180_176.out _).trans (((cell_far (p := ⟨gb176, _, none⟩) NB180_176.out _).trans (hHeld.2.2.2))))⟩ (fun hHeld => ?_)
     clear hK K
     refine done_ (by kernel_rfl) ?_
     try go_wp2
     refine bodyPost_ret (results_cc rfl _ _ gb175 gb176 51 51 #[.int .i64 x179000_1, .int .i64 x179001_1] #[.int .i64 x181000_1, .int .i64 x181001_1] (0, 0) (0, 0) _ _ rfl (by refine bF NB175_176.out ?_; refine bF NB175_176.out ?_; refine bP (cs := #[.int .i64 x179000_1, .int .i64 0]) 1 ?_; refine bP (cs := #[.int .i64 0, .int .i64 0]) 0 ?_; exact bk BK175) Try.underlying51 rfl (by kernel_rfl) rfl (by refine bP (cs := #[.int .i64 x181000_1, .int .i64 0]) 1 ?_; refine bP (cs := #[.int .i64 0, .int .i64 0]) 0 ?_; refine bF NB176_175.out ?_; refine bF NB176_175.out ?_; exact bk BK176) Try.underlying51 rfl (by kernel_rfl)) rfl ?_
     exact ⟨by first | rfl | (simp [errW_none, errW_some] <;> rfl) | (simp [*, errW_none, errW_some] <;> rfl), by repeat (first | (with_reducible first | exact HB.out | apply below_alloc | apply pw_below_drewN | apply below_drew1 | refine below_set ?_ GE175.out | refine below_set ?_ GE176.out | refine below_set ?_ GE178.out | refine below_set ?_ GE180.out) | exact HB.out)⟩
 ·rw [if_neg c2] at H
  exact absurd H (by simp)
end Go.Proofs.Ytfhgfdphdmlpbaa.PFnExactTurnsOf
