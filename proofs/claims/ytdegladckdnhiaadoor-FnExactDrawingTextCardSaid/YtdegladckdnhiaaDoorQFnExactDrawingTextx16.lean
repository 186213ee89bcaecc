/- Contracts of functions that FnExactDrawingText reaches, out of the lines of the kit's print. -/
import Derived.Test.YtdegladckdnhiaaDoorQFnExactDrawingTextx0
import Derived.Test.YtdegladckdnhiaaDoorQFnExactDrawingTextx10
import Derived.Test.YtdegladckdnhiaaDoorQFnExactDrawingTextx11
import Derived.Test.YtdegladckdnhiaaDoorQFnExactDrawingTextx15
namespace Go.Proofs.YtdegladckdnhiaaDoor.PFnExactDrawingText
open Go.RowKit Go.Proofs.YtdegladckdnhiaaDoorW.PrintWords Go.Proofs.YtdegladckdnhiaaDoorW.PrintLast Go.Proofs.YtdegladckdnhiaaDoorW.PrintMore
open Bool renaming true → tT, false → fF
open Go.World renaming block_lt_of_cell? → bL
attribute [local go_sem] max2_int min2_int max_two min_two max_three min_three max_four min_four
set_option linter.unusedVariables false
set_option linter.unusedSimpArgs false
mutual
def impl_DrawingText.l0 : Nat → List ByteArray → List (S40) → Int → Int → Int → Int → List (S40) → List (S85) → Option (ByteArray)
 | 0, _, _, _, _, _, _, _, _ => none
 | k + 1, x3, x14, x15, x16, x380000, x380001, x380002, x380003 => if x16 < x15 then (if 0 ≤ x16 then (if x16 < (x14.length : Int) then ((impl_PointText.f ((rd_T40 x14 x16).f0) ((rd_T40 x14 x16).f1)).bind fun t386 => (if x3.length < 8796093022208 then (impl_DrawingText.l0 k (x3 ++ [t386]) x14 x15 (wrap64 (x16 + 1)) x380000 x380001 x380002 x380003) else (none))) else (none)) else (none)) else ((impl_Decimal.f x380000).bind fun t390 => (if t390.size + 1 ≤ 9223372036854775807 then ((impl_Decimal.f x380001).bind fun t391 => (if (t390 ++ (⟨#[120]⟩ : ByteArray)).size + t391.size ≤ 9223372036854775807 then (if ((t390 ++ (⟨#[120]⟩ : ByteArray)) ++ t391).size + 1 ≤ 9223372036854775807 then ((strings_Join.f x3 (⟨#[32]⟩ : ByteArray)).bind fun t392 => (if (((t390 ++ (⟨#[120]⟩ : ByteArray)) ++ t391) ++ (⟨#[59]⟩ : ByteArray)).size + t392.size ≤ 9223372036854775807 then (impl_DrawingText.l1 k ((((t390 ++ (⟨#[120]⟩ : ByteArray)) ++ t391) ++ (⟨#[59]⟩ : ByteArray)) ++ t392) x380003 (x380003.length : Int) 0) else (none))) else (none)) else (none))) else (none)))
def impl_DrawingText.l1 : Nat → ByteArray → List (S85) → Int → Int → Option (ByteArray)
 | 0, _, _, _, _ => none
 | k + 1, x6, x39, x40, x41 => if x41 < x40 then (if 0 ≤ x41 then (if x41 < (x39.length : Int) then (if 1 + ((rd_T85 x39 x41).f0).size ≤ 9223372036854775807 then (if ((⟨#[59]⟩ : ByteArray) ++ ((rd_T85 x39 x41).f0)).size + 1 ≤ 9223372036854775807 then ((impl_ListText.f k ((rd_T85 x39 x41).f1)).bind fun t395 => (if (((⟨#[59]⟩ : ByteArray) ++ ((rd_T85 x39 x41).f0)) ++ (⟨#[32]⟩ : ByteArray)).size + t395.size ≤ 9223372036854775807 then (if x6.size + ((((⟨#[59]⟩ : ByteArray) ++ ((rd_T85 x39 x41).f0)) ++ (⟨#[32]⟩ : ByteArray)) ++ t395).size ≤ 9223372036854775807 then (impl_DrawingText.l1 k (x6 ++ ((((⟨#[59]⟩ : ByteArray) ++ ((rd_T85 x39 x41).f0)) ++ (⟨#[32]⟩ : ByteArray)) ++ t395)) x39 x40 (wrap64 (x41 + 1))) else (none)) else (none))) else (none)) else (none)) else (none)) else (none)) else (some x6)
end
def impl_DrawingText.f (k : Nat) (a0_0 : Int) (a0_1 : Int) (l0_2 : List (S40)) (l0_3 : List (S85)) : Option (ByteArray) := (impl_ValidDrawing.f k a0_0 a0_1 l0_2 l0_3).bind fun t380 => (if t380 = true then (impl_DrawingText.l0 k (([] : List ByteArray)) l0_2 (l0_2.length : Int) 0 a0_0 a0_1 l0_2 l0_3) else (some (⟨#[]⟩ : ByteArray)))
def impl_DrawingText.T9 : Bool × List (List Nat × List Nat) := (true, [([], []), ([0], [0]), ([1], [1]), ([2], [2]), ([], []), ([4], [4]), ([5, 2], [5]), ([3, 6], [3, 6]), ([7], [7]), ([], []), ([9, 6], [9]), ([8, 10], [8, 10]), ([11, 10, 0, 1, 2, 3, 4, 5, 6, 7, 8, 9, 10, 11], [11])])
def impl_DrawingText.B9 : List Nat := [0, 1, 3, 7, 0, 16, 55, 127, 255, 0, 631, 2047, 4095]
theorem impl_DrawingText.tab9 : rtab .any (opsOf Tryd.f45 9) = impl_DrawingText.T9 := by kernel_rfl
theorem impl_DrawingText.bits9 : waitsOk impl_DrawingText.T9.2 impl_DrawingText.B9 = true := by kernel_rfl
def impl_DrawingText.T13 : Bool × List (List Nat × List Nat) := (true, [([], []), ([], []), ([1], [1]), ([2], [2]), ([3], [3]), ([], []), ([5], [5]), ([6], [6]), ([4, 7], [4, 7]), ([0, 8], [0, 8]), ([9, 7, 0, 1, 2, 3, 4, 5, 6, 7, 8, 9], [0, 9])])
def impl_DrawingText.B13 : List Nat := [0, 0, 2, 6, 14, 0, 32, 96, 254, 511, 1023]
theorem impl_DrawingText.tab13 : rtab .any (opsOf Tryd.f45 13) = impl_DrawingText.T13 := by kernel_rfl
theorem impl_DrawingText.bits13 : waitsOk impl_DrawingText.T13.2 impl_DrawingText.B13 = true := by kernel_rfl
set_option maxHeartbeats 8000000 in
set_option maxRecDepth 100000 in
theorem impl_DrawingText.calls (k : Nat) (a0_0 : Int) (a0_1 : Int) (A0_2 : Option Addr) (c0_2 : Nat) (l0_2 : List (S40)) (A0_3 : Option Addr) (c0_3 : Nat) (l0_3 : List (S85)) (r : ByteArray) (w : World) (HG0 : GlobW w) (hr0_2 : Kd.C k40 w A0_2 l0_2.length l0_2) (hc0_2 : l0_2.length ≤ c0_2) (hr0_3 : Kd.C k85 w A0_3 l0_3.length l0_3) (hc0_3 : l0_3.length ≤ c0_3) (h : impl_DrawingText.f k a0_0 a0_1 l0_2 l0_3 = some r) :
  Calls Tryd.prog 45 #[.agg #[.int .i64 a0_0, .int .i64 a0_1, .slice A0_2 l0_2.length c0_2, .slice A0_3 l0_3.length c0_3]] w fun e w' => e = .returned (.string r) ∧ Below w.heap.size w w' := by
 have HG := Aside0.mk HG0
 clear HG0
 have hu63 := Tryd.underlying63
 have hu40 := Tryd.underlying40
 have hu85 := Tryd.underlying85
 have HR0_2 := Aside0.mk hr0_2
 have HC0_2 := Aside0.mk hc0_2
 clear hr0_2 hc0_2
 have HR0_3 := Aside0.mk hr0_3
 have HC0_3 := Aside0.mk hc0_3
 clear hr0_3 hc0_3
 have HB := Aside0.mk (Below.refl w.heap.size w)
 have H : ((impl_ValidDrawing.f k a0_0 a0_1 l0_2 l0_3).bind fun t380 => (if t380 = true then (impl_DrawingText.l0 k (([] : List ByteArray)) l0_2 (l0_2.length : Int) 0 a0_0 a0_1 l0_2 l0_3) else (some (⟨#[]⟩ : ByteArray)))) = some r := h
 clear h
 replace H := Option.bind_eq_some_iff.mp H
 obtain ⟨t380, A20, H⟩ := H
 replace H : (if t380 = true then (impl_DrawingText.l0 k (([] : List ByteArray)) l0_2 (l0_2.length : Int) 0 a0_0 a0_1 l0_2 l0_3) else (some (⟨#[]⟩ : ByteArray))) = some r := H
 have A2 := Aside0.mk A20
 clear A20
 by_cases c3 : t380 = true
 ·subst c3
  have H1 : (impl_DrawingText.l0 k (([] : List ByteArray)) l0_2 (l0_2.length : Int) 0 a0_0 a0_1 l0_2 l0_3) = some r := by rw [if_pos rfl] at H; exact H
  clear H
  have H := H1
  clear H1
  obtain ⟨y381, hy381⟩ : ∃ y_ : List ByteArray, y_ = (([] : List ByteArray)) := ⟨_, rfl⟩
  replace H : (impl_DrawingText.l0 k y381 l0_2 (l0_2.length : Int) 0 a0_0 a0_1 l0_2 l0_3) = some r := by first | (rw [hy381]; with_reducible exact H) | (have H2_ := (Option.bind_some _ _).symm.trans H; rw [hy381]; with_reducible exact H2_) | (have H2_ := (Option.bind_some _ _).symm.trans H; with_reducible exact H2_) | with_reducible exact H | (rw [hy381]; exact H) | exact H
  have Ny381 := Aside0.mk hy381
  clear hy381
  have H' := Aside0.mk H
  clear H
  go_enter Tryd.func45, Tryd.ntmps45
  go_wp2_with (first | ((with_reducible refine gate_dst (N := 1) rfl ?_); refine bx (cs := #[.int .i64 a0_0, .int .i64 a0_1, .slice A0_2 l0_2.length c0_2, .slice A0_3 l0_3.length c0_3]) (t := 63) ?_; intro gb379 hg w4 hbox hb; have n0_ := sb hb; have n1_ := Aside0.mk (hbox); have n2_ := zb hg; have n3_ := zb hg; clear HB; have HB := n0_; have BK379 := n1_; have GW379 := n2_; have GE379 := n3_; clear n0_ n1_ n2_ n3_; clear hb hbox hg; have hcz5_0 := ck BK379 0; have hcz5_1 := ck BK379 1; have hcz5_2 := ck BK379 2; have hcz5_3 := ck BK379 3; have hfz5_0 := blk_frozen BK379.out 0; have hfz5_1 := blk_frozen BK379.out 1; have hfz5_2 := blk_frozen BK379.out 2; have hfz5_3 := blk_frozen BK379.out 3) | ((with_reducible refine gate_callee (f := 71) rfl ?_); refine goesL_ (some 10) rfl rfl Tryd.func71 (by kernel_rfl) rfl #[.agg #[.int .i64 a0_0, .int .i64 a0_1, .slice A0_2 l0_2.length c0_2, .slice A0_3 l0_3.length c0_3]] rfl (by (try simp only [List.map_toArray, List.map_cons, List.map_nil]); first | done | rfl | (simp only [List.length_drop, List.length_take]; rfl)) ?_; (with_reducible refine (impl_ValidDrawing.calls k a0_0 a0_1 _ _ l0_2 _ _ l0_3 true _ ?side1 ?side2 ?side3 ?side4 A2.out).mono ?_); (case side1 => repeat (first | exact (Kd.C_below HR0_2.out HB.out) | (with_reducible refine Kd.C_alloc ?_ _) | (with_reducible refine Kd.C_drewN ?_ _) | (with_reducible refine Kd.C_drew ?_))); (case side2 => exact HC0_2.out); (case side3 => repeat (first | exact (Kd.C_below HR0_3.out HB.out) | (with_reducible refine Kd.C_alloc ?_ _) | (with_reducible refine Kd.C_drewN ?_ _) | (with_reducible refine Kd.C_drew ?_))); (case side4 => exact HC0_3.out); rintro e w6 ⟨rfl, hb⟩; refine ⟨_, rfl, ?_⟩; have n0_ := kb BK379 hb; have n1_ := sb hb; clear BK379; clear HB; have BK379 := n0_; have HB := n1_; clear n0_ n1_; (try clear hb); (try clear hb2); (try clear hk); (try clear hi)) | ((with_reducible refine gate_dst (N := 12) rfl ?_); refine Kd.R_lit Kd.string _ 9 ?hg (N := 12) ?hd (xs := ([] : List ByteArray)) (inner := []) (ok := fun _ => True) (okp := fun _ => True) ?hr ?hp (fun _ hk => hk) trivial (Below.refl _ _) (Nat.le_refl _) (by simp) ?_; (case hd => rfl); (case hg => rfl); (case hr => first | (go_simp; done) | (go_simp; rfl)); (case hp => exact (Reps.none _ _)); intro v382 w7 ho8 hb hg_ hnew_; clear hg_ hnew_; (first | rw [← Ny381.out] at ho8 | (simp only [Int.reduceToNat] at ho8; rw [← Ny381.out] at ho8)); have n0_ := Aside0.mk (Kd.R_lower ho8 (below_size ib)); have n1_ := kb BK379 hb; have n2_ := sb hb; clear BK379; clear HB; have HO383 := n0_; have BK379 := n1_; have HB := n2_; clear n0_ n1_ n2_; clear hb ho8; have hcz9_0 := ck BK379 0; have hcz9_1 := ck BK379 1; have hcz9_2 := ck BK379 2; have hcz9_3 := ck BK379 3; have hfz9_0 := blk_frozen BK379.out 0; have hfz9_1 := blk_frozen BK379.out 1; have hfz9_2 := blk_frozen BK379.out 2; have hfz9_3 := blk_frozen BK379.out 3))
  go_loopg [3, 16] k (fun kq v3 v16 w' => ∃ (x3_1 : List ByteArray) (x16_1 : Int), v16 = .int .i64 x16_1 ∧ Aside0 (impl_DrawingText.l0 kq x3_1 l0_2 (l0_2.length : Int) x16_1 a0_0 a0_1 l0_2 l0_3 = some r) ∧ Aside0 (kq ≤ k) ∧ Aside0 (Kd.R Kd.string 9 w' w.heap.size (fun _ => True) v3 x3_1) ∧ Aside0 (w'.heap[gb379]? = some (.cells #[.int .i64 a0_0, .int .i64 a0_1, (.slice A0_2 l0_2.length c0_2), (.slice A0_3 l0_3.length c0_3)] 63 (0, 0))) ∧ Aside0 (Below w.heap.size w w'))
  case atStart => exact ⟨(y381), (0), (by first | rfl | (simp; done) | (simp [*]; done)), H', ⟨Nat.le_refl _⟩, ⟨by (with_reducible repeat (first | apply Kd.R_alloc | apply Kd.R_drewN | apply Kd.R_drew)); exact HO383.out⟩, ⟨by exact bk BK379⟩, ⟨by repeat (first | (with_reducible first | exact HB.out | apply below_alloc | apply pw_below_drewN | apply below_drew1 | refine below_set ?_ GE379.out) | exact HB.out)⟩⟩
  case round =>
   clear H'
   try clear p2
   try clear c3
   try clear c4
   try clear c7
   try clear hcz5_0
   try clear hcz5_1
   try clear hcz5_2
   try clear hcz5_3
   try clear hcz9_0
   try clear hcz9_1
   try clear hcz9_2
   try clear hcz9_3
   try clear hfz5_0
   try clear hfz5_1
   try clear hfz5_2
   try clear hfz5_3
   try clear hfz9_0
   try clear hfz9_1
   try clear hfz9_2
   try clear hfz9_3
   obtain ⟨x3_1, x16_1, rfl, HA, HK1, HO_3, BK379, HB⟩ := hrel
   cases gk with
   | zero => exact absurd HA.out (by simp [impl_DrawingText.l0])
   | succ k1 =>
    have H := HA.out
    clear HA
    simp only [impl_DrawingText.l0] at H
    by_cases c10 : x16_1 < (l0_2.length : Int)
    ·rw [if_pos c10] at H
     have c10b0 : decide (x16_1 < (l0_2.length : Int)) = true := decide_eq_true c10
     clear c10
     by_cases c11 : 0 ≤ x16_1
     ·rw [if_pos c11] at H
      have c11b0 : decide (0 ≤ x16_1) = true := decide_eq_true c11
      clear c11
      by_cases c12 : x16_1 < (l0_2.length : Int)
      ·rw [if_pos c12] at H
       have c12b0 : decide (x16_1 < (l0_2.length : Int)) = true := decide_eq_true c12
       clear c12
       replace H := Option.bind_eq_some_iff.mp H
       obtain ⟨t386, A130, H⟩ := H
       replace H : (if x3_1.length < 8796093022208 then (impl_DrawingText.l0 k1 (x3_1 ++ [t386]) l0_2 (l0_2.length : Int) (wrap64 (x16_1 + 1)) a0_0 a0_1 l0_2 l0_3) else (none)) = some r := H
       have A13 := Aside0.mk A130
       clear A130
       by_cases c14 : x3_1.length < 8796093022208
       ·rw [if_pos c14] at H
        have LMc14 := Aside0.mk c14
        clear c14
        obtain ⟨y387, hy387⟩ : ∃ y_ : List ByteArray, y_ = (x3_1 ++ [t386]) := ⟨_, rfl⟩
        replace H : (impl_DrawingText.l0 k1 y387 l0_2 (l0_2.length : Int) (wrap64 (x16_1 + 1)) a0_0 a0_1 l0_2 l0_3) = some r := by first | (rw [hy387]; with_reducible exact H) | (have H2_ := (Option.bind_some _ _).symm.trans H; rw [hy387]; with_reducible exact H2_) | (have H2_ := (Option.bind_some _ _).symm.trans H; with_reducible exact H2_) | with_reducible exact H | (rw [hy387]; exact H) | exact H
        have Ny387 := Aside0.mk hy387
        clear hy387
        have H' := Aside0.mk H
        clear H
        have p384 : 0 ≤ (x16_1 : Int) := da
        have q384 : x16_1 < (l0_2.length : Int) := da
        obtain ⟨ad384, e384, hx384_0, hx384_1⟩ := at_T40 HR0_2.out x16_1 p384 q384
        cases e384
        replace hx384_0 := (HB.out.cell (bL w _ hx384_0)).trans hx384_0
        replace hx384_1 := (HB.out.cell (bL w _ hx384_1)).trans hx384_1
        replace p384 := eq_true p384
        replace q384 := eq_true q384
        go_wp2_with (first | ((with_reducible refine gate_dst (N := 5) rfl ?_); refine bx (cs := #[.int .i64 0, .int .i64 0]) (t := 40) ?_; intro gb385 hg w15 hbox hb; have n0_ := Aside0.mk (Kd.R_below (by (with_reducible repeat (first | apply Kd.R_alloc | apply Kd.R_drewN | apply Kd.R_drew)); exact HO_3.out) hb); have n1_ := kb BK379 hb; have n2_ := sb hb; have n3_ := Aside0.mk (hbox); have n4_ := zb hg; have n5_ := zb hg; have n6_ := nl BK379 hg; have n7_ := ng BK379 hg; clear HO_3; clear BK379; clear HB; have HO_3 := n0_; have BK379 := n1_; have HB := n2_; have BK385 := n3_; have GW385 := n4_; have GE385 := n5_; have NB379_385 := n6_; have NB385_379 := n7_; clear n0_ n1_ n2_ n3_ n4_ n5_ n6_ n7_; clear hb hbox hg; have hnb16 := NB385_379.out; have hnc16 := NB379_385.out; have hcz17_0 := ck BK385 0; have hcz17_1 := ck BK385 1; have hfz17_0 := blk_frozen BK385.out 0; have hfz17_1 := blk_frozen BK385.out 1) | ((with_reducible refine gate_callee (f := 29) rfl ?_); refine goesL_ (some 22) rfl rfl Tryd.func29 (by kernel_rfl) rfl #[.agg #[.int .i64 ((rd_T40 l0_2 x16_1).f0), .int .i64 ((rd_T40 l0_2 x16_1).f1)]] rfl (by (try simp only [List.map_toArray, List.map_cons, List.map_nil]); first | done | rfl | (simp only [List.length_drop, List.length_take]; rfl)) ?_; (with_reducible refine (impl_PointText.calls ((rd_T40 l0_2 x16_1).f0) ((rd_T40 l0_2 x16_1).f1) t386 _ (HG.out.step ib) A13.out).mono ?_); rintro e w18 ⟨rfl, hb⟩; refine ⟨_, rfl, ?_⟩; have n0_ := Aside0.mk (Kd.R_below (by (with_reducible repeat (first | apply Kd.R_alloc | apply Kd.R_drewN | apply Kd.R_drew)); exact (Kd.R_mono (Kd.R_far (p := ⟨gb385, 1, none⟩) (Kd.R_far (p := ⟨gb385, 0, none⟩) (Kd.R_types HO_3.out BK385.out (by decide)) (fun _ hk => hk.2) (.int .i64 ((rd_T40 l0_2 x16_1).f0))) (fun _ hk => hk.2) (.int .i64 ((rd_T40 l0_2 x16_1).f1))) (fun _ h_ => h_.1))) hb); have n1_ := Aside0.mk (blk_below (g := gb379) (o := .cells #[.int .i64 a0_0, .int .i64 a0_1, .slice (some ad384) l0_2.length c0_2, .slice A0_3 l0_3.length c0_3] 63 (0, 0)) (by refine bF NB379_385.out ?_; refine bF NB379_385.out ?_; exact bk BK379) hb); have n2_ := Aside0.mk (blk_below (g := gb385) (o := .cells #[.int .i64 ((rd_T40 l0_2 x16_1).f0), .int .i64 ((rd_T40 l0_2 x16_1).f1)] 40 (0, 0)) (by refine bP (cs := #[.int .i64 ((rd_T40 l0_2 x16_1).f0), .int .i64 0]) 1 ?_; refine bP (cs := #[.int .i64 0, .int .i64 0]) 0 ?_; exact bk BK385) hb); have n3_ := sb hb; clear HO_3; clear BK379; clear BK385; clear HB; have HO_3 := n0_; have BK379 := n1_; have BK385 := n2_; have HB := n3_; clear n0_ n1_ n2_ n3_; (try clear hb); (try clear hb2); (try clear hk); (try clear hi)) | ((with_reducible refine gate_builtin (b := .append) (xs := #[.tmp 20, .tmp 23]) rfl ?_); at_builtin; refine Kd.R_append Kd.string (w0 := w) w.heap.size rfl (.tmp 20) (.tmp 23) 25 9 (.string ⟨#[]⟩) 16 rfl Tryd.underlying25 info9 rfl (by decide) (by omega) u3 x3_1 t386 [.string t386] (fun _ => True) (fun _ => False) rfl rfl ?aP (fun _ hk => hk.elim) ?aF ?aO ?aB ?aS ?aL ?_; (case aP => exact rfl); (case aB => exact ib); (case aF => exact (fun _ _ => trivial)); (case aO => exact (by (with_reducible repeat (first | apply Kd.R_alloc | apply Kd.R_drewN | apply Kd.R_drew)); exact HO_3.out)); (case aS => exact (below_size ib)); (case aL => have := LMc14.out; omega); intro v388 w19 ho hb hg hat; rw [← Ny387.out] at ho; have n0_ := Aside0.mk (blk_grown (g := gb379) (o := .cells #[.int .i64 a0_0, .int .i64 a0_1, .slice (some ad384) l0_2.length c0_2, .slice A0_3 l0_3.length c0_3] 63 (0, 0)) (bk BK379) hg (Kd.R_ne HO_3.out BK379.out (by decide))); have n1_ := Aside0.mk (blk_grown (g := gb385) (o := .cells #[.int .i64 ((rd_T40 l0_2 x16_1).f0), .int .i64 ((rd_T40 l0_2 x16_1).f1)] 40 (0, 0)) (bk BK385) hg (Kd.R_ne HO_3.out BK385.out (by decide))); have n2_ := Aside0.mk (hb); have n3_ := Aside0.mk (ho); clear BK379; clear BK385; clear HB; clear HO_3; have BK379 := n0_; have BK385 := n1_; have HB := n2_; have HO389 := n3_; clear n0_ n1_ n2_ n3_; clear ho hb hg hat))
        go_roundg k1
        case measure => have := HK1.out; omega
        case rel => exact ⟨(y387), (wrap64 (x16_1 + 1)), (by first | rfl | (simp; done) | (simp [*]; done)), H', ⟨by have := HK1.out; omega⟩, ⟨by (with_reducible repeat (first | apply Kd.R_alloc | apply Kd.R_drewN | apply Kd.R_drew)); exact HO389.out⟩, ⟨by exact bk BK379⟩, ⟨by repeat (first | (with_reducible first | exact HB.out | apply below_alloc | apply pw_below_drewN | apply below_drew1 | refine below_set ?_ GE379.out | refine below_set ?_ GE385.out) | exact HB.out)⟩⟩
       ·rw [if_neg c14] at H
        exact absurd H (by simp)
      ·first | (exfalso; have z_ := of_decide_eq_true c10b0; omega) | (rw [if_neg c12] at H; exact absurd H (by simp))
     ·rw [if_neg c11] at H
      exact absurd H (by simp)
    ·rw [if_neg c10] at H
     have c10b0 : decide (x16_1 < (l0_2.length : Int)) = false := decide_eq_false c10
     clear c10
     replace H := Option.bind_eq_some_iff.mp H
     obtain ⟨t390, A200, H⟩ := H
     replace H : (if t390.size + 1 ≤ 9223372036854775807 then ((impl_Decimal.f a0_1).bind fun t391 => (if (t390 ++ (⟨#[120]⟩ : ByteArray)).size + t391.size ≤ 9223372036854775807 then (if ((t390 ++ (⟨#[120]⟩ : ByteArray)) ++ t391).size + 1 ≤ 9223372036854775807 then ((strings_Join.f x3_1 (⟨#[32]⟩ : ByteArray)).bind fun t392 => (if (((t390 ++ (⟨#[120]⟩ : ByteArray)) ++ t391) ++ (⟨#[59]⟩ : ByteArray)).size + t392.size ≤ 9223372036854775807 then (impl_DrawingText.l1 k1 ((((t390 ++ (⟨#[120]⟩ : ByteArray)) ++ t391) ++ (⟨#[59]⟩ : ByteArray)) ++ t392) l0_3 (l0_3.length : Int) 0) else (none))) else (none)) else (none))) else (none)) = some r := H
     have A20 := Aside0.mk A200
     clear A200
     by_cases c21 : t390.size + 1 ≤ 9223372036854775807
     ·rw [if_pos c21] at H
      have c21b0 := eq_true c21
      have c21b1 : decide (t390.size + 1 ≤ 9223372036854775807) = true := decide_eq_true c21
      try have c21b2 : (9223372036854775807 < t390.size + 1) = False := eq_false (Nat.not_lt.2 c21)
      replace H := Option.bind_eq_some_iff.mp H
      obtain ⟨t391, A220, H⟩ := H
      replace H : (if (t390 ++ (⟨#[120]⟩ : ByteArray)).size + t391.size ≤ 9223372036854775807 then (if ((t390 ++ (⟨#[120]⟩ : ByteArray)) ++ t391).size + 1 ≤ 9223372036854775807 then ((strings_Join.f x3_1 (⟨#[32]⟩ : ByteArray)).bind fun t392 => (if (((t390 ++ (⟨#[120]⟩ : ByteArray)) ++ t391) ++ (⟨#[59]⟩ : ByteArray)).size + t392.size ≤ 9223372036854775807 then (impl_DrawingText.l1 k1 ((((t390 ++ (⟨#[120]⟩ : ByteArray)) ++ t391) ++ (⟨#[59]⟩ : ByteArray)) ++ t392) l0_3 (l0_3.length : Int) 0) else (none))) else (none)) else (none)) = some r := H
      have A22 := Aside0.mk A220
      clear A220
      by_cases c23 : (t390 ++ (⟨#[120]⟩ : ByteArray)).size + t391.size ≤ 9223372036854775807
      ·rw [if_pos c23] at H
       have c23b0 := eq_true c23
       have c23b1 : decide ((t390 ++ (⟨#[120]⟩ : ByteArray)).size + t391.size ≤ 9223372036854775807) = true := decide_eq_true c23
       try have c23b2 : (9223372036854775807 < (t390 ++ (⟨#[120]⟩ : ByteArray)).size + t391.size) = False := eq_false (Nat.not_lt.2 c23)
       try have c23b2n := c23b2
       try simp only [ByteArray.size_append, size_lit1] at c23b2n
       by_cases c24 : ((t390 ++ (⟨#[120]⟩ : ByteArray)) ++ t391).size + 1 ≤ 9223372036854775807
       ·rw [if_pos c24] at H
        have c24b0 := eq_true c24
        have c24b1 : decide (((t390 ++ (⟨#[120]⟩ : ByteArray)) ++ t391).size + 1 ≤ 9223372036854775807) = true := decide_eq_true c24
        try have c24b2 : (9223372036854775807 < ((t390 ++ (⟨#[120]⟩ : ByteArray)) ++ t391).size + 1) = False := eq_false (Nat.not_lt.2 c24)
        try have c24b2n := c24b2
        try simp only [ByteArray.size_append, size_lit1] at c24b2n
        replace H := Option.bind_eq_some_iff.mp H
        obtain ⟨t392, A250, H⟩ := H
        replace H : (if (((t390 ++ (⟨#[120]⟩ : ByteArray)) ++ t391) ++ (⟨#[59]⟩ : ByteArray)).size + t392.size ≤ 9223372036854775807 then (impl_DrawingText.l1 k1 ((((t390 ++ (⟨#[120]⟩ : ByteArray)) ++ t391) ++ (⟨#[59]⟩ : ByteArray)) ++ t392) l0_3 (l0_3.length : Int) 0) else (none)) = some r := H
        have A25 := Aside0.mk A250
        clear A250
        by_cases c26 : (((t390 ++ (⟨#[120]⟩ : ByteArray)) ++ t391) ++ (⟨#[59]⟩ : ByteArray)).size + t392.size ≤ 9223372036854775807
        ·rw [if_pos c26] at H
         have c26b0 := eq_true c26
         have c26b1 : decide ((((t390 ++ (⟨#[120]⟩ : ByteArray)) ++ t391) ++ (⟨#[59]⟩ : ByteArray)).size + t392.size ≤ 9223372036854775807) = true := decide_eq_true c26
         try have c26b2 : (9223372036854775807 < (((t390 ++ (⟨#[120]⟩ : ByteArray)) ++ t391) ++ (⟨#[59]⟩ : ByteArray)).size + t392.size) = False := eq_false (Nat.not_lt.2 c26)
         try have c26b2n := c26b2
         try simp only [ByteArray.size_append, size_lit1] at c26b2n
         have H' := Aside0.mk H
         clear H
         try go_wp2
         have n0_ := Aside0.mk (Kd.R_drew HO_3.out)
         have n1_ := Aside0.mk (blk_drew BK379.out)
         have n2_ := Aside0.mk (below_drew1 HB.out)
         clear HO_3
         clear BK379
         clear HB
         have HO_3 := n0_
         have BK379 := n1_
         have HB := n2_
         clear n0_ n1_ n2_
         refine start_ (n := 13) (S := fun w' => w'.cell? ⟨gb379, 0, none⟩ = some (.int .i64 a0_0) ∧ w'.cell? ⟨gb379, 1, none⟩ = some (.int .i64 a0_1) ∧ w'.cell? ⟨gb379, 2, none⟩ = some (.slice A0_2 l0_2.length c0_2) ∧ w'.cell? ⟨gb379, 3, none⟩ = some (.slice A0_3 l0_3.length c0_3)) (ds := []) #[fF,fF,fF,fF,fF,fF,fF,fF,fF,fF,fF,fF,fF] (by kernel_rfl) rfl rfl ⟨(blk_cell BK379.out 0).trans rfl, (blk_cell BK379.out 1).trans rfl, (blk_cell BK379.out 2).trans rfl, (blk_cell BK379.out 3).trans rfl⟩ (fun hHeld => ?_); refine with_tabW impl_DrawingText.tab9 impl_DrawingText.bits9 (fun HT_ HW_ => ?_)
         generalize wr.drew = w27 at HO_3 BK379 HB hHeld ⊢
         refine pu 0 26 HT_ ?_
         refine pu 4 30 HT_ ?_
         refine pu 9 35 HT_ ?_
         refine tk 1 27 HT_ HW_ hHeld ?_
         refine tk 5 31 HT_ HW_ hHeld ?_
         refine on 2 28 HT_ (fun K hK => ?_)
         refine goes_ Tryd.func49 (by kernel_rfl) rfl #[.int .i64 a0_0] (by rfl) rfl rfl (by (try simp only [List.map_toArray, List.map_cons, List.map_nil]); first | done | rfl | (simp only [List.length_drop, List.length_take]; rfl)) ?_
         with_reducible refine (impl_Decimal.calls a0_0 t390 _ (HG.out.step ib) A20.out).mono ?_
         rintro e w28 ⟨rfl, hb⟩
         refine ⟨_, rfl, ?_⟩
         have n0_ := Aside0.mk (Kd.R_below (by (with_reducible repeat (first | apply Kd.R_alloc | apply Kd.R_drewN | apply Kd.R_drew)); exact HO_3.out) hb)
         have n1_ := kb BK379 hb
         have n2_ := sb hb
         clear HO_3
         clear BK379
         clear HB
         have HO_3 := n0_
         have BK379 := n1_
         have HB := n2_
         clear n0_ n1_ n2_
         (try clear hb)
         (try clear hb2)
         (try clear hk)
         (try clear hi)
         refine hK.out _ _ ⟨(blk_cell BK379.out 0).trans rfl, (blk_cell BK379.out 1).trans rfl, (blk_cell BK379.out 2).trans rfl, (blk_cell BK379.out 3).trans rfl⟩ (fun hHeld => ?_)
         clear hK K
         refine norm_ (a' := ?_) ?_ ?_
         rotate_left
         ·show Act.put _ (some 28) _ = _
          simp only [Act.put, List.setIfInBounds_toArray, List.set_cons_zero, List.set_cons_succ, i64_w, i32_w]
          rfl
         refine pu 3 29 HT_ ?_
         refine on 6 32 HT_ (fun K hK => ?_)
         refine goes_ Tryd.func49 (by kernel_rfl) rfl #[.int .i64 a0_1] (by rfl) rfl rfl (by (try simp only [List.map_toArray, List.map_cons, List.map_nil]); first | done | rfl | (simp only [List.length_drop, List.length_take]; rfl)) ?_
         with_reducible refine (impl_Decimal.calls a0_1 t391 _ (HG.out.step ib) A22.out).mono ?_
         rintro e w29 ⟨rfl, hb⟩
         refine ⟨_, rfl, ?_⟩
         have n0_ := Aside0.mk (Kd.R_below (by (with_reducible repeat (first | apply Kd.R_alloc | apply Kd.R_drewN | apply Kd.R_drew)); exact HO_3.out) hb)
         have n1_ := kb BK379 hb
         have n2_ := sb hb
         clear HO_3
         clear BK379
         clear HB
         have HO_3 := n0_
         have BK379 := n1_
         have HB := n2_
         clear n0_ n1_ n2_
         (try clear hb)
         (try clear hb2)
         (try clear hk)
         (try clear hi)
         obtain ⟨Ao30, co30, eo30⟩ := Kd.R_slice HO_3.out
         (first | subst eo30 | (injection eo30 with f1_ f2_ f3_; have f4_ := f1_.symm; have f5_ := f3_.symm; clear f1_ f2_ f3_; subst f4_; subst f5_))
         refine hK.out _ _ ⟨(blk_cell BK379.out 0).trans rfl, (blk_cell BK379.out 1).trans rfl, (blk_cell BK379.out 2).trans rfl, (blk_cell BK379.out 3).trans rfl⟩ (fun hHeld => ?_)
         clear hK K
         refine norm_ (a' := ?_) ?_ ?_
         rotate_left
         ·show Act.put _ (some 32) _ = _
          simp only [Act.put, List.setIfInBounds_toArray, List.set_cons_zero, List.set_cons_succ, i64_w, i32_w]
          rfl
         refine pu 7 33 HT_ ?_
         refine pu 8 34 HT_ ?_
         refine on 10 36 HT_ (fun K hK => ?_)
         refine goes_ Tryd.func56 (by kernel_rfl) rfl #[.slice Ao30 x3_1.length co30, .string (⟨#[32]⟩ : ByteArray)] (by rfl) rfl rfl (by (try simp only [List.map_toArray, List.map_cons, List.map_nil]); first | done | rfl | (simp only [List.length_drop, List.length_take]; rfl)) ?_
         with_reducible refine (strings_Join.calls _ _ x3_1 (⟨#[32]⟩ : ByteArray) t392 _ ?side1 ?side2 ?side9 A25.out).mono ?_
         (case side9 => exact plainAt_of HO_3.out)
         (case side1 => repeat (first | exact (Kd.R_reads' HO_3.out).2.2 | (with_reducible refine Kd.C_alloc ?_ _) | (with_reducible refine Kd.C_drewN ?_ _) | (with_reducible refine Kd.C_drew ?_)))
         (case side2 => exact (Kd.R_reads' HO_3.out).2.1)
         rintro e w31 ⟨rfl, hb⟩
         refine ⟨_, rfl, ?_⟩
         have n0_ := Aside0.mk (Kd.R_below (by (with_reducible repeat (first | apply Kd.R_alloc | apply Kd.R_drewN | apply Kd.R_drew)); exact HO_3.out) hb)
         have n1_ := kb BK379 hb
         have n2_ := sb hb
         clear HO_3
         clear BK379
         clear HB
         have HO_3 := n0_
         have BK379 := n1_
         have HB := n2_
         clear n0_ n1_ n2_
         (try clear hb)
         (try clear hb2)
         (try clear hk)
         (try clear hi)
         refine hK.out _ _ ⟨(blk_cell BK379.out 0).trans rfl, (blk_cell BK379.out 1).trans rfl, (blk_cell BK379.out 2).trans rfl, (blk_cell BK379.out 3).trans rfl⟩ (fun hHeld => ?_)
         clear hK K
         refine norm_ (a' := ?_) ?_ ?_
         rotate_left
         ·show Act.put _ (some 36) _ = _
          simp only [Act.put, List.setIfInBounds_toArray, List.set_cons_zero, List.set_cons_succ, i64_w, i32_w]
          rfl
         refine pu 11 37 HT_ ?_
         refine pu 12 6 HT_ ?_
         refine done_ (done_of HT_.out (by kernel_rfl)) ?_
         have hcz32_0 := ck BK379 0
         have hcz32_1 := ck BK379 1
         have hcz32_2 := ck BK379 2
         have hcz32_3 := ck BK379 3
         have hfz32_0 := blk_frozen BK379.out 0
         have hfz32_1 := blk_frozen BK379.out 1
         have hfz32_2 := blk_frozen BK379.out 2
         have hfz32_3 := blk_frozen BK379.out 3
         try go_wp2
         go_loopg [6, 41] k1 (fun kq v6 v41 w' => ∃ (x6_2 : ByteArray) (x41_2 : Int), v6 = .string x6_2 ∧ v41 = .int .i64 x41_2 ∧ Aside0 (impl_DrawingText.l1 kq x6_2 l0_3 (l0_3.length : Int) x41_2 = some r) ∧ Aside0 (kq ≤ k1) ∧ Aside0 (w'.heap[gb379]? = some (.cells #[.int .i64 a0_0, .int .i64 a0_1, (.slice A0_2 l0_2.length c0_2), (.slice A0_3 l0_3.length c0_3)] 63 (0, 0))) ∧ Aside0 (Below w.heap.size w w'))
         case atStart => exact ⟨((((t390 ++ (⟨#[120]⟩ : ByteArray)) ++ t391) ++ (⟨#[59]⟩ : ByteArray)) ++ t392), (0), (by first | rfl | (simp; done) | (simp [*]; done)), (by first | rfl | (simp; done) | (simp [*]; done)), H', ⟨Nat.le_refl _⟩, ⟨by exact bk BK379⟩, ⟨by repeat (first | (with_reducible first | exact HB.out | apply below_alloc | apply pw_below_drewN | apply below_drew1 | refine below_set ?_ GE379.out) | exact HB.out)⟩⟩
         case round =>
          clear H'
          try clear c1
          try clear c2
          try clear p2
          try clear c3
          try clear p3
          try clear q3
          try clear hx3
          try clear c4
          try clear c5
          try clear p6
          try clear c7
          try clear c10
          try clear c10b0
          try clear c11
          try clear c11b0
          try clear c12
          try clear c12b0
          try clear c14
          try clear c16
          try clear c21
          try clear c21b0
          try clear c21b1
          try clear c21b2
          try clear c23
          try clear c23b0
          try clear c23b1
          try clear c23b2
          try clear c24
          try clear c24b0
          try clear c24b1
          try clear c24b2
          try clear c26
          try clear c26b0
          try clear c26b1
          try clear c26b2
          try clear c29
          try clear hcz17_0
          try clear hcz17_1
          try clear hcz32_0
          try clear hcz32_1
          try clear hcz32_2
          try clear hcz32_3
          try clear hcz5_0
          try clear hcz5_1
          try clear hcz5_2
          try clear hcz5_3
          try clear hcz9_0
          try clear hcz9_1
          try clear hcz9_2
          try clear hcz9_3
          try clear hfz17_0
          try clear hfz17_1
          try clear hfz32_0
          try clear hfz32_1
          try clear hfz32_2
          try clear hfz32_3
          try clear hfz5_0
          try clear hfz5_1
          try clear hfz5_2
          try clear hfz5_3
          try clear hfz9_0
          try clear hfz9_1
          try clear hfz9_2
          try clear hfz9_3
          try clear hx384_0
          try clear hx384_1
          try clear p2
          try clear p384
          try clear q384
          obtain ⟨x6_2, x41_2, rfl, rfl, HA, HK2, BK379, HB⟩ := hrel
          cases gk with
          | zero => exact absurd HA.out (by simp [impl_DrawingText.l1])
          | succ k2 =>
           have H := HA.out
           clear HA
           simp only [impl_DrawingText.l1] at H
           by_cases c33 : x41_2 < (l0_3.length : Int)
           ·rw [if_pos c33] at H
            have c33b0 : decide (x41_2 < (l0_3.length : Int)) = true := decide_eq_true c33
            clear c33
            by_cases c34 : 0 ≤ x41_2
            ·rw [if_pos c34] at H
             have c34b0 : decide (0 ≤ x41_2) = true := decide_eq_true c34
             clear c34
             by_cases c35 : x41_2 < (l0_3.length : Int)
             ·rw [if_pos c35] at H
              have c35b0 : decide (x41_2 < (l0_3.length : Int)) = true := decide_eq_true c35
              clear c35
              by_cases c36 : 1 + ((rd_T85 l0_3 x41_2).f0).size ≤ 9223372036854775807
              ·rw [if_pos c36] at H
               have c36b0 := eq_true c36
               have c36b1 : decide (1 + ((rd_T85 l0_3 x41_2).f0).size ≤ 9223372036854775807) = true := decide_eq_true c36
               try have c36b2 : (9223372036854775807 < 1 + ((rd_T85 l0_3 x41_2).f0).size) = False := eq_false (Nat.not_lt.2 c36)
               by_cases c37 : ((⟨#[59]⟩ : ByteArray) ++ ((rd_T85 l0_3 x41_2).f0)).size + 1 ≤ 9223372036854775807
               ·rw [if_pos c37] at H
                have c37b0 := eq_true c37
                have c37b1 : decide (((⟨#[59]⟩ : ByteArray) ++ ((rd_T85 l0_3 x41_2).f0)).size + 1 ≤ 9223372036854775807) = true := decide_eq_true c37
                try have c37b2 : (9223372036854775807 < ((⟨#[59]⟩ : ByteArray) ++ ((rd_T85 l0_3 x41_2).f0)).size + 1) = False := eq_false (Nat.not_lt.2 c37)
                try have c37b2n := c37b2
                try simp only [ByteArray.size_append, size_lit1] at c37b2n
                replace H := Option.bind_eq_some_iff.mp H
                obtain ⟨t395, A380, H⟩ := H
                replace H : (if (((⟨#[59]⟩ : ByteArray) ++ ((rd_T85 l0_3 x41_2).f0)) ++ (⟨#[32]⟩ : ByteArray)).size + t395.size ≤ 9223372036854775807 then (if x6_2.size + ((((⟨#[59]⟩ : ByteArray) ++ ((rd_T85 l0_3 x41_2).f0)) ++ (⟨#[32]⟩ : ByteArray)) ++ t395).size ≤ 9223372036854775807 then (impl_DrawingText.l1 k2 (x6_2 ++ ((((⟨#[59]⟩ : ByteArray) ++ ((rd_T85 l0_3 x41_2).f0)) ++ (⟨#[32]⟩ : ByteArray)) ++ t395)) l0_3 (l0_3.length : Int) (wrap64 (x41_2 + 1))) else (none)) else (none)) = some r := H
                have A38 := Aside0.mk A380
                clear A380
                by_cases c39 : (((⟨#[59]⟩ : ByteArray) ++ ((rd_T85 l0_3 x41_2).f0)) ++ (⟨#[32]⟩ : ByteArray)).size + t395.size ≤ 9223372036854775807
                ·rw [if_pos c39] at H
                 have c39b0 := eq_true c39
                 have c39b1 : decide ((((⟨#[59]⟩ : ByteArray) ++ ((rd_T85 l0_3 x41_2).f0)) ++ (⟨#[32]⟩ : ByteArray)).size + t395.size ≤ 9223372036854775807) = true := decide_eq_true c39
                 try have c39b2 : (9223372036854775807 < (((⟨#[59]⟩ : ByteArray) ++ ((rd_T85 l0_3 x41_2).f0)) ++ (⟨#[32]⟩ : ByteArray)).size + t395.size) = False := eq_false (Nat.not_lt.2 c39)
                 try have c39b2n := c39b2
                 try simp only [ByteArray.size_append, size_lit1] at c39b2n
                 by_cases c40 : x6_2.size + ((((⟨#[59]⟩ : ByteArray) ++ ((rd_T85 l0_3 x41_2).f0)) ++ (⟨#[32]⟩ : ByteArray)) ++ t395).size ≤ 9223372036854775807
                 ·rw [if_pos c40] at H
                  have c40b0 := eq_true c40
                  have c40b1 : decide (x6_2.size + ((((⟨#[59]⟩ : ByteArray) ++ ((rd_T85 l0_3 x41_2).f0)) ++ (⟨#[32]⟩ : ByteArray)) ++ t395).size ≤ 9223372036854775807) = true := decide_eq_true c40
                  try have c40b2 : (9223372036854775807 < x6_2.size + ((((⟨#[59]⟩ : ByteArray) ++ ((rd_T85 l0_3 x41_2).f0)) ++ (⟨#[32]⟩ : ByteArray)) ++ t395).size) = False := eq_false (Nat.not_lt.2 c40)
                  try have c40b2n := c40b2
                  try simp only [ByteArray.size_append, size_lit1] at c40b2n
                  have H' := Aside0.mk H
                  clear H
                  have p393 : 0 ≤ (x41_2 : Int) := da
                  have q393 : x41_2 < (l0_3.length : Int) := da
                  obtain ⟨ad393, A393_1, c393_1, e393, hx393_0, hx393_1, hl393_1, hi393_1⟩ := at_T85 HR0_3.out x41_2 p393 q393
                  cases e393
                  replace hx393_0 := (HB.out.cell (bL w _ hx393_0)).trans hx393_0
                  replace hx393_1 := (HB.out.cell (bL w _ hx393_1)).trans hx393_1
                  have HR393_1 := Aside0.mk hi393_1
                  have HC393_1 := Aside0.mk hl393_1
                  clear hi393_1 hl393_1
                  replace p393 := eq_true p393
                  replace q393 := eq_true q393
                  try go_wp2_with (first | ((with_reducible refine gate_dst (N := 8) rfl ?_); refine bx (cs := #[.string (⟨#[]⟩ : ByteArray), .slice none 0 0]) (t := 85) ?_; intro gb394 hg w41 hbox hb; have n0_ := kb BK379 hb; have n1_ := sb hb; have n2_ := Aside0.mk (hbox); have n3_ := zb hg; have n4_ := zb hg; have n5_ := nl BK379 hg; have n6_ := ng BK379 hg; clear BK379; clear HB; have BK379 := n0_; have HB := n1_; have BK394 := n2_; have GW394 := n3_; have GE394 := n4_; have NB379_394 := n5_; have NB394_379 := n6_; clear n0_ n1_ n2_ n3_ n4_ n5_ n6_; clear hb hbox hg; have hnb42 := NB394_379.out; have hnc42 := NB379_394.out; have hcz43_0 := ck BK394 0; have hcz43_1 := ck BK394 1; have hfz43_0 := blk_frozen BK394.out 0; have hfz43_1 := blk_frozen BK394.out 1))
                  have n0_ : Aside0 (((w41.setCell ⟨gb394, 0, none⟩ (.string ((rd_T85 l0_3 x41_2).f0))).setCell ⟨gb394, 1, none⟩ (.slice A393_1 ((rd_T85 l0_3 x41_2).f1).length c393_1)).heap[gb379]? = some (.cells #[.int .i64 a0_0, .int .i64 a0_1, .slice A0_2 l0_2.length c0_2, .slice (some ad393) l0_3.length c0_3] 63 (0, 0))) := ⟨by refine bF NB379_394.out ?_; refine bF NB379_394.out ?_; exact bk BK379⟩
                  have n1_ : Aside0 (((w41.setCell ⟨gb394, 0, none⟩ (.string ((rd_T85 l0_3 x41_2).f0))).setCell ⟨gb394, 1, none⟩ (.slice A393_1 ((rd_T85 l0_3 x41_2).f1).length c393_1)).heap[gb394]? = some (.cells #[.string ((rd_T85 l0_3 x41_2).f0), .slice A393_1 ((rd_T85 l0_3 x41_2).f1).length c393_1] 85 (0, 0))) := ⟨by refine bP (cs := #[.string ((rd_T85 l0_3 x41_2).f0), .slice none 0 0]) 1 ?_; refine bP (cs := #[.string (⟨#[]⟩ : ByteArray), .slice none 0 0]) 0 ?_; exact bk BK394⟩
                  have n2_ : Aside0 (Below w.heap.size w ((w41.setCell ⟨gb394, 0, none⟩ (.string ((rd_T85 l0_3 x41_2).f0))).setCell ⟨gb394, 1, none⟩ (.slice A393_1 ((rd_T85 l0_3 x41_2).f1).length c393_1))) := ⟨by repeat (first | (with_reducible first | exact HB.out | apply below_alloc | apply pw_below_drewN | apply below_drew1 | refine below_set ?_ GE379.out | refine below_set ?_ GE394.out) | exact HB.out)⟩
                  (try clear BK379)
                  (try clear BK394)
                  (try clear HB)
                  generalize ((w41.setCell ⟨gb394, 0, none⟩ (.string ((rd_T85 l0_3 x41_2).f0))).setCell ⟨gb394, 1, none⟩ (.slice A393_1 ((rd_T85 l0_3 x41_2).f1).length c393_1)) = w44 at n0_ n1_ n2_ ⊢
                  have BK379 := n0_
                  have BK394 := n1_
                  have HB := n2_
                  clear n0_ n1_ n2_
                  have n0_ := Aside0.mk (blk_drew BK379.out)
                  have n1_ := Aside0.mk (blk_drew BK394.out)
                  have n2_ := Aside0.mk (below_drew1 HB.out)
                  clear BK379
                  clear BK394
                  clear HB
                  have BK379 := n0_
                  have BK394 := n1_
                  have HB := n2_
                  clear n0_ n1_ n2_
                  refine start_ (n := 11) (S := fun w' => w'.cell? ⟨gb394, 0, none⟩ = some (.string ((rd_T85 l0_3 x41_2).f0)) ∧ w'.cell? ⟨gb394, 1, none⟩ = some (.slice A393_1 ((rd_T85 l0_3 x41_2).f1).length c393_1)) (ds := []) #[fF,fF,fF,fF,fF,fF,fF,fF,fF,fF,fF] (by kernel_rfl) rfl rfl ⟨(blk_cell BK394.out 0).trans rfl, (blk_cell BK394.out 1).trans rfl⟩ (fun hHeld => ?_); refine with_tabW impl_DrawingText.tab13 impl_DrawingText.bits13 (fun HT_ HW_ => ?_)
                  generalize w44.drew = w45 at BK379 BK394 HB hHeld ⊢
                  refine pu 0 45 HT_ ?_
                  refine pu 1 46 HT_ ?_
                  refine pu 5 50 HT_ ?_
                  refine tk 2 47 HT_ HW_ hHeld ?_
                  refine pu 3 48 HT_ ?_
                  refine pu 4 49 HT_ ?_
                  refine tk 6 51 HT_ HW_ hHeld ?_
                  refine on 7 52 HT_ (fun K hK => ?_)
                  refine goes_ Tryd.func21 (by kernel_rfl) rfl #[.slice A393_1 ((rd_T85 l0_3 x41_2).f1).length c393_1] (by rfl) rfl rfl (by (try simp only [List.map_toArray, List.map_cons, List.map_nil]); first | done | rfl | (simp only [List.length_drop, List.length_take]; rfl)) ?_
                  with_reducible refine (impl_ListText.calls k2 _ _ ((rd_T85 l0_3 x41_2).f1) t395 _ (HG.out.step ib) ?side1 ?side2 A38.out).mono ?_
                  (case side1 => repeat (first | exact (Kd.C_below HR393_1.out HB.out) | (with_reducible refine Kd.C_alloc ?_ _) | (with_reducible refine Kd.C_drewN ?_ _) | (with_reducible refine Kd.C_drew ?_)))
                  (case side2 => exact HC393_1.out)
                  rintro e w46 ⟨rfl, hb⟩
                  refine ⟨_, rfl, ?_⟩
                  have n0_ := kb BK379 hb
                  have n1_ := kb BK394 hb
                  have n2_ := sb hb
                  clear BK379
                  clear BK394
                  clear HB
                  have BK379 := n0_
                  have BK394 := n1_
                  have HB := n2_
                  clear n0_ n1_ n2_
                  (try clear hb)
                  (try clear hb2)
                  (try clear hk)
                  (try clear hi)
                  refine hK.out _ _ ⟨(blk_cell BK394.out 0).trans rfl, (blk_cell BK394.out 1).trans rfl⟩ (fun hHeld => ?_)
                  clear hK K
                  refine norm_ (a' := ?_) ?_ ?_
                  rotate_left
                  ·show Act.put _ (some 52) _ = _
                   simp only [Act.put, List.setIfInBounds_toArray, List.set_cons_zero, List.set_cons_succ, i64_w, i32_w]
                   rfl
                  refine pu 8 53 HT_ ?_
                  refine pu 9 54 HT_ ?_
                  refine pu 10 6 HT_ ?_
                  refine done_ (done_of HT_.out (by kernel_rfl)) ?_
                  try go_wp2
                  go_roundg k2
                  case measure => have := HK1.out; have := HK2.out; omega
                  case rel => exact ⟨(x6_2 ++ ((((⟨#[59]⟩ : ByteArray) ++ ((rd_T85 l0_3 x41_2).f0)) ++ (⟨#[32]⟩ : ByteArray)) ++ t395)), (wrap64 (x41_2 + 1)), (by first | rfl | (simp; done) | (simp [*]; done)), (by first | rfl | (simp; done) | (simp [*]; done)), H', ⟨by have := HK1.out; have := HK2.out; omega⟩, ⟨by exact bk BK379⟩, ⟨by repeat (first | (with_reducible first | exact HB.out | apply below_alloc | apply pw_below_drewN | apply below_drew1 | refine below_set ?_ GE379.out | refine below_set ?_ GE394.out) | exact HB.out)⟩⟩
                 ·rw [if_neg c40] at H
                  exact absurd H (by simp)
                ·rw [if_neg c39] at H
                 exact absurd H (by simp)
               ·rw [if_neg c37] at H
                exact absurd H (by simp)
              ·rw [if_neg c36] at H
               exact absurd H (by simp)
             ·first | (exfalso; have z_ := of_decide_eq_true c33b0; omega) | (rw [if_neg c35] at H; exact absurd H (by simp))
            ·rw [if_neg c34] at H
             exact absurd H (by simp)
           ·rw [if_neg c33] at H
            have c33b0 : decide (x41_2 < (l0_3.length : Int)) = false := decide_eq_false c33
            clear c33
            obtain rfl := Option.some.inj H
            go_wp2
            go_ret
            exact ⟨by first | rfl | (simp [errW_none, errW_some] <;> rfl) | (simp [*, errW_none, errW_some] <;> rfl), by repeat (first | (with_reducible first | exact HB.out | apply below_alloc | apply pw_below_drewN | apply below_drew1 | refine below_set ?_ GE379.out) | exact HB.out)⟩
        ·rw [if_neg c26] at H
         exact absurd H (by simp)
       ·rw [if_neg c24] at H
        exact absurd H (by simp)
      ·rw [if_neg c23] at H
       exact absurd H (by simp)
     ·rw [if_neg c21] at H
      exact absurd H (by simp)
 ·replace c3 := Bool.eq_false_iff.mpr c3
  subst c3
  have H1 : (some (⟨#[]⟩ : ByteArray)) = some r := by rw [if_neg (show ¬ (false = true) by decide)] at H; exact H
  clear H
  have H := H1
  clear H1
  obtain rfl := Option.some.inj H
  go_enter Tryd.func45, Tryd.ntmps45
  go_wp2_with (first | ((with_reducible refine gate_dst (N := 1) rfl ?_); refine bx (cs := #[.int .i64 a0_0, .int .i64 a0_1, .slice A0_2 l0_2.length c0_2, .slice A0_3 l0_3.length c0_3]) (t := 63) ?_; intro gb379 hg w47 hbox hb; have n0_ := sb hb; have n1_ := Aside0.mk (hbox); have n2_ := zb hg; have n3_ := zb hg; clear HB; have HB := n0_; have BK379 := n1_; have GW379 := n2_; have GE379 := n3_; clear n0_ n1_ n2_ n3_; clear hb hbox hg; have hcz48_0 := ck BK379 0; have hcz48_1 := ck BK379 1; have hcz48_2 := ck BK379 2; have hcz48_3 := ck BK379 3; have hfz48_0 := blk_frozen BK379.out 0; have hfz48_1 := blk_frozen BK379.out 1; have hfz48_2 := blk_frozen BK379.out 2; have hfz48_3 := blk_frozen BK379.out 3) | ((with_reducible refine gate_callee (f := 71) rfl ?_); refine goesL_ (some 10) rfl rfl Tryd.func71 (by kernel_rfl) rfl #[.agg #[.int .i64 a0_0, .int .i64 a0_1, .slice A0_2 l0_2.length c0_2, .slice A0_3 l0_3.length c0_3]] rfl (by (try simp only [List.map_toArray, List.map_cons, List.map_nil]); first | done | rfl | (simp only [List.length_drop, List.length_take]; rfl)) ?_; (with_reducible refine (impl_ValidDrawing.calls k a0_0 a0_1 _ _ l0_2 _ _ l0_3 false _ ?side1 ?side2 ?side3 ?side4 A2.out).mono ?_); (case side1 => repeat (first | exact (Kd.C_below HR0_2.out HB.out) | (with_reducible refine Kd.C_alloc ?_ _) | (with_reducible refine Kd.C_drewN ?_ _) | (with_reducible refine Kd.C_drew ?_))); (case side2 => exact HC0_2.out); (case side3 => repeat (first | exact (Kd.C_below HR0_3.out HB.out) | (with_reducible refine Kd.C_alloc ?_ _) | (with_reducible refine Kd.C_drewN ?_ _) | (with_reducible refine Kd.C_drew ?_))); (case side4 => exact HC0_3.out); rintro e w49 ⟨rfl, hb⟩; refine ⟨_, rfl, ?_⟩; have n0_ := kb BK379 hb; have n1_ := sb hb; clear BK379; clear HB; have BK379 := n0_; have HB := n1_; clear n0_ n1_; (try clear hb); (try clear hb2); (try clear hk); (try clear hi)))
  go_ret
  exact ⟨by first | rfl | (simp [errW_none, errW_some] <;> rfl) | (simp [*, errW_none, errW_some] <;> rfl), by repeat (first | (with_reducible first | exact HB.out | apply below_alloc | apply pw_below_drewN | apply below_drew1 | refine below_set ?_ GE379.out) | exact HB.out)⟩
def laws_eqPoint.f (a0_0 : Int) (a0_1 : Int) (a1_0 : Int) (a1_1 : Int) : Option (Bool) := if a0_0 = a1_0 then (if a0_1 = a1_1 then (some true) else (some false)) else (some false)
set_option maxHeartbeats 8000000 in
set_option maxRecDepth 100000 in
theorem laws_eqPoint.calls (a0_0 : Int) (a0_1 : Int) (a1_0 : Int) (a1_1 : Int) (r : Bool) (w : World) (h : laws_eqPoint.f a0_0 a0_1 a1_0 a1_1 = some r) :
  Calls Tryd.prog 32 #[.agg #[.int .i64 a0_0, .int .i64 a0_1], .agg #[.int .i64 a1_0, .int .i64 a1_1]] w fun e w' => e = .returned (.bool r) ∧ Below w.heap.size w w' := by
 have hu40 := Tryd.underlying40
 have HB := Aside0.mk (Below.refl w.heap.size w)
 have H : (if a0_0 = a1_0 then (if a0_1 = a1_1 then (some true) else (some false)) else (some false)) = some r := h
 clear h
 by_cases c3 : a0_0 = a1_0
 ·rw [if_pos c3] at H
  have c3b0 : (a0_0 == a1_0) = true := beq_iff_eq.mpr c3
  have c3b1 : (a0_0 != a1_0) = false := bne_eq_false_iff_eq.mpr c3
  clear c3
  by_cases c4 : a0_1 = a1_1
  ·rw [if_pos c4] at H
   have c4b0 : (a0_1 == a1_1) = true := beq_iff_eq.mpr c4
   have c4b1 : (a0_1 != a1_1) = false := bne_eq_false_iff_eq.mpr c4
   clear c4
   obtain rfl := Option.some.inj H
   go_enter Tryd.func32, Tryd.ntmps32
   go_wp2_with (first | ((with_reducible refine gate_dst (N := 2) rfl ?_); refine bx (cs := #[.int .i64 a0_0, .int .i64 a0_1]) (t := 40) ?_; intro gb396 hg w5 hbox hb; have n0_ := sb hb; have n1_ := Aside0.mk (hbox); have n2_ := zb hg; have n3_ := zb hg; clear HB; have HB := n0_; have BK396 := n1_; have GW396 := n2_; have GE396 := n3_; clear n0_ n1_ n2_ n3_; clear hb hbox hg) | ((with_reducible refine gate_dst (N := 3) rfl ?_); refine bx (cs := #[.int .i64 a1_0, .int .i64 a1_1]) (t := 40) ?_; intro gb397 hg w6 hbox hb; have n0_ := kb BK396 hb; have n1_ := sb hb; have n2_ := Aside0.mk (hbox); have n3_ := zb hg; have n4_ := zb hg; have n5_ := nl BK396 hg; have n6_ := ng BK396 hg; clear BK396; clear HB; have BK396 := n0_; have HB := n1_; have BK397 := n2_; have GW397 := n3_; have GE397 := n4_; have NB396_397 := n5_; have NB397_396 := n6_; clear n0_ n1_ n2_ n3_ n4_ n5_ n6_; clear hb hbox hg; have hnb7 := NB396_397.out; have hnc7 := NB397_396.out; have hcz8_0 := ck BK396 0; have hcz8_1 := ck BK396 1; have hfz8_0 := blk_frozen BK396.out 0; have hfz8_1 := blk_frozen BK396.out 1; have hcz9_0 := ck BK397 0; have hcz9_1 := ck BK397 1; have hfz9_0 := blk_frozen BK397.out 0; have hfz9_1 := blk_frozen BK397.out 1))
   go_ret
   exact ⟨by first | rfl | (simp [errW_none, errW_some] <;> rfl) | (simp [*, errW_none, errW_some] <;> rfl), by repeat (first | (with_reducible first | exact HB.out | apply below_alloc | apply pw_below_drewN | apply below_drew1 | refine below_set ?_ GE396.out | refine below_set ?_ GE397.out) | exact HB.out)⟩
  ·rw [if_neg c4] at H
   have c4b0 : (a0_1 == a1_1) = false := beq_eq_false_iff_ne.mpr c4
   have c4b1 : (a0_1 != a1_1) = true := bne_iff_ne.mpr c4
   obtain rfl := Option.some.inj H
   go_enter Tryd.func32, Tryd.ntmps32
   go_wp2_with (first | ((with_reducible refine gate_dst (N := 2) rfl ?_); refine bx (cs := #[.int .i64 a0_0, .int .i64 a0_1]) (t := 40) ?_; intro gb396 hg w10 hbox hb; have n0_ := sb hb; have n1_ := Aside0.mk (hbox); have n2_ := zb hg; have n3_ := zb hg; clear HB; have HB := n0_; have BK396 := n1_; have GW396 := n2_; have GE396 := n3_; clear n0_ n1_ n2_ n3_; clear hb hbox hg) | ((with_reducible refine gate_dst (N := 3) rfl ?_); refine bx (cs := #[.int .i64 a1_0, .int .i64 a1_1]) (t := 40) ?_; intro gb397 hg w11 hbox hb; have n0_ := kb BK396 hb; have n1_ := sb hb; have n2_ := Aside0.mk (hbox); have n3_ := zb hg; have n4_ := zb hg; have n5_ := nl BK396 hg; have n6_ := ng BK396 hg; clear BK396; clear HB; have BK396 := n0_; have HB := n1_; have BK397 := n2_; have GW397 := n3_; have GE397 := n4_; have NB396_397 := n5_; have NB397_396 := n6_; clear n0_ n1_ n2_ n3_ n4_ n5_ n6_; clear hb hbox hg; have hnb12 := NB396_397.out; have hnc12 := NB397_396.out; have hcz13_0 := ck BK396 0; have hcz13_1 := ck BK396 1; have hfz13_0 := blk_frozen BK396.out 0; have hfz13_1 := blk_frozen BK396.out 1; have hcz14_0 := ck BK397 0; have hcz14_1 := ck BK397 1; have hfz14_0 := blk_frozen BK397.out 0; have hfz14_1 := blk_frozen BK397.out 1))
   go_ret
   exact ⟨by first | rfl | (simp [errW_none, errW_some] <;> rfl) | (simp [*, errW_none, errW_some] <;> rfl), by repeat (first | (with_reducible first | exact HB.out | apply below_alloc | apply pw_below_drewN | apply below_drew1 | refine below_set ?_ GE396.out | refine below_set ?_ GE397.out) | exact HB.out)⟩
 ·rw [if_neg c3] at H
  have c3b0 : (a0_0 == a1_0) = false := beq_eq_false_iff_ne.mpr c3
  have c3b1 : (a0_0 != a1_0) = true := bne_iff_ne.mpr c3
  obtain rfl := Option.some.inj H
  go_enter Tryd.func32, Tryd.ntmps32
  go_wp2_with (first | ((with_reducible refine gate_dst (N := 2) rfl ?_); refine bx (cs := #[.int .i64 a0_0, .int .i64 a0_1]) (t := 40) ?_; intro gb396 hg w15 hbox hb; have n0_ := sb hb; have n1_ := Aside0.mk (hbox); have n2_ := zb hg; have n3_ := zb hg; clear HB; have HB := n0_; have BK396 := n1_; have GW396 := n2_; have GE396 := n3_; clear n0_ n1_ n2_ n3_; clear hb hbox hg) | ((with_reducible refine gate_dst (N := 3) rfl ?_); refine bx (cs := #[.int .i64 a1_0, .int .i64 a1_1]) (t := 40) ?_; intro gb397 hg w16 hbox hb; have n0_ := kb BK396 hb; have n1_ := sb hb; have n2_ := Aside0.mk (hbox); have n3_ := zb hg; have n4_ := zb hg; have n5_ := nl BK396 hg; have n6_ := ng BK396 hg; clear BK396; clear HB; have BK396 := n0_; have HB := n1_; have BK397 := n2_; have GW397 := n3_; have GE397 := n4_; have NB396_397 := n5_; have NB397_396 := n6_; clear n0_ n1_ n2_ n3_ n4_ n5_ n6_; clear hb hbox hg; have hnb17 := NB396_397.out; have hnc17 := NB397_396.out; have hcz18_0 := ck BK396 0; have hcz18_1 := ck BK396 1; have hfz18_0 := blk_frozen BK396.out 0; have hfz18_1 := blk_frozen BK396.out 1; have hcz19_0 := ck BK397 0; have hcz19_1 := ck BK397 1; have hfz19_0 := blk_frozen BK397.out 0; have hfz19_1 := blk_frozen BK397.out 1))
  go_ret
  exact ⟨by first | rfl | (simp [errW_none, errW_some] <;> rfl) | (simp [*, errW_none, errW_some] <;> rfl), by repeat (first | (with_reducible first | exact HB.out | apply below_alloc | apply pw_below_drewN | apply below_drew1 | refine below_set ?_ GE396.out | refine below_set ?_ GE397.out) | exact HB.out)⟩
end Go.Proofs.YtdegladckdnhiaaDoor.PFnExactDrawingText
