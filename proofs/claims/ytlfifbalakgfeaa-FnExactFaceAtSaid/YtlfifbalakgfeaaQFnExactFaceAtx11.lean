/- Contracts of functions that FnExactFaceAt reaches, out of the lines of the kit's print. -/
import Derived.Test.YtlfifbalakgfeaaQFnExactFaceAtx0
import Derived.Test.YtlfifbalakgfeaaQFnExactFaceAtx1
import Derived.Test.YtlfifbalakgfeaaQFnExactFaceAtx4
import Derived.Test.YtlfifbalakgfeaaQFnExactFaceAtx5
import Derived.Test.YtlfifbalakgfeaaQFnExactFaceAtx10
namespace Go.Proofs.Ytlfifbalakgfeaa.PFnExactFaceAt
open Go.RowKit Go.Proofs.YtlfifbalakgfeaaW.PrintWords Go.Proofs.YtlfifbalakgfeaaW.PrintLast Go.Proofs.YtlfifbalakgfeaaW.PrintMore
open Bool renaming true → tT, false → fF
open Go.World renaming block_lt_of_cell? → bL
attribute [local go_sem] max2_int min2_int max_two min_two max_three min_three max_four min_four
set_option linter.unusedVariables false
set_option linter.unusedSimpArgs false
attribute [local go_sem high] eqA48
mutual
def spec_FaceAt.j0 : Nat → Bool → Int → Int → List (S48) → List (S67) → Int → Int → Option (Int × Int)
 | 0, _, _, _, _, _, _, _ => none
 | k + 1, x13, x273000, x273001, x273002, x273003, x274000, x274001 => if x13 = true then (some (0, 1)) else (spec_FaceAt.l0 k 0 x273000 x273001 x273002 x273003 x274000 x274001)
def spec_FaceAt.l0 : Nat → Int → Int → Int → List (S48) → List (S67) → Int → Int → Option (Int × Int)
 | 0, _, _, _, _, _, _, _ => none
 | k + 1, x6, x273000, x273001, x273002, x273003, x274000, x274001 => if x6 < (x273003.length : Int) then ((spec_l05Polygon.f k x273000 x273001 x273002 x273003 x6).bind fun bt278 => ((spec_l03Inside.f k bt278.1 x274000 x274001).bind fun t283 => (if t283 ≥ 0 then (some (x6, 0)) else (spec_FaceAt.l0 k (wrap64 (x6 + 1)) bt278.2.1 bt278.2.2 x273002 x273003 x274000 x274001)))) else (some (0, 3))
end
def spec_FaceAt.f (k : Nat) (a0_0 : Int) (a0_1 : Int) (l0_2 : List (S48)) (l0_3 : List (S67)) (a1_0 : Int) (a1_1 : Int) : Option (Int × Int) := (spec_l05Ok.f k a0_0 a0_1 l0_2 l0_3).bind fun bt274 => (if bt274.1 = true then ((spec_l02Ok.f a1_0 a1_1).bind fun t277 => (spec_FaceAt.j0 k (!t277) bt274.2.1 bt274.2.2 l0_2 l0_3 a1_0 a1_1)) else (spec_FaceAt.j0 k true bt274.2.1 bt274.2.2 l0_2 l0_3 a1_0 a1_1))
theorem spec_FaceAt.mono_l : ∀ k, (∀ y0 y1 y2 y3 y4 y5 y6, LeO (spec_FaceAt.j0 k y0 y1 y2 y3 y4 y5 y6) (spec_FaceAt.j0 (k + 1) y0 y1 y2 y3 y4 y5 y6)) ∧ (∀ y0 y1 y2 y3 y4 y5 y6, LeO (spec_FaceAt.l0 k y0 y1 y2 y3 y4 y5 y6) (spec_FaceAt.l0 (k + 1) y0 y1 y2 y3 y4 y5 y6))
 | 0 => ⟨fun _ _ _ _ _ _ _ r h => by simp [spec_FaceAt.j0] at h, fun _ _ _ _ _ _ _ r h => by simp [spec_FaceAt.l0] at h⟩
 | k + 1 => by
  obtain ⟨ih0, ih1⟩ := spec_FaceAt.mono_l k
  refine ⟨?_, ?_⟩
  ·intro y0 y1 y2 y3 y4 y5 y6
   unfold spec_FaceAt.j0
   repeat' first
   | (with_reducible exact ih0 _ _ _ _ _ _ _)
   | (with_reducible exact ih1 _ _ _ _ _ _ _)
   | (with_reducible exact spec_l03Inside.mono _ _ _ _)
   | (with_reducible exact spec_l05Ok.mono _ _ _ _ _)
   | (with_reducible exact spec_l05Polygon.mono _ _ _ _ _ _)
   | (with_reducible exact LeO.refl _)
   | (with_reducible exact LeO.none _)
   | (with_reducible refine LeO.ite ?_ ?_)
   | (with_reducible refine LeO.bind ?_ (fun _ => ?_))
   | exact ih0 _ _ _ _ _ _ _
   | exact ih1 _ _ _ _ _ _ _
   | exact spec_l03Inside.mono _ _ _ _
   | exact spec_l05Ok.mono _ _ _ _ _
   | exact spec_l05Polygon.mono _ _ _ _ _ _
   | exact LeO.none _
   | refine LeO.ite ?_ ?_
   | refine LeO.bind ?_ (fun _ => ?_)
  ·intro y0 y1 y2 y3 y4 y5 y6
   unfold spec_FaceAt.l0
   repeat' first
   | (with_reducible exact ih0 _ _ _ _ _ _ _)
   | (with_reducible exact ih1 _ _ _ _ _ _ _)
   | (with_reducible exact spec_l03Inside.mono _ _ _ _)
   | (with_reducible exact spec_l05Ok.mono _ _ _ _ _)
   | (with_reducible exact spec_l05Polygon.mono _ _ _ _ _ _)
   | (with_reducible exact LeO.refl _)
   | (with_reducible exact LeO.none _)
   | (with_reducible refine LeO.ite ?_ ?_)
   | (with_reducible refine LeO.bind ?_ (fun _ => ?_))
   | exact ih0 _ _ _ _ _ _ _
   | exact ih1 _ _ _ _ _ _ _
   | exact spec_l03Inside.mono _ _ _ _
   | exact spec_l05Ok.mono _ _ _ _ _
   | exact spec_l05Polygon.mono _ _ _ _ _ _
   | exact LeO.none _
   | refine LeO.ite ?_ ?_
   | refine LeO.bind ?_ (fun _ => ?_)
theorem spec_FaceAt.mono : ∀ a0 a1 a2 a3 a4 a5 k, LeO (spec_FaceAt.f k a0 a1 a2 a3 a4 a5) (spec_FaceAt.f (k + 1) a0 a1 a2 a3 a4 a5) := by
 intro a0 a1 a2 a3 a4 a5 k
 obtain ⟨ih0, ih1⟩ := spec_FaceAt.mono_l k
 unfold spec_FaceAt.f
 repeat' first
   | (with_reducible exact ih0 _ _ _ _ _ _ _)
   | (with_reducible exact ih1 _ _ _ _ _ _ _)
   | (with_reducible exact spec_l03Inside.mono _ _ _ _)
   | (with_reducible exact spec_l05Ok.mono _ _ _ _ _)
   | (with_reducible exact spec_l05Polygon.mono _ _ _ _ _ _)
   | (with_reducible exact LeO.refl _)
   | (with_reducible exact LeO.none _)
   | (with_reducible refine LeO.ite ?_ ?_)
   | (with_reducible refine LeO.bind ?_ (fun _ => ?_))
   | exact ih0 _ _ _ _ _ _ _
   | exact ih1 _ _ _ _ _ _ _
   | exact spec_l03Inside.mono _ _ _ _
   | exact spec_l05Ok.mono _ _ _ _ _
   | exact spec_l05Polygon.mono _ _ _ _ _ _
   | exact LeO.none _
   | refine LeO.ite ?_ ?_
   | refine LeO.bind ?_ (fun _ => ?_)
def spec_FaceAt.T6 : Bool × List (List Nat × List Nat) := (true, [([], []), ([0], [0]), ([], []), ([1, 2, 1], [1, 2]), ([3], [3])])
def spec_FaceAt.B6 : List Nat := [0, 1, 0, 7, 15]
theorem spec_FaceAt.tab6 : rtab .any (opsOf Try.f25 6) = spec_FaceAt.T6 := by kernel_rfl
theorem spec_FaceAt.bits6 : waitsOk spec_FaceAt.T6.2 spec_FaceAt.B6 = true := by kernel_rfl
set_option maxHeartbeats 8000000 in
set_option maxRecDepth 100000 in
theorem spec_FaceAt.calls (k : Nat) (a0_0 : Int) (a0_1 : Int) (A0_2 : Option Addr) (c0_2 : Nat) (l0_2 : List (S48)) (A0_3 : Option Addr) (c0_3 : Nat) (l0_3 : List (S67)) (a1_0 : Int) (a1_1 : Int) (r1 : Int) (r2 : Int) (w : World) (hr0_2 : Kd.C k48 w A0_2 l0_2.length l0_2) (hc0_2 : l0_2.length ≤ c0_2) (hr0_3 : Kd.C k67 w A0_3 l0_3.length l0_3) (hc0_3 : l0_3.length ≤ c0_3) (h : spec_FaceAt.f k a0_0 a0_1 l0_2 l0_3 a1_0 a1_1 = some (r1, r2)) :
  Calls Try.prog 25 #[.agg #[.int .i64 a0_0, .int .i64 a0_1, .slice A0_2 l0_2.length c0_2, .slice A0_3 l0_3.length c0_3], .agg #[.int .i64 a1_0, .int .i64 a1_1]] w fun e w' => e = .returned (.tuple #[.int .i64 r1, .int .i64 r2]) ∧ Below w.heap.size w w' := by
 have hu31 := Try.underlying31
 have hu48 := Try.underlying48
 have HR0_2 := Aside0.mk hr0_2
 have HC0_2 := Aside0.mk hc0_2
 clear hr0_2 hc0_2
 have HR0_3 := Aside0.mk hr0_3
 have HC0_3 := Aside0.mk hc0_3
 clear hr0_3 hc0_3
 have HB := Aside0.mk (Below.refl w.heap.size w)
 have H : ((spec_l05Ok.f k a0_0 a0_1 l0_2 l0_3).bind fun bt274 => (if bt274.1 = true then ((spec_l02Ok.f a1_0 a1_1).bind fun t277 => (spec_FaceAt.j0 k (!t277) bt274.2.1 bt274.2.2 l0_2 l0_3 a1_0 a1_1)) else (spec_FaceAt.j0 k true bt274.2.1 bt274.2.2 l0_2 l0_3 a1_0 a1_1))) = some (r1, r2) := h
 clear h
 replace H := Option.bind_eq_some_iff.mp H
 obtain ⟨⟨b, x, y⟩, A10, H⟩ := H
 have A1_ := Aside0.mk A10
 clear A10
 cases b with
 | true =>
  replace H : ((spec_l02Ok.f a1_0 a1_1).bind fun t => (spec_FaceAt.j0 k (!t) x y l0_2 l0_3 a1_0 a1_1)) = some (r1, r2) := by simpa using H
  replace H := Option.bind_eq_some_iff.mp H
  obtain ⟨t, A20, H⟩ := H
  have A2_ := Aside0.mk A20
  clear A20
  cases k with
  | zero => exact absurd H (by simp [spec_FaceAt.j0])
  | succ k0 =>
  simp only [spec_FaceAt.j0] at H
  cases t with
  | true =>
   replace H : spec_FaceAt.l0 k0 0 x y l0_2 l0_3 a1_0 a1_1 = some (r1, r2) := by simpa using H
   have H' := Aside0.mk H
   clear H
   go_enter Try.func25, Try.ntmps25
   go_wp2_with (first | ((with_reducible refine gate_dst (N := 2) rfl ?_); refine bx (cs := #[.int .i64 a0_0, .int .i64 a0_1, .slice A0_2 l0_2.length c0_2, .slice A0_3 l0_3.length c0_3]) (t := 31) ?_; intro gb hg w3 hbox hb; have HI := Aside0.mk (show IsS31 w w3 gb a0_0 a0_1 l0_2 l0_3 from ⟨A0_2, c0_2, A0_3, c0_3, hbox, Nat.le_of_eq hg.symm, HR0_2.out, HR0_3.out⟩); have n1_ := Aside0.mk (below_step ib hb); clear HB; have HB := n1_; clear n1_ hbox hb hg) | ((with_reducible refine gate_dst (N := 3) rfl ?_); refine bx (cs := #[.int .i64 a1_0, .int .i64 a1_1]) (t := 48) ?_; intro gp hgp w4 hboxp hbp; have NE := Aside0.mk (show gp ≠ gb from by have l_ := IsS31.lt (by repeat (first | exact HI.out | apply IsS31.alloc | apply IsS31.drewN | apply IsS31.drew)); omega); have n0_ := Aside0.mk hboxp; have n1_ := Aside0.mk (below_step ib hbp); have n2_ := Aside0.mk (IsS31.below (by repeat (first | exact HI.out | apply IsS31.alloc | apply IsS31.drewN | apply IsS31.drew)) hbp); clear hboxp hbp HB HI hgp; have BP := n0_; have HB := n1_; have HI := n2_; clear n0_ n1_ n2_; have hp0 : w4.cell? ⟨gp, 0, none⟩ = some (.int .i64 a1_0) := (blk_cell BP.out 0).trans rfl; have hp1 : w4.cell? ⟨gp, 1, none⟩ = some (.int .i64 a1_1) := (blk_cell BP.out 1).trans rfl) | ((with_reducible refine gate_callee (f := 37) rfl ?_); refine goesL_ _ rfl rfl Try.func37 (by kernel_rfl) rfl #[.pointer (some ⟨gb, 0, none⟩)] rfl (by (try simp only [List.map_toArray, List.map_cons, List.map_nil]); first | done | rfl) ?_; (with_reducible refine (spec_l05Ok.calls _ gb a0_0 a0_1 l0_2 l0_3 _ _ _ w _ (by repeat (first | exact HI.out | apply IsS31.alloc | apply IsS31.drewN | apply IsS31.drew)) ib A1_.out).mono ?_); rintro e w5 ⟨rfl, hi, hb, hk⟩; refine ⟨_, rfl, ?_⟩; have n1_ := Aside0.mk hb; have n2_ := Aside0.mk hi; have n3_ := Aside0.mk (KeepBut.blk hk (by repeat (first | exact BP.out | apply blk_drewN | apply blk_drew)) NE.out (by simp)); clear hi hb hk HB HI BP; have HB := n1_; have HI := n2_; have BP := n3_; clear n1_ n2_ n3_; (try clear hp0 hp1); have hp0 : w5.cell? ⟨gp, 0, none⟩ = some (.int .i64 a1_0) := (blk_cell BP.out 0).trans rfl; have hp1 : w5.cell? ⟨gp, 1, none⟩ = some (.int .i64 a1_1) := (blk_cell BP.out 1).trans rfl) | (go_at_call 37; (with_reducible refine (spec_l05Ok.calls _ gb a0_0 a0_1 l0_2 l0_3 _ _ _ w _ (by repeat (first | exact HI.out | apply IsS31.alloc | apply IsS31.drewN | apply IsS31.drew)) ib A1_.out).mono ?_); rintro e w5 ⟨rfl, hi, hb, hk⟩; have n1_ := Aside0.mk hb; have n2_ := Aside0.mk hi; have n3_ := Aside0.mk (KeepBut.blk hk (by repeat (first | exact BP.out | apply blk_drewN | apply blk_drew)) NE.out (by simp)); clear hi hb hk HB HI BP; have HB := n1_; have HI := n2_; have BP := n3_; clear n1_ n2_ n3_; (try clear hp0 hp1); have hp0 : w5.cell? ⟨gp, 0, none⟩ = some (.int .i64 a1_0) := (blk_cell BP.out 0).trans rfl; have hp1 : w5.cell? ⟨gp, 1, none⟩ = some (.int .i64 a1_1) := (blk_cell BP.out 1).trans rfl) | ((with_reducible refine gate_callee (f := 55) rfl ?_); refine goesL_ _ rfl rfl Try.func55 (by kernel_rfl) rfl #[.agg #[.int .i64 a1_0, .int .i64 a1_1]] rfl (by (try simp only [List.map_toArray, List.map_cons, List.map_nil]); first | done | rfl) ?_; (with_reducible refine (spec_l02Ok.calls a1_0 a1_1 _ _ A2_.out).mono ?_); rintro e w5 ⟨rfl, hb⟩; refine ⟨_, rfl, ?_⟩; have n1_ := Aside0.mk (below_step ib hb); have n2_ := Aside0.mk (IsS31.below (by repeat (first | exact HI.out | apply IsS31.alloc | apply IsS31.drewN | apply IsS31.drew)) hb); have n3_ := Aside0.mk (blk_below (by repeat (first | exact BP.out | apply blk_drewN | apply blk_drew)) hb); clear hb HB HI BP; have HB := n1_; have HI := n2_; have BP := n3_; clear n1_ n2_ n3_; (try clear hp0 hp1); have hp0 : w5.cell? ⟨gp, 0, none⟩ = some (.int .i64 a1_0) := (blk_cell BP.out 0).trans rfl; have hp1 : w5.cell? ⟨gp, 1, none⟩ = some (.int .i64 a1_1) := (blk_cell BP.out 1).trans rfl) | (go_at_call 55; (with_reducible refine (spec_l02Ok.calls a1_0 a1_1 _ _ A2_.out).mono ?_); rintro e w5 ⟨rfl, hb⟩; have n1_ := Aside0.mk (below_step ib hb); have n2_ := Aside0.mk (IsS31.below (by repeat (first | exact HI.out | apply IsS31.alloc | apply IsS31.drewN | apply IsS31.drew)) hb); have n3_ := Aside0.mk (blk_below (by repeat (first | exact BP.out | apply blk_drewN | apply blk_drew)) hb); clear hb HB HI BP; have HB := n1_; have HI := n2_; have BP := n3_; clear n1_ n2_ n3_; (try clear hp0 hp1); have hp0 : w5.cell? ⟨gp, 0, none⟩ = some (.int .i64 a1_0) := (blk_cell BP.out 0).trans rfl; have hp1 : w5.cell? ⟨gp, 1, none⟩ = some (.int .i64 a1_1) := (blk_cell BP.out 1).trans rfl))
   go_loopg [6] k0 (fun kq v6 w' => ∃ (x6 : Int) (X : Int) (Y : Int), v6 = .int .i64 x6 ∧ Aside0 (spec_FaceAt.l0 kq x6 X Y l0_2 l0_3 a1_0 a1_1 = some (r1, r2)) ∧ Aside0 (kq ≤ k0) ∧ Aside0 (IsS31 w w' gb X Y l0_2 l0_3) ∧ Aside0 (Below w.heap.size w w') ∧ Aside0 (w'.heap[gp]? = some (.cells #[.int .i64 a1_0, .int .i64 a1_1] 48 (0, 0))))
   case atStart => exact ⟨0, x, y, (by first | rfl | (simp; done) | (simp [*]; done)), H', ⟨Nat.le_refl _⟩, ⟨(by repeat (first | exact HI.out | apply IsS31.alloc | apply IsS31.drewN | apply IsS31.drew))⟩, ⟨ib⟩, ⟨(by repeat (first | exact BP.out | apply blk_drewN | apply blk_drew))⟩⟩
   case round =>
    clear H'
    obtain ⟨x6, X, Y, rfl, HA, HK1, HI, HB, BP⟩ := hrel
    (try clear hp0 hp1)
    have hp0 : wr.cell? ⟨gp, 0, none⟩ = some (.int .i64 a1_0) := (blk_cell BP.out 0).trans rfl
    have hp1 : wr.cell? ⟨gp, 1, none⟩ = some (.int .i64 a1_1) := (blk_cell BP.out 1).trans rfl
    cases gk with
    | zero => exact absurd HA.out (by simp [spec_FaceAt.l0])
    | succ k1 =>
     have H := HA.out
     clear HA
     simp only [spec_FaceAt.l0] at H
     by_cases c3 : x6 < (l0_3.length : Int)
     ·rw [if_pos c3] at H
      have c3b0 : decide (x6 < (l0_3.length : Int)) = true := decide_eq_true c3
      clear c3
      replace H := Option.bind_eq_some_iff.mp H
      obtain ⟨⟨pl, X2, Y2⟩, A40, H⟩ := H
      replace H : ((spec_l03Inside.f k1 pl a1_0 a1_1).bind fun t283 => (if t283 ≥ 0 then (some (x6, 0)) else (spec_FaceAt.l0 k1 (wrap64 (x6 + 1)) X2 Y2 l0_2 l0_3 a1_0 a1_1))) = some (r1, r2) := H
      have A4 := Aside0.mk A40
      clear A40
      replace H := Option.bind_eq_some_iff.mp H
      obtain ⟨t5, A50, H⟩ := H
      have A5 := Aside0.mk A50
      clear A50
      by_cases c5 : t5 ≥ 0
      ·have c5b0 : decide (t5 ≥ 0) = true := decide_eq_true c5
       have c5b1 : decide (0 ≤ t5) = true := decide_eq_true c5
       replace H : some (x6, (0 : Int)) = some (r1, r2) := (if_pos c5).symm.trans H
       clear c5
       simp only [Option.some.injEq, Prod.mk.injEq] at H
       obtain ⟨rfl, rfl⟩ := H
       obtain ⟨ASz_2, cSz_2, ASz_3, cSz_3, HGz, hgz, HSz_2, HSz_3⟩ := HI.out
       have hcz_0 := cellS31_0 HGz
       have hcz_1 := cellS31_1 HGz
       have hcz_2 := cellS31_2 HGz
       have hcz_3 := cellS31_3 HGz
       clear HGz hgz
       go_wp2
       have n0_ : Aside0 (IsS31 w wr.drew gb X Y l0_2 l0_3) := ⟨IsS31.drew HI.out⟩
       have n1_ : Aside0 (Below w.heap.size w wr.drew) := ⟨below_drew1 HB.out⟩
       have n2_ : Aside0 (wr.drew.heap[gp]? = some (.cells #[.int .i64 a1_0, .int .i64 a1_1] 48 (0, 0))) := ⟨blk_drew BP.out⟩
       clear HI HB BP hp0 hp1 hcz_0 hcz_1 hcz_2 hcz_3
       have HI := n0_
       have HB := n1_
       have BP := n2_
       clear n0_ n1_ n2_
       refine start_ (n := 5) (S := fun w' => w'.cell? ⟨gp, 0, none⟩ = some (.int .i64 a1_0) ∧ w'.cell? ⟨gp, 1, none⟩ = some (.int .i64 a1_1)) (ds := []) #[fF,fF,fF,fF,fF] (by kernel_rfl) rfl rfl ⟨(blk_cell BP.out 0).trans rfl, (blk_cell BP.out 1).trans rfl⟩ (fun hHeld => ?_); refine with_tabW spec_FaceAt.tab6 spec_FaceAt.bits6 (fun HT_ HW_ => ?_)
       generalize wr.drew = wt at HI HB BP hHeld ⊢
       refine pu 0 21 HT_ ?_
       refine tk 2 23 HT_ HW_ hHeld ?_
       refine on 1 22 HT_ (fun K hK => ?_)
       refine goes_ Try.func48 (by kernel_rfl) rfl #[.pointer (some ⟨gb, 0, none⟩), .int .i64 x6] (by rfl) rfl rfl (by (try simp only [List.map_toArray, List.map_cons, List.map_nil]); first | done | rfl | (simp only [List.length_drop, List.length_take]; rfl)) ?_
       with_reducible refine (spec_l05Polygon.calls k1 gb X Y l0_2 l0_3 x6 _ _ _ w _ (by repeat (first | exact HI.out | apply IsS31.alloc | apply IsS31.drewN | apply IsS31.drew)) ib A4.out).mono ?_
       rintro e w5 ⟨vp, rfl, ho, hi, hb, hk⟩
       refine ⟨_, rfl, ?_⟩
       have HO := Aside0.mk ho
       have n1_ := Aside0.mk hb
       have n2_ := Aside0.mk hi
       have n3_ := Aside0.mk (KeepBut.blk hk (by repeat (first | exact BP.out | apply blk_drewN | apply blk_drew)) NE.out (by simp))
       clear ho hi hb hk HB HI BP
       have HB := n1_
       have HI := n2_
       have BP := n3_
       clear n1_ n2_ n3_
       obtain ⟨Ao8, co8, eo8⟩ := Kd.R_slice HO.out
       subst eo8
       refine hK.out _ _ ⟨(blk_cell BP.out 0).trans rfl, (blk_cell BP.out 1).trans rfl⟩ (fun hHeld => ?_)
       clear hK K
       refine norm_ (a' := ?_) ?_ ?_
       rotate_left
       ·show Act.put _ (some 22) _ = _
        simp only [Act.put, List.setIfInBounds_toArray, List.set_cons_zero, List.set_cons_succ, i64_w, i32_w]
        rfl
       refine on 3 24 HT_ (fun K hK => ?_)
       refine goes_ Try.func56 (by kernel_rfl) rfl #[.slice Ao8 pl.length co8, .agg #[.int .i64 a1_0, .int .i64 a1_1]] (by rfl) rfl rfl (by (try simp only [List.map_toArray, List.map_cons, List.map_nil]); first | done | rfl | (simp only [List.length_drop, List.length_take]; rfl)) ?_
       with_reducible refine (spec_l03Inside.calls k1 _ _ pl a1_0 a1_1 t5 _ (by repeat (first | exact (Kd.R_reads' HO.out).2.2 | (with_reducible refine Kd.C_alloc ?_ _) | (with_reducible refine Kd.C_drewN ?_ _) | (with_reducible refine Kd.C_drew ?_))) (Kd.R_reads' HO.out).2.1 A5.out).mono ?_
       rintro e w5 ⟨rfl, hb⟩
       refine ⟨_, rfl, ?_⟩
       have n1_ := Aside0.mk (below_step ib hb)
       have n2_ := Aside0.mk (IsS31.below (by repeat (first | exact HI.out | apply IsS31.alloc | apply IsS31.drewN | apply IsS31.drew)) hb)
       have n3_ := Aside0.mk (blk_below (by repeat (first | exact BP.out | apply blk_drewN | apply blk_drew)) hb)
       clear hb HB HI BP
       have HB := n1_
       have HI := n2_
       have BP := n3_
       clear n1_ n2_ n3_
       refine hK.out _ _ ⟨(blk_cell BP.out 0).trans rfl, (blk_cell BP.out 1).trans rfl⟩ (fun hHeld => ?_)
       clear hK K
       refine norm_ (a' := ?_) ?_ ?_
       rotate_left
       ·show Act.put _ (some 24) _ = _
        simp only [Act.put, List.setIfInBounds_toArray, List.set_cons_zero, List.set_cons_succ, i64_w, i32_w]
        rfl
       refine pu 4 25 HT_ ?_
       refine done_ (done_of HT_.out (by kernel_rfl)) ?_
       try go_wp2
       go_ret2
       exact ⟨(by first | rfl | (simp; done) | (simp [*]; done)), ib⟩
      ·have c5b0 : decide (t5 ≥ 0) = false := decide_eq_false c5
       have c5b1 : decide (0 ≤ t5) = false := decide_eq_false c5
       replace H : spec_FaceAt.l0 k1 (wrap64 (x6 + 1)) X2 Y2 l0_2 l0_3 a1_0 a1_1 = some (r1, r2) := (if_neg c5).symm.trans H
       clear c5
       have H' := Aside0.mk H
       clear H
       obtain ⟨ASz_2, cSz_2, ASz_3, cSz_3, HGz, hgz, HSz_2, HSz_3⟩ := HI.out
       have hcz_0 := cellS31_0 HGz
       have hcz_1 := cellS31_1 HGz
       have hcz_2 := cellS31_2 HGz
       have hcz_3 := cellS31_3 HGz
       clear HGz hgz
       go_wp2
       have n0_ : Aside0 (IsS31 w wr.drew gb X Y l0_2 l0_3) := ⟨IsS31.drew HI.out⟩
       have n1_ : Aside0 (Below w.heap.size w wr.drew) := ⟨below_drew1 HB.out⟩
       have n2_ : Aside0 (wr.drew.heap[gp]? = some (.cells #[.int .i64 a1_0, .int .i64 a1_1] 48 (0, 0))) := ⟨blk_drew BP.out⟩
       clear HI HB BP hp0 hp1 hcz_0 hcz_1 hcz_2 hcz_3
       have HI := n0_
       have HB := n1_
       have BP := n2_
       clear n0_ n1_ n2_
       refine start_ (n := 5) (S := fun w' => w'.cell? ⟨gp, 0, none⟩ = some (.int .i64 a1_0) ∧ w'.cell? ⟨gp, 1, none⟩ = some (.int .i64 a1_1)) (ds := []) #[fF,fF,fF,fF,fF] (by kernel_rfl) rfl rfl ⟨(blk_cell BP.out 0).trans rfl, (blk_cell BP.out 1).trans rfl⟩ (fun hHeld => ?_); refine with_tabW spec_FaceAt.tab6 spec_FaceAt.bits6 (fun HT_ HW_ => ?_)
       generalize wr.drew = wt at HI HB BP hHeld ⊢
       refine pu 0 21 HT_ ?_
       refine tk 2 23 HT_ HW_ hHeld ?_
       refine on 1 22 HT_ (fun K hK => ?_)
       refine goes_ Try.func48 (by kernel_rfl) rfl #[.pointer (some ⟨gb, 0, none⟩), .int .i64 x6] (by rfl) rfl rfl (by (try simp only [List.map_toArray, List.map_cons, List.map_nil]); first | done | rfl | (simp only [List.length_drop, List.length_take]; rfl)) ?_
       with_reducible refine (spec_l05Polygon.calls k1 gb X Y l0_2 l0_3 x6 _ _ _ w _ (by repeat (first | exact HI.out | apply IsS31.alloc | apply IsS31.drewN | apply IsS31.drew)) ib A4.out).mono ?_
       rintro e w5 ⟨vp, rfl, ho, hi, hb, hk⟩
       refine ⟨_, rfl, ?_⟩
       have HO := Aside0.mk ho
       have n1_ := Aside0.mk hb
       have n2_ := Aside0.mk hi
       have n3_ := Aside0.mk (KeepBut.blk hk (by repeat (first | exact BP.out | apply blk_drewN | apply blk_drew)) NE.out (by simp))
       clear ho hi hb hk HB HI BP
       have HB := n1_
       have HI := n2_
       have BP := n3_
       clear n1_ n2_ n3_
       obtain ⟨Ao8, co8, eo8⟩ := Kd.R_slice HO.out
       subst eo8
       refine hK.out _ _ ⟨(blk_cell BP.out 0).trans rfl, (blk_cell BP.out 1).trans rfl⟩ (fun hHeld => ?_)
       clear hK K
       refine norm_ (a' := ?_) ?_ ?_
       rotate_left
       ·show Act.put _ (some 22) _ = _
        simp only [Act.put, List.setIfInBounds_toArray, List.set_cons_zero, List.set_cons_succ, i64_w, i32_w]
        rfl
       refine on 3 24 HT_ (fun K hK => ?_)
       refine goes_ Try.func56 (by kernel_rfl) rfl #[.slice Ao8 pl.length co8, .agg #[.int .i64 a1_0, .int .i64 a1_1]] (by rfl) rfl rfl (by (try simp only [List.map_toArray, List.map_cons, List.map_nil]); first | done | rfl | (simp only [List.length_drop, List.length_take]; rfl)) ?_
       with_reducible refine (spec_l03Inside.calls k1 _ _ pl a1_0 a1_1 t5 _ (by repeat (first | exact (Kd.R_reads' HO.out).2.2 | (with_reducible refine Kd.C_alloc ?_ _) | (with_reducible refine Kd.C_drewN ?_ _) | (with_reducible refine Kd.C_drew ?_))) (Kd.R_reads' HO.out).2.1 A5.out).mono ?_
       rintro e w5 ⟨rfl, hb⟩
       refine ⟨_, rfl, ?_⟩
       have n1_ := Aside0.mk (below_step ib hb)
       have n2_ := Aside0.mk (IsS31.below (by repeat (first | exact HI.out | apply IsS31.alloc | apply IsS31.drewN | apply IsS31.drew)) hb)
       have n3_ := Aside0.mk (blk_below (by repeat (first | exact BP.out | apply blk_drewN | apply blk_drew)) hb)
       clear hb HB HI BP
       have HB := n1_
       have HI := n2_
       have BP := n3_
       clear n1_ n2_ n3_
       refine hK.out _ _ ⟨(blk_cell BP.out 0).trans rfl, (blk_cell BP.out 1).trans rfl⟩ (fun hHeld => ?_)
       clear hK K
       refine norm_ (a' := ?_) ?_ ?_
       rotate_left
       ·show Act.put _ (some 24) _ = _
        simp only [Act.put, List.setIfInBounds_toArray, List.set_cons_zero, List.set_cons_succ, i64_w, i32_w]
        rfl
       refine pu 4 25 HT_ ?_
       refine done_ (done_of HT_.out (by kernel_rfl)) ?_
       try go_wp2
       go_roundg k1
       case measure => have := HK1.out; omega
       case rel => exact ⟨wrap64 (x6 + 1), X2, Y2, (by first | rfl | (simp; done) | (simp [*]; done)), H', ⟨by have := HK1.out; omega⟩, ⟨(by repeat (first | exact HI.out | apply IsS31.alloc | apply IsS31.drewN | apply IsS31.drew))⟩, ⟨ib⟩, ⟨(by repeat (first | exact BP.out | apply blk_drewN | apply blk_drew))⟩⟩
     ·rw [if_neg c3] at H
      have c3b0 : decide (x6 < (l0_3.length : Int)) = false := decide_eq_false c3
      clear c3
      simp only [Option.some.injEq, Prod.mk.injEq] at H
      obtain ⟨rfl, rfl⟩ := H
      obtain ⟨ASz_2, cSz_2, ASz_3, cSz_3, HGz, hgz, HSz_2, HSz_3⟩ := HI.out
      have hcz_0 := cellS31_0 HGz
      have hcz_1 := cellS31_1 HGz
      have hcz_2 := cellS31_2 HGz
      have hcz_3 := cellS31_3 HGz
      clear HGz hgz
      go_wp2
      go_ret2
      exact ⟨(by first | rfl | (simp; done) | (simp [*]; done)), ib⟩
  | false =>
   replace H : some ((0 : Int), (1 : Int)) = some (r1, r2) := by simpa using H
   simp only [Option.some.injEq, Prod.mk.injEq] at H
   obtain ⟨rfl, rfl⟩ := H
   go_enter Try.func25, Try.ntmps25
   go_wp2_with (first | ((with_reducible refine gate_dst (N := 2) rfl ?_); refine bx (cs := #[.int .i64 a0_0, .int .i64 a0_1, .slice A0_2 l0_2.length c0_2, .slice A0_3 l0_3.length c0_3]) (t := 31) ?_; intro gb hg w3 hbox hb; have HI := Aside0.mk (show IsS31 w w3 gb a0_0 a0_1 l0_2 l0_3 from ⟨A0_2, c0_2, A0_3, c0_3, hbox, Nat.le_of_eq hg.symm, HR0_2.out, HR0_3.out⟩); have n1_ := Aside0.mk (below_step ib hb); clear HB; have HB := n1_; clear n1_ hbox hb hg) | ((with_reducible refine gate_dst (N := 3) rfl ?_); refine bx (cs := #[.int .i64 a1_0, .int .i64 a1_1]) (t := 48) ?_; intro gp hgp w4 hboxp hbp; have NE := Aside0.mk (show gp ≠ gb from by have l_ := IsS31.lt (by repeat (first | exact HI.out | apply IsS31.alloc | apply IsS31.drewN | apply IsS31.drew)); omega); have n0_ := Aside0.mk hboxp; have n1_ := Aside0.mk (below_step ib hbp); have n2_ := Aside0.mk (IsS31.below (by repeat (first | exact HI.out | apply IsS31.alloc | apply IsS31.drewN | apply IsS31.drew)) hbp); clear hboxp hbp HB HI hgp; have BP := n0_; have HB := n1_; have HI := n2_; clear n0_ n1_ n2_; have hp0 : w4.cell? ⟨gp, 0, none⟩ = some (.int .i64 a1_0) := (blk_cell BP.out 0).trans rfl; have hp1 : w4.cell? ⟨gp, 1, none⟩ = some (.int .i64 a1_1) := (blk_cell BP.out 1).trans rfl) | ((with_reducible refine gate_callee (f := 37) rfl ?_); refine goesL_ _ rfl rfl Try.func37 (by kernel_rfl) rfl #[.pointer (some ⟨gb, 0, none⟩)] rfl (by (try simp only [List.map_toArray, List.map_cons, List.map_nil]); first | done | rfl) ?_; (with_reducible refine (spec_l05Ok.calls _ gb a0_0 a0_1 l0_2 l0_3 _ _ _ w _ (by repeat (first | exact HI.out | apply IsS31.alloc | apply IsS31.drewN | apply IsS31.drew)) ib A1_.out).mono ?_); rintro e w5 ⟨rfl, hi, hb, hk⟩; refine ⟨_, rfl, ?_⟩; have n1_ := Aside0.mk hb; have n2_ := Aside0.mk hi; have n3_ := Aside0.mk (KeepBut.blk hk (by repeat (first | exact BP.out | apply blk_drewN | apply blk_drew)) NE.out (by simp)); clear hi hb hk HB HI BP; have HB := n1_; have HI := n2_; have BP := n3_; clear n1_ n2_ n3_; (try clear hp0 hp1); have hp0 : w5.cell? ⟨gp, 0, none⟩ = some (.int .i64 a1_0) := (blk_cell BP.out 0).trans rfl; have hp1 : w5.cell? ⟨gp, 1, none⟩ = some (.int .i64 a1_1) := (blk_cell BP.out 1).trans rfl) | (go_at_call 37; (with_reducible refine (spec_l05Ok.calls _ gb a0_0 a0_1 l0_2 l0_3 _ _ _ w _ (by repeat (first | exact HI.out | apply IsS31.alloc | apply IsS31.drewN | apply IsS31.drew)) ib A1_.out).mono ?_); rintro e w5 ⟨rfl, hi, hb, hk⟩; have n1_ := Aside0.mk hb; have n2_ := Aside0.mk hi; have n3_ := Aside0.mk (KeepBut.blk hk (by repeat (first | exact BP.out | apply blk_drewN | apply blk_drew)) NE.out (by simp)); clear hi hb hk HB HI BP; have HB := n1_; have HI := n2_; have BP := n3_; clear n1_ n2_ n3_; (try clear hp0 hp1); have hp0 : w5.cell? ⟨gp, 0, none⟩ = some (.int .i64 a1_0) := (blk_cell BP.out 0).trans rfl; have hp1 : w5.cell? ⟨gp, 1, none⟩ = some (.int .i64 a1_1) := (blk_cell BP.out 1).trans rfl) | ((with_reducible refine gate_callee (f := 55) rfl ?_); refine goesL_ _ rfl rfl Try.func55 (by kernel_rfl) rfl #[.agg #[.int .i64 a1_0, .int .i64 a1_1]] rfl (by (try simp only [List.map_toArray, List.map_cons, List.map_nil]); first | done | rfl) ?_; (with_reducible refine (spec_l02Ok.calls a1_0 a1_1 _ _ A2_.out).mono ?_); rintro e w5 ⟨rfl, hb⟩; refine ⟨_, rfl, ?_⟩; have n1_ := Aside0.mk (below_step ib hb); have n2_ := Aside0.mk (IsS31.below (by repeat (first | exact HI.out | apply IsS31.alloc | apply IsS31.drewN | apply IsS31.drew)) hb); have n3_ := Aside0.mk (blk_below (by repeat (first | exact BP.out | apply blk_drewN | apply blk_drew)) hb); clear hb HB HI BP; have HB := n1_; have HI := n2_; have BP := n3_; clear n1_ n2_ n3_; (try clear hp0 hp1); have hp0 : w5.cell? ⟨gp, 0, none⟩ = some (.int .i64 a1_0) := (blk_cell BP.out 0).trans rfl; have hp1 : w5.cell? ⟨gp, 1, none⟩ = some (.int .i64 a1_1) := (blk_cell BP.out 1).trans rfl) | (go_at_call 55; (with_reducible refine (spec_l02Ok.calls a1_0 a1_1 _ _ A2_.out).mono ?_); rintro e w5 ⟨rfl, hb⟩; have n1_ := Aside0.mk (below_step ib hb); have n2_ := Aside0.mk (IsS31.below (by repeat (first | exact HI.out | apply IsS31.alloc | apply IsS31.drewN | apply IsS31.drew)) hb); have n3_ := Aside0.mk (blk_below (by repeat (first | exact BP.out | apply blk_drewN | apply blk_drew)) hb); clear hb HB HI BP; have HB := n1_; have HI := n2_; have BP := n3_; clear n1_ n2_ n3_; (try clear hp0 hp1); have hp0 : w5.cell? ⟨gp, 0, none⟩ = some (.int .i64 a1_0) := (blk_cell BP.out 0).trans rfl; have hp1 : w5.cell? ⟨gp, 1, none⟩ = some (.int .i64 a1_1) := (blk_cell BP.out 1).trans rfl))
   go_ret2
   exact ⟨(by first | rfl | (simp; done) | (simp [*]; done)), ib⟩
 | false =>
  cases k with
  | zero => exact absurd H (by simp [spec_FaceAt.j0])
  | succ k0 =>
  simp only [spec_FaceAt.j0] at H
  replace H : some ((0 : Int), (1 : Int)) = some (r1, r2) := by simpa using H
  simp only [Option.some.injEq, Prod.mk.injEq] at H
  obtain ⟨rfl, rfl⟩ := H
  go_enter Try.func25, Try.ntmps25
  go_wp2_with (first | ((with_reducible refine gate_dst (N := 2) rfl ?_); refine bx (cs := #[.int .i64 a0_0, .int .i64 a0_1, .slice A0_2 l0_2.length c0_2, .slice A0_3 l0_3.length c0_3]) (t := 31) ?_; intro gb hg w3 hbox hb; have HI := Aside0.mk (show IsS31 w w3 gb a0_0 a0_1 l0_2 l0_3 from ⟨A0_2, c0_2, A0_3, c0_3, hbox, Nat.le_of_eq hg.symm, HR0_2.out, HR0_3.out⟩); have n1_ := Aside0.mk (below_step ib hb); clear HB; have HB := n1_; clear n1_ hbox hb hg) | ((with_reducible refine gate_dst (N := 3) rfl ?_); refine bx (cs := #[.int .i64 a1_0, .int .i64 a1_1]) (t := 48) ?_; intro gp hgp w4 hboxp hbp; have NE := Aside0.mk (show gp ≠ gb from by have l_ := IsS31.lt (by repeat (first | exact HI.out | apply IsS31.alloc | apply IsS31.drewN | apply IsS31.drew)); omega); have n0_ := Aside0.mk hboxp; have n1_ := Aside0.mk (below_step ib hbp); have n2_ := Aside0.mk (IsS31.below (by repeat (first | exact HI.out | apply IsS31.alloc | apply IsS31.drewN | apply IsS31.drew)) hbp); clear hboxp hbp HB HI hgp; have BP := n0_; have HB := n1_; have HI := n2_; clear n0_ n1_ n2_; have hp0 : w4.cell? ⟨gp, 0, none⟩ = some (.int .i64 a1_0) := (blk_cell BP.out 0).trans rfl; have hp1 : w4.cell? ⟨gp, 1, none⟩ = some (.int .i64 a1_1) := (blk_cell BP.out 1).trans rfl) | ((with_reducible refine gate_callee (f := 37) rfl ?_); refine goesL_ _ rfl rfl Try.func37 (by kernel_rfl) rfl #[.pointer (some ⟨gb, 0, none⟩)] rfl (by (try simp only [List.map_toArray, List.map_cons, List.map_nil]); first | done | rfl) ?_; (with_reducible refine (spec_l05Ok.calls _ gb a0_0 a0_1 l0_2 l0_3 _ _ _ w _ (by repeat (first | exact HI.out | apply IsS31.alloc | apply IsS31.drewN | apply IsS31.drew)) ib A1_.out).mono ?_); rintro e w5 ⟨rfl, hi, hb, hk⟩; refine ⟨_, rfl, ?_⟩; have n1_ := Aside0.mk hb; have n2_ := Aside0.mk hi; have n3_ := Aside0.mk (KeepBut.blk hk (by repeat (first | exact BP.out | apply blk_drewN | apply blk_drew)) NE.out (by simp)); clear hi hb hk HB HI BP; have HB := n1_; have HI := n2_; have BP := n3_; clear n1_ n2_ n3_; (try clear hp0 hp1); have hp0 : w5.cell? ⟨gp, 0, none⟩ = some (.int .i64 a1_0) := (blk_cell BP.out 0).trans rfl; have hp1 : w5.cell? ⟨gp, 1, none⟩ = some (.int .i64 a1_1) := (blk_cell BP.out 1).trans rfl) | (go_at_call 37; (with_reducible refine (spec_l05Ok.calls _ gb a0_0 a0_1 l0_2 l0_3 _ _ _ w _ (by repeat (first | exact HI.out | apply IsS31.alloc | apply IsS31.drewN | apply IsS31.drew)) ib A1_.out).mono ?_); rintro e w5 ⟨rfl, hi, hb, hk⟩; have n1_ := Aside0.mk hb; have n2_ := Aside0.mk hi; have n3_ := Aside0.mk (KeepBut.blk hk (by repeat (first | exact BP.out | apply blk_drewN | apply blk_drew)) NE.out (by simp)); clear hi hb hk HB HI BP; have HB := n1_; have HI := n2_; have BP := n3_; clear n1_ n2_ n3_; (try clear hp0 hp1); have hp0 : w5.cell? ⟨gp, 0, none⟩ = some (.int .i64 a1_0) := (blk_cell BP.out 0).trans rfl; have hp1 : w5.cell? ⟨gp, 1, none⟩ = some (.int .i64 a1_1) := (blk_cell BP.out 1).trans rfl) | ((with_reducible refine gate_callee (f := 55) rfl ?_); refine goesL_ _ rfl rfl Try.func55 (by kernel_rfl) rfl #[.agg #[.int .i64 a1_0, .int .i64 a1_1]] rfl (by (try simp only [List.map_toArray, List.map_cons, List.map_nil]); first | done | rfl) ?_; (with_reducible refine (spec_l02Ok.calls a1_0 a1_1 _ _ A2_.out).mono ?_); rintro e w5 ⟨rfl, hb⟩; refine ⟨_, rfl, ?_⟩; have n1_ := Aside0.mk (below_step ib hb); have n2_ := Aside0.mk (IsS31.below (by repeat (first | exact HI.out | apply IsS31.alloc | apply IsS31.drewN | apply IsS31.drew)) hb); have n3_ := Aside0.mk (blk_below (by repeat (first | exact BP.out | apply blk_drewN | apply blk_drew)) hb); clear hb HB HI BP; have HB := n1_; have HI := n2_; have BP := n3_; clear n1_ n2_ n3_; (try clear hp0 hp1); have hp0 : w5.cell? ⟨gp, 0, none⟩ = some (.int .i64 a1_0) := (blk_cell BP.out 0).trans rfl; have hp1 : w5.cell? ⟨gp, 1, none⟩ = some (.int .i64 a1_1) := (blk_cell BP.out 1).trans rfl) | (go_at_call 55; (with_reducible refine (spec_l02Ok.calls a1_0 a1_1 _ _ A2_.out).mono ?_); rintro e w5 ⟨rfl, hb⟩; have n1_ := Aside0.mk (below_step ib hb); have n2_ := Aside0.mk (IsS31.below (by repeat (first | exact HI.out | apply IsS31.alloc | apply IsS31.drewN | apply IsS31.drew)) hb); have n3_ := Aside0.mk (blk_below (by repeat (first | exact BP.out | apply blk_drewN | apply blk_drew)) hb); clear hb HB HI BP; have HB := n1_; have HI := n2_; have BP := n3_; clear n1_ n2_ n3_; (try clear hp0 hp1); have hp0 : w5.cell? ⟨gp, 0, none⟩ = some (.int .i64 a1_0) := (blk_cell BP.out 0).trans rfl; have hp1 : w5.cell? ⟨gp, 1, none⟩ = some (.int .i64 a1_1) := (blk_cell BP.out 1).trans rfl))
  go_ret2
  exact ⟨(by first | rfl | (simp; done) | (simp [*]; done)), ib⟩
def impl_within.f (a0 : Int) (a1 : Int) (a2 : Int) : Option (Bool) := if a0 ≥ a1 then (some (decide (a0 ≤ a2))) else (some false)
set_option maxHeartbeats 8000000 in
set_option maxRecDepth 100000 in
theorem impl_within.calls (a0 : Int) (a1 : Int) (a2 : Int) (r : Bool) (w : World) (h : impl_within.f a0 a1 a2 = some r) :
  Calls Try.prog 40 #[.int .i64 a0, .int .i64 a1, .int .i64 a2] w fun e w' => e = .returned (.bool r) ∧ Drawn0 w w' := by
 have H : (if a0 ≥ a1 then (some (decide (a0 ≤ a2))) else (some false)) = some r := h
 clear h
 by_cases c4 : a0 ≥ a1
 ·rw [if_pos c4] at H
  have c4b0 : decide (a1 ≤ a0) = true := decide_eq_true c4
  clear c4
  obtain rfl := Option.some.inj H
  go_enter Try.func40, Try.ntmps40
  go_wp2
  go_ret
  exact ⟨by first | rfl | (simp; done) | (simp [*]; done), by repeat (first | exact Drawn0.refl _ | apply Drawn0.step)⟩
 ·rw [if_neg c4] at H
  have c4b0 : decide (a1 ≤ a0) = false := decide_eq_false c4
  clear c4
  obtain rfl := Option.some.inj H
  go_enter Try.func40, Try.ntmps40
  go_wp2
  go_ret
  exact ⟨by first | rfl | (simp; done) | (simp [*]; done), by repeat (first | exact Drawn0.refl _ | apply Drawn0.step)⟩
def impl_Point_71.l0 : Nat → List (S48) → Int → Int → Int → Int → Option (Int)
 | 0, _, _, _, _, _ => none
 | k + 1, x0, x7, x8, x285000, x285001 => if x8 < x7 then (if 0 ≤ x8 then (if x8 < (x0.length : Int) then (if (x285000 == ((rd_T48 x0 x8).f0) && (x285001 == ((rd_T48 x0 x8).f1))) = true then (some x8) else (impl_Point_71.l0 k x0 x7 (wrap64 (x8 + 1)) x285000 x285001)) else (none)) else (none)) else (some (-1))
def impl_Point_71.f (k : Nat) (l0 : List (S48)) (a1_0 : Int) (a1_1 : Int) : Option (Int) := impl_Point_71.l0 k l0 (l0.length : Int) 0 a1_0 a1_1
theorem impl_Point_71.mono_l : ∀ k, (∀ y0 y1 y2 y3 y4, LeO (impl_Point_71.l0 k y0 y1 y2 y3 y4) (impl_Point_71.l0 (k + 1) y0 y1 y2 y3 y4))
 | 0 => fun _ _ _ _ _ r h => by simp [impl_Point_71.l0] at h
 | k + 1 => by
  have ih0 := impl_Point_71.mono_l k
  ·intro y0 y1 y2 y3 y4
   unfold impl_Point_71.l0
   repeat' first
   | (with_reducible exact ih0 _ _ _ _ _)
   | (with_reducible exact LeO.refl _)
   | (with_reducible exact LeO.none _)
   | (with_reducible refine LeO.ite ?_ ?_)
   | (with_reducible refine LeO.bind ?_ (fun _ => ?_))
   | exact ih0 _ _ _ _ _
   | exact LeO.none _
   | refine LeO.ite ?_ ?_
   | refine LeO.bind ?_ (fun _ => ?_)
theorem impl_Point_71.mono : ∀ a0 a1 a2 k, LeO (impl_Point_71.f k a0 a1 a2) (impl_Point_71.f (k + 1) a0 a1 a2) := by
 intro a0 a1 a2 k
 have ih0 := impl_Point_71.mono_l k
 unfold impl_Point_71.f
 repeat' first
   | (with_reducible exact ih0 _ _ _ _ _)
   | (with_reducible exact LeO.refl _)
   | (with_reducible exact LeO.none _)
   | (with_reducible refine LeO.ite ?_ ?_)
   | (with_reducible refine LeO.bind ?_ (fun _ => ?_))
   | exact ih0 _ _ _ _ _
   | exact LeO.none _
   | refine LeO.ite ?_ ?_
   | refine LeO.bind ?_ (fun _ => ?_)
set_option maxHeartbeats 8000000 in
set_option maxRecDepth 100000 in
theorem impl_Point_71.calls (k : Nat) (A0 : Option Addr) (c0 : Nat) (l0 : List (S48)) (a1_0 : Int) (a1_1 : Int) (r : Int) (w : World) (hr0 : Kd.C k48 w A0 l0.length l0) (hc0 : l0.length ≤ c0) (h : impl_Point_71.f k l0 a1_0 a1_1 = some r) :
  Calls Try.prog 71 #[.slice A0 l0.length c0, .agg #[.int .i64 a1_0, .int .i64 a1_1]] w fun e w' => e = .returned (.int .i64 r) ∧ Below w.heap.size w w' := by
 have hu48 := Try.underlying48
 have HR0 := Aside0.mk hr0
 have HC0 := Aside0.mk hc0
 clear hr0 hc0
 have HB := Aside0.mk (Below.refl w.heap.size w)
 have H : (impl_Point_71.l0 k l0 (l0.length : Int) 0 a1_0 a1_1) = some r := h
 clear h
 have H' := Aside0.mk H
 clear H
 go_enter Try.func71, Try.ntmps71
 go_wp2_with (first | ((with_reducible refine gate_dst (N := 3) rfl ?_); refine bx (cs := #[.int .i64 a1_0, .int .i64 a1_1]) (t := 48) ?_; intro gb284 hg w3 hbox hb; have n0_ := sb hb; have n1_ := Aside0.mk (hbox); have n2_ := zb hg; have n3_ := zb hg; clear HB; have HB := n0_; have BK284 := n1_; have GW284 := n2_; have GE284 := n3_; clear n0_ n1_ n2_ n3_; clear hb hbox hg))
 repeat (go_quiet (first | ((with_reducible refine gate_dst (N := 3) rfl ?_); refine bx (cs := #[.int .i64 a1_0, .int .i64 a1_1]) (t := 48) ?_; intro gb284 hg w3 hbox hb; have n0_ := sb hb; have n1_ := Aside0.mk (hbox); have n2_ := zb hg; have n3_ := zb hg; clear HB; have HB := n0_; have BK284 := n1_; have GW284 := n2_; have GE284 := n3_; clear n0_ n1_ n2_ n3_; clear hb hbox hg)); try go_wp2_with (first | ((with_reducible refine gate_dst (N := 3) rfl ?_); refine bx (cs := #[.int .i64 a1_0, .int .i64 a1_1]) (t := 48) ?_; intro gb284 hg w3 hbox hb; have n0_ := sb hb; have n1_ := Aside0.mk (hbox); have n2_ := zb hg; have n3_ := zb hg; clear HB; have HB := n0_; have BK284 := n1_; have GW284 := n2_; have GE284 := n3_; clear n0_ n1_ n2_ n3_; clear hb hbox hg)))
 go_loopg [8] k (fun kq v8 w' => ∃ (x8_1 : Int), v8 = .int .i64 x8_1 ∧ Aside0 (impl_Point_71.l0 kq l0 (l0.length : Int) x8_1 a1_0 a1_1 = some r) ∧ Aside0 (kq ≤ k) ∧ Aside0 (w'.heap[gb284]? = some (.cells #[.int .i64 a1_0, .int .i64 a1_1] 48 (0, 0))) ∧ Aside0 (Below w.heap.size w w'))
 case atStart => exact ⟨(0), (by first | rfl | (simp; done) | (simp [*]; done)), H', ⟨Nat.le_refl _⟩, ⟨by exact bk BK284⟩, ⟨by repeat (first | (with_reducible first | exact HB.out | apply below_alloc | apply pw_below_drewN | apply below_drew1 | refine below_set ?_ GE284.out) | exact HB.out)⟩⟩
 case round =>
  clear H'
  try clear p2
  obtain ⟨x8_1, rfl, HA, HK1, BK284, HB⟩ := hrel
  cases gk with
  | zero => exact absurd HA.out (by simp [impl_Point_71.l0])
  | succ k1 =>
   have H := HA.out
   clear HA
   simp only [impl_Point_71.l0] at H
   by_cases c4 : x8_1 < (l0.length : Int)
   ·rw [if_pos c4] at H
    have c4b0 : decide (x8_1 < (l0.length : Int)) = true := decide_eq_true c4
    clear c4
    by_cases c5 : 0 ≤ x8_1
    ·rw [if_pos c5] at H
     have c5b0 : decide (0 ≤ x8_1) = true := decide_eq_true c5
     clear c5
     by_cases c6 : x8_1 < (l0.length : Int)
     ·rw [if_pos c6] at H
      have c6b0 : decide (x8_1 < (l0.length : Int)) = true := decide_eq_true c6
      clear c6
      by_cases c7 : (a1_0 == ((rd_T48 l0 x8_1).f0) && (a1_1 == ((rd_T48 l0 x8_1).f1))) = true
      ·rw [if_pos c7] at H
       have c7b0 : (a1_0 == ((rd_T48 l0 x8_1).f0) && (a1_1 == ((rd_T48 l0 x8_1).f1))) = true := c7
       (try (have c7b1 : decide (a1_0 = ((rd_T48 l0 x8_1).f0) && (a1_1 == ((rd_T48 l0 x8_1).f1))) = true := by simpa using c7))
       (try (have c7b2 : (a1_0 == ((rd_T48 l0 x8_1).f0) && (a1_1 == ((rd_T48 l0 x8_1).f1))) = true := by simpa using c7))
       clear c7
       obtain rfl := Option.some.inj H
       have hcz8_0 : wr.cell? ⟨gb284, 0, none⟩ = some (.int .i64 a1_0) := (blk_cell BK284.out 0).trans rfl
       have hcz8_1 : wr.cell? ⟨gb284, 1, none⟩ = some (.int .i64 a1_1) := (blk_cell BK284.out 1).trans rfl
       have hfz8_0 := blk_frozen BK284.out 0
       have hfz8_1 := blk_frozen BK284.out 1
       have p285 : 0 ≤ (x8_1 : Int) := da
       have q285 : x8_1 < (l0.length : Int) := da
       obtain ⟨ad285, e285, hx285_0, hx285_1⟩ := at_T48 HR0.out x8_1 p285 q285
       cases e285
       replace hx285_0 := (HB.out.cell (bL w _ hx285_0)).trans hx285_0
       replace hx285_1 := (HB.out.cell (bL w _ hx285_1)).trans hx285_1
       replace p285 := eq_true p285
       replace q285 := eq_true q285
       go_wp2
       repeat (go_quiet (fail); try go_wp2)
       go_ret
       exact ⟨by first | rfl | (simp [errW_none, errW_some] <;> rfl) | (simp [*, errW_none, errW_some] <;> rfl), by repeat (first | (with_reducible first | exact HB.out | apply below_alloc | apply pw_below_drewN | apply below_drew1 | refine below_set ?_ GE284.out) | exact HB.out)⟩
      ·rw [if_neg c7] at H
       have c7b0 : (a1_0 == ((rd_T48 l0 x8_1).f0) && (a1_1 == ((rd_T48 l0 x8_1).f1))) = false := by simpa using c7
       (try (have c7b1 : decide (a1_0 = ((rd_T48 l0 x8_1).f0) && (a1_1 == ((rd_T48 l0 x8_1).f1))) = false := by simpa using c7))
       (try (have c7b2 : (a1_0 == ((rd_T48 l0 x8_1).f0) && (a1_1 == ((rd_T48 l0 x8_1).f1))) = false := by simpa using c7))
       (try (have c7b3 : ¬ (a1_0 = ((rd_T48 l0 x8_1).f0) && (a1_1 == ((rd_T48 l0 x8_1).f1))) := by simpa using c7))
       clear c7
       have H' := Aside0.mk H
       clear H
       have hcz9_0 : wr.cell? ⟨gb284, 0, none⟩ = some (.int .i64 a1_0) := (blk_cell BK284.out 0).trans rfl
       have hcz9_1 : wr.cell? ⟨gb284, 1, none⟩ = some (.int .i64 a1_1) := (blk_cell BK284.out 1).trans rfl
       have hfz9_0 := blk_frozen BK284.out 0
       have hfz9_1 := blk_frozen BK284.out 1
       have p285 : 0 ≤ (x8_1 : Int) := da
       have q285 : x8_1 < (l0.length : Int) := da
       obtain ⟨ad285, e285, hx285_0, hx285_1⟩ := at_T48 HR0.out x8_1 p285 q285
       cases e285
       replace hx285_0 := (HB.out.cell (bL w _ hx285_0)).trans hx285_0
       replace hx285_1 := (HB.out.cell (bL w _ hx285_1)).trans hx285_1
       replace p285 := eq_true p285
       replace q285 := eq_true q285
       go_wp2
       repeat (go_quiet (fail); try go_wp2)
       go_roundg k1
       case measure => have := HK1.out; omega
       case rel => exact ⟨(wrap64 (x8_1 + 1)), (by first | rfl | (simp; done) | (simp [*]; done)), H', ⟨by have := HK1.out; omega⟩, ⟨by exact bk BK284⟩, ⟨by repeat (first | (with_reducible first | exact HB.out | apply below_alloc | apply pw_below_drewN | apply below_drew1 | refine below_set ?_ GE284.out) | exact HB.out)⟩⟩
     ·first | (exfalso; have z_ := of_decide_eq_true c4b0; omega) | (rw [if_neg c6] at H; exact absurd H (by simp))
    ·rw [if_neg c5] at H
     exact absurd H (by simp)
   ·rw [if_neg c4] at H
    have c4b0 : decide (x8_1 < (l0.length : Int)) = false := decide_eq_false c4
    clear c4
    obtain rfl := Option.some.inj H
    go_wp2
    repeat (go_quiet (fail); try go_wp2)
    go_ret
    exact ⟨by first | rfl | (simp [errW_none, errW_some] <;> rfl) | (simp [*, errW_none, errW_some] <;> rfl), by repeat (first | (with_reducible first | exact HB.out | apply below_alloc | apply pw_below_drewN | apply below_drew1 | refine below_set ?_ GE284.out) | exact HB.out)⟩
def impl_Point_41.f (k : Nat) (l0 : List (S48)) (a1_0 : Int) (a1_1 : Int) : Option (Bool) := (impl_Point_71.f k l0 a1_0 a1_1).bind fun t287 => (some (decide (t287 ≥ 0)))
theorem impl_Point_41.mono : ∀ a0 a1 a2 k, LeO (impl_Point_41.f k a0 a1 a2) (impl_Point_41.f (k + 1) a0 a1 a2) := by
 intro a0 a1 a2 k
 unfold impl_Point_41.f
 repeat' first
   | (with_reducible exact impl_Point_71.mono _ _ _ _)
   | (with_reducible exact LeO.refl _)
   | (with_reducible exact LeO.none _)
   | (with_reducible refine LeO.ite ?_ ?_)
   | (with_reducible refine LeO.bind ?_ (fun _ => ?_))
   | exact impl_Point_71.mono _ _ _ _
   | exact LeO.none _
   | refine LeO.ite ?_ ?_
   | refine LeO.bind ?_ (fun _ => ?_)
set_option maxHeartbeats 8000000 in
set_option maxRecDepth 100000 in
theorem impl_Point_41.calls (k : Nat) (A0 : Option Addr) (c0 : Nat) (l0 : List (S48)) (a1_0 : Int) (a1_1 : Int) (r : Bool) (w : World) (hr0 : Kd.C k48 w A0 l0.length l0) (hc0 : l0.length ≤ c0) (h : impl_Point_41.f k l0 a1_0 a1_1 = some r) :
  Calls Try.prog 41 #[.slice A0 l0.length c0, .agg #[.int .i64 a1_0, .int .i64 a1_1]] w fun e w' => e = .returned (.bool r) ∧ Below w.heap.size w w' := by
 have hu48 := Try.underlying48
 have HR0 := Aside0.mk hr0
 have HC0 := Aside0.mk hc0
 clear hr0 hc0
 have HB := Aside0.mk (Below.refl w.heap.size w)
 have H : ((impl_Point_71.f k l0 a1_0 a1_1).bind fun t287 => (some (decide (t287 ≥ 0)))) = some r := h
 clear h
 replace H := Option.bind_eq_some_iff.mp H
 obtain ⟨t287, A30, H⟩ := H
 replace H : (some (decide (t287 ≥ 0))) = some r := H
 have A3 := Aside0.mk A30
 clear A30
 obtain rfl := Option.some.inj H
 go_enter Try.func41, Try.ntmps41
 go_wp2_with (first | ((with_reducible refine gate_dst (N := 3) rfl ?_); refine bx (cs := #[.int .i64 a1_0, .int .i64 a1_1]) (t := 48) ?_; intro gb286 hg w4 hbox hb; have n0_ := sb hb; have n1_ := Aside0.mk (hbox); have n2_ := zb hg; have n3_ := zb hg; clear HB; have HB := n0_; have BK286 := n1_; have GW286 := n2_; have GE286 := n3_; clear n0_ n1_ n2_ n3_; clear hb hbox hg; have hcz5_0 := ck BK286 0; have hcz5_1 := ck BK286 1; have hfz5_0 := blk_frozen BK286.out 0; have hfz5_1 := blk_frozen BK286.out 1) | ((with_reducible refine gate_callee (f := 71) rfl ?_); refine goesL_ (some 7) rfl rfl Try.func71 (by kernel_rfl) rfl #[.slice A0 l0.length c0, .agg #[.int .i64 a1_0, .int .i64 a1_1]] rfl (by (try simp only [List.map_toArray, List.map_cons, List.map_nil]); first | done | rfl | (simp only [List.length_drop, List.length_take]; rfl)) ?_; (with_reducible refine (impl_Point_71.calls k _ _ l0 a1_0 a1_1 t287 _ ?side1 ?side2 A3.out).mono ?_); (case side1 => repeat (first | exact (Kd.C_below HR0.out HB.out) | (with_reducible refine Kd.C_alloc ?_ _) | (with_reducible refine Kd.C_drewN ?_ _) | (with_reducible refine Kd.C_drew ?_))); (case side2 => exact HC0.out); rintro e w6 ⟨rfl, hb⟩; refine ⟨_, rfl, ?_⟩; have n0_ := kb BK286 hb; have n1_ := sb hb; clear BK286; clear HB; have BK286 := n0_; have HB := n1_; clear n0_ n1_; (try clear hb); (try clear hb2); (try clear hk); (try clear hi)))
 go_ret
 exact ⟨by first | rfl | (simp [errW_none, errW_some] <;> rfl) | (simp [*, errW_none, errW_some] <;> rfl), by repeat (first | (with_reducible first | exact HB.out | apply below_alloc | apply pw_below_drewN | apply below_drew1 | refine below_set ?_ GE286.out) | exact HB.out)⟩
end Go.Proofs.Ytlfifbalakgfeaa.PFnExactFaceAt
