/- Contracts of functions that FnExactPolygonDistance reaches, out of the lines of the kit's print. -/
import Derived.Test.YtkobmkdjmpnojaaQFnExactPolygonDistancex0
import Derived.Test.YtkobmkdjmpnojaaQFnExactPolygonDistancex12
namespace Go.Proofs.Ytkobmkdjmpnojaa.PFnExactPolygonDistance
open Go.RowKit Go.Proofs.YtkobmkdjmpnojaaW.PrintWords Go.Proofs.YtkobmkdjmpnojaaW.PrintLast Go.Proofs.YtkobmkdjmpnojaaW.PrintMore
open Bool renaming true → tT, false → fF
open Go.World renaming block_lt_of_cell? → bL
attribute [local go_sem] max2_int min2_int max_two min_two max_three min_three max_four min_four
set_option linter.unusedVariables false
set_option linter.unusedSimpArgs false
mutual
def impl_gap.j0 : Nat → List (S30) → List (S30) → Bool → Option (Int)
 | 0,_,_,_ => none
 | k + 1,x0,x1,x22 => if x22 = true then (some 0) else (impl_gap.l0 k x0 x1 (-1) (x0.length : Int) 0)
def impl_gap.l0 : Nat → List (S30) → List (S30) → Int → Int → Int → Option (Int)
 | 0,_,_,_,_,_ => none
 | k + 1,x0,x1,x5,x24,x25 => if x25 < x24 then (impl_gap.l1 k x0 x1 x5 x25 x24 x25 (x1.length : Int) 0) else (some x5)
def impl_gap.l1 : Nat → List (S30) → List (S30) → Int → Int → Int → Int → Int → Int → Option (Int)
 | 0,_,_,_,_,_,_,_,_ => none
 | k + 1,x0,x1,x5,x6,x24,x25,x29,x30 => if x30 < x29 then (if 0 ≤ x6 then (if x6 < (x0.length : Int) then (if (x0.length : Int) = 0 then (none) else (if 0 ≤ (Int.tmod (wrap64 (x6 + 1)) (x0.length : Int)) then (if (Int.tmod (wrap64 (x6 + 1)) (x0.length : Int)) < (x0.length : Int) then (if 0 ≤ x30 then (if x30 < (x1.length : Int) then (if (x1.length : Int) = 0 then (none) else (if 0 ≤ (Int.tmod (wrap64 (x30 + 1)) (x1.length : Int)) then (if (Int.tmod (wrap64 (x30 + 1)) (x1.length : Int)) < (x1.length : Int) then ((impl_betweenSegments.f k ((rd_T30 x0 x6).f0) ((rd_T30 x0 x6).f1) ((rd_T30 x0 (Int.tmod (wrap64 (x6 + 1)) (x0.length : Int))).f0) ((rd_T30 x0 (Int.tmod (wrap64 (x6 + 1)) (x0.length : Int))).f1) ((rd_T30 x1 x30).f0) ((rd_T30 x1 x30).f1) ((rd_T30 x1 (Int.tmod (wrap64 (x30 + 1)) (x1.length : Int))).f0) ((rd_T30 x1 (Int.tmod (wrap64 (x30 + 1)) (x1.length : Int))).f1)).bind fun t316 => (if x5 < 0 then (impl_gap.l1 k x0 x1 t316 x6 x24 x25 x29 (wrap64 (x30 + 1))) else (if t316 < x5 then (impl_gap.l1 k x0 x1 t316 x6 x24 x25 x29 (wrap64 (x30 + 1))) else (impl_gap.l1 k x0 x1 x5 x6 x24 x25 x29 (wrap64 (x30 + 1)))))) else (none)) else (none))) else (none)) else (none)) else (none)) else (none))) else (none)) else (none)) else (impl_gap.l0 k x0 x1 x5 x24 (wrap64 (x25 + 1)))
end
def impl_gap.f (k : Nat) (l0 : List (S30)) (l1 : List (S30)) : Option (Int):=if 0 < (l1.length : Int) then ((impl_inside.f k l0 ((rd_T30 l1 0).f0) ((rd_T30 l1 0).f1)).bind fun t309 => (if t309 ≥ 0 then (impl_gap.j0 k l0 l1 true) else (if 0 < (l0.length : Int) then ((impl_inside.f k l1 ((rd_T30 l0 0).f0) ((rd_T30 l0 0).f1)).bind fun t311 => (impl_gap.j0 k l0 l1 (decide (t311 ≥ 0)))) else (none)))) else (none)
theorem impl_gap.mono_l : ∀ k,(∀ y0 y1 y2,LeO (impl_gap.j0 k y0 y1 y2) (impl_gap.j0 (k + 1) y0 y1 y2)) ∧ (∀ y0 y1 y2 y3 y4,LeO (impl_gap.l0 k y0 y1 y2 y3 y4) (impl_gap.l0 (k + 1) y0 y1 y2 y3 y4)) ∧ (∀ y0 y1 y2 y3 y4 y5 y6 y7,LeO (impl_gap.l1 k y0 y1 y2 y3 y4 y5 y6 y7) (impl_gap.l1 (k + 1) y0 y1 y2 y3 y4 y5 y6 y7))
 | 0 => ⟨fun _ _ _ r h => by simp [impl_gap.j0] at h,fun _ _ _ _ _ r h => by simp [impl_gap.l0] at h,fun _ _ _ _ _ _ _ _ r h => by simp [impl_gap.l1] at h⟩
 | k + 1 => by
  obtain ⟨ih0,ih1,ih2⟩:=impl_gap.mono_l k
  refine ⟨?_,?_,?_⟩
  ·intro y0 y1 y2
   unfold impl_gap.j0
   repeat' first
   | (with_reducible exact ih0 _ _ _)
   | (with_reducible exact ih1 _ _ _ _ _)
   | (with_reducible exact ih2 _ _ _ _ _ _ _ _)
   | (with_reducible exact impl_betweenSegments.mono _ _ _ _ _ _ _ _ _)
   | (with_reducible exact impl_inside.mono _ _ _ _)
   | (with_reducible exact LeO.refl _)
   | (with_reducible exact LeO.none _)
   | (with_reducible refine LeO.ite ?_ ?_)
   | (with_reducible refine LeO.bind ?_ (fun _ => ?_))
   | exact ih0 _ _ _
   | exact ih1 _ _ _ _ _
   | exact ih2 _ _ _ _ _ _ _ _
   | exact impl_betweenSegments.mono _ _ _ _ _ _ _ _ _
   | exact impl_inside.mono _ _ _ _
   | exact LeO.none _
   | refine LeO.ite ?_ ?_
   | refine LeO.bind ?_ (fun _ => ?_)
  ·intro y0 y1 y2 y3 y4
   unfold impl_gap.l0
   repeat' first
   | (with_reducible exact ih0 _ _ _)
   | (with_reducible exact ih1 _ _ _ _ _)
   | (with_reducible exact ih2 _ _ _ _ _ _ _ _)
   | (with_reducible exact impl_betweenSegments.mono _ _ _ _ _ _ _ _ _)
   | (with_reducible exact impl_inside.mono _ _ _ _)
   | (with_reducible exact LeO.refl _)
   | (with_reducible exact LeO.none _)
   | (with_reducible refine LeO.ite ?_ ?_)
   | (with_reducible refine LeO.bind ?_ (fun _ => ?_))
   | exact ih0 _ _ _
   | exact ih1 _ _ _ _ _
   | exact ih2 _ _ _ _ _ _ _ _
   | exact impl_betweenSegments.mono _ _ _ _ _ _ _ _ _
   | exact impl_inside.mono _ _ _ _
   | exact LeO.none _
   | refine LeO.ite ?_ ?_
   | refine LeO.bind ?_ (fun _ => ?_)
  ·intro y0 y1 y2 y3 y4 y5 y6 y7
   unfold impl_gap.l1
   repeat' first
   | (with_reducible exact ih0 _ _ _)
   | (with_reducible exact ih1 _ _ _ _ _)
   | (with_reducible exact ih2 _ _ _ _ _ _ _ _)
   | (with_reducible exact impl_betweenSegments.mono _ _ _ _ _ _ _ _ _)
   | (with_reducible exact impl_inside.mono _ _ _ _)
   | (with_reducible exact LeO.refl _)
   | (with_reducible exact LeO.none _)
   | (with_reducible refine LeO.ite ?_ ?_)
   | (with_reducible refine LeO.bind ?_ (fun _ => ?_))
   | exact ih0 _ _ _
   | exact ih1 _ _ _ _ _
   | exact ih2 _ _ _ _ _ _ _ _
   | exact impl_betweenSegments.mono _ _ _ _ _ _ _ _ _
   | exact impl_inside.mono _ _ _ _
   | exact LeO.none _
   | refine LeO.ite ?_ ?_
   | refine LeO.bind ?_ (fun _ => ?_)
theorem impl_gap.mono : ∀ a0 a1 k,LeO (impl_gap.f k a0 a1) (impl_gap.f (k + 1) a0 a1):=by
 intro a0 a1 k
 obtain ⟨ih0,ih1,ih2⟩:=impl_gap.mono_l k
 unfold impl_gap.f
 repeat' first
   | (with_reducible exact ih0 _ _ _)
   | (with_reducible exact ih1 _ _ _ _ _)
   | (with_reducible exact ih2 _ _ _ _ _ _ _ _)
   | (with_reducible exact impl_betweenSegments.mono _ _ _ _ _ _ _ _ _)
   | (with_reducible exact impl_inside.mono _ _ _ _)
   | (with_reducible exact LeO.refl _)
   | (with_reducible exact LeO.none _)
   | (with_reducible refine LeO.ite ?_ ?_)
   | (with_reducible refine LeO.bind ?_ (fun _ => ?_))
   | exact ih0 _ _ _
   | exact ih1 _ _ _ _ _
   | exact ih2 _ _ _ _ _ _ _ _
   | exact impl_betweenSegments.mono _ _ _ _ _ _ _ _ _
   | exact impl_inside.mono _ _ _ _
   | exact LeO.none _
   | refine LeO.ite ?_ ?_
   | refine LeO.bind ?_ (fun _ => ?_)
def impl_gap.T10 : Bool × List (List Nat × List Nat):=(true,[([],[]),([],[]),([0,1],[0,1]),([2],[2]),([],[]),([],[]),([5],[5]),([],[]),([7],[7]),([6,8],[6,8]),([4,9],[4,9]),([10],[10]),([],[]),([],[]),([12,13],[12,13]),([14],[14]),([],[]),([],[]),([17],[17]),([],[]),([19],[19]),([18,20],[18,20]),([16,21],[16,21]),([22],[22]),([3,11,15,23],[3,11,15,23]),([24,24,0,1,2,3,4,5,6,7,8,9,10,11,12,13,14,15,16,17,18,19,20,21,22,23,24],[24])])
def impl_gap.B10 : List Nat:=[0,0,3,7,0,0,32,0,128,480,1008,2032,0,0,12288,28672,0,0,131072,0,524288,1966080,4128768,8323072,16777215,33554431]
theorem impl_gap.tab10 : rtab .any (opsOf Try.f80 10) = impl_gap.T10:=by kernel_rfl
theorem impl_gap.bits10 : waitsOk impl_gap.T10.2 impl_gap.B10 = true:=by kernel_rfl
set_option maxHeartbeats 8000000 in
set_option maxRecDepth 100000 in
theorem impl_gap.calls (k : Nat) (A0 : Option Addr) (c0 : Nat) (l0 : List (S30)) (A1 : Option Addr) (c1 : Nat) (l1 : List (S30)) (r : Int) (w : World) (hr0 : Kd.C k30 w A0 l0.length l0) (hc0 : l0.length ≤ c0) (hr1 : Kd.C k30 w A1 l1.length l1) (hc1 : l1.length ≤ c1) (h : impl_gap.f k l0 l1 = some r) :
  Calls Try.prog 80 #[.slice A0 l0.length c0,.slice A1 l1.length c1] w fun e w' => e = .returned (.int .i64 r) ∧ Below w.heap.size w w':=by
 have hu30:=Try.underlying30
 have HR0:=Aside0.mk hr0
 have HC0:=Aside0.mk hc0
 clear hr0 hc0
 have HR1:=Aside0.mk hr1
 have HC1:=Aside0.mk hc1
 clear hr1 hc1
 have HB:=Aside0.mk (Below.refl w.heap.size w)
 have H : (if 0 < (l1.length : Int) then ((impl_inside.f k l0 ((rd_T30 l1 0).f0) ((rd_T30 l1 0).f1)).bind fun t309 => (if t309 ≥ 0 then (impl_gap.j0 k l0 l1 true) else (if 0 < (l0.length : Int) then ((impl_inside.f k l1 ((rd_T30 l0 0).f0) ((rd_T30 l0 0).f1)).bind fun t311 => (impl_gap.j0 k l0 l1 (decide (t311 ≥ 0)))) else (none)))) else (none)) = some r:=h
 clear h
 have HC3:=Aside0.mk H
 clear H
 go_enter Try.func80,Try.ntmps80
 go_upto_region 1 with (fail)
 go_cut [22] (fun v22 wc => ∃ (kq : Nat) (x22_2 : Bool),v22 = .bool x22_2 ∧ Aside0 (impl_gap.j0 kq l0 l1 x22_2 = some r) ∧ Aside0 (kq ≤ k) ∧ Aside0 (Below w.heap.size w wc))
 case first =>
  have H:=HC3.out
  clear HC3
  by_cases c4 : 0 < (l1.length : Int)
  ·rw [if_pos c4] at H
   have c4b0 : decide (0 < (l1.length : Int)) = true:=decide_eq_true c4
   have c4b1 : decide (0 < l1.length) = true:=decide_eq_true (by omega)
   clear c4
   (first | rw [c4b0] | (simp only [i64_w,i32_w];rw [c4b0]) | skip)
   replace H:=Option.bind_eq_some_iff.mp H
   obtain ⟨t309,A50,H⟩:=H
   replace H : (if t309 ≥ 0 then (impl_gap.j0 k l0 l1 true) else (if 0 < (l0.length : Int) then ((impl_inside.f k l1 ((rd_T30 l0 0).f0) ((rd_T30 l0 0).f1)).bind fun t311 => (impl_gap.j0 k l0 l1 (decide (t311 ≥ 0)))) else (none))) = some r:=H
   have A5:=Aside0.mk A50
   clear A50
   by_cases c6 : t309 ≥ 0
   ·rw [if_pos c6] at H
    have c6b0 : decide (0 ≤ t309) = true:=decide_eq_true c6
    clear c6
    have H':=Aside0.mk H
    clear H
    have p308 : 0 ≤ (0 : Int):=(by omega)
    have q308 : 0 < (l1.length : Int):=of_decide_eq_true (by first | (with_reducible assumption) | assumption)
    obtain ⟨ad308,e308,hx308_0,hx308_1⟩:=at_T30 HR1.out 0 p308 q308
    cases e308
    have qi308 : (0 < l1.length) = True:=eq_true (by omega)
    (try rw [show ((0 : Int)).toNat = 0 from rfl] at hx308_0)
    (try rw [show 0 * 2 = 0 from rfl] at hx308_0)
    (try rw [Addr.add_zero'] at hx308_0)
    (try rw [show ((0 : Int)).toNat = 0 from rfl] at hx308_1)
    (try rw [show 0 * 2 = 0 from rfl] at hx308_1)
    (try rw [Addr.add_zero'] at hx308_1)
    replace hx308_0:=(HB.out.cell (bL w _ hx308_0)).trans hx308_0
    replace hx308_1:=(HB.out.cell (bL w _ hx308_1)).trans hx308_1
    replace p308:=eq_true p308
    replace q308:=eq_true q308
    go_wp2_with (first | ((with_reducible refine gate_callee (f:=54) rfl ?_);refine goesL_ (some 13) rfl rfl Try.func54 (by kernel_rfl) rfl #[.slice A0 l0.length c0,.agg #[.int .i64 ((rd_T30 l1 0).f0),.int .i64 ((rd_T30 l1 0).f1)]] rfl (by (try simp only [List.map_toArray,List.map_cons,List.map_nil]);first | done | rfl | (simp only [List.length_drop,List.length_take];rfl)) ?_;(with_reducible refine (impl_inside.calls k _ _ l0 ((rd_T30 l1 0).f0) ((rd_T30 l1 0).f1) t309 _ ?side1 ?side2 A5.out).mono ?_);(case side1 => repeat (first | exact (Kd.C_below HR0.out HB.out) | (with_reducible refine Kd.C_alloc ?_ _) | (with_reducible refine Kd.C_drewN ?_ _) | (with_reducible refine Kd.C_drew ?_)));(case side2 => exact HC0.out);rintro e w7 ⟨rfl,hb⟩;refine ⟨_,rfl,?_⟩;have n0_:=sb hb;clear HB;have HB:=n0_;clear n0_;(try clear hb);(try clear hb2);(try clear hk);(try clear hi)))
    go_meet
    case rel => exact ⟨_,(true),(by first | rfl | (simp;done) | (simp [*];done)),H',⟨by first | omega | exact Nat.le_refl _⟩,⟨by repeat (first | (with_reducible first | exact HB.out | apply below_alloc | apply pw_below_drewN | apply below_drew1) | exact HB.out)⟩⟩
   ·rw [if_neg c6] at H
    have c6b0 : decide (0 ≤ t309) = false:=decide_eq_false c6
    clear c6
    by_cases c8 : 0 < (l0.length : Int)
    ·rw [if_pos c8] at H
     have c8b0 : decide (0 < (l0.length : Int)) = true:=decide_eq_true c8
     have c8b1 : decide (0 < l0.length) = true:=decide_eq_true (by omega)
     clear c8
     replace H:=Option.bind_eq_some_iff.mp H
     obtain ⟨t311,A90,H⟩:=H
     replace H : (impl_gap.j0 k l0 l1 (decide (t311 ≥ 0))) = some r:=H
     have A9:=Aside0.mk A90
     clear A90
     have H':=Aside0.mk H
     clear H
     have p308 : 0 ≤ (0 : Int):=(by omega)
     have q308 : 0 < (l1.length : Int):=of_decide_eq_true (by first | (with_reducible assumption) | assumption)
     obtain ⟨ad308,e308,hx308_0,hx308_1⟩:=at_T30 HR1.out 0 p308 q308
     cases e308
     have qi308 : (0 < l1.length) = True:=eq_true (by omega)
     (try rw [show ((0 : Int)).toNat = 0 from rfl] at hx308_0)
     (try rw [show 0 * 2 = 0 from rfl] at hx308_0)
     (try rw [Addr.add_zero'] at hx308_0)
     (try rw [show ((0 : Int)).toNat = 0 from rfl] at hx308_1)
     (try rw [show 0 * 2 = 0 from rfl] at hx308_1)
     (try rw [Addr.add_zero'] at hx308_1)
     replace hx308_0:=(HB.out.cell (bL w _ hx308_0)).trans hx308_0
     replace hx308_1:=(HB.out.cell (bL w _ hx308_1)).trans hx308_1
     replace p308:=eq_true p308
     replace q308:=eq_true q308
     go_wp2_with (first | ((with_reducible refine gate_callee (f:=54) rfl ?_);refine goesL_ (some 13) rfl rfl Try.func54 (by kernel_rfl) rfl #[.slice A0 l0.length c0,.agg #[.int .i64 ((rd_T30 l1 0).f0),.int .i64 ((rd_T30 l1 0).f1)]] rfl (by (try simp only [List.map_toArray,List.map_cons,List.map_nil]);first | done | rfl | (simp only [List.length_drop,List.length_take];rfl)) ?_;(with_reducible refine (impl_inside.calls k _ _ l0 ((rd_T30 l1 0).f0) ((rd_T30 l1 0).f1) t309 _ ?side1 ?side2 A5.out).mono ?_);(case side1 => repeat (first | exact (Kd.C_below HR0.out HB.out) | (with_reducible refine Kd.C_alloc ?_ _) | (with_reducible refine Kd.C_drewN ?_ _) | (with_reducible refine Kd.C_drew ?_)));(case side2 => exact HC0.out);rintro e w10 ⟨rfl,hb⟩;refine ⟨_,rfl,?_⟩;have n0_:=sb hb;clear HB;have HB:=n0_;clear n0_;(try clear hb);(try clear hb2);(try clear hk);(try clear hi);have p310 : 0 ≤ (0 : Int):=(by omega);have q310 : 0 < (l0.length : Int):=of_decide_eq_true (by first | (with_reducible assumption) | assumption);obtain ⟨ad310,e310,hx310_0,hx310_1⟩:=at_T30 HR0.out 0 p310 q310;cases e310;have qi310 : (0 < l0.length) = True:=eq_true (by omega);(try rw [show ((0 : Int)).toNat = 0 from rfl] at hx310_0);(try rw [show 0 * 2 = 0 from rfl] at hx310_0);(try rw [Addr.add_zero'] at hx310_0);(try rw [show ((0 : Int)).toNat = 0 from rfl] at hx310_1);(try rw [show 0 * 2 = 0 from rfl] at hx310_1);(try rw [Addr.add_zero'] at hx310_1);replace hx310_0:=(HB.out.cell (bL w _ hx310_0)).trans hx310_0;replace hx310_1:=(HB.out.cell (bL w _ hx310_1)).trans hx310_1;replace p310:=eq_true p310;replace q310:=eq_true q310) | (go_at_call 54;(with_reducible refine (impl_inside.calls k _ _ l1 ((rd_T30 l0 0).f0) ((rd_T30 l0 0).f1) t311 _ ?side1 ?side2 A9.out).mono ?_);(case side1 => repeat (first | exact (Kd.C_below HR1.out HB.out) | (with_reducible refine Kd.C_alloc ?_ _) | (with_reducible refine Kd.C_drewN ?_ _) | (with_reducible refine Kd.C_drew ?_)));(case side2 => exact HC1.out);rintro e w11 ⟨rfl,hb⟩;have n0_:=sb hb;clear HB;have HB:=n0_;clear n0_;(try clear hb);(try clear hb2);(try clear hk);(try clear hi)))
     go_meet
     case rel => exact ⟨_,(decide (t311 ≥ 0)),(by first | rfl | (simp;done) | (simp [*];done)),H',⟨by first | omega | exact Nat.le_refl _⟩,⟨by repeat (first | (with_reducible first | exact HB.out | apply below_alloc | apply pw_below_drewN | apply below_drew1) | exact HB.out)⟩⟩
    ·rw [if_neg c8] at H
     exact absurd H (by simp)
  ·rw [if_neg c4] at H
   exact absurd H (by simp)
 case rest =>
  clear HC3
  try clear c1
  try clear p2
  try clear p3
  try clear q3
  try clear hx3
  try clear qi3
  try clear c4
  try clear c4b0
  try clear c4b1
  try clear c5
  try clear c6
  try clear c6b0
  try clear c8
  try clear c8b0
  try clear c8b1
  try clear hx308_0
  try clear hx308_1
  try clear hx310_0
  try clear hx310_1
  try clear p308
  try clear p310
  try clear q308
  try clear q310
  obtain ⟨kq,x22_2,rfl,HA,HJ2,HB⟩:=hcut
  cases kq with
  | zero => exact absurd HA.out (by simp [impl_gap.j0])
  | succ kj2 =>
   have H:=HA.out
   clear HA
   simp only [impl_gap.j0] at H
   by_cases c12 : x22_2 = true
   ·subst c12
    have H1 : (some 0) = some r:=by rw [if_pos rfl] at H;exact H
    clear H
    have H:=H1
    clear H1
    obtain rfl:=Option.some.inj H
    go_wp2
    go_ret
    exact ⟨by first | rfl | (simp [errW_none,errW_some] <;> rfl) | (simp [*,errW_none,errW_some] <;> rfl),by repeat (first | (with_reducible first | exact HB.out | apply below_alloc | apply pw_below_drewN | apply below_drew1) | exact HB.out)⟩
   ·replace c12:=Bool.eq_false_iff.mpr c12
    subst c12
    have H1 : (impl_gap.l0 kj2 l0 l1 (-1) (l0.length : Int) 0) = some r:=by rw [if_neg (show ¬ (false = true) by decide)] at H;exact H
    clear H
    have H:=H1
    clear H1
    have H':=Aside0.mk H
    clear H
    go_wp2
    go_loopg [5,25] kj2 (fun kq v5 v25 w' => ∃ (x5_2 : Int) (x25_2 : Int),v5 = .int .i64 x5_2 ∧ v25 = .int .i64 x25_2 ∧ Aside0 (impl_gap.l0 kq l0 l1 x5_2 (l0.length : Int) x25_2 = some r) ∧ Aside0 (kq ≤ kj2) ∧ Aside0 (Below w.heap.size w w'))
    case atStart => exact ⟨((-1)),(0),(by first | rfl | (simp;done) | (simp [*];done)),(by first | rfl | (simp;done) | (simp [*];done)),H',⟨Nat.le_refl _⟩,⟨by repeat (first | (with_reducible first | exact HB.out | apply below_alloc | apply pw_below_drewN | apply below_drew1) | exact HB.out)⟩⟩
    case round =>
     clear H'
     try clear c1
     try clear p2
     try clear p3
     try clear q3
     try clear hx3
     try clear qi3
     try clear c4
     try clear c4b0
     try clear c4b1
     try clear c5
     try clear c6
     try clear c6b0
     try clear c8
     try clear c8b0
     try clear c8b1
     try clear c12
     try clear hx308_0
     try clear hx308_1
     try clear hx310_0
     try clear hx310_1
     try clear p2
     try clear p3
     try clear p308
     try clear p310
     try clear q3
     try clear q308
     try clear q310
     obtain ⟨x5_2,x25_2,rfl,rfl,HA,HK2,HB⟩:=hrel
     cases gk with
     | zero => exact absurd HA.out (by simp [impl_gap.l0])
     | succ k2 =>
      have H:=HA.out
      clear HA
      simp only [impl_gap.l0] at H
      by_cases c13 : x25_2 < (l0.length : Int)
      ·rw [if_pos c13] at H
       have c13b0 : decide (x25_2 < (l0.length : Int)) = true:=decide_eq_true c13
       clear c13
       have H':=Aside0.mk H
       clear H
       go_wp2
       go_loopg [5,30] k2 (fun kq v5 v30 w' => ∃ (x5_3 : Int) (x30_3 : Int),v5 = .int .i64 x5_3 ∧ v30 = .int .i64 x30_3 ∧ Aside0 (impl_gap.l1 kq l0 l1 x5_3 x25_2 (l0.length : Int) x25_2 (l1.length : Int) x30_3 = some r) ∧ Aside0 (kq ≤ k2) ∧ Aside0 (Below w.heap.size w w'))
       case atStart => exact ⟨(x5_2),(0),(by first | rfl | (simp;done) | (simp [*];done)),(by first | rfl | (simp;done) | (simp [*];done)),H',⟨Nat.le_refl _⟩,⟨by repeat (first | (with_reducible first | exact HB.out | apply below_alloc | apply pw_below_drewN | apply below_drew1) | exact HB.out)⟩⟩
       case round =>
        clear H'
        try clear c1
        try clear p2
        try clear p3
        try clear q3
        try clear hx3
        try clear qi3
        try clear c4
        try clear c4b0
        try clear c4b1
        try clear c5
        try clear c6
        try clear c6b0
        try clear c8
        try clear c8b0
        try clear c8b1
        try clear c12
        try clear c13
        try clear c13b0
        try clear hx308_0
        try clear hx308_1
        try clear hx310_0
        try clear hx310_1
        try clear p2
        try clear p3
        try clear p308
        try clear p310
        try clear q3
        try clear q308
        try clear q310
        obtain ⟨x5_3,x30_3,rfl,rfl,HA,HK3,HB⟩:=hrel
        cases gk with
        | zero => exact absurd HA.out (by simp [impl_gap.l1])
        | succ k3 =>
         have H:=HA.out
         clear HA
         simp only [impl_gap.l1] at H
         by_cases c14 : x30_3 < (l1.length : Int)
         ·rw [if_pos c14] at H
          have c14b0 : decide (x30_3 < (l1.length : Int)) = true:=decide_eq_true c14
          clear c14
          by_cases c15 : 0 ≤ x25_2
          ·rw [if_pos c15] at H
           have c15b0 : decide (0 ≤ x25_2) = true:=decide_eq_true c15
           clear c15
           by_cases c16 : x25_2 < (l0.length : Int)
           ·rw [if_pos c16] at H
            have c16b0 : decide (x25_2 < (l0.length : Int)) = true:=decide_eq_true c16
            clear c16
            by_cases c17 : (l0.length : Int) = 0
            ·rw [if_pos c17] at H
             exact absurd H (by simp)
            ·rw [if_neg c17] at H
             have c17b0 : ((l0.length : Int) == 0) = false:=beq_eq_false_iff_ne.mpr c17
             have c17b1 : ((l0.length : Int) != 0) = true:=bne_iff_ne.mpr c17
             have c17b2 : ¬ (l0 = []):=fun h_ => c17 (by rw [h_];rfl)
             obtain ⟨ji18,hji18⟩ : ∃ j_ : Int,(Int.tmod (wrap64 (x25_2 + 1)) (l0.length : Int)) = j_:=⟨_,rfl⟩
             replace H : (if 0 ≤ (ji18) then (if (ji18) < (l0.length : Int) then (if 0 ≤ x30_3 then (if x30_3 < (l1.length : Int) then (if (l1.length : Int) = 0 then (none) else (if 0 ≤ (Int.tmod (wrap64 (x30_3 + 1)) (l1.length : Int)) then (if (Int.tmod (wrap64 (x30_3 + 1)) (l1.length : Int)) < (l1.length : Int) then ((impl_betweenSegments.f k3 ((rd_T30 l0 x25_2).f0) ((rd_T30 l0 x25_2).f1) ((rd_T30 l0 (ji18)).f0) ((rd_T30 l0 (ji18)).f1) ((rd_T30 l1 x30_3).f0) ((rd_T30 l1 x30_3).f1) ((rd_T30 l1 (Int.tmod (wrap64 (x30_3 + 1)) (l1.length : Int))).f0) ((rd_T30 l1 (Int.tmod (wrap64 (x30_3 + 1)) (l1.length : Int))).f1)).bind fun t316 => (if x5_3 < 0 then (impl_gap.l1 k3 l0 l1 t316 x25_2 (l0.length : Int) x25_2 (l1.length : Int) (wrap64 (x30_3 + 1))) else (if t316 < x5_3 then (impl_gap.l1 k3 l0 l1 t316 x25_2 (l0.length : Int) x25_2 (l1.length : Int) (wrap64 (x30_3 + 1))) else (impl_gap.l1 k3 l0 l1 x5_3 x25_2 (l0.length : Int) x25_2 (l1.length : Int) (wrap64 (x30_3 + 1)))))) else (none)) else (none))) else (none)) else (none)) else (none)) else (none)) = some r:=by first | (rw [hji18] at H;exact H) | (simp only [hji18] at H ⊢;exact H)
             by_cases c19 : 0 ≤ (ji18)
             ·rw [if_pos c19] at H
              have c19b0 : decide (0 ≤ (ji18)) = true:=decide_eq_true c19
              clear c19
              by_cases c20 : (ji18) < (l0.length : Int)
              ·rw [if_pos c20] at H
               have c20b0 : decide ((ji18) < (l0.length : Int)) = true:=decide_eq_true c20
               clear c20
               by_cases c21 : 0 ≤ x30_3
               ·rw [if_pos c21] at H
                have c21b0 : decide (0 ≤ x30_3) = true:=decide_eq_true c21
                clear c21
                by_cases c22 : x30_3 < (l1.length : Int)
                ·rw [if_pos c22] at H
                 have c22b0 : decide (x30_3 < (l1.length : Int)) = true:=decide_eq_true c22
                 clear c22
                 by_cases c23 : (l1.length : Int) = 0
                 ·rw [if_pos c23] at H
                  exact absurd H (by simp)
                 ·rw [if_neg c23] at H
                  have c23b0 : ((l1.length : Int) == 0) = false:=beq_eq_false_iff_ne.mpr c23
                  have c23b1 : ((l1.length : Int) != 0) = true:=bne_iff_ne.mpr c23
                  have c23b2 : ¬ (l1 = []):=fun h_ => c23 (by rw [h_];rfl)
                  obtain ⟨ji24,hji24⟩ : ∃ j_ : Int,(Int.tmod (wrap64 (x30_3 + 1)) (l1.length : Int)) = j_:=⟨_,rfl⟩
                  replace H : (if 0 ≤ (ji24) then (if (ji24) < (l1.length : Int) then ((impl_betweenSegments.f k3 ((rd_T30 l0 x25_2).f0) ((rd_T30 l0 x25_2).f1) ((rd_T30 l0 (ji18)).f0) ((rd_T30 l0 (ji18)).f1) ((rd_T30 l1 x30_3).f0) ((rd_T30 l1 x30_3).f1) ((rd_T30 l1 (ji24)).f0) ((rd_T30 l1 (ji24)).f1)).bind fun t316 => (if x5_3 < 0 then (impl_gap.l1 k3 l0 l1 t316 x25_2 (l0.length : Int) x25_2 (l1.length : Int) (wrap64 (x30_3 + 1))) else (if t316 < x5_3 then (impl_gap.l1 k3 l0 l1 t316 x25_2 (l0.length : Int) x25_2 (l1.length : Int) (wrap64 (x30_3 + 1))) else (impl_gap.l1 k3 l0 l1 x5_3 x25_2 (l0.length : Int) x25_2 (l1.length : Int) (wrap64 (x30_3 + 1)))))) else (none)) else (none)) = some r:=by first | (rw [hji24] at H;exact H) | (simp only [hji24] at H ⊢;exact H)
                  by_cases c25 : 0 ≤ (ji24)
                  ·rw [if_pos c25] at H
                   have c25b0 : decide (0 ≤ (ji24)) = true:=decide_eq_true c25
                   clear c25
                   by_cases c26 : (ji24) < (l1.length : Int)
                   ·rw [if_pos c26] at H
                    have c26b0 : decide ((ji24) < (l1.length : Int)) = true:=decide_eq_true c26
                    clear c26
                    replace H:=Option.bind_eq_some_iff.mp H
                    obtain ⟨t316,A270,H⟩:=H
                    replace H : (if x5_3 < 0 then (impl_gap.l1 k3 l0 l1 t316 x25_2 (l0.length : Int) x25_2 (l1.length : Int) (wrap64 (x30_3 + 1))) else (if t316 < x5_3 then (impl_gap.l1 k3 l0 l1 t316 x25_2 (l0.length : Int) x25_2 (l1.length : Int) (wrap64 (x30_3 + 1))) else (impl_gap.l1 k3 l0 l1 x5_3 x25_2 (l0.length : Int) x25_2 (l1.length : Int) (wrap64 (x30_3 + 1))))) = some r:=H
                    have A27:=Aside0.mk A270
                    clear A270
                    by_cases c28 : x5_3 < 0
                    ·rw [if_pos c28] at H
                     have c28b0 : decide (x5_3 < 0) = true:=decide_eq_true c28
                     clear c28
                     have H':=Aside0.mk H
                     clear H
                     try go_wp2
                     have n0_:=Aside0.mk (below_drew1 HB.out)
                     clear HB
                     have HB:=n0_
                     clear n0_
                     have p312 : 0 ≤ (x25_2 : Int):=of_decide_eq_true (by first | (with_reducible assumption) | assumption)
                     have q312 : x25_2 < (l0.length : Int):=of_decide_eq_true (by first | (with_reducible assumption) | assumption)
                     obtain ⟨ad312,e312,hx312_0,hx312_1⟩:=at_T30 HR0.out x25_2 p312 q312
                     have hw312_1:=hx312_1
                     have hw312_0:=hx312_0
                     cases e312
                     replace hx312_0:=(HB.out.cell (bL w _ hx312_0)).trans hx312_0
                     replace hx312_1:=(HB.out.cell (bL w _ hx312_1)).trans hx312_1
                     replace p312:=eq_true p312
                     replace q312:=eq_true q312
                     have p313 : 0 ≤ ((ji18) : Int):=of_decide_eq_true (by first | (with_reducible assumption) | assumption)
                     have q313 : (ji18) < (l0.length : Int):=of_decide_eq_true (by first | (with_reducible assumption) | assumption)
                     obtain ⟨ad313,e313,hx313_0,hx313_1⟩:=at_T30 HR0.out (ji18) p313 q313
                     have hw313_1:=hx313_1
                     have hw313_0:=hx313_0
                     obtain rfl : ad312 = ad313:=(by injection e313)
                     replace hx313_0:=(HB.out.cell (bL w _ hx313_0)).trans hx313_0
                     replace hx313_1:=(HB.out.cell (bL w _ hx313_1)).trans hx313_1
                     replace p313:=eq_true p313
                     replace q313:=eq_true q313
                     have p314 : 0 ≤ (x30_3 : Int):=of_decide_eq_true (by first | (with_reducible assumption) | assumption)
                     have q314 : x30_3 < (l1.length : Int):=of_decide_eq_true (by first | (with_reducible assumption) | assumption)
                     obtain ⟨ad314,e314,hx314_0,hx314_1⟩:=at_T30 HR1.out x30_3 p314 q314
                     have hw314_1:=hx314_1
                     have hw314_0:=hx314_0
                     cases e314
                     replace hx314_0:=(HB.out.cell (bL w _ hx314_0)).trans hx314_0
                     replace hx314_1:=(HB.out.cell (bL w _ hx314_1)).trans hx314_1
                     replace p314:=eq_true p314
                     replace q314:=eq_true q314
                     have p315 : 0 ≤ ((ji24) : Int):=of_decide_eq_true (by first | (with_reducible assumption) | assumption)
                     have q315 : (ji24) < (l1.length : Int):=of_decide_eq_true (by first | (with_reducible assumption) | assumption)
                     obtain ⟨ad315,e315,hx315_0,hx315_1⟩:=at_T30 HR1.out (ji24) p315 q315
                     have hw315_1:=hx315_1
                     have hw315_0:=hx315_0
                     obtain rfl : ad314 = ad315:=(by injection e315)
                     replace hx315_0:=(HB.out.cell (bL w _ hx315_0)).trans hx315_0
                     replace hx315_1:=(HB.out.cell (bL w _ hx315_1)).trans hx315_1
                     replace p315:=eq_true p315
                     replace q315:=eq_true q315
                     refine start_ (n:=26) (S:=fun w' => w'.cell? (ad312.add ((x25_2).toNat * 2)) = some (.int .i64 ((rd_T30 l0 x25_2).f0)) ∧ w'.cell? ⟨(ad312.add ((x25_2).toNat * 2)).block,(ad312.add ((x25_2).toNat * 2)).off + 1,none⟩ = some (.int .i64 ((rd_T30 l0 x25_2).f1)) ∧ w'.cell? (ad312.add (((ji18)).toNat * 2)) = some (.int .i64 ((rd_T30 l0 (ji18)).f0)) ∧ w'.cell? ⟨(ad312.add (((ji18)).toNat * 2)).block,(ad312.add (((ji18)).toNat * 2)).off + 1,none⟩ = some (.int .i64 ((rd_T30 l0 (ji18)).f1)) ∧ w'.cell? (ad314.add ((x30_3).toNat * 2)) = some (.int .i64 ((rd_T30 l1 x30_3).f0)) ∧ w'.cell? ⟨(ad314.add ((x30_3).toNat * 2)).block,(ad314.add ((x30_3).toNat * 2)).off + 1,none⟩ = some (.int .i64 ((rd_T30 l1 x30_3).f1)) ∧ w'.cell? (ad314.add (((ji24)).toNat * 2)) = some (.int .i64 ((rd_T30 l1 (ji24)).f0)) ∧ w'.cell? ⟨(ad314.add (((ji24)).toNat * 2)).block,(ad314.add (((ji24)).toNat * 2)).off + 1,none⟩ = some (.int .i64 ((rd_T30 l1 (ji24)).f1))) (ds:=[]) #[fF,fF,fF,fF,fF,fF,fF,fF,fF,fF,fF,fF,fF,fF,fF,fF,fF,fF,fF,fF,fF,fF,fF,fF,fF,fF] (by kernel_rfl) rfl rfl ⟨((HB.out.cell (bL w _ hw312_0)).trans hw312_0),((HB.out.cell (bL w _ hw312_1)).trans hw312_1),((HB.out.cell (bL w _ hw313_0)).trans hw313_0),((HB.out.cell (bL w _ hw313_1)).trans hw313_1),((HB.out.cell (bL w _ hw314_0)).trans hw314_0),((HB.out.cell (bL w _ hw314_1)).trans hw314_1),((HB.out.cell (bL w _ hw315_0)).trans hw315_0),((HB.out.cell (bL w _ hw315_1)).trans hw315_1)⟩ (fun hHeld => ?_);refine with_tabW impl_gap.tab10 impl_gap.bits10 (fun HT_ HW_ => ?_)
                     generalize wr.drew = w29 at HB hx312_0 hx312_1 hx313_0 hx313_1 hx314_0 hx314_1 hx315_0 hx315_1 hHeld ⊢
                     refine pure_ (i:=0) (N:=some 33) (v:=?_) (a':=?_) #[tT,fF,fF,fF,fF,fF,fF,fF,fF,fF,fF,fF,fF,fF,fF,fF,fF,fF,fF,fF,fF,fF,fF,fF,fF,fF] rfl rfl (any_of HT_.out (by kernel_rfl)) (fun _ _ _ h => h) (Or.inl ⟨by rfl,?_⟩) ?_ ?_
                     rotate_left
                     ·intro w'
                      go_simp
                      with_reducible rfl
                     rotate_left
                     ·exact pa
                     refine pure_ (i:=1) (N:=some 34) (v:=?_) (a':=?_) #[tT,tT,fF,fF,fF,fF,fF,fF,fF,fF,fF,fF,fF,fF,fF,fF,fF,fF,fF,fF,fF,fF,fF,fF,fF,fF] rfl rfl (any_of HT_.out (by kernel_rfl)) (fun _ _ _ h => h) (Or.inl ⟨by rfl,?_⟩) ?_ ?_
                     rotate_left
                     ·intro w'
                      go_simp
                      with_reducible rfl
                     rotate_left
                     ·exact pa
                     refine pure_ (i:=2) (N:=some 35) (v:=?_) (a':=?_) #[tT,tT,tT,fF,fF,fF,fF,fF,fF,fF,fF,fF,fF,fF,fF,fF,fF,fF,fF,fF,fF,fF,fF,fF,fF,fF] rfl rfl (any_of HT_.out (by kernel_rfl)) (fun _ _ _ h => h) (Or.inl ⟨by rfl,?_⟩) ?_ ?_
                     rotate_left
                     ·intro w'
                      go_simp
                      with_reducible rfl
                     rotate_left
                     ·exact pa
                     refine pure_ (i:=4) (N:=some 37) (v:=?_) (a':=?_) #[tT,tT,tT,fF,tT,fF,fF,fF,fF,fF,fF,fF,fF,fF,fF,fF,fF,fF,fF,fF,fF,fF,fF,fF,fF,fF] rfl rfl (any_of HT_.out (by kernel_rfl)) (fun _ _ _ h => h) (Or.inl ⟨by rfl,?_⟩) ?_ ?_
                     rotate_left
                     ·intro w'
                      go_simp
                      with_reducible rfl
                     rotate_left
                     ·exact pa
                     refine pure_ (i:=5) (N:=some 38) (v:=?_) (a':=?_) #[tT,tT,tT,fF,tT,tT,fF,fF,fF,fF,fF,fF,fF,fF,fF,fF,fF,fF,fF,fF,fF,fF,fF,fF,fF,fF] rfl rfl (any_of HT_.out (by kernel_rfl)) (fun _ _ _ h => h) (Or.inl ⟨by rfl,?_⟩) ?_ ?_
                     rotate_left
                     ·intro w'
                      go_simp
                      with_reducible rfl
                     rotate_left
                     ·exact pa
                     refine pure_ (i:=6) (N:=some 39) (v:=?_) (a':=?_) #[tT,tT,tT,fF,tT,tT,tT,fF,fF,fF,fF,fF,fF,fF,fF,fF,fF,fF,fF,fF,fF,fF,fF,fF,fF,fF] rfl rfl (any_of HT_.out (by kernel_rfl)) (fun _ _ _ h => h) (Or.inl ⟨by rfl,?_⟩) ?_ ?_
                     rotate_left
                     ·intro w'
                      go_simp
                      with_reducible rfl
                     rotate_left
                     ·exact pa
                     refine pure_ (i:=7) (N:=some 40) (v:=?_) (a':=?_) #[tT,tT,tT,fF,tT,tT,tT,tT,fF,fF,fF,fF,fF,fF,fF,fF,fF,fF,fF,fF,fF,fF,fF,fF,fF,fF] rfl rfl (any_of HT_.out (by kernel_rfl)) (fun _ _ _ h => h) (Or.inl ⟨by rfl,?_⟩) ?_ ?_
                     rotate_left
                     ·intro w'
                      go_simp
                      with_reducible rfl
                     rotate_left
                     ·exact pa
                     refine pure_ (i:=8) (N:=some 41) (v:=?_) (a':=?_) #[tT,tT,tT,fF,tT,tT,tT,tT,tT,fF,fF,fF,fF,fF,fF,fF,fF,fF,fF,fF,fF,fF,fF,fF,fF,fF] rfl rfl (any_of HT_.out (by kernel_rfl)) (fun _ _ _ h => h) (Or.inl ⟨by rfl,?_⟩) ?_ ?_
                     rotate_left
                     ·intro w'
                      go_simp
                      with_reducible rfl
                     rotate_left
                     ·exact pa
                     refine pure_ (i:=9) (N:=some 42) (v:=?_) (a':=?_) #[tT,tT,tT,fF,tT,tT,tT,tT,tT,tT,fF,fF,fF,fF,fF,fF,fF,fF,fF,fF,fF,fF,fF,fF,fF,fF] rfl rfl (any_of HT_.out (by kernel_rfl)) (fun _ _ _ h => h) (Or.inl ⟨by rfl,?_⟩) ?_ ?_
                     rotate_left
                     ·intro w'
                      go_simp
                      with_reducible rfl
                     rotate_left
                     ·exact pa
                     refine pure_ (i:=10) (N:=some 43) (v:=?_) (a':=?_) #[tT,tT,tT,fF,tT,tT,tT,tT,tT,tT,tT,fF,fF,fF,fF,fF,fF,fF,fF,fF,fF,fF,fF,fF,fF,fF] rfl rfl (any_of HT_.out (by kernel_rfl)) (fun _ _ _ h => h) (Or.inl ⟨by rfl,?_⟩) ?_ ?_
                     rotate_left
                     ·intro w'
                      go_simp
                      with_reducible rfl
                     rotate_left
                     ·exact pa
                     refine pure_ (i:=12) (N:=some 45) (v:=?_) (a':=?_) #[tT,tT,tT,fF,tT,tT,tT,tT,tT,tT,tT,fF,tT,fF,fF,fF,fF,fF,fF,fF,fF,fF,fF,fF,fF,fF] rfl rfl (any_of HT_.out (by kernel_rfl)) (fun _ _ _ h => h) (Or.inl ⟨by rfl,?_⟩) ?_ ?_
                     rotate_left
                     ·intro w'
                      go_simp
                      with_reducible rfl
                     rotate_left
                     ·exact pa
                     refine pure_ (i:=13) (N:=some 46) (v:=?_) (a':=?_) #[tT,tT,tT,fF,tT,tT,tT,tT,tT,tT,tT,fF,tT,tT,fF,fF,fF,fF,fF,fF,fF,fF,fF,fF,fF,fF] rfl rfl (any_of HT_.out (by kernel_rfl)) (fun _ _ _ h => h) (Or.inl ⟨by rfl,?_⟩) ?_ ?_
                     rotate_left
                     ·intro w'
                      go_simp
                      with_reducible rfl
                     rotate_left
                     ·exact pa
                     refine pure_ (i:=14) (N:=some 47) (v:=?_) (a':=?_) #[tT,tT,tT,fF,tT,tT,tT,tT,tT,tT,tT,fF,tT,tT,tT,fF,fF,fF,fF,fF,fF,fF,fF,fF,fF,fF] rfl rfl (any_of HT_.out (by kernel_rfl)) (fun _ _ _ h => h) (Or.inl ⟨by rfl,?_⟩) ?_ ?_
                     rotate_left
                     ·intro w'
                      go_simp
                      with_reducible rfl
                     rotate_left
                     ·exact pa
                     refine pure_ (i:=16) (N:=some 49) (v:=?_) (a':=?_) #[tT,tT,tT,fF,tT,tT,tT,tT,tT,tT,tT,fF,tT,tT,tT,fF,tT,fF,fF,fF,fF,fF,fF,fF,fF,fF] rfl rfl (any_of HT_.out (by kernel_rfl)) (fun _ _ _ h => h) (Or.inl ⟨by rfl,?_⟩) ?_ ?_
                     rotate_left
                     ·intro w'
                      go_simp
                      with_reducible rfl
                     rotate_left
                     ·exact pa
                     refine pure_ (i:=17) (N:=some 50) (v:=?_) (a':=?_) #[tT,tT,tT,fF,tT,tT,tT,tT,tT,tT,tT,fF,tT,tT,tT,fF,tT,tT,fF,fF,fF,fF,fF,fF,fF,fF] rfl rfl (any_of HT_.out (by kernel_rfl)) (fun _ _ _ h => h) (Or.inl ⟨by rfl,?_⟩) ?_ ?_
                     rotate_left
                     ·intro w'
                      go_simp
                      with_reducible rfl
                     rotate_left
                     ·exact pa
                     refine pure_ (i:=18) (N:=some 51) (v:=?_) (a':=?_) #[tT,tT,tT,fF,tT,tT,tT,tT,tT,tT,tT,fF,tT,tT,tT,fF,tT,tT,tT,fF,fF,fF,fF,fF,fF,fF] rfl rfl (any_of HT_.out (by kernel_rfl)) (fun _ _ _ h => h) (Or.inl ⟨by rfl,?_⟩) ?_ ?_
                     rotate_left
                     ·intro w'
                      go_simp
                      with_reducible rfl
                     rotate_left
                     ·exact pa
                     refine pure_ (i:=19) (N:=some 52) (v:=?_) (a':=?_) #[tT,tT,tT,fF,tT,tT,tT,tT,tT,tT,tT,fF,tT,tT,tT,fF,tT,tT,tT,tT,fF,fF,fF,fF,fF,fF] rfl rfl (any_of HT_.out (by kernel_rfl)) (fun _ _ _ h => h) (Or.inl ⟨by rfl,?_⟩) ?_ ?_
                     rotate_left
                     ·intro w'
                      go_simp
                      with_reducible rfl
                     rotate_left
                     ·exact pa
                     refine pure_ (i:=20) (N:=some 53) (v:=?_) (a':=?_) #[tT,tT,tT,fF,tT,tT,tT,tT,tT,tT,tT,fF,tT,tT,tT,fF,tT,tT,tT,tT,tT,fF,fF,fF,fF,fF] rfl rfl (any_of HT_.out (by kernel_rfl)) (fun _ _ _ h => h) (Or.inl ⟨by rfl,?_⟩) ?_ ?_
                     rotate_left
                     ·intro w'
                      go_simp
                      with_reducible rfl
                     rotate_left
                     ·exact pa
                     refine pure_ (i:=21) (N:=some 54) (v:=?_) (a':=?_) #[tT,tT,tT,fF,tT,tT,tT,tT,tT,tT,tT,fF,tT,tT,tT,fF,tT,tT,tT,tT,tT,tT,fF,fF,fF,fF] rfl rfl (any_of HT_.out (by kernel_rfl)) (fun _ _ _ h => h) (Or.inl ⟨by rfl,?_⟩) ?_ ?_
                     rotate_left
                     ·intro w'
                      go_simp
                      with_reducible rfl
                     rotate_left
                     ·exact pa
                     refine pure_ (i:=22) (N:=some 55) (v:=?_) (a':=?_) #[tT,tT,tT,fF,tT,tT,tT,tT,tT,tT,tT,fF,tT,tT,tT,fF,tT,tT,tT,tT,tT,tT,tT,fF,fF,fF] rfl rfl (any_of HT_.out (by kernel_rfl)) (fun _ _ _ h => h) (Or.inl ⟨by rfl,?_⟩) ?_ ?_
                     rotate_left
                     ·intro w'
                      go_simp
                      with_reducible rfl
                     rotate_left
                     ·exact pa
                     refine take_ (i:=3) (N:=some 36) (v:=?_) (a':=?_) #[tT,tT,tT,tT,tT,tT,tT,tT,tT,tT,tT,fF,tT,tT,tT,fF,tT,tT,tT,tT,tT,tT,tT,fF,fF,fF] rfl rfl (take_ofW HT_.out HW_.out (by kernel_rfl)) (fun _ _ _ h => h) (Or.inl ⟨by rfl,?_⟩) hHeld ?_ ?_
                     rotate_left
                     ·rintro w' ⟨s0,s1,s2,s3,s4,s5,s6,s7⟩
                      go_simp
                      with_reducible rfl
                     rotate_left
                     ·exact pa
                     refine take_ (i:=11) (N:=some 44) (v:=?_) (a':=?_) #[tT,tT,tT,tT,tT,tT,tT,tT,tT,tT,tT,tT,tT,tT,tT,fF,tT,tT,tT,tT,tT,tT,tT,fF,fF,fF] rfl rfl (take_ofW HT_.out HW_.out (by kernel_rfl)) (fun _ _ _ h => h) (Or.inl ⟨by rfl,?_⟩) hHeld ?_ ?_
                     rotate_left
                     ·rintro w' ⟨s0,s1,s2,s3,s4,s5,s6,s7⟩
                      go_simp
                      with_reducible rfl
                     rotate_left
                     ·exact pa
                     refine take_ (i:=15) (N:=some 48) (v:=?_) (a':=?_) #[tT,tT,tT,tT,tT,tT,tT,tT,tT,tT,tT,tT,tT,tT,tT,tT,tT,tT,tT,tT,tT,tT,tT,fF,fF,fF] rfl rfl (take_ofW HT_.out HW_.out (by kernel_rfl)) (fun _ _ _ h => h) (Or.inl ⟨by rfl,?_⟩) hHeld ?_ ?_
                     rotate_left
                     ·rintro w' ⟨s0,s1,s2,s3,s4,s5,s6,s7⟩
                      go_simp
                      with_reducible rfl
                     rotate_left
                     ·exact pa
                     refine take_ (i:=23) (N:=some 56) (v:=?_) (a':=?_) #[tT,tT,tT,tT,tT,tT,tT,tT,tT,tT,tT,tT,tT,tT,tT,tT,tT,tT,tT,tT,tT,tT,tT,tT,fF,fF] rfl rfl (take_ofW HT_.out HW_.out (by kernel_rfl)) (fun _ _ _ h => h) (Or.inl ⟨by rfl,?_⟩) hHeld ?_ ?_
                     rotate_left
                     ·rintro w' ⟨s0,s1,s2,s3,s4,s5,s6,s7⟩
                      go_simp
                      with_reducible rfl
                     rotate_left
                     ·exact pa
                     refine one_ (i:=24) (N:=some 57) #[tT,tT,tT,tT,tT,tT,tT,tT,tT,tT,tT,tT,tT,tT,tT,tT,tT,tT,tT,tT,tT,tT,tT,tT,tT,fF] rfl rfl (one_of HT_.out (by kernel_rfl)) (by decide) (fun K hK => ?_)
                     refine goes_ Try.func101 (by kernel_rfl) rfl #[.agg #[.int .i64 ((rd_T30 l0 x25_2).f0),.int .i64 ((rd_T30 l0 x25_2).f1)],.agg #[.int .i64 ((rd_T30 l0 (ji18)).f0),.int .i64 ((rd_T30 l0 (ji18)).f1)],.agg #[.int .i64 ((rd_T30 l1 x30_3).f0),.int .i64 ((rd_T30 l1 x30_3).f1)],.agg #[.int .i64 ((rd_T30 l1 (ji24)).f0),.int .i64 ((rd_T30 l1 (ji24)).f1)]] (by rfl) rfl rfl (by (try simp only [List.map_toArray,List.map_cons,List.map_nil]);first | done | (simp only [hji18,hji24];rfl) | rfl | (simp only [List.length_drop,List.length_take];rfl)) ?_
                     with_reducible refine (impl_betweenSegments.calls k3 ((rd_T30 l0 x25_2).f0) ((rd_T30 l0 x25_2).f1) ((rd_T30 l0 (ji18)).f0) ((rd_T30 l0 (ji18)).f1) ((rd_T30 l1 x30_3).f0) ((rd_T30 l1 x30_3).f1) ((rd_T30 l1 (ji24)).f0) ((rd_T30 l1 (ji24)).f1) t316 _ A27.out).mono ?_
                     rintro e w30 ⟨rfl,hb⟩
                     refine ⟨_,rfl,?_⟩
                     have n0_:=sb hb
                     clear HB
                     have HB:=n0_
                     clear n0_
                     (try clear hb)
                     (try clear hb2)
                     (try clear hk)
                     (try clear hi)
                     refine hK.out _ _ ⟨((HB.out.cell (bL w _ hw312_0)).trans hw312_0),((HB.out.cell (bL w _ hw312_1)).trans hw312_1),((HB.out.cell (bL w _ hw313_0)).trans hw313_0),((HB.out.cell (bL w _ hw313_1)).trans hw313_1),((HB.out.cell (bL w _ hw314_0)).trans hw314_0),((HB.out.cell (bL w _ hw314_1)).trans hw314_1),((HB.out.cell (bL w _ hw315_0)).trans hw315_0),((HB.out.cell (bL w _ hw315_1)).trans hw315_1)⟩ (fun hHeld => ?_)
                     clear hK K
                     refine norm_ (a':=?_) ?_ ?_
                     rotate_left
                     ·show Act.put _ (some 57) _ = _
                      simp only [Act.put,List.setIfInBounds_toArray,List.set_cons_zero,List.set_cons_succ,i64_w,i32_w]
                      rfl
                     refine pure_ (i:=25) (N:=some 8) (v:=?_) (a':=?_) #[tT,tT,tT,tT,tT,tT,tT,tT,tT,tT,tT,tT,tT,tT,tT,tT,tT,tT,tT,tT,tT,tT,tT,tT,tT,tT] rfl rfl (any_of HT_.out (by kernel_rfl)) (fun _ _ _ h => h) (Or.inl ⟨by rfl,?_⟩) ?_ ?_
                     rotate_left
                     ·intro w'
                      go_simp
                      with_reducible rfl
                     rotate_left
                     ·exact pa
                     refine done_ (done_of HT_.out (by kernel_rfl)) ?_
                     try go_wp2
                     go_roundg k3
                     case measure => have:=HJ2.out;have:=HK2.out;have:=HK3.out;omega
                     case rel => exact ⟨(t316),(wrap64 (x30_3 + 1)),(by first | rfl | (simp;done) | (simp [*];done)),(by first | rfl | (simp;done) | (simp [*];done)),H',⟨by have:=HJ2.out;have:=HK2.out;have:=HK3.out;omega⟩,⟨by repeat (first | (with_reducible first | exact HB.out | apply below_alloc | apply pw_below_drewN | apply below_drew1) | exact HB.out)⟩⟩
                    ·rw [if_neg c28] at H
                     have c28b0 : decide (x5_3 < 0) = false:=decide_eq_false c28
                     clear c28
                     by_cases c31 : t316 < x5_3
                     ·rw [if_pos c31] at H
                      have c31b0 : decide (t316 < x5_3) = true:=decide_eq_true c31
                      clear c31
                      have H':=Aside0.mk H
                      clear H
                      try go_wp2
                      have n0_:=Aside0.mk (below_drew1 HB.out)
                      clear HB
                      have HB:=n0_
                      clear n0_
                      have p312 : 0 ≤ (x25_2 : Int):=of_decide_eq_true (by first | (with_reducible assumption) | assumption)
                      have q312 : x25_2 < (l0.length : Int):=of_decide_eq_true (by first | (with_reducible assumption) | assumption)
                      obtain ⟨ad312,e312,hx312_0,hx312_1⟩:=at_T30 HR0.out x25_2 p312 q312
                      have hw312_1:=hx312_1
                      have hw312_0:=hx312_0
                      cases e312
                      replace hx312_0:=(HB.out.cell (bL w _ hx312_0)).trans hx312_0
                      replace hx312_1:=(HB.out.cell (bL w _ hx312_1)).trans hx312_1
                      replace p312:=eq_true p312
                      replace q312:=eq_true q312
                      have p313 : 0 ≤ ((ji18) : Int):=of_decide_eq_true (by first | (with_reducible assumption) | assumption)
                      have q313 : (ji18) < (l0.length : Int):=of_decide_eq_true (by first | (with_reducible assumption) | assumption)
                      obtain ⟨ad313,e313,hx313_0,hx313_1⟩:=at_T30 HR0.out (ji18) p313 q313
                      have hw313_1:=hx313_1
                      have hw313_0:=hx313_0
                      obtain rfl : ad312 = ad313:=(by injection e313)
                      replace hx313_0:=(HB.out.cell (bL w _ hx313_0)).trans hx313_0
                      replace hx313_1:=(HB.out.cell (bL w _ hx313_1)).trans hx313_1
                      replace p313:=eq_true p313
                      replace q313:=eq_true q313
                      have p314 : 0 ≤ (x30_3 : Int):=of_decide_eq_true (by first | (with_reducible assumption) | assumption)
                      have q314 : x30_3 < (l1.length : Int):=of_decide_eq_true (by first | (with_reducible assumption) | assumption)
                      obtain ⟨ad314,e314,hx314_0,hx314_1⟩:=at_T30 HR1.out x30_3 p314 q314
                      have hw314_1:=hx314_1
                      have hw314_0:=hx314_0
                      cases e314
                      replace hx314_0:=(HB.out.cell (bL w _ hx314_0)).trans hx314_0
                      replace hx314_1:=(HB.out.cell (bL w _ hx314_1)).trans hx314_1
                      replace p314:=eq_true p314
                      replace q314:=eq_true q314
                      have p315 : 0 ≤ ((ji24) : Int):=of_decide_eq_true (by first | (with_reducible assumption) | assumption)
                      have q315 : (ji24) < (l1.length : Int):=of_decide_eq_true (by first | (with_reducible assumption) | assumption)
                      obtain ⟨ad315,e315,hx315_0,hx315_1⟩:=at_T30 HR1.out (ji24) p315 q315
                      have hw315_1:=hx315_1
                      have hw315_0:=hx315_0
                      obtain rfl : ad314 = ad315:=(by injection e315)
                      replace hx315_0:=(HB.out.cell (bL w _ hx315_0)).trans hx315_0
                      replace hx315_1:=(HB.out.cell (bL w _ hx315_1)).trans hx315_1
                      replace p315:=eq_true p315
                      replace q315:=eq_true q315
                      refine start_ (n:=26) (S:=fun w' => w'.cell? (ad312.add ((x25_2).toNat * 2)) = some (.int .i64 ((rd_T30 l0 x25_2).f0)) ∧ w'.cell? ⟨(ad312.add ((x25_2).toNat * 2)).block,(ad312.add ((x25_2).toNat * 2)).off + 1,none⟩ = some (.int .i64 ((rd_T30 l0 x25_2).f1)) ∧ w'.cell? (ad312.add (((ji18)).toNat * 2)) = some (.int .i64 ((rd_T30 l0 (ji18)).f0)) ∧ w'.cell? ⟨(ad312.add (((ji18)).toNat * 2)).block,(ad312.add (((ji18)).toNat * 2)).off + 1,none⟩ = some (.int .i64 ((rd_T30 l0 (ji18)).f1)) ∧ w'.cell? (ad314.add ((x30_3).toNat * 2)) = some (.int .i64 ((rd_T30 l1 x30_3).f0)) ∧ w'.cell? ⟨(ad314.add ((x30_3).toNat * 2)).block,(ad314.add ((x30_3).toNat * 2)).off + 1,none⟩ = some (.int .i64 ((rd_T30 l1 x30_3).f1)) ∧ w'.cell? (ad314.add (((ji24)).toNat * 2)) = some (.int .i64 ((rd_T30 l1 (ji24)).f0)) ∧ w'.cell? ⟨(ad314.add (((ji24)).toNat * 2)).block,(ad314.add (((ji24)).toNat * 2)).off + 1,none⟩ = some (.int .i64 ((rd_T30 l1 (ji24)).f1))) (ds:=[]) #[fF,fF,fF,fF,fF,fF,fF,fF,fF,fF,fF,fF,fF,fF,fF,fF,fF,fF,fF,fF,fF,fF,fF,fF,fF,fF] (by kernel_rfl) rfl rfl ⟨((HB.out.cell (bL w _ hw312_0)).trans hw312_0),((HB.out.cell (bL w _ hw312_1)).trans hw312_1),((HB.out.cell (bL w _ hw313_0)).trans hw313_0),((HB.out.cell (bL w _ hw313_1)).trans hw313_1),((HB.out.cell (bL w _ hw314_0)).trans hw314_0),((HB.out.cell (bL w _ hw314_1)).trans hw314_1),((HB.out.cell (bL w _ hw315_0)).trans hw315_0),((HB.out.cell (bL w _ hw315_1)).trans hw315_1)⟩ (fun hHeld => ?_);refine with_tabW impl_gap.tab10 impl_gap.bits10 (fun HT_ HW_ => ?_)
                      generalize wr.drew = w32 at HB hx312_0 hx312_1 hx313_0 hx313_1 hx314_0 hx314_1 hx315_0 hx315_1 hHeld ⊢
                      refine pure_ (i:=0) (N:=some 33) (v:=?_) (a':=?_) #[tT,fF,fF,fF,fF,fF,fF,fF,fF,fF,fF,fF,fF,fF,fF,fF,fF,fF,fF,fF,fF,fF,fF,fF,fF,fF] rfl rfl (any_of HT_.out (by kernel_rfl)) (fun _ _ _ h => h) (Or.inl ⟨by rfl,?_⟩) ?_ ?_
                      rotate_left
                      ·intro w'
                       go_simp
                       with_reducible rfl
                      rotate_left
                      ·exact pa
                      refine pure_ (i:=1) (N:=some 34) (v:=?_) (a':=?_) #[tT,tT,fF,fF,fF,fF,fF,fF,fF,fF,fF,fF,fF,fF,fF,fF,fF,fF,fF,fF,fF,fF,fF,fF,fF,fF] rfl rfl (any_of HT_.out (by kernel_rfl)) (fun _ _ _ h => h) (Or.inl ⟨by rfl,?_⟩) ?_ ?_
                      rotate_left
                      ·intro w'
                       go_simp
                       with_reducible rfl
                      rotate_left
                      ·exact pa
                      refine pure_ (i:=2) (N:=some 35) (v:=?_) (a':=?_) #[tT,tT,tT,fF,fF,fF,fF,fF,fF,fF,fF,fF,fF,fF,fF,fF,fF,fF,fF,fF,fF,fF,fF,fF,fF,fF] rfl rfl (any_of HT_.out (by kernel_rfl)) (fun _ _ _ h => h) (Or.inl ⟨by rfl,?_⟩) ?_ ?_
                      rotate_left
                      ·intro w'
                       go_simp
                       with_reducible rfl
                      rotate_left
                      ·exact pa
                      refine pure_ (i:=4) (N:=some 37) (v:=?_) (a':=?_) #[tT,tT,tT,fF,tT,fF,fF,fF,fF,fF,fF,fF,fF,fF,fF,fF,fF,fF,fF,fF,fF,fF,fF,fF,fF,fF] rfl rfl (any_of HT_.out (by kernel_rfl)) (fun _ _ _ h => h) (Or.inl ⟨by rfl,?_⟩) ?_ ?_
                      rotate_left
                      ·intro w'
                       go_simp
                       with_reducible rfl
                      rotate_left
                      ·exact pa
                      refine pure_ (i:=5) (N:=some 38) (v:=?_) (a':=?_) #[tT,tT,tT,fF,tT,tT,fF,fF,fF,fF,fF,fF,fF,fF,fF,fF,fF,fF,fF,fF,fF,fF,fF,fF,fF,fF] rfl rfl (any_of HT_.out (by kernel_rfl)) (fun _ _ _ h => h) (Or.inl ⟨by rfl,?_⟩) ?_ ?_
                      rotate_left
                      ·intro w'
                       go_simp
                       with_reducible rfl
                      rotate_left
                      ·exact pa
                      refine pure_ (i:=6) (N:=some 39) (v:=?_) (a':=?_) #[tT,tT,tT,fF,tT,tT,tT,fF,fF,fF,fF,fF,fF,fF,fF,fF,fF,fF,fF,fF,fF,fF,fF,fF,fF,fF] rfl rfl (any_of HT_.out (by kernel_rfl)) (fun _ _ _ h => h) (Or.inl ⟨by rfl,?_⟩) ?_ ?_
                      rotate_left
                      ·intro w'
                       go_simp
                       with_reducible rfl
                      rotate_left
                      ·exact pa
                      refine pure_ (i:=7) (N:=some 40) (v:=?_) (a':=?_) #[tT,tT,tT,fF,tT,tT,tT,tT,fF,fF,fF,fF,fF,fF,fF,fF,fF,fF,fF,fF,fF,fF,fF,fF,fF,fF] rfl rfl (any_of HT_.out (by kernel_rfl)) (fun _ _ _ h => h) (Or.inl ⟨by rfl,?_⟩) ?_ ?_
                      rotate_left
                      ·intro w'
                       go_simp
                       with_reducible rfl
                      rotate_left
                      ·exact pa
                      refine pure_ (i:=8) (N:=some 41) (v:=?_) (a':=?_) #[tT,tT,tT,fF,tT,tT,tT,tT,tT,fF,fF,fF,fF,fF,fF,fF,fF,fF,fF,fF,fF,fF,fF,fF,fF,fF] rfl rfl (any_of HT_.out (by kernel_rfl)) (fun _ _ _ h => h) (Or.inl ⟨by rfl,?_⟩) ?_ ?_
                      rotate_left
                      ·intro w'
                       go_simp
                       with_reducible rfl
                      rotate_left
                      ·exact pa
                      refine pure_ (i:=9) (N:=some 42) (v:=?_) (a':=?_) #[tT,tT,tT,fF,tT,tT,tT,tT,tT,tT,fF,fF,fF,fF,fF,fF,fF,fF,fF,fF,fF,fF,fF,fF,fF,fF] rfl rfl (any_of HT_.out (by kernel_rfl)) (fun _ _ _ h => h) (Or.inl ⟨by rfl,?_⟩) ?_ ?_
                      rotate_left
                      ·intro w'
                       go_simp
                       with_reducible rfl
                      rotate_left
                      ·exact pa
                      refine pure_ (i:=10) (N:=some 43) (v:=?_) (a':=?_) #[tT,tT,tT,fF,tT,tT,tT,tT,tT,tT,tT,fF,fF,fF,fF,fF,fF,fF,fF,fF,fF,fF,fF,fF,fF,fF] rfl rfl (any_of HT_.out (by kernel_rfl)) (fun _ _ _ h => h) (Or.inl ⟨by rfl,?_⟩) ?_ ?_
                      rotate_left
                      ·intro w'
                       go_simp
                       with_reducible rfl
                      rotate_left
                      ·exact pa
                      refine pure_ (i:=12) (N:=some 45) (v:=?_) (a':=?_) #[tT,tT,tT,fF,tT,tT,tT,tT,tT,tT,tT,fF,tT,fF,fF,fF,fF,fF,fF,fF,fF,fF,fF,fF,fF,fF] rfl rfl (any_of HT_.out (by kernel_rfl)) (fun _ _ _ h => h) (Or.inl ⟨by rfl,?_⟩) ?_ ?_
                      rotate_left
                      ·intro w'
                       go_simp
                       with_reducible rfl
                      rotate_left
                      ·exact pa
                      refine pure_ (i:=13) (N:=some 46) (v:=?_) (a':=?_) #[tT,tT,tT,fF,tT,tT,tT,tT,tT,tT,tT,fF,tT,tT,fF,fF,fF,fF,fF,fF,fF,fF,fF,fF,fF,fF] rfl rfl (any_of HT_.out (by kernel_rfl)) (fun _ _ _ h => h) (Or.inl ⟨by rfl,?_⟩) ?_ ?_
                      rotate_left
                      ·intro w'
                       go_simp
                       with_reducible rfl
                      rotate_left
                      ·exact pa
                      refine pure_ (i:=14) (N:=some 47) (v:=?_) (a':=?_) #[tT,tT,tT,fF,tT,tT,tT,tT,tT,tT,tT,fF,tT,tT,tT,fF,fF,fF,fF,fF,fF,fF,fF,fF,fF,fF] rfl rfl (any_of HT_.out (by kernel_rfl)) (fun _ _ _ h => h) (Or.inl ⟨by rfl,?_⟩) ?_ ?_
                      rotate_left
                      ·intro w'
                       go_simp
                       with_reducible rfl
                      rotate_left
                      ·exact pa
                      refine pure_ (i:=16) (N:=some 49) (v:=?_) (a':=?_) #[tT,tT,tT,fF,tT,tT,tT,tT,tT,tT,tT,fF,tT,tT,tT,fF,tT,fF,fF,fF,fF,fF,fF,fF,fF,fF] rfl rfl (any_of HT_.out (by kernel_rfl)) (fun _ _ _ h => h) (Or.inl ⟨by rfl,?_⟩) ?_ ?_
                      rotate_left
                      ·intro w'
                       go_simp
                       with_reducible rfl
                      rotate_left
                      ·exact pa
                      refine pure_ (i:=17) (N:=some 50) (v:=?_) (a':=?_) #[tT,tT,tT,fF,tT,tT,tT,tT,tT,tT,tT,fF,tT,tT,tT,fF,tT,tT,fF,fF,fF,fF,fF,fF,fF,fF] rfl rfl (any_of HT_.out (by kernel_rfl)) (fun _ _ _ h => h) (Or.inl ⟨by rfl,?_⟩) ?_ ?_
                      rotate_left
                      ·intro w'
                       go_simp
                       with_reducible rfl
                      rotate_left
                      ·exact pa
                      refine pure_ (i:=18) (N:=some 51) (v:=?_) (a':=?_) #[tT,tT,tT,fF,tT,tT,tT,tT,tT,tT,tT,fF,tT,tT,tT,fF,tT,tT,tT,fF,fF,fF,fF,fF,fF,fF] rfl rfl (any_of HT_.out (by kernel_rfl)) (fun _ _ _ h => h) (Or.inl ⟨by rfl,?_⟩) ?_ ?_
                      rotate_left
                      ·intro w'
                       go_simp
                       with_reducible rfl
                      rotate_left
                      ·exact pa
                      refine pure_ (i:=19) (N:=some 52) (v:=?_) (a':=?_) #[tT,tT,tT,fF,tT,tT,tT,tT,tT,tT,tT,fF,tT,tT,tT,fF,tT,tT,tT,tT,fF,fF,fF,fF,fF,fF] rfl rfl (any_of HT_.out (by kernel_rfl)) (fun _ _ _ h => h) (Or.inl ⟨by rfl,?_⟩) ?_ ?_
                      rotate_left
                      ·intro w'
                       go_simp
                       with_reducible rfl
                      rotate_left
                      ·exact pa
                      refine pure_ (i:=20) (N:=some 53) (v:=?_) (a':=?_) #[tT,tT,tT,fF,tT,tT,tT,tT,tT,tT,tT,fF,tT,tT,tT,fF,tT,tT,tT,tT,tT,fF,fF,fF,fF,fF] rfl rfl (any_of HT_.out (by kernel_rfl)) (fun _ _ _ h => h) (Or.inl ⟨by rfl,?_⟩) ?_ ?_
                      rotate_left
                      ·intro w'
                       go_simp
                       with_reducible rfl
                      rotate_left
                      ·exact pa
                      refine pure_ (i:=21) (N:=some 54) (v:=?_) (a':=?_) #[tT,tT,tT,fF,tT,tT,tT,tT,tT,tT,tT,fF,tT,tT,tT,fF,tT,tT,tT,tT,tT,tT,fF,fF,fF,fF] rfl rfl (any_of HT_.out (by kernel_rfl)) (fun _ _ _ h => h) (Or.inl ⟨by rfl,?_⟩) ?_ ?_
                      rotate_left
                      ·intro w'
                       go_simp
                       with_reducible rfl
                      rotate_left
                      ·exact pa
                      refine pure_ (i:=22) (N:=some 55) (v:=?_) (a':=?_) #[tT,tT,tT,fF,tT,tT,tT,tT,tT,tT,tT,fF,tT,tT,tT,fF,tT,tT,tT,tT,tT,tT,tT,fF,fF,fF] rfl rfl (any_of HT_.out (by kernel_rfl)) (fun _ _ _ h => h) (Or.inl ⟨by rfl,?_⟩) ?_ ?_
                      rotate_left
                      ·intro w'
                       go_simp
                       with_reducible rfl
                      rotate_left
                      ·exact pa
                      refine take_ (i:=3) (N:=some 36) (v:=?_) (a':=?_) #[tT,tT,tT,tT,tT,tT,tT,tT,tT,tT,tT,fF,tT,tT,tT,fF,tT,tT,tT,tT,tT,tT,tT,fF,fF,fF] rfl rfl (take_ofW HT_.out HW_.out (by kernel_rfl)) (fun _ _ _ h => h) (Or.inl ⟨by rfl,?_⟩) hHeld ?_ ?_
                      rotate_left
                      ·rintro w' ⟨s0,s1,s2,s3,s4,s5,s6,s7⟩
                       go_simp
                       with_reducible rfl
                      rotate_left
                      ·exact pa
                      refine take_ (i:=11) (N:=some 44) (v:=?_) (a':=?_) #[tT,tT,tT,tT,tT,tT,tT,tT,tT,tT,tT,tT,tT,tT,tT,fF,tT,tT,tT,tT,tT,tT,tT,fF,fF,fF] rfl rfl (take_ofW HT_.out HW_.out (by kernel_rfl)) (fun _ _ _ h => h) (Or.inl ⟨by rfl,?_⟩) hHeld ?_ ?_
                      rotate_left
                      ·rintro w' ⟨s0,s1,s2,s3,s4,s5,s6,s7⟩
                       go_simp
                       with_reducible rfl
                      rotate_left
                      ·exact pa
                      refine take_ (i:=15) (N:=some 48) (v:=?_) (a':=?_) #[tT,tT,tT,tT,tT,tT,tT,tT,tT,tT,tT,tT,tT,tT,tT,tT,tT,tT,tT,tT,tT,tT,tT,fF,fF,fF] rfl rfl (take_ofW HT_.out HW_.out (by kernel_rfl)) (fun _ _ _ h => h) (Or.inl ⟨by rfl,?_⟩) hHeld ?_ ?_
                      rotate_left
                      ·rintro w' ⟨s0,s1,s2,s3,s4,s5,s6,s7⟩
                       go_simp
                       with_reducible rfl
                      rotate_left
                      ·exact pa
                      refine take_ (i:=23) (N:=some 56) (v:=?_) (a':=?_) #[tT,tT,tT,tT,tT,tT,tT,tT,tT,tT,tT,tT,tT,tT,tT,tT,tT,tT,tT,tT,tT,tT,tT,tT,fF,fF] rfl rfl (take_ofW HT_.out HW_.out (by kernel_rfl)) (fun _ _ _ h => h) (Or.inl ⟨by rfl,?_⟩) hHeld ?_ ?_
                      rotate_left
                      ·rintro w' ⟨s0,s1,s2,s3,s4,s5,s6,s7⟩
                       go_simp
                       with_reducible rfl
                      rotate_left
                      ·exact pa
                      refine one_ (i:=24) (N:=some 57) #[tT,tT,tT,tT,tT,tT,tT,tT,tT,tT,tT,tT,tT,tT,tT,tT,tT,tT,tT,tT,tT,tT,tT,tT,tT,fF] rfl rfl (one_of HT_.out (by kernel_rfl)) (by decide) (fun K hK => ?_)
                      refine goes_ Try.func101 (by kernel_rfl) rfl #[.agg #[.int .i64 ((rd_T30 l0 x25_2).f0),.int .i64 ((rd_T30 l0 x25_2).f1)],.agg #[.int .i64 ((rd_T30 l0 (ji18)).f0),.int .i64 ((rd_T30 l0 (ji18)).f1)],.agg #[.int .i64 ((rd_T30 l1 x30_3).f0),.int .i64 ((rd_T30 l1 x30_3).f1)],.agg #[.int .i64 ((rd_T30 l1 (ji24)).f0),.int .i64 ((rd_T30 l1 (ji24)).f1)]] (by rfl) rfl rfl (by (try simp only [List.map_toArray,List.map_cons,List.map_nil]);first | done | (simp only [hji18,hji24];rfl) | rfl | (simp only [List.length_drop,List.length_take];rfl)) ?_
                      with_reducible refine (impl_betweenSegments.calls k3 ((rd_T30 l0 x25_2).f0) ((rd_T30 l0 x25_2).f1) ((rd_T30 l0 (ji18)).f0) ((rd_T30 l0 (ji18)).f1) ((rd_T30 l1 x30_3).f0) ((rd_T30 l1 x30_3).f1) ((rd_T30 l1 (ji24)).f0) ((rd_T30 l1 (ji24)).f1) t316 _ A27.out).mono ?_
                      rintro e w33 ⟨rfl,hb⟩
                      refine ⟨_,rfl,?_⟩
                      have n0_:=sb hb
                      clear HB
                      have HB:=n0_
                      clear n0_
                      (try clear hb)
                      (try clear hb2)
                      (try clear hk)
                      (try clear hi)
                      refine hK.out _ _ ⟨((HB.out.cell (bL w _ hw312_0)).trans hw312_0),((HB.out.cell (bL w _ hw312_1)).trans hw312_1),((HB.out.cell (bL w _ hw313_0)).trans hw313_0),((HB.out.cell (bL w _ hw313_1)).trans hw313_1),((HB.out.cell (bL w _ hw314_0)).trans hw314_0),((HB.out.cell (bL w _ hw314_1)).trans hw314_1),((HB.out.cell (bL w _ hw315_0)).trans hw315_0),((HB.out.cell (bL w _ hw315_1)).trans hw315_1)⟩ (fun hHeld => ?_)
                      clear hK K
                      refine norm_ (a':=?_) ?_ ?_
                      rotate_left
                      ·show Act.put _ (some 57) _ = _
                       simp only [Act.put,List.setIfInBounds_toArray,List.set_cons_zero,List.set_cons_succ,i64_w,i32_w]
                       rfl
                      refine pure_ (i:=25) (N:=some 8) (v:=?_) (a':=?_) #[tT,tT,tT,tT,tT,tT,tT,tT,tT,tT,tT,tT,tT,tT,tT,tT,tT,tT,tT,tT,tT,tT,tT,tT,tT,tT] rfl rfl (any_of HT_.out (by kernel_rfl)) (fun _ _ _ h => h) (Or.inl ⟨by rfl,?_⟩) ?_ ?_
                      rotate_left
                      ·intro w'
                       go_simp
                       with_reducible rfl
                      rotate_left
                      ·exact pa
                      refine done_ (done_of HT_.out (by kernel_rfl)) ?_
                      try go_wp2
                      go_roundg k3
                      case measure => have:=HJ2.out;have:=HK2.out;have:=HK3.out;omega
                      case rel => exact ⟨(t316),(wrap64 (x30_3 + 1)),(by first | rfl | (simp;done) | (simp [*];done)),(by first | rfl | (simp;done) | (simp [*];done)),H',⟨by have:=HJ2.out;have:=HK2.out;have:=HK3.out;omega⟩,⟨by repeat (first | (with_reducible first | exact HB.out | apply below_alloc | apply pw_below_drewN | apply below_drew1) | exact HB.out)⟩⟩
                     ·rw [if_neg c31] at H
                      have c31b0 : decide (t316 < x5_3) = false:=decide_eq_false c31
                      clear c31
                      have H':=Aside0.mk H
                      clear H
                      try go_wp2
                      have n0_:=Aside0.mk (below_drew1 HB.out)
                      clear HB
                      have HB:=n0_
                      clear n0_
                      have p312 : 0 ≤ (x25_2 : Int):=of_decide_eq_true (by first | (with_reducible assumption) | assumption)
                      have q312 : x25_2 < (l0.length : Int):=of_decide_eq_true (by first | (with_reducible assumption) | assumption)
                      obtain ⟨ad312,e312,hx312_0,hx312_1⟩:=at_T30 HR0.out x25_2 p312 q312
                      have hw312_1:=hx312_1
                      have hw312_0:=hx312_0
                      cases e312
                      replace hx312_0:=(HB.out.cell (bL w _ hx312_0)).trans hx312_0
                      replace hx312_1:=(HB.out.cell (bL w _ hx312_1)).trans hx312_1
                      replace p312:=eq_true p312
                      replace q312:=eq_true q312
                      have p313 : 0 ≤ ((ji18) : Int):=of_decide_eq_true (by first | (with_reducible assumption) | assumption)
                      have q313 : (ji18) < (l0.length : Int):=of_decide_eq_true (by first | (with_reducible assumption) | assumption)
                      obtain ⟨ad313,e313,hx313_0,hx313_1⟩:=at_T30 HR0.out (ji18) p313 q313
                      have hw313_1:=hx313_1
                      have hw313_0:=hx313_0
                      obtain rfl : ad312 = ad313:=(by injection e313)
                      replace hx313_0:=(HB.out.cell (bL w _ hx313_0)).trans hx313_0
                      replace hx313_1:=(HB.out.cell (bL w _ hx313_1)).trans hx313_1
                      replace p313:=eq_true p313
                      replace q313:=eq_true q313
                      have p314 : 0 ≤ (x30_3 : Int):=of_decide_eq_true (by first | (with_reducible assumption) | assumption)
                      have q314 : x30_3 < (l1.length : Int):=of_decide_eq_true (by first | (with_reducible assumption) | assumption)
                      obtain ⟨ad314,e314,hx314_0,hx314_1⟩:=at_T30 HR1.out x30_3 p314 q314
                      have hw314_1:=hx314_1
                      have hw314_0:=hx314_0
                      cases e314
                      replace hx314_0:=(HB.out.cell (bL w _ hx314_0)).trans hx314_0
                      replace hx314_1:=(HB.out.cell (bL w _ hx314_1)).trans hx314_1
                      replace p314:=eq_true p314
                      replace q314:=eq_true q314
                      have p315 : 0 ≤ ((ji24) : Int):=of_decide_eq_true (by first | (with_reducible assumption) | assumption)
                      have q315 : (ji24) < (l1.length : Int):=of_decide_eq_true (by first | (with_reducible assumption) | assumption)
                      obtain ⟨ad315,e315,hx315_0,hx315_1⟩:=at_T30 HR1.out (ji24) p315 q315
                      have hw315_1:=hx315_1
                      have hw315_0:=hx315_0
                      obtain rfl : ad314 = ad315:=(by injection e315)
                      replace hx315_0:=(HB.out.cell (bL w _ hx315_0)).trans hx315_0
                      replace hx315_1:=(HB.out.cell (bL w _ hx315_1)).trans hx315_1
                      replace p315:=eq_true p315
                      replace q315:=eq_true q315
                      refine start_ (n:=26) (S:=fun w' => w'.cell? (ad312.add ((x25_2).toNat * 2)) = some (.int .i64 ((rd_T30 l0 x25_2).f0)) ∧ w'.cell? ⟨(ad312.add ((x25_2).toNat * 2)).block,(ad312.add ((x25_2).toNat * 2)).off + 1,none⟩ = some (.int .i64 ((rd_T30 l0 x25_2).f1)) ∧ w'.cell? (ad312.add (((ji18)).toNat * 2)) = some (.int .i64 ((rd_T30 l0 (ji18)).f0)) ∧ w'.cell? ⟨(ad312.add (((ji18)).toNat * 2)).block,(ad312.add (((ji18)).toNat * 2)).off + 1,none⟩ = some (.int .i64 ((rd_T30 l0 (ji18)).f1)) ∧ w'.cell? (ad314.add ((x30_3).toNat * 2)) = some (.int .i64 ((rd_T30 l1 x30_3).f0)) ∧ w'.cell? ⟨(ad314.add ((x30_3).toNat * 2)).block,(ad314.add ((x30_3).toNat * 2)).off + 1,none⟩ = some (.int .i64 ((rd_T30 l1 x30_3).f1)) ∧ w'.cell? (ad314.add (((ji24)).toNat * 2)) = some (.int .i64 ((rd_T30 l1 (ji24)).f0)) ∧ w'.cell? ⟨(ad314.add (((ji24)).toNat * 2)).block,(ad314.add (((ji24)).toNat * 2)).off + 1,none⟩ = some (.int .i64 ((rd_T30 l1 (ji24)).f1))) (ds:=[]) #[fF,fF,fF,fF,fF,fF,fF,fF,fF,fF,fF,fF,fF,fF,fF,fF,fF,fF,fF,fF,fF,fF,fF,fF,fF,fF] (by kernel_rfl) rfl rfl ⟨((HB.out.cell (bL w _ hw312_0)).trans hw312_0),((HB.out.cell (bL w _ hw312_1)).trans hw312_1),((HB.out.cell (bL w _ hw313_0)).trans hw313_0),((HB.out.cell (bL w _ hw313_1)).trans hw313_1),((HB.out.cell (bL w _ hw314_0)).trans hw314_0),((HB.out.cell (bL w _ hw314_1)).trans hw314_1),((HB.out.cell (bL w _ hw315_0)).trans hw315_0),((HB.out.cell (bL w _ hw315_1)).trans hw315_1)⟩ (fun hHeld => ?_);refine with_tabW impl_gap.tab10 impl_gap.bits10 (fun HT_ HW_ => ?_)
                      generalize wr.drew = w34 at HB hx312_0 hx312_1 hx313_0 hx313_1 hx314_0 hx314_1 hx315_0 hx315_1 hHeld ⊢
                      refine pure_ (i:=0) (N:=some 33) (v:=?_) (a':=?_) #[tT,fF,fF,fF,fF,fF,fF,fF,fF,fF,fF,fF,fF,fF,fF,fF,fF,fF,fF,fF,fF,fF,fF,fF,fF,fF] rfl rfl (any_of HT_.out (by kernel_rfl)) (fun _ _ _ h => h) (Or.inl ⟨by rfl,?_⟩) ?_ ?_
                      rotate_left
                      ·intro w'
                       go_simp
                       with_reducible rfl
                      rotate_left
                      ·exact pa
                      refine pure_ (i:=1) (N:=some 34) (v:=?_) (a':=?_) #[tT,tT,fF,fF,fF,fF,fF,fF,fF,fF,fF,fF,fF,fF,fF,fF,fF,fF,fF,fF,fF,fF,fF,fF,fF,fF] rfl rfl (any_of HT_.out (by kernel_rfl)) (fun _ _ _ h => h) (Or.inl ⟨by rfl,?_⟩) ?_ ?_
                      rotate_left
                      ·intro w'
                       go_simp
                       with_reducible rfl
                      rotate_left
                      ·exact pa
                      refine pure_ (i:=2) (N:=some 35) (v:=?_) (a':=?_) #[tT,tT,tT,fF,fF,fF,fF,fF,fF,fF,fF,fF,fF,fF,fF,fF,fF,fF,fF,fF,fF,fF,fF,fF,fF,fF] rfl rfl (any_of HT_.out (by kernel_rfl)) (fun _ _ _ h => h) (Or.inl ⟨by rfl,?_⟩) ?_ ?_
                      rotate_left
                      ·intro w'
                       go_simp
                       with_reducible rfl
                      rotate_left
                      ·exact pa
                      refine pure_ (i:=4) (N:=some 37) (v:=?_) (a':=?_) #[tT,tT,tT,fF,tT,fF,fF,fF,fF,fF,fF,fF,fF,fF,fF,fF,fF,fF,fF,fF,fF,fF,fF,fF,fF,fF] rfl rfl (any_of HT_.out (by kernel_rfl)) (fun _ _ _ h => h) (Or.inl ⟨by rfl,?_⟩) ?_ ?_
                      rotate_left
                      ·intro w'
                       go_simp
                       with_reducible rfl
                      rotate_left
                      ·exact pa
                      refine pure_ (i:=5) (N:=some 38) (v:=?_) (a':=?_) #[tT,tT,tT,fF,tT,tT,fF,fF,fF,fF,fF,fF,fF,fF,fF,fF,fF,fF,fF,fF,fF,fF,fF,fF,fF,fF] rfl rfl (any_of HT_.out (by kernel_rfl)) (fun _ _ _ h => h) (Or.inl ⟨by rfl,?_⟩) ?_ ?_
                      rotate_left
                      ·intro w'
                       go_simp
                       with_reducible rfl
                      rotate_left
                      ·exact pa
                      refine pure_ (i:=6) (N:=some 39) (v:=?_) (a':=?_) #[tT,tT,tT,fF,tT,tT,tT,fF,fF,fF,fF,fF,fF,fF,fF,fF,fF,fF,fF,fF,fF,fF,fF,fF,fF,fF] rfl rfl (any_of HT_.out (by kernel_rfl)) (fun _ _ _ h => h) (Or.inl ⟨by rfl,?_⟩) ?_ ?_
                      rotate_left
                      ·intro w'
                       go_simp
                       with_reducible rfl
                      rotate_left
                      ·exact pa
                      refine pure_ (i:=7) (N:=some 40) (v:=?_) (a':=?_) #[tT,tT,tT,fF,tT,tT,tT,tT,fF,fF,fF,fF,fF,fF,fF,fF,fF,fF,fF,fF,fF,fF,fF,fF,fF,fF] rfl rfl (any_of HT_.out (by kernel_rfl)) (fun _ _ _ h => h) (Or.inl ⟨by rfl,?_⟩) ?_ ?_
                      rotate_left
                      ·intro w'
                       go_simp
                       with_reducible rfl
                      rotate_left
                      ·exact pa
                      refine pure_ (i:=8) (N:=some 41) (v:=?_) (a':=?_) #[tT,tT,tT,fF,tT,tT,tT,tT,tT,fF,fF,fF,fF,fF,fF,fF,fF,fF,fF,fF,fF,fF,fF,fF,fF,fF] rfl rfl (any_of HT_.out (by kernel_rfl)) (fun _ _ _ h => h) (Or.inl ⟨by rfl,?_⟩) ?_ ?_
                      rotate_left
                      ·intro w'
                       go_simp
                       with_reducible rfl
                      rotate_left
                      ·exact pa
                      refine pure_ (i:=9) (N:=some 42) (v:=?_) (a':=?_) #[tT,tT,tT,fF,tT,tT,tT,tT,tT,tT,fF,fF,fF,fF,fF,fF,fF,fF,fF,fF,fF,fF,fF,fF,fF,fF] rfl rfl (any_of HT_.out (by kernel_rfl)) (fun _ _ _ h => h) (Or.inl ⟨by rfl,?_⟩) ?_ ?_
                      rotate_left
                      ·intro w'
                       go_simp
                       with_reducible rfl
                      rotate_left
                      ·exact pa
                      refine pure_ (i:=10) (N:=some 43) (v:=?_) (a':=?_) #[tT,tT,tT,fF,tT,tT,tT,tT,tT,tT,tT,fF,fF,fF,fF,fF,fF,fF,fF,fF,fF,fF,fF,fF,fF,fF] rfl rfl (any_of HT_.out (by kernel_rfl)) (fun _ _ _ h => h) (Or.inl ⟨by rfl,?_⟩) ?_ ?_
                      rotate_left
                      ·intro w'
                       go_simp
                       with_reducible rfl
                      rotate_left
                      ·exact pa
                      refine pure_ (i:=12) (N:=some 45) (v:=?_) (a':=?_) #[tT,tT,tT,fF,tT,tT,tT,tT,tT,tT,tT,fF,tT,fF,fF,fF,fF,fF,fF,fF,fF,fF,fF,fF,fF,fF] rfl rfl (any_of HT_.out (by kernel_rfl)) (fun _ _ _ h => h) (Or.inl ⟨by rfl,?_⟩) ?_ ?_
                      rotate_left
                      ·intro w'
                       go_simp
                       with_reducible rfl
                      rotate_left
                      ·exact pa
                      refine pure_ (i:=13) (N:=some 46) (v:=?_) (a':=?_) #[tT,tT,tT,fF,tT,tT,tT,tT,tT,tT,tT,fF,tT,tT,fF,fF,fF,fF,fF,fF,fF,fF,fF,fF,fF,fF] rfl rfl (any_of HT_.out (by kernel_rfl)) (fun _ _ _ h => h) (Or.inl ⟨by rfl,?_⟩) ?_ ?_
                      rotate_left
                      ·intro w'
                       go_simp
                       with_reducible rfl
                      rotate_left
                      ·exact pa
                      refine pure_ (i:=14) (N:=some 47) (v:=?_) (a':=?_) #[tT,tT,tT,fF,tT,tT,tT,tT,tT,tT,tT,fF,tT,tT,tT,fF,fF,fF,fF,fF,fF,fF,fF,fF,fF,fF] rfl rfl (any_of HT_.out (by kernel_rfl)) (fun _ _ _ h => h) (Or.inl ⟨by rfl,?_⟩) ?_ ?_
                      rotate_left
                      ·intro w'
                       go_simp
                       with_reducible rfl
                      rotate_left
                      ·exact pa
                      refine pure_ (i:=16) (N:=some 49) (v:=?_) (a':=?_) #[tT,tT,tT,fF,tT,tT,tT,tT,tT,tT,tT,fF,tT,tT,tT,fF,tT,fF,fF,fF,fF,fF,fF,fF,fF,fF] rfl rfl (any_of HT_.out (by kernel_rfl)) (fun _ _ _ h => h) (Or.inl ⟨by rfl,?_⟩) ?_ ?_
                      rotate_left
                      ·intro w'
                       go_simp
                       with_reducible rfl
                      rotate_left
                      ·exact pa
                      refine pure_ (i:=17) (N:=some 50) (v:=?_) (a':=?_) #[tT,tT,tT,fF,tT,tT,tT,tT,tT,tT,tT,fF,tT,tT,tT,fF,tT,tT,fF,fF,fF,fF,fF,fF,fF,fF] rfl rfl (any_of HT_.out (by kernel_rfl)) (fun _ _ _ h => h) (Or.inl ⟨by rfl,?_⟩) ?_ ?_
                      rotate_left
                      ·intro w'
                       go_simp
                       with_reducible rfl
                      rotate_left
                      ·exact pa
                      refine pure_ (i:=18) (N:=some 51) (v:=?_) (a':=?_) #[tT,tT,tT,fF,tT,tT,tT,tT,tT,tT,tT,fF,tT,tT,tT,fF,tT,tT,tT,fF,fF,fF,fF,fF,fF,fF] rfl rfl (any_of HT_.out (by kernel_rfl)) (fun _ _ _ h => h) (Or.inl ⟨by rfl,?_⟩) ?_ ?_
                      rotate_left
                      ·intro w'
                       go_simp
                       with_reducible rfl
                      rotate_left
                      ·exact pa
                      refine pure_ (i:=19) (N:=some 52) (v:=?_) (a':=?_) #[tT,tT,tT,fF,tT,tT,tT,tT,tT,tT,tT,fF,tT,tT,tT,fF,tT,tT,tT,tT,fF,fF,fF,fF,fF,fF] rfl rfl (any_of HT_.out (by kernel_rfl)) (fun _ _ _ h => h) (Or.inl ⟨by rfl,?_⟩) ?_ ?_
                      rotate_left
                      ·intro w'
                       go_simp
                       with_reducible rfl
                      rotate_left
                      ·exact pa
                      refine pure_ (i:=20) (N:=some 53) (v:=?_) (a':=?_) #[tT,tT,tT,fF,tT,tT,tT,tT,tT,tT,tT,fF,tT,tT,tT,fF,tT,tT,tT,tT,tT,fF,fF,fF,fF,fF] rfl rfl (any_of HT_.out (by kernel_rfl)) (fun _ _ _ h => h) (Or.inl ⟨by rfl,?_⟩) ?_ ?_
                      rotate_left
                      ·intro w'
                       go_simp
                       with_reducible rfl
                      rotate_left
                      ·exact pa
                      refine pure_ (i:=21) (N:=some 54) (v:=?_) (a':=?_) #[tT,tT,tT,fF,tT,tT,tT,tT,tT,tT,tT,fF,tT,tT,tT,fF,tT,tT,tT,tT,tT,tT,fF,fF,fF,fF] rfl rfl (any_of HT_.out (by kernel_rfl)) (fun _ _ _ h => h) (Or.inl ⟨by rfl,?_⟩) ?_ ?_
                      rotate_left
                      ·intro w'
                       go_simp
                       with_reducible rfl
                      rotate_left
                      ·exact pa
                      refine pure_ (i:=22) (N:=some 55) (v:=?_) (a':=?_) #[tT,tT,tT,fF,tT,tT,tT,tT,tT,tT,tT,fF,tT,tT,tT,fF,tT,tT,tT,tT,tT,tT,tT,fF,fF,fF] rfl rfl (any_of HT_.out (by kernel_rfl)) (fun _ _ _ h => h) (Or.inl ⟨by rfl,?_⟩) ?_ ?_
                      rotate_left
                      ·intro w'
                       go_simp
                       with_reducible rfl
                      rotate_left
                      ·exact pa
                      refine take_ (i:=3) (N:=some 36) (v:=?_) (a':=?_) #[tT,tT,tT,tT,tT,tT,tT,tT,tT,tT,tT,fF,tT,tT,tT,fF,tT,tT,tT,tT,tT,tT,tT,fF,fF,fF] rfl rfl (take_ofW HT_.out HW_.out (by kernel_rfl)) (fun _ _ _ h => h) (Or.inl ⟨by rfl,?_⟩) hHeld ?_ ?_
                      rotate_left
                      ·rintro w' ⟨s0,s1,s2,s3,s4,s5,s6,s7⟩
                       go_simp
                       with_reducible rfl
                      rotate_left
                      ·exact pa
                      refine take_ (i:=11) (N:=some 44) (v:=?_) (a':=?_) #[tT,tT,tT,tT,tT,tT,tT,tT,tT,tT,tT,tT,tT,tT,tT,fF,tT,tT,tT,tT,tT,tT,tT,fF,fF,fF] rfl rfl (take_ofW HT_.out HW_.out (by kernel_rfl)) (fun _ _ _ h => h) (Or.inl ⟨by rfl,?_⟩) hHeld ?_ ?_
                      rotate_left
                      ·rintro w' ⟨s0,s1,s2,s3,s4,s5,s6,s7⟩
                       go_simp
                       with_reducible rfl
                      rotate_left
                      ·exact pa
                      refine take_ (i:=15) (N:=some 48) (v:=?_) (a':=?_) #[tT,tT,tT,tT,tT,tT,tT,tT,tT,tT,tT,tT,tT,tT,tT,tT,tT,tT,tT,tT,tT,tT,tT,fF,fF,fF] rfl rfl (take_ofW HT_.out HW_.out (by kernel_rfl)) (fun _ _ _ h => h) (Or.inl ⟨by rfl,?_⟩) hHeld ?_ ?_
                      rotate_left
                      ·rintro w' ⟨s0,s1,s2,s3,s4,s5,s6,s7⟩
                       go_simp
                       with_reducible rfl
                      rotate_left
                      ·exact pa
                      refine take_ (i:=23) (N:=some 56) (v:=?_) (a':=?_) #[tT,tT,tT,tT,tT,tT,tT,tT,tT,tT,tT,tT,tT,tT,tT,tT,tT,tT,tT,tT,tT,tT,tT,tT,fF,fF] rfl rfl (take_ofW HT_.out HW_.out (by kernel_rfl)) (fun _ _ _ h => h) (Or.inl ⟨by rfl,?_⟩) hHeld ?_ ?_
                      rotate_left
                      ·rintro w' ⟨s0,s1,s2,s3,s4,s5,s6,s7⟩
                       go_simp
                       with_reducible rfl
                      rotate_left
                      ·exact pa
                      refine one_ (i:=24) (N:=some 57) #[tT,tT,tT,tT,tT,tT,tT,tT,tT,tT,tT,tT,tT,tT,tT,tT,tT,tT,tT,tT,tT,tT,tT,tT,tT,fF] rfl rfl (one_of HT_.out (by kernel_rfl)) (by decide) (fun K hK => ?_)
                      refine goes_ Try.func101 (by kernel_rfl) rfl #[.agg #[.int .i64 ((rd_T30 l0 x25_2).f0),.int .i64 ((rd_T30 l0 x25_2).f1)],.agg #[.int .i64 ((rd_T30 l0 (ji18)).f0),.int .i64 ((rd_T30 l0 (ji18)).f1)],.agg #[.int .i64 ((rd_T30 l1 x30_3).f0),.int .i64 ((rd_T30 l1 x30_3).f1)],.agg #[.int .i64 ((rd_T30 l1 (ji24)).f0),.int .i64 ((rd_T30 l1 (ji24)).f1)]] (by rfl) rfl rfl (by (try simp only [List.map_toArray,List.map_cons,List.map_nil]);first | done | (simp only [hji18,hji24];rfl) | rfl | (simp only [List.length_drop,List.length_take];rfl)) ?_
                      with_reducible refine (impl_betweenSegments.calls k3 ((rd_T30 l0 x25_2).f0) ((rd_T30 l0 x25_2).f1) ((rd_T30 l0 (ji18)).f0) ((rd_T30 l0 (ji18)).f1) ((rd_T30 l1 x30_3).f0) ((rd_T30 l1 x30_3).f1) ((rd_T30 l1 (ji24)).f0) ((rd_T30 l1 (ji24)).f1) t316 _ A27.out).mono ?_
                      rintro e w35 ⟨rfl,hb⟩
                      refine ⟨_,rfl,?_⟩
                      have n0_:=sb hb
                      clear HB
                      have HB:=n0_
                      clear n0_
                      (try clear hb)
                      (try clear hb2)
                      (try clear hk)
                      (try clear hi)
                      refine hK.out _ _ ⟨((HB.out.cell (bL w _ hw312_0)).trans hw312_0),((HB.out.cell (bL w _ hw312_1)).trans hw312_1),((HB.out.cell (bL w _ hw313_0)).trans hw313_0),((HB.out.cell (bL w _ hw313_1)).trans hw313_1),((HB.out.cell (bL w _ hw314_0)).trans hw314_0),((HB.out.cell (bL w _ hw314_1)).trans hw314_1),((HB.out.cell (bL w _ hw315_0)).trans hw315_0),((HB.out.cell (bL w _ hw315_1)).trans hw315_1)⟩ (fun hHeld => ?_)
                      clear hK K
                      refine norm_ (a':=?_) ?_ ?_
                      rotate_left
                      ·show Act.put _ (some 57) _ = _
                       simp only [Act.put,List.setIfInBounds_toArray,List.set_cons_zero,List.set_cons_succ,i64_w,i32_w]
                       rfl
                      refine pure_ (i:=25) (N:=some 8) (v:=?_) (a':=?_) #[tT,tT,tT,tT,tT,tT,tT,tT,tT,tT,tT,tT,tT,tT,tT,tT,tT,tT,tT,tT,tT,tT,tT,tT,tT,tT] rfl rfl (any_of HT_.out (by kernel_rfl)) (fun _ _ _ h => h) (Or.inl ⟨by rfl,?_⟩) ?_ ?_
                      rotate_left
                      ·intro w'
                       go_simp
                       with_reducible rfl
                      rotate_left
                      ·exact pa
                      refine done_ (done_of HT_.out (by kernel_rfl)) ?_
                      try go_wp2
                      go_roundg k3
                      case measure => have:=HJ2.out;have:=HK2.out;have:=HK3.out;omega
                      case rel => exact ⟨(x5_3),(wrap64 (x30_3 + 1)),(by first | rfl | (simp;done) | (simp [*];done)),(by first | rfl | (simp;done) | (simp [*];done)),H',⟨by have:=HJ2.out;have:=HK2.out;have:=HK3.out;omega⟩,⟨by repeat (first | (with_reducible first | exact HB.out | apply below_alloc | apply pw_below_drewN | apply below_drew1) | exact HB.out)⟩⟩
                   ·rw [if_neg c26] at H
                    exact absurd H (by simp)
                  ·rw [if_neg c25] at H
                   exact absurd H (by simp)
                ·first | (exfalso;have z_:=of_decide_eq_true c14b0;omega) | (rw [if_neg c22] at H;exact absurd H (by simp))
               ·rw [if_neg c21] at H
                exact absurd H (by simp)
              ·rw [if_neg c20] at H
               exact absurd H (by simp)
             ·rw [if_neg c19] at H
              exact absurd H (by simp)
           ·first | (exfalso;have z_:=of_decide_eq_true c13b0;omega) | (rw [if_neg c16] at H;exact absurd H (by simp))
          ·rw [if_neg c15] at H
           exact absurd H (by simp)
         ·rw [if_neg c14] at H
          have c14b0 : decide (x30_3 < (l1.length : Int)) = false:=decide_eq_false c14
          clear c14
          have H':=Aside0.mk H
          clear H
          go_wp2
          go_roundg k3
          case measure => have:=HJ2.out;have:=HK2.out;have:=HK3.out;omega
          case rel => exact ⟨(x5_3),(wrap64 (x25_2 + 1)),(by first | rfl | (simp;done) | (simp [*];done)),(by first | rfl | (simp;done) | (simp [*];done)),H',⟨by have:=HJ2.out;have:=HK2.out;have:=HK3.out;omega⟩,⟨by repeat (first | (with_reducible first | exact HB.out | apply below_alloc | apply pw_below_drewN | apply below_drew1) | exact HB.out)⟩⟩
      ·rw [if_neg c13] at H
       have c13b0 : decide (x25_2 < (l0.length : Int)) = false:=decide_eq_false c13
       clear c13
       obtain rfl:=Option.some.inj H
       go_wp2
       go_ret
       exact ⟨by first | rfl | (simp [errW_none,errW_some] <;> rfl) | (simp [*,errW_none,errW_some] <;> rfl),by repeat (first | (with_reducible first | exact HB.out | apply below_alloc | apply pw_below_drewN | apply below_drew1) | exact HB.out)⟩
end Go.Proofs.Ytkobmkdjmpnojaa.PFnExactPolygonDistance
