/- Contracts of functions that FnExactPolygonDistance reaches, out of the lines of the kit's print. -/
import Derived.Test.YtkobmkdjmpnojaaQFnExactPolygonDistancex0
import Derived.Test.YtkobmkdjmpnojaaQFnExactPolygonDistancex9
import Derived.Test.YtkobmkdjmpnojaaQFnExactPolygonDistancex10
namespace Go.Proofs.Ytkobmkdjmpnojaa.PFnExactPolygonDistance
open Go.RowKit Go.Proofs.YtkobmkdjmpnojaaW.PrintWords Go.Proofs.YtkobmkdjmpnojaaW.PrintLast Go.Proofs.YtkobmkdjmpnojaaW.PrintMore
open Bool renaming true → tT, false → fF
open Go.World renaming block_lt_of_cell? → bL
attribute [local go_sem] max2_int min2_int max_two min_two max_three min_three max_four min_four
set_option linter.unusedVariables false
set_option linter.unusedSimpArgs false
def impl_inside.l0 : Nat → List (S30) → Int → List (S30) → Int → Int → Int → Int → Option (Int)
 | 0,_,_,_,_,_,_,_ => none
 | k + 1,x0,x5,x10,x11,x12,x278000,x278001 => if x12 < x11 then (if 0 ≤ x12 then (if x12 < (x10.length : Int) then (if (x0.length : Int) = 0 then (none) else (if 0 ≤ (Int.tmod (wrap64 (x12 + 1)) (x0.length : Int)) then (if (Int.tmod (wrap64 (x12 + 1)) (x0.length : Int)) < (x0.length : Int) then ((impl_on.f ((rd_T30 x10 x12).f0) ((rd_T30 x10 x12).f1) ((rd_T30 x0 (Int.tmod (wrap64 (x12 + 1)) (x0.length : Int))).f0) ((rd_T30 x0 (Int.tmod (wrap64 (x12 + 1)) (x0.length : Int))).f1) x278000 x278001).bind fun t282 => (if t282 = true then (some 0) else (if ((decide (((rd_T30 x10 x12).f1) > x278001)) != (decide (((rd_T30 x0 (Int.tmod (wrap64 (x12 + 1)) (x0.length : Int))).f1) > x278001))) = true then ((impl_side.f ((rd_T30 x10 x12).f0) ((rd_T30 x10 x12).f1) ((rd_T30 x0 (Int.tmod (wrap64 (x12 + 1)) (x0.length : Int))).f0) ((rd_T30 x0 (Int.tmod (wrap64 (x12 + 1)) (x0.length : Int))).f1) x278000 x278001).bind fun t283 => (if ((rd_T30 x0 (Int.tmod (wrap64 (x12 + 1)) (x0.length : Int))).f1) < ((rd_T30 x10 x12).f1) then (if (wrap64 (-t283)) > 0 then (impl_inside.l0 k x0 (wrap64 (-x5)) x10 x11 (wrap64 (x12 + 1)) x278000 x278001) else (impl_inside.l0 k x0 x5 x10 x11 (wrap64 (x12 + 1)) x278000 x278001)) else (if t283 > 0 then (impl_inside.l0 k x0 (wrap64 (-x5)) x10 x11 (wrap64 (x12 + 1)) x278000 x278001) else (impl_inside.l0 k x0 x5 x10 x11 (wrap64 (x12 + 1)) x278000 x278001)))) else (impl_inside.l0 k x0 x5 x10 x11 (wrap64 (x12 + 1)) x278000 x278001)))) else (none)) else (none))) else (none)) else (none)) else (some x5)
def impl_inside.f (k : Nat) (l0 : List (S30)) (a1_0 : Int) (a1_1 : Int) : Option (Int):=impl_inside.l0 k l0 (-1) l0 (l0.length : Int) 0 a1_0 a1_1
theorem impl_inside.mono_l : ∀ k,(∀ y0 y1 y2 y3 y4 y5 y6,LeO (impl_inside.l0 k y0 y1 y2 y3 y4 y5 y6) (impl_inside.l0 (k + 1) y0 y1 y2 y3 y4 y5 y6))
 | 0 => fun _ _ _ _ _ _ _ r h => by simp [impl_inside.l0] at h
 | k + 1 => by
  have ih0:=impl_inside.mono_l k
  ·intro y0 y1 y2 y3 y4 y5 y6
   unfold impl_inside.l0
   repeat' first
   | (with_reducible exact ih0 _ _ _ _ _ _ _)
   | (with_reducible exact LeO.refl _)
   | (with_reducible exact LeO.none _)
   | (with_reducible refine LeO.ite ?_ ?_)
   | (with_reducible refine LeO.bind ?_ (fun _ => ?_))
   | exact ih0 _ _ _ _ _ _ _
   | exact LeO.none _
   | refine LeO.ite ?_ ?_
   | refine LeO.bind ?_ (fun _ => ?_)
theorem impl_inside.mono : ∀ a0 a1 a2 k,LeO (impl_inside.f k a0 a1 a2) (impl_inside.f (k + 1) a0 a1 a2):=by
 intro a0 a1 a2 k
 have ih0:=impl_inside.mono_l k
 unfold impl_inside.f
 repeat' first
   | (with_reducible exact ih0 _ _ _ _ _ _ _)
   | (with_reducible exact LeO.refl _)
   | (with_reducible exact LeO.none _)
   | (with_reducible refine LeO.ite ?_ ?_)
   | (with_reducible refine LeO.bind ?_ (fun _ => ?_))
   | exact ih0 _ _ _ _ _ _ _
   | exact LeO.none _
   | refine LeO.ite ?_ ?_
   | refine LeO.bind ?_ (fun _ => ?_)
set_option maxHeartbeats 8000000 in
set_option maxRecDepth 100000 in
theorem impl_inside.calls (k : Nat) (A0 : Option Addr) (c0 : Nat) (l0 : List (S30)) (a1_0 : Int) (a1_1 : Int) (r : Int) (w : World) (hr0 : Kd.C k30 w A0 l0.length l0) (hc0 : l0.length ≤ c0) (h : impl_inside.f k l0 a1_0 a1_1 = some r) :
  Calls Try.prog 54 #[.slice A0 l0.length c0,.agg #[.int .i64 a1_0,.int .i64 a1_1]] w fun e w' => e = .returned (.int .i64 r) ∧ Below w.heap.size w w':=by
 have hu30:=Try.underlying30
 have HR0:=Aside0.mk hr0
 have HC0:=Aside0.mk hc0
 clear hr0 hc0
 have HB:=Aside0.mk (Below.refl w.heap.size w)
 have H : (impl_inside.l0 k l0 (-1) l0 (l0.length : Int) 0 a1_0 a1_1) = some r:=h
 clear h
 have H':=Aside0.mk H
 clear H
 go_enter Try.func54,Try.ntmps54
 go_wp2_with (first | ((with_reducible refine gate_dst (N:=3) rfl ?_);refine box_event ?hg (N:=3) ?hd (cs:=#[.int .i64 a1_0,.int .i64 a1_1]) (t:=30) ?hr ?_;(case hd => rfl);(case hg => rfl);(case hr => first | (go_simp;done) | (go_simp;rfl));intro gb277 hg w3 hbox hb;have n0_:=sb hb;have n1_:=Aside0.mk (hbox);have n2_:=zb hg;have n3_:=zb hg;clear HB;have HB:=n0_;have BK277:=n1_;have GW277:=n2_;have GE277:=n3_;clear n0_ n1_ n2_ n3_;clear hb hbox hg))
 go_loopg [5,12] k (fun kq v5 v12 w' => ∃ (x5_1 : Int) (x12_1 : Int),v5 = .int .i64 x5_1 ∧ v12 = .int .i64 x12_1 ∧ Aside0 (impl_inside.l0 kq l0 x5_1 l0 (l0.length : Int) x12_1 a1_0 a1_1 = some r) ∧ Aside0 (kq ≤ k) ∧ Aside0 (w'.heap[gb277]? = some (.cells #[.int .i64 a1_0,.int .i64 a1_1] 30 (0,0))) ∧ Aside0 (Below w.heap.size w w'))
 case atStart => exact ⟨((-1)),(0),(by first | rfl | (simp;done) | (simp [*];done)),(by first | rfl | (simp;done) | (simp [*];done)),H',⟨Nat.le_refl _⟩,⟨by (with_reducible repeat (first | refine blk_drewN ?_ _ | refine blk_drew ?_ | refine blk_alloc ?_ _));exact BK277.out⟩,⟨by repeat (first | (with_reducible first | exact HB.out | apply below_alloc | apply pw_below_drewN | apply below_drew1 | refine below_set ?_ GE277.out) | exact HB.out)⟩⟩
 case round =>
  clear H'
  try clear p2
  obtain ⟨x5_1,x12_1,rfl,rfl,HA,HK1,BK277,HB⟩:=hrel
  cases gk with
  | zero => exact absurd HA.out (by simp [impl_inside.l0])
  | succ k1 =>
   have H:=HA.out
   clear HA
   simp only [impl_inside.l0] at H
   by_cases c4 : x12_1 < (l0.length : Int)
   ·rw [if_pos c4] at H
    have c4b0 : decide (x12_1 < (l0.length : Int)) = true:=decide_eq_true c4
    clear c4
    by_cases c5 : 0 ≤ x12_1
    ·rw [if_pos c5] at H
     have c5b0 : decide (0 ≤ x12_1) = true:=decide_eq_true c5
     clear c5
     by_cases c6 : x12_1 < (l0.length : Int)
     ·rw [if_pos c6] at H
      have c6b0 : decide (x12_1 < (l0.length : Int)) = true:=decide_eq_true c6
      clear c6
      by_cases c7 : (l0.length : Int) = 0
      ·rw [if_pos c7] at H
       exact absurd H (by simp)
      ·rw [if_neg c7] at H
       have c7b0 : ((l0.length : Int) == 0) = false:=beq_eq_false_iff_ne.mpr c7
       have c7b1 : ((l0.length : Int) != 0) = true:=bne_iff_ne.mpr c7
       have c7b2 : ¬ (l0 = []):=fun h_ => c7 (by rw [h_];rfl)
       obtain ⟨ji8,hji8⟩ : ∃ j_ : Int,(Int.tmod (wrap64 (x12_1 + 1)) (l0.length : Int)) = j_:=⟨_,rfl⟩
       replace H : (if 0 ≤ (ji8) then (if (ji8) < (l0.length : Int) then ((impl_on.f ((rd_T30 l0 x12_1).f0) ((rd_T30 l0 x12_1).f1) ((rd_T30 l0 (ji8)).f0) ((rd_T30 l0 (ji8)).f1) a1_0 a1_1).bind fun t282 => (if t282 = true then (some 0) else (if ((decide (((rd_T30 l0 x12_1).f1) > a1_1)) != (decide (((rd_T30 l0 (ji8)).f1) > a1_1))) = true then ((impl_side.f ((rd_T30 l0 x12_1).f0) ((rd_T30 l0 x12_1).f1) ((rd_T30 l0 (ji8)).f0) ((rd_T30 l0 (ji8)).f1) a1_0 a1_1).bind fun t283 => (if ((rd_T30 l0 (ji8)).f1) < ((rd_T30 l0 x12_1).f1) then (if (wrap64 (-t283)) > 0 then (impl_inside.l0 k1 l0 (wrap64 (-x5_1)) l0 (l0.length : Int) (wrap64 (x12_1 + 1)) a1_0 a1_1) else (impl_inside.l0 k1 l0 x5_1 l0 (l0.length : Int) (wrap64 (x12_1 + 1)) a1_0 a1_1)) else (if t283 > 0 then (impl_inside.l0 k1 l0 (wrap64 (-x5_1)) l0 (l0.length : Int) (wrap64 (x12_1 + 1)) a1_0 a1_1) else (impl_inside.l0 k1 l0 x5_1 l0 (l0.length : Int) (wrap64 (x12_1 + 1)) a1_0 a1_1)))) else (impl_inside.l0 k1 l0 x5_1 l0 (l0.length : Int) (wrap64 (x12_1 + 1)) a1_0 a1_1)))) else (none)) else (none)) = some r:=by first | (rw [hji8] at H;exact H) | (simp only [hji8] at H ⊢;exact H)
       by_cases c9 : 0 ≤ (ji8)
       ·rw [if_pos c9] at H
        have c9b0 : decide (0 ≤ (ji8)) = true:=decide_eq_true c9
        clear c9
        by_cases c10 : (ji8) < (l0.length : Int)
        ·rw [if_pos c10] at H
         have c10b0 : decide ((ji8) < (l0.length : Int)) = true:=decide_eq_true c10
         clear c10
         replace H:=Option.bind_eq_some_iff.mp H
         obtain ⟨t282,A110,H⟩:=H
         replace H : (if t282 = true then (some 0) else (if ((decide (((rd_T30 l0 x12_1).f1) > a1_1)) != (decide (((rd_T30 l0 (ji8)).f1) > a1_1))) = true then ((impl_side.f ((rd_T30 l0 x12_1).f0) ((rd_T30 l0 x12_1).f1) ((rd_T30 l0 (ji8)).f0) ((rd_T30 l0 (ji8)).f1) a1_0 a1_1).bind fun t283 => (if ((rd_T30 l0 (ji8)).f1) < ((rd_T30 l0 x12_1).f1) then (if (wrap64 (-t283)) > 0 then (impl_inside.l0 k1 l0 (wrap64 (-x5_1)) l0 (l0.length : Int) (wrap64 (x12_1 + 1)) a1_0 a1_1) else (impl_inside.l0 k1 l0 x5_1 l0 (l0.length : Int) (wrap64 (x12_1 + 1)) a1_0 a1_1)) else (if t283 > 0 then (impl_inside.l0 k1 l0 (wrap64 (-x5_1)) l0 (l0.length : Int) (wrap64 (x12_1 + 1)) a1_0 a1_1) else (impl_inside.l0 k1 l0 x5_1 l0 (l0.length : Int) (wrap64 (x12_1 + 1)) a1_0 a1_1)))) else (impl_inside.l0 k1 l0 x5_1 l0 (l0.length : Int) (wrap64 (x12_1 + 1)) a1_0 a1_1))) = some r:=H
         have A11:=Aside0.mk A110
         clear A110
         by_cases c12 : t282 = true
         ·subst c12
          have H1 : (some 0) = some r:=by rw [if_pos rfl] at H;exact H
          clear H
          have H:=H1
          clear H1
          obtain rfl:=Option.some.inj H
          have p278 : 0 ≤ (x12_1 : Int):=of_decide_eq_true (by first | (with_reducible assumption) | assumption)
          have q278 : x12_1 < (l0.length : Int):=of_decide_eq_true (by first | (with_reducible assumption) | assumption)
          obtain ⟨ad278,e278,hx278_0,hx278_1⟩:=at_T30 HR0.out x12_1 p278 q278
          cases e278
          replace hx278_0:=(HB.out.cell (bL w _ hx278_0)).trans hx278_0
          replace hx278_1:=(HB.out.cell (bL w _ hx278_1)).trans hx278_1
          replace p278:=eq_true p278
          replace q278:=eq_true q278
          go_wp2_with (first | ((with_reducible refine gate_dst (N:=7) rfl ?_);refine box_event ?hg (N:=7) ?hd (cs:=#[.int .i64 0,.int .i64 0]) (t:=30) ?hr ?_;(case hd => rfl);(case hg => rfl);(case hr => first | (go_simp;done) | (go_simp;rfl));intro gb279 hg w13 hbox hb;have n0_:=kb BK277 hb;have n1_:=sb hb;have n2_:=Aside0.mk (hbox);have n3_:=zb hg;have n4_:=zb hg;have n5_:=nl BK277 hg;have n6_:=ng BK277 hg;clear BK277;clear HB;have BK277:=n0_;have HB:=n1_;have BK279:=n2_;have GW279:=n3_;have GE279:=n4_;have NB277_279:=n5_;have NB279_277:=n6_;clear n0_ n1_ n2_ n3_ n4_ n5_ n6_;clear hb hbox hg;have hnb14:=NB279_277.out;have hnc14:=NB277_279.out;have hcz15_0:=ck BK279 0;have hcz15_1:=ck BK279 1;have hfz15_0:=blk_frozen BK279.out 0;have hfz15_1:=blk_frozen BK279.out 1;have p280 : 0 ≤ ((ji8) : Int):=of_decide_eq_true (by first | (with_reducible assumption) | assumption);have q280 : (ji8) < (l0.length : Int):=of_decide_eq_true (by first | (with_reducible assumption) | assumption);obtain ⟨ad280,e280,hx280_0,hx280_1⟩:=at_T30 HR0.out (ji8) p280 q280;obtain rfl : ad278 = ad280:=(by injection e280);have hn280_0 : ad278.block ≠ gb279:=Nat.ne_of_lt (Nat.lt_of_lt_of_le (by have:=bL _ _ hx280_0;first | rwa [add_block] at this | exact this) GW279.out);have hn280_1 : ad278.block ≠ gb279:=Nat.ne_of_lt (Nat.lt_of_lt_of_le (by have:=bL _ _ hx280_0;first | rwa [add_block] at this | exact this) GW279.out);replace hx280_0:=(HB.out.cell (bL w _ hx280_0)).trans hx280_0;replace hx280_1:=(HB.out.cell (bL w _ hx280_1)).trans hx280_1;replace hx280_0:=(cell_far (p:=⟨gb279,0,none⟩) (by first | (rw [add_block];exact hn280_0) | (show (Addr.add _ _).block ≠ _;rw [add_block];exact hn280_0) | exact hn280_0) (.int .i64 ((rd_T30 l0 x12_1).f0))).trans hx280_0;replace hx280_1:=(cell_far (p:=⟨gb279,0,none⟩) (by first | (rw [add_block];exact hn280_0) | (show (Addr.add _ _).block ≠ _;rw [add_block];exact hn280_0) | exact hn280_0) (.int .i64 ((rd_T30 l0 x12_1).f0))).trans hx280_1;replace hx280_0:=(cell_far (p:=⟨gb279,1,none⟩) (by first | (rw [add_block];exact hn280_1) | (show (Addr.add _ _).block ≠ _;rw [add_block];exact hn280_1) | exact hn280_1) (.int .i64 ((rd_T30 l0 x12_1).f1))).trans hx280_0;replace hx280_1:=(cell_far (p:=⟨gb279,1,none⟩) (by first | (rw [add_block];exact hn280_1) | (show (Addr.add _ _).block ≠ _;rw [add_block];exact hn280_1) | exact hn280_1) (.int .i64 ((rd_T30 l0 x12_1).f1))).trans hx280_1;clear hn280_0;clear hn280_1;replace p280:=eq_true p280;replace q280:=eq_true q280) | ((with_reducible refine gate_dst (N:=8) rfl ?_);refine box_event ?hg (N:=8) ?hd (cs:=#[.int .i64 0,.int .i64 0]) (t:=30) ?hr ?_;(case hd => rfl);(case hg => rfl);(case hr => first | (go_simp;done) | (go_simp;rfl));intro gb281 hg w16 hbox hb;have n0_:=Aside0.mk (blk_below (g:=gb277) (o:=.cells #[.int .i64 a1_0,.int .i64 a1_1] 30 (0,0)) (by (with_reducible repeat (first | refine blk_drewN ?_ _ | refine blk_drew ?_ | refine blk_alloc ?_ _));refine blk_far ?_ NB277_279.out _;(with_reducible repeat (first | refine blk_drewN ?_ _ | refine blk_drew ?_ | refine blk_alloc ?_ _));refine blk_far ?_ NB277_279.out _;(with_reducible repeat (first | refine blk_drewN ?_ _ | refine blk_drew ?_ | refine blk_alloc ?_ _));exact BK277.out) hb);have n1_:=Aside0.mk (blk_below (g:=gb279) (o:=.cells #[.int .i64 ((rd_T30 l0 x12_1).f0),.int .i64 ((rd_T30 l0 x12_1).f1)] 30 (0,0)) (by (with_reducible repeat (first | refine blk_drewN ?_ _ | refine blk_drew ?_ | refine blk_alloc ?_ _));refine blk_put (cs:=#[.int .i64 ((rd_T30 l0 x12_1).f0),.int .i64 0]) ?_ 1 _ rfl;(with_reducible repeat (first | refine blk_drewN ?_ _ | refine blk_drew ?_ | refine blk_alloc ?_ _));refine blk_put (cs:=#[.int .i64 0,.int .i64 0]) ?_ 0 _ rfl;(with_reducible repeat (first | refine blk_drewN ?_ _ | refine blk_drew ?_ | refine blk_alloc ?_ _));exact BK279.out) hb);have n2_:=sb hb;have n3_:=Aside0.mk (hbox);have n4_:=zb hg;have n5_:=zb hg;have n6_:=Aside0.mk ((by rw [hg];exact Nat.ne_of_lt (blk_lt (g:=gb277) (o:=.cells #[.int .i64 a1_0,.int .i64 a1_1] 30 (0,0)) (by (with_reducible repeat (first | refine blk_drewN ?_ _ | refine blk_drew ?_ | refine blk_alloc ?_ _));refine blk_far ?_ NB277_279.out _;(with_reducible repeat (first | refine blk_drewN ?_ _ | refine blk_drew ?_ | refine blk_alloc ?_ _));refine blk_far ?_ NB277_279.out _;(with_reducible repeat (first | refine blk_drewN ?_ _ | refine blk_drew ?_ | refine blk_alloc ?_ _));exact BK277.out)) : gb277 ≠ gb281));have n7_:=Aside0.mk ((by rw [hg];exact Nat.ne_of_gt (blk_lt (g:=gb277) (o:=.cells #[.int .i64 a1_0,.int .i64 a1_1] 30 (0,0)) (by (with_reducible repeat (first | refine blk_drewN ?_ _ | refine blk_drew ?_ | refine blk_alloc ?_ _));refine blk_far ?_ NB277_279.out _;(with_reducible repeat (first | refine blk_drewN ?_ _ | refine blk_drew ?_ | refine blk_alloc ?_ _));refine blk_far ?_ NB277_279.out _;(with_reducible repeat (first | refine blk_drewN ?_ _ | refine blk_drew ?_ | refine blk_alloc ?_ _));exact BK277.out)) : gb281 ≠ gb277));have n8_:=Aside0.mk ((by rw [hg];exact Nat.ne_of_lt (blk_lt (g:=gb279) (o:=.cells #[.int .i64 ((rd_T30 l0 x12_1).f0),.int .i64 ((rd_T30 l0 x12_1).f1)] 30 (0,0)) (by (with_reducible repeat (first | refine blk_drewN ?_ _ | refine blk_drew ?_ | refine blk_alloc ?_ _));refine blk_put (cs:=#[.int .i64 ((rd_T30 l0 x12_1).f0),.int .i64 0]) ?_ 1 _ rfl;(with_reducible repeat (first | refine blk_drewN ?_ _ | refine blk_drew ?_ | refine blk_alloc ?_ _));refine blk_put (cs:=#[.int .i64 0,.int .i64 0]) ?_ 0 _ rfl;(with_reducible repeat (first | refine blk_drewN ?_ _ | refine blk_drew ?_ | refine blk_alloc ?_ _));exact BK279.out)) : gb279 ≠ gb281));have n9_:=Aside0.mk ((by rw [hg];exact Nat.ne_of_gt (blk_lt (g:=gb279) (o:=.cells #[.int .i64 ((rd_T30 l0 x12_1).f0),.int .i64 ((rd_T30 l0 x12_1).f1)] 30 (0,0)) (by (with_reducible repeat (first | refine blk_drewN ?_ _ | refine blk_drew ?_ | refine blk_alloc ?_ _));refine blk_put (cs:=#[.int .i64 ((rd_T30 l0 x12_1).f0),.int .i64 0]) ?_ 1 _ rfl;(with_reducible repeat (first | refine blk_drewN ?_ _ | refine blk_drew ?_ | refine blk_alloc ?_ _));refine blk_put (cs:=#[.int .i64 0,.int .i64 0]) ?_ 0 _ rfl;(with_reducible repeat (first | refine blk_drewN ?_ _ | refine blk_drew ?_ | refine blk_alloc ?_ _));exact BK279.out)) : gb281 ≠ gb279));clear BK277;clear BK279;clear HB;have BK277:=n0_;have BK279:=n1_;have HB:=n2_;have BK281:=n3_;have GW281:=n4_;have GE281:=n5_;have NB277_281:=n6_;have NB281_277:=n7_;have NB279_281:=n8_;have NB281_279:=n9_;clear n0_ n1_ n2_ n3_ n4_ n5_ n6_ n7_ n8_ n9_;clear hb hbox hg;have hnb17:=NB281_277.out;have hnc17:=NB277_281.out;have hnb18:=NB281_279.out;have hnc18:=NB279_281.out;have hcz19_0:=ck BK281 0;have hcz19_1:=ck BK281 1;have hfz19_0:=blk_frozen BK281.out 0;have hfz19_1:=blk_frozen BK281.out 1;have hcz20_0:=ck BK279 0;have hcz20_1:=ck BK279 1;have hfz20_0:=blk_frozen BK279.out 0;have hfz20_1:=blk_frozen BK279.out 1;have hcz21_0:=ck BK277 0;have hcz21_1:=ck BK277 1;have hfz21_0:=blk_frozen BK277.out 0;have hfz21_1:=blk_frozen BK277.out 1) | ((with_reducible refine gate_callee (f:=85) rfl ?_);refine goesL_ (some 28) rfl rfl Try.func85 (by kernel_rfl) rfl #[.agg #[.int .i64 ((rd_T30 l0 x12_1).f0),.int .i64 ((rd_T30 l0 x12_1).f1)],.agg #[.int .i64 ((rd_T30 l0 (ji8)).f0),.int .i64 ((rd_T30 l0 (ji8)).f1)],.agg #[.int .i64 a1_0,.int .i64 a1_1]] rfl (by (try simp only [List.map_toArray,List.map_cons,List.map_nil]);first | done | (simp only [hji8];rfl) | rfl | (simp only [List.length_drop,List.length_take];rfl)) ?_;(with_reducible refine (impl_on.calls ((rd_T30 l0 x12_1).f0) ((rd_T30 l0 x12_1).f1) ((rd_T30 l0 (ji8)).f0) ((rd_T30 l0 (ji8)).f1) a1_0 a1_1 true _ A11.out).mono ?_);rintro e w22 ⟨rfl,hb⟩;refine ⟨_,rfl,?_⟩;have n0_:=Aside0.mk (blk_below (g:=gb277) (o:=.cells #[.int .i64 a1_0,.int .i64 a1_1] 30 (0,0)) (by (with_reducible repeat (first | refine blk_drewN ?_ _ | refine blk_drew ?_ | refine blk_alloc ?_ _));refine blk_far ?_ NB277_281.out _;(with_reducible repeat (first | refine blk_drewN ?_ _ | refine blk_drew ?_ | refine blk_alloc ?_ _));refine blk_far ?_ NB277_281.out _;(with_reducible repeat (first | refine blk_drewN ?_ _ | refine blk_drew ?_ | refine blk_alloc ?_ _));exact BK277.out) hb);have n1_:=Aside0.mk (blk_below (g:=gb279) (o:=.cells #[.int .i64 ((rd_T30 l0 x12_1).f0),.int .i64 ((rd_T30 l0 x12_1).f1)] 30 (0,0)) (by (with_reducible repeat (first | refine blk_drewN ?_ _ | refine blk_drew ?_ | refine blk_alloc ?_ _));refine blk_far ?_ NB279_281.out _;(with_reducible repeat (first | refine blk_drewN ?_ _ | refine blk_drew ?_ | refine blk_alloc ?_ _));refine blk_far ?_ NB279_281.out _;(with_reducible repeat (first | refine blk_drewN ?_ _ | refine blk_drew ?_ | refine blk_alloc ?_ _));exact BK279.out) hb);have n2_:=Aside0.mk (blk_below (g:=gb281) (o:=.cells #[.int .i64 ((rd_T30 l0 (ji8)).f0),.int .i64 ((rd_T30 l0 (ji8)).f1)] 30 (0,0)) (by (with_reducible repeat (first | refine blk_drewN ?_ _ | refine blk_drew ?_ | refine blk_alloc ?_ _));refine blk_put (cs:=#[.int .i64 ((rd_T30 l0 (ji8)).f0),.int .i64 0]) ?_ 1 _ rfl;(with_reducible repeat (first | refine blk_drewN ?_ _ | refine blk_drew ?_ | refine blk_alloc ?_ _));refine blk_put (cs:=#[.int .i64 0,.int .i64 0]) ?_ 0 _ rfl;(with_reducible repeat (first | refine blk_drewN ?_ _ | refine blk_drew ?_ | refine blk_alloc ?_ _));exact BK281.out) hb);have n3_:=sb hb;clear BK277;clear BK279;clear BK281;clear HB;have BK277:=n0_;have BK279:=n1_;have BK281:=n2_;have HB:=n3_;clear n0_ n1_ n2_ n3_;(try clear hb);(try clear hb2);(try clear hk);(try clear hi)))
          go_ret
          exact ⟨by first | rfl | (simp [errW_none,errW_some] <;> rfl) | (simp only [← hji8];first | rfl | (simp [errW_none,errW_some] <;> rfl)) | (simp [*,errW_none,errW_some] <;> rfl),by repeat (first | (with_reducible first | exact HB.out | apply below_alloc | apply pw_below_drewN | apply below_drew1 | refine below_set ?_ GE277.out | refine below_set ?_ GE279.out | refine below_set ?_ GE281.out) | exact HB.out)⟩
         ·replace c12:=Bool.eq_false_iff.mpr c12
          subst c12
          have H1 : (if ((decide (((rd_T30 l0 x12_1).f1) > a1_1)) != (decide (((rd_T30 l0 (ji8)).f1) > a1_1))) = true then ((impl_side.f ((rd_T30 l0 x12_1).f0) ((rd_T30 l0 x12_1).f1) ((rd_T30 l0 (ji8)).f0) ((rd_T30 l0 (ji8)).f1) a1_0 a1_1).bind fun t283 => (if ((rd_T30 l0 (ji8)).f1) < ((rd_T30 l0 x12_1).f1) then (if (wrap64 (-t283)) > 0 then (impl_inside.l0 k1 l0 (wrap64 (-x5_1)) l0 (l0.length : Int) (wrap64 (x12_1 + 1)) a1_0 a1_1) else (impl_inside.l0 k1 l0 x5_1 l0 (l0.length : Int) (wrap64 (x12_1 + 1)) a1_0 a1_1)) else (if t283 > 0 then (impl_inside.l0 k1 l0 (wrap64 (-x5_1)) l0 (l0.length : Int) (wrap64 (x12_1 + 1)) a1_0 a1_1) else (impl_inside.l0 k1 l0 x5_1 l0 (l0.length : Int) (wrap64 (x12_1 + 1)) a1_0 a1_1)))) else (impl_inside.l0 k1 l0 x5_1 l0 (l0.length : Int) (wrap64 (x12_1 + 1)) a1_0 a1_1)) = some r:=by rw [if_neg (show ¬ (false = true) by decide)] at H;exact H
          clear H
          have H:=H1
          clear H1
          by_cases c23 : ((decide (((rd_T30 l0 x12_1).f1) > a1_1)) != (decide (((rd_T30 l0 (ji8)).f1) > a1_1))) = true
          ·rw [if_pos c23] at H
           have c23b0 : ((decide (((rd_T30 l0 x12_1).f1) > a1_1)) != (decide (((rd_T30 l0 (ji8)).f1) > a1_1))) = true:=c23
           (try (have c23b1 : decide ((decide (((rd_T30 l0 x12_1).f1) > a1_1)) = (decide (((rd_T30 l0 (ji8)).f1) > a1_1))) = false:=by simpa using c23))
           (try (have c23b2 : ((decide (((rd_T30 l0 x12_1).f1) > a1_1)) == (decide (((rd_T30 l0 (ji8)).f1) > a1_1))) = false:=by simpa using c23))
           (try (have c23b3 : ¬ ((decide (((rd_T30 l0 x12_1).f1) > a1_1)) = (decide (((rd_T30 l0 (ji8)).f1) > a1_1))):=by simpa using c23))
           clear c23
           replace H:=Option.bind_eq_some_iff.mp H
           obtain ⟨t283,A240,H⟩:=H
           replace H : (if ((rd_T30 l0 (ji8)).f1) < ((rd_T30 l0 x12_1).f1) then (if (wrap64 (-t283)) > 0 then (impl_inside.l0 k1 l0 (wrap64 (-x5_1)) l0 (l0.length : Int) (wrap64 (x12_1 + 1)) a1_0 a1_1) else (impl_inside.l0 k1 l0 x5_1 l0 (l0.length : Int) (wrap64 (x12_1 + 1)) a1_0 a1_1)) else (if t283 > 0 then (impl_inside.l0 k1 l0 (wrap64 (-x5_1)) l0 (l0.length : Int) (wrap64 (x12_1 + 1)) a1_0 a1_1) else (impl_inside.l0 k1 l0 x5_1 l0 (l0.length : Int) (wrap64 (x12_1 + 1)) a1_0 a1_1))) = some r:=H
           have A24:=Aside0.mk A240
           clear A240
           by_cases c25 : ((rd_T30 l0 (ji8)).f1) < ((rd_T30 l0 x12_1).f1)
           ·rw [if_pos c25] at H
            have c25b0 : decide (((rd_T30 l0 (ji8)).f1) < ((rd_T30 l0 x12_1).f1)) = true:=decide_eq_true c25
            clear c25
            by_cases c26 : (wrap64 (-t283)) > 0
            ·rw [if_pos c26] at H
             have c26b0 : decide (0 < (wrap64 (-t283))) = true:=decide_eq_true c26
             clear c26
             have H':=Aside0.mk H
             clear H
             have p278 : 0 ≤ (x12_1 : Int):=of_decide_eq_true (by first | (with_reducible assumption) | assumption)
             have q278 : x12_1 < (l0.length : Int):=of_decide_eq_true (by first | (with_reducible assumption) | assumption)
             obtain ⟨ad278,e278,hx278_0,hx278_1⟩:=at_T30 HR0.out x12_1 p278 q278
             cases e278
             replace hx278_0:=(HB.out.cell (bL w _ hx278_0)).trans hx278_0
             replace hx278_1:=(HB.out.cell (bL w _ hx278_1)).trans hx278_1
             replace p278:=eq_true p278
             replace q278:=eq_true q278
             go_wp2_with (first | ((with_reducible refine gate_dst (N:=7) rfl ?_);refine box_event ?hg (N:=7) ?hd (cs:=#[.int .i64 0,.int .i64 0]) (t:=30) ?hr ?_;(case hd => rfl);(case hg => rfl);(case hr => first | (go_simp;done) | (go_simp;rfl));intro gb279 hg w27 hbox hb;have n0_:=kb BK277 hb;have n1_:=sb hb;have n2_:=Aside0.mk (hbox);have n3_:=zb hg;have n4_:=zb hg;have n5_:=nl BK277 hg;have n6_:=ng BK277 hg;clear BK277;clear HB;have BK277:=n0_;have HB:=n1_;have BK279:=n2_;have GW279:=n3_;have GE279:=n4_;have NB277_279:=n5_;have NB279_277:=n6_;clear n0_ n1_ n2_ n3_ n4_ n5_ n6_;clear hb hbox hg;have hnb28:=NB279_277.out;have hnc28:=NB277_279.out;have hcz29_0:=ck BK279 0;have hcz29_1:=ck BK279 1;have hfz29_0:=blk_frozen BK279.out 0;have hfz29_1:=blk_frozen BK279.out 1;have p280 : 0 ≤ ((ji8) : Int):=of_decide_eq_true (by first | (with_reducible assumption) | assumption);have q280 : (ji8) < (l0.length : Int):=of_decide_eq_true (by first | (with_reducible assumption) | assumption);obtain ⟨ad280,e280,hx280_0,hx280_1⟩:=at_T30 HR0.out (ji8) p280 q280;obtain rfl : ad278 = ad280:=(by injection e280);have hn280_0 : ad278.block ≠ gb279:=Nat.ne_of_lt (Nat.lt_of_lt_of_le (by have:=bL _ _ hx280_0;first | rwa [add_block] at this | exact this) GW279.out);have hn280_1 : ad278.block ≠ gb279:=Nat.ne_of_lt (Nat.lt_of_lt_of_le (by have:=bL _ _ hx280_0;first | rwa [add_block] at this | exact this) GW279.out);replace hx280_0:=(HB.out.cell (bL w _ hx280_0)).trans hx280_0;replace hx280_1:=(HB.out.cell (bL w _ hx280_1)).trans hx280_1;replace hx280_0:=(cell_far (p:=⟨gb279,0,none⟩) (by first | (rw [add_block];exact hn280_0) | (show (Addr.add _ _).block ≠ _;rw [add_block];exact hn280_0) | exact hn280_0) (.int .i64 ((rd_T30 l0 x12_1).f0))).trans hx280_0;replace hx280_1:=(cell_far (p:=⟨gb279,0,none⟩) (by first | (rw [add_block];exact hn280_0) | (show (Addr.add _ _).block ≠ _;rw [add_block];exact hn280_0) | exact hn280_0) (.int .i64 ((rd_T30 l0 x12_1).f0))).trans hx280_1;replace hx280_0:=(cell_far (p:=⟨gb279,1,none⟩) (by first | (rw [add_block];exact hn280_1) | (show (Addr.add _ _).block ≠ _;rw [add_block];exact hn280_1) | exact hn280_1) (.int .i64 ((rd_T30 l0 x12_1).f1))).trans hx280_0;replace hx280_1:=(cell_far (p:=⟨gb279,1,none⟩) (by first | (rw [add_block];exact hn280_1) | (show (Addr.add _ _).block ≠ _;rw [add_block];exact hn280_1) | exact hn280_1) (.int .i64 ((rd_T30 l0 x12_1).f1))).trans hx280_1;clear hn280_0;clear hn280_1;replace p280:=eq_true p280;replace q280:=eq_true q280) | ((with_reducible refine gate_dst (N:=8) rfl ?_);refine box_event ?hg (N:=8) ?hd (cs:=#[.int .i64 0,.int .i64 0]) (t:=30) ?hr ?_;(case hd => rfl);(case hg => rfl);(case hr => first | (go_simp;done) | (go_simp;rfl));intro gb281 hg w30 hbox hb;have n0_:=Aside0.mk (blk_below (g:=gb277) (o:=.cells #[.int .i64 a1_0,.int .i64 a1_1] 30 (0,0)) (by (with_reducible repeat (first | refine blk_drewN ?_ _ | refine blk_drew ?_ | refine blk_alloc ?_ _));refine blk_far ?_ NB277_279.out _;(with_reducible repeat (first | refine blk_drewN ?_ _ | refine blk_drew ?_ | refine blk_alloc ?_ _));refine blk_far ?_ NB277_279.out _;(with_reducible repeat (first | refine blk_drewN ?_ _ | refine blk_drew ?_ | refine blk_alloc ?_ _));exact BK277.out) hb);have n1_:=Aside0.mk (blk_below (g:=gb279) (o:=.cells #[.int .i64 ((rd_T30 l0 x12_1).f0),.int .i64 ((rd_T30 l0 x12_1).f1)] 30 (0,0)) (by (with_reducible repeat (first | refine blk_drewN ?_ _ | refine blk_drew ?_ | refine blk_alloc ?_ _));refine blk_put (cs:=#[.int .i64 ((rd_T30 l0 x12_1).f0),.int .i64 0]) ?_ 1 _ rfl;(with_reducible repeat (first | refine blk_drewN ?_ _ | refine blk_drew ?_ | refine blk_alloc ?_ _));refine blk_put (cs:=#[.int .i64 0,.int .i64 0]) ?_ 0 _ rfl;(with_reducible repeat (first | refine blk_drewN ?_ _ | refine blk_drew ?_ | refine blk_alloc ?_ _));exact BK279.out) hb);have n2_:=sb hb;have n3_:=Aside0.mk (hbox);have n4_:=zb hg;have n5_:=zb hg;have n6_:=Aside0.mk ((by rw [hg];exact Nat.ne_of_lt (blk_lt (g:=gb277) (o:=.cells #[.int .i64 a1_0,.int .i64 a1_1] 30 (0,0)) (by (with_reducible repeat (first | refine blk_drewN ?_ _ | refine blk_drew ?_ | refine blk_alloc ?_ _));refine blk_far ?_ NB277_279.out _;(with_reducible repeat (first | refine blk_drewN ?_ _ | refine blk_drew ?_ | refine blk_alloc ?_ _));refine blk_far ?_ NB277_279.out _;(with_reducible repeat (first | refine blk_drewN ?_ _ | refine blk_drew ?_ | refine blk_alloc ?_ _));exact BK277.out)) : gb277 ≠ gb281));have n7_:=Aside0.mk ((by rw [hg];exact Nat.ne_of_gt (blk_lt (g:=gb277) (o:=.cells #[.int .i64 a1_0,.int .i64 a1_1] 30 (0,0)) (by (with_reducible repeat (first | refine blk_drewN ?_ _ | refine blk_drew ?_ | refine blk_alloc ?_ _));refine blk_far ?_ NB277_279.out _;(with_reducible repeat (first | refine blk_drewN ?_ _ | refine blk_drew ?_ | refine blk_alloc ?_ _));refine blk_far ?_ NB277_279.out _;(with_reducible repeat (first | refine blk_drewN ?_ _ | refine blk_drew ?_ | refine blk_alloc ?_ _));exact BK277.out)) : gb281 ≠ gb277));have n8_:=Aside0.mk ((by rw [hg];exact Nat.ne_of_lt (blk_lt (g:=gb279) (o:=.cells #[.int .i64 ((rd_T30 l0 x12_1).f0),.int .i64 ((rd_T30 l0 x12_1).f1)] 30 (0,0)) (by (with_reducible repeat (first | refine blk_drewN ?_ _ | refine blk_drew ?_ | refine blk_alloc ?_ _));refine blk_put (cs:=#[.int .i64 ((rd_T30 l0 x12_1).f0),.int .i64 0]) ?_ 1 _ rfl;(with_reducible repeat (first | refine blk_drewN ?_ _ | refine blk_drew ?_ | refine blk_alloc ?_ _));refine blk_put (cs:=#[.int .i64 0,.int .i64 0]) ?_ 0 _ rfl;(with_reducible repeat (first | refine blk_drewN ?_ _ | refine blk_drew ?_ | refine blk_alloc ?_ _));exact BK279.out)) : gb279 ≠ gb281));have n9_:=Aside0.mk ((by rw [hg];exact Nat.ne_of_gt (blk_lt (g:=gb279) (o:=.cells #[.int .i64 ((rd_T30 l0 x12_1).f0),.int .i64 ((rd_T30 l0 x12_1).f1)] 30 (0,0)) (by (with_reducible repeat (first | refine blk_drewN ?_ _ | refine blk_drew ?_ | refine blk_alloc ?_ _));refine blk_put (cs:=#[.int .i64 ((rd_T30 l0 x12_1).f0),.int .i64 0]) ?_ 1 _ rfl;(with_reducible repeat (first | refine blk_drewN ?_ _ | refine blk_drew ?_ | refine blk_alloc ?_ _));refine blk_put (cs:=#[.int .i64 0,.int .i64 0]) ?_ 0 _ rfl;(with_reducible repeat (first | refine blk_drewN ?_ _ | refine blk_drew ?_ | refine blk_alloc ?_ _));exact BK279.out)) : gb281 ≠ gb279));clear BK277;clear BK279;clear HB;have BK277:=n0_;have BK279:=n1_;have HB:=n2_;have BK281:=n3_;have GW281:=n4_;have GE281:=n5_;have NB277_281:=n6_;have NB281_277:=n7_;have NB279_281:=n8_;have NB281_279:=n9_;clear n0_ n1_ n2_ n3_ n4_ n5_ n6_ n7_ n8_ n9_;clear hb hbox hg;have hnb31:=NB281_277.out;have hnc31:=NB277_281.out;have hnb32:=NB281_279.out;have hnc32:=NB279_281.out;have hcz33_0:=ck BK281 0;have hcz33_1:=ck BK281 1;have hfz33_0:=blk_frozen BK281.out 0;have hfz33_1:=blk_frozen BK281.out 1;have hcz34_0:=ck BK279 0;have hcz34_1:=ck BK279 1;have hfz34_0:=blk_frozen BK279.out 0;have hfz34_1:=blk_frozen BK279.out 1;have hcz35_0:=ck BK277 0;have hcz35_1:=ck BK277 1;have hfz35_0:=blk_frozen BK277.out 0;have hfz35_1:=blk_frozen BK277.out 1) | ((with_reducible refine gate_callee (f:=85) rfl ?_);refine goesL_ (some 28) rfl rfl Try.func85 (by kernel_rfl) rfl #[.agg #[.int .i64 ((rd_T30 l0 x12_1).f0),.int .i64 ((rd_T30 l0 x12_1).f1)],.agg #[.int .i64 ((rd_T30 l0 (ji8)).f0),.int .i64 ((rd_T30 l0 (ji8)).f1)],.agg #[.int .i64 a1_0,.int .i64 a1_1]] rfl (by (try simp only [List.map_toArray,List.map_cons,List.map_nil]);first | done | (simp only [hji8];rfl) | rfl | (simp only [List.length_drop,List.length_take];rfl)) ?_;(with_reducible refine (impl_on.calls ((rd_T30 l0 x12_1).f0) ((rd_T30 l0 x12_1).f1) ((rd_T30 l0 (ji8)).f0) ((rd_T30 l0 (ji8)).f1) a1_0 a1_1 false _ A11.out).mono ?_);rintro e w36 ⟨rfl,hb⟩;refine ⟨_,rfl,?_⟩;have n0_:=Aside0.mk (blk_below (g:=gb277) (o:=.cells #[.int .i64 a1_0,.int .i64 a1_1] 30 (0,0)) (by (with_reducible repeat (first | refine blk_drewN ?_ _ | refine blk_drew ?_ | refine blk_alloc ?_ _));refine blk_far ?_ NB277_281.out _;(with_reducible repeat (first | refine blk_drewN ?_ _ | refine blk_drew ?_ | refine blk_alloc ?_ _));refine blk_far ?_ NB277_281.out _;(with_reducible repeat (first | refine blk_drewN ?_ _ | refine blk_drew ?_ | refine blk_alloc ?_ _));exact BK277.out) hb);have n1_:=Aside0.mk (blk_below (g:=gb279) (o:=.cells #[.int .i64 ((rd_T30 l0 x12_1).f0),.int .i64 ((rd_T30 l0 x12_1).f1)] 30 (0,0)) (by (with_reducible repeat (first | refine blk_drewN ?_ _ | refine blk_drew ?_ | refine blk_alloc ?_ _));refine blk_far ?_ NB279_281.out _;(with_reducible repeat (first | refine blk_drewN ?_ _ | refine blk_drew ?_ | refine blk_alloc ?_ _));refine blk_far ?_ NB279_281.out _;(with_reducible repeat (first | refine blk_drewN ?_ _ | refine blk_drew ?_ | refine blk_alloc ?_ _));exact BK279.out) hb);have n2_:=Aside0.mk (blk_below (g:=gb281) (o:=.cells #[.int .i64 ((rd_T30 l0 (ji8)).f0),.int .i64 ((rd_T30 l0 (ji8)).f1)] 30 (0,0)) (by (with_reducible repeat (first | refine blk_drewN ?_ _ | refine blk_drew ?_ | refine blk_alloc ?_ _));refine blk_put (cs:=#[.int .i64 ((rd_T30 l0 (ji8)).f0),.int .i64 0]) ?_ 1 _ rfl;(with_reducible repeat (first | refine blk_drewN ?_ _ | refine blk_drew ?_ | refine blk_alloc ?_ _));refine blk_put (cs:=#[.int .i64 0,.int .i64 0]) ?_ 0 _ rfl;(with_reducible repeat (first | refine blk_drewN ?_ _ | refine blk_drew ?_ | refine blk_alloc ?_ _));exact BK281.out) hb);have n3_:=sb hb;clear BK277;clear BK279;clear BK281;clear HB;have BK277:=n0_;have BK279:=n1_;have BK281:=n2_;have HB:=n3_;clear n0_ n1_ n2_ n3_;(try clear hb);(try clear hb2);(try clear hk);(try clear hi);have hcz37_0:=ck BK279 0;have hcz37_1:=ck BK279 1;have hfz37_0:=blk_frozen BK279.out 0;have hfz37_1:=blk_frozen BK279.out 1;have hcz38_0:=ck BK277 0;have hcz38_1:=ck BK277 1;have hfz38_0:=blk_frozen BK277.out 0;have hfz38_1:=blk_frozen BK277.out 1;have hcz39_0:=ck BK281 0;have hcz39_1:=ck BK281 1;have hfz39_0:=blk_frozen BK281.out 0;have hfz39_1:=blk_frozen BK281.out 1) | ((with_reducible refine gate_callee (f:=72) rfl ?_);refine goesL_ (some 43) rfl rfl Try.func72 (by kernel_rfl) rfl #[.agg #[.int .i64 ((rd_T30 l0 x12_1).f0),.int .i64 ((rd_T30 l0 x12_1).f1)],.agg #[.int .i64 ((rd_T30 l0 (ji8)).f0),.int .i64 ((rd_T30 l0 (ji8)).f1)],.agg #[.int .i64 a1_0,.int .i64 a1_1]] rfl (by (try simp only [List.map_toArray,List.map_cons,List.map_nil]);first | done | (simp only [hji8];rfl) | rfl | (simp only [List.length_drop,List.length_take];rfl)) ?_;(with_reducible refine (impl_side.calls ((rd_T30 l0 x12_1).f0) ((rd_T30 l0 x12_1).f1) ((rd_T30 l0 (ji8)).f0) ((rd_T30 l0 (ji8)).f1) a1_0 a1_1 t283 _ A24.out).mono ?_);rintro e w40 ⟨rfl,hb⟩;refine ⟨_,rfl,?_⟩;have n0_:=kb BK277 hb;have n1_:=kb BK279 hb;have n2_:=kb BK281 hb;have n3_:=sb hb;clear BK277;clear BK279;clear BK281;clear HB;have BK277:=n0_;have BK279:=n1_;have BK281:=n2_;have HB:=n3_;clear n0_ n1_ n2_ n3_;(try clear hb);(try clear hb2);(try clear hk);(try clear hi);have hcz41_0:=ck BK281 0;have hcz41_1:=ck BK281 1;have hfz41_0:=blk_frozen BK281.out 0;have hfz41_1:=blk_frozen BK281.out 1;have hcz42_0:=ck BK279 0;have hcz42_1:=ck BK279 1;have hfz42_0:=blk_frozen BK279.out 0;have hfz42_1:=blk_frozen BK279.out 1))
             go_roundg k1
             case measure => have:=HK1.out;omega
             case rel => exact ⟨(wrap64 (-x5_1)),(wrap64 (x12_1 + 1)),(by first | rfl | (simp;done) | (simp [*];done)),(by first | rfl | (simp;done) | (simp [*];done)),H',⟨by have:=HK1.out;omega⟩,⟨by (with_reducible repeat (first | refine blk_drewN ?_ _ | refine blk_drew ?_ | refine blk_alloc ?_ _));exact BK277.out⟩,⟨by repeat (first | (with_reducible first | exact HB.out | apply below_alloc | apply pw_below_drewN | apply below_drew1 | refine below_set ?_ GE277.out | refine below_set ?_ GE279.out | refine below_set ?_ GE281.out) | exact HB.out)⟩⟩
            ·rw [if_neg c26] at H
             have c26b0 : decide (0 < (wrap64 (-t283))) = false:=decide_eq_false c26
             clear c26
             have H':=Aside0.mk H
             clear H
             have p278 : 0 ≤ (x12_1 : Int):=of_decide_eq_true (by first | (with_reducible assumption) | assumption)
             have q278 : x12_1 < (l0.length : Int):=of_decide_eq_true (by first | (with_reducible assumption) | assumption)
             obtain ⟨ad278,e278,hx278_0,hx278_1⟩:=at_T30 HR0.out x12_1 p278 q278
             cases e278
             replace hx278_0:=(HB.out.cell (bL w _ hx278_0)).trans hx278_0
             replace hx278_1:=(HB.out.cell (bL w _ hx278_1)).trans hx278_1
             replace p278:=eq_true p278
             replace q278:=eq_true q278
             go_wp2_with (first | ((with_reducible refine gate_dst (N:=7) rfl ?_);refine box_event ?hg (N:=7) ?hd (cs:=#[.int .i64 0,.int .i64 0]) (t:=30) ?hr ?_;(case hd => rfl);(case hg => rfl);(case hr => first | (go_simp;done) | (go_simp;rfl));intro gb279 hg w43 hbox hb;have n0_:=kb BK277 hb;have n1_:=sb hb;have n2_:=Aside0.mk (hbox);have n3_:=zb hg;have n4_:=zb hg;have n5_:=nl BK277 hg;have n6_:=ng BK277 hg;clear BK277;clear HB;have BK277:=n0_;have HB:=n1_;have BK279:=n2_;have GW279:=n3_;have GE279:=n4_;have NB277_279:=n5_;have NB279_277:=n6_;clear n0_ n1_ n2_ n3_ n4_ n5_ n6_;clear hb hbox hg;have hnb44:=NB279_277.out;have hnc44:=NB277_279.out;have hcz45_0:=ck BK279 0;have hcz45_1:=ck BK279 1;have hfz45_0:=blk_frozen BK279.out 0;have hfz45_1:=blk_frozen BK279.out 1;have p280 : 0 ≤ ((ji8) : Int):=of_decide_eq_true (by first | (with_reducible assumption) | assumption);have q280 : (ji8) < (l0.length : Int):=of_decide_eq_true (by first | (with_reducible assumption) | assumption);obtain ⟨ad280,e280,hx280_0,hx280_1⟩:=at_T30 HR0.out (ji8) p280 q280;obtain rfl : ad278 = ad280:=(by injection e280);have hn280_0 : ad278.block ≠ gb279:=Nat.ne_of_lt (Nat.lt_of_lt_of_le (by have:=bL _ _ hx280_0;first | rwa [add_block] at this | exact this) GW279.out);have hn280_1 : ad278.block ≠ gb279:=Nat.ne_of_lt (Nat.lt_of_lt_of_le (by have:=bL _ _ hx280_0;first | rwa [add_block] at this | exact this) GW279.out);replace hx280_0:=(HB.out.cell (bL w _ hx280_0)).trans hx280_0;replace hx280_1:=(HB.out.cell (bL w _ hx280_1)).trans hx280_1;replace hx280_0:=(cell_far (p:=⟨gb279,0,none⟩) (by first | (rw [add_block];exact hn280_0) | (show (Addr.add _ _).block ≠ _;rw [add_block];exact hn280_0) | exact hn280_0) (.int .i64 ((rd_T30 l0 x12_1).f0))).trans hx280_0;replace hx280_1:=(cell_far (p:=⟨gb279,0,none⟩) (by first | (rw [add_block];exact hn280_0) | (show (Addr.add _ _).block ≠ _;rw [add_block];exact hn280_0) | exact hn280_0) (.int .i64 ((rd_T30 l0 x12_1).f0))).trans hx280_1;replace hx280_0:=(cell_far (p:=⟨gb279,1,none⟩) (by first | (rw [add_block];exact hn280_1) | (show (Addr.add _ _).block ≠ _;rw [add_block];exact hn280_1) | exact hn280_1) (.int .i64 ((rd_T30 l0 x12_1).f1))).trans hx280_0;replace hx280_1:=(cell_far (p:=⟨gb279,1,none⟩) (by first | (rw [add_block];exact hn280_1) | (show (Addr.add _ _).block ≠ _;rw [add_block];exact hn280_1) | exact hn280_1) (.int .i64 ((rd_T30 l0 x12_1).f1))).trans hx280_1;clear hn280_0;clear hn280_1;replace p280:=eq_true p280;replace q280:=eq_true q280) | ((with_reducible refine gate_dst (N:=8) rfl ?_);refine box_event ?hg (N:=8) ?hd (cs:=#[.int .i64 0,.int .i64 0]) (t:=30) ?hr ?_;(case hd => rfl);(case hg => rfl);(case hr => first | (go_simp;done) | (go_simp;rfl));intro gb281 hg w46 hbox hb;have n0_:=Aside0.mk (blk_below (g:=gb277) (o:=.cells #[.int .i64 a1_0,.int .i64 a1_1] 30 (0,0)) (by (with_reducible repeat (first | refine blk_drewN ?_ _ | refine blk_drew ?_ | refine blk_alloc ?_ _));refine blk_far ?_ NB277_279.out _;(with_reducible repeat (first | refine blk_drewN ?_ _ | refine blk_drew ?_ | refine blk_alloc ?_ _));refine blk_far ?_ NB277_279.out _;(with_reducible repeat (first | refine blk_drewN ?_ _ | refine blk_drew ?_ | refine blk_alloc ?_ _));exact BK277.out) hb);have n1_:=Aside0.mk (blk_below (g:=gb279) (o:=.cells #[.int .i64 ((rd_T30 l0 x12_1).f0),.int .i64 ((rd_T30 l0 x12_1).f1)] 30 (0,0)) (by (with_reducible repeat (first | refine blk_drewN ?_ _ | refine blk_drew ?_ | refine blk_alloc ?_ _));refine blk_put (cs:=#[.int .i64 ((rd_T30 l0 x12_1).f0),.int .i64 0]) ?_ 1 _ rfl;(with_reducible repeat (first | refine blk_drewN ?_ _ | refine blk_drew ?_ | refine blk_alloc ?_ _));refine blk_put (cs:=#[.int .i64 0,.int .i64 0]) ?_ 0 _ rfl;(with_reducible repeat (first | refine blk_drewN ?_ _ | refine blk_drew ?_ | refine blk_alloc ?_ _));exact BK279.out) hb);have n2_:=sb hb;have n3_:=Aside0.mk (hbox);have n4_:=zb hg;have n5_:=zb hg;have n6_:=Aside0.mk ((by rw [hg];exact Nat.ne_of_lt (blk_lt (g:=gb277) (o:=.cells #[.int .i64 a1_0,.int .i64 a1_1] 30 (0,0)) (by (with_reducible repeat (first | refine blk_drewN ?_ _ | refine blk_drew ?_ | refine blk_alloc ?_ _));refine blk_far ?_ NB277_279.out _;(with_reducible repeat (first | refine blk_drewN ?_ _ | refine blk_drew ?_ | refine blk_alloc ?_ _));refine blk_far ?_ NB277_279.out _;(with_reducible repeat (first | refine blk_drewN ?_ _ | refine blk_drew ?_ | refine blk_alloc ?_ _));exact BK277.out)) : gb277 ≠ gb281));have n7_:=Aside0.mk ((by rw [hg];exact Nat.ne_of_gt (blk_lt (g:=gb277) (o:=.cells #[.int .i64 a1_0,.int .i64 a1_1] 30 (0,0)) (by (with_reducible repeat (first | refine blk_drewN ?_ _ | refine blk_drew ?_ | refine blk_alloc ?_ _));refine blk_far ?_ NB277_279.out _;(with_reducible repeat (first | refine blk_drewN ?_ _ | refine blk_drew ?_ | refine blk_alloc ?_ _));refine blk_far ?_ NB277_279.out _;(with_reducible repeat (first | refine blk_drewN ?_ _ | refine blk_drew ?_ | refine blk_alloc ?_ _));exact BK277.out)) : gb281 ≠ gb277));have n8_:=Aside0.mk ((by rw [hg];exact Nat.ne_of_lt (blk_lt (g:=gb279) (o:=.cells #[.int .i64 ((rd_T30 l0 x12_1).f0),.int .i64 ((rd_T30 l0 x12_1).f1)] 30 (0,0)) (by (with_reducible repeat (first | refine blk_drewN ?_ _ | refine blk_drew ?_ | refine blk_alloc ?_ _));refine blk_put (cs:=#[.int .i64 ((rd_T30 l0 x12_1).f0),.int .i64 0]) ?_ 1 _ rfl;(with_reducible repeat (first | refine blk_drewN ?_ _ | refine blk_drew ?_ | refine blk_alloc ?_ _));refine blk_put (cs:=#[.int .i64 0,.int .i64 0]) ?_ 0 _ rfl;(with_reducible repeat (first | refine blk_drewN ?_ _ | refine blk_drew ?_ | refine blk_alloc ?_ _));exact BK279.out)) : gb279 ≠ gb281));have n9_:=Aside0.mk ((by rw [hg];exact Nat.ne_of_gt (blk_lt (g:=gb279) (o:=.cells #[.int .i64 ((rd_T30 l0 x12_1).f0),.int .i64 ((rd_T30 l0 x12_1).f1)] 30 (0,0)) (by (with_reducible repeat (first | refine blk_drewN ?_ _ | refine blk_drew ?_ | refine blk_alloc ?_ _));refine blk_put (cs:=#[.int .i64 ((rd_T30 l0 x12_1).f0),.int .i64 0]) ?_ 1 _ rfl;(with_reducible repeat (first | refine blk_drewN ?_ _ | refine blk_drew ?_ | refine blk_alloc ?_ _));refine blk_put (cs:=#[.int .i64 0,.int .i64 0]) ?_ 0 _ rfl;(with_reducible repeat (first | refine blk_drewN ?_ _ | refine blk_drew ?_ | refine blk_alloc ?_ _));exact BK279.out)) : gb281 ≠ gb279));clear BK277;clear BK279;clear HB;have BK277:=n0_;have BK279:=n1_;have HB:=n2_;have BK281:=n3_;have GW281:=n4_;have GE281:=n5_;have NB277_281:=n6_;have NB281_277:=n7_;have NB279_281:=n8_;have NB281_279:=n9_;clear n0_ n1_ n2_ n3_ n4_ n5_ n6_ n7_ n8_ n9_;clear hb hbox hg;have hnb47:=NB281_277.out;have hnc47:=NB277_281.out;have hnb48:=NB281_279.out;have hnc48:=NB279_281.out;have hcz49_0:=ck BK281 0;have hcz49_1:=ck BK281 1;have hfz49_0:=blk_frozen BK281.out 0;have hfz49_1:=blk_frozen BK281.out 1;have hcz50_0:=ck BK279 0;have hcz50_1:=ck BK279 1;have hfz50_0:=blk_frozen BK279.out 0;have hfz50_1:=blk_frozen BK279.out 1;have hcz51_0:=ck BK277 0;have hcz51_1:=ck BK277 1;have hfz51_0:=blk_frozen BK277.out 0;have hfz51_1:=blk_frozen BK277.out 1) | ((with_reducible refine gate_callee (f:=85) rfl ?_);refine goesL_ (some 28) rfl rfl Try.func85 (by kernel_rfl) rfl #[.agg #[.int .i64 ((rd_T30 l0 x12_1).f0),.int .i64 ((rd_T30 l0 x12_1).f1)],.agg #[.int .i64 ((rd_T30 l0 (ji8)).f0),.int .i64 ((rd_T30 l0 (ji8)).f1)],.agg #[.int .i64 a1_0,.int .i64 a1_1]] rfl (by (try simp only [List.map_toArray,List.map_cons,List.map_nil]);first | done | (simp only [hji8];rfl) | rfl | (simp only [List.length_drop,List.length_take];rfl)) ?_;(with_reducible refine (impl_on.calls ((rd_T30 l0 x12_1).f0) ((rd_T30 l0 x12_1).f1) ((rd_T30 l0 (ji8)).f0) ((rd_T30 l0 (ji8)).f1) a1_0 a1_1 false _ A11.out).mono ?_);rintro e w52 ⟨rfl,hb⟩;refine ⟨_,rfl,?_⟩;have n0_:=Aside0.mk (blk_below (g:=gb277) (o:=.cells #[.int .i64 a1_0,.int .i64 a1_1] 30 (0,0)) (by (with_reducible repeat (first | refine blk_drewN ?_ _ | refine blk_drew ?_ | refine blk_alloc ?_ _));refine blk_far ?_ NB277_281.out _;(with_reducible repeat (first | refine blk_drewN ?_ _ | refine blk_drew ?_ | refine blk_alloc ?_ _));refine blk_far ?_ NB277_281.out _;(with_reducible repeat (first | refine blk_drewN ?_ _ | refine blk_drew ?_ | refine blk_alloc ?_ _));exact BK277.out) hb);have n1_:=Aside0.mk (blk_below (g:=gb279) (o:=.cells #[.int .i64 ((rd_T30 l0 x12_1).f0),.int .i64 ((rd_T30 l0 x12_1).f1)] 30 (0,0)) (by (with_reducible repeat (first | refine blk_drewN ?_ _ | refine blk_drew ?_ | refine blk_alloc ?_ _));refine blk_far ?_ NB279_281.out _;(with_reducible repeat (first | refine blk_drewN ?_ _ | refine blk_drew ?_ | refine blk_alloc ?_ _));refine blk_far ?_ NB279_281.out _;(with_reducible repeat (first | refine blk_drewN ?_ _ | refine blk_drew ?_ | refine blk_alloc ?_ _));exact BK279.out) hb);have n2_:=Aside0.mk (blk_below (g:=gb281) (o:=.cells #[.int .i64 ((rd_T30 l0 (ji8)).f0),.int .i64 ((rd_T30 l0 (ji8)).f1)] 30 (0,0)) (by (with_reducible repeat (first | refine blk_drewN ?_ _ | refine blk_drew ?_ | refine blk_alloc ?_ _));refine blk_put (cs:=#[.int .i64 ((rd_T30 l0 (ji8)).f0),.int .i64 0]) ?_ 1 _ rfl;(with_reducible repeat (first | refine blk_drewN ?_ _ | refine blk_drew ?_ | refine blk_alloc ?_ _));refine blk_put (cs:=#[.int .i64 0,.int .i64 0]) ?_ 0 _ rfl;(with_reducible repeat (first | refine blk_drewN ?_ _ | refine blk_drew ?_ | refine blk_alloc ?_ _));exact BK281.out) hb);have n3_:=sb hb;clear BK277;clear BK279;clear BK281;clear HB;have BK277:=n0_;have BK279:=n1_;have BK281:=n2_;have HB:=n3_;clear n0_ n1_ n2_ n3_;(try clear hb);(try clear hb2);(try clear hk);(try clear hi);have hcz53_0:=ck BK279 0;have hcz53_1:=ck BK279 1;have hfz53_0:=blk_frozen BK279.out 0;have hfz53_1:=blk_frozen BK279.out 1;have hcz54_0:=ck BK277 0;have hcz54_1:=ck BK277 1;have hfz54_0:=blk_frozen BK277.out 0;have hfz54_1:=blk_frozen BK277.out 1;have hcz55_0:=ck BK281 0;have hcz55_1:=ck BK281 1;have hfz55_0:=blk_frozen BK281.out 0;have hfz55_1:=blk_frozen BK281.out 1) | ((with_reducible refine gate_callee (f:=72) rfl ?_);refine goesL_ (some 43) rfl rfl Try.func72 (by kernel_rfl) rfl #[.agg #[.int .i64 ((rd_T30 l0 x12_1).f0),.int .i64 ((rd_T30 l0 x12_1).f1)],.agg #[.int .i64 ((rd_T30 l0 (ji8)).f0),.int .i64 ((rd_T30 l0 (ji8)).f1)],.agg #[.int .i64 a1_0,.int .i64 a1_1]] rfl (by (try simp only [List.map_toArray,List.map_cons,List.map_nil]);first | done | (simp only [hji8];rfl) | rfl | (simp only [List.length_drop,List.length_take];rfl)) ?_;(with_reducible refine (impl_side.calls ((rd_T30 l0 x12_1).f0) ((rd_T30 l0 x12_1).f1) ((rd_T30 l0 (ji8)).f0) ((rd_T30 l0 (ji8)).f1) a1_0 a1_1 t283 _ A24.out).mono ?_);rintro e w56 ⟨rfl,hb⟩;refine ⟨_,rfl,?_⟩;have n0_:=kb BK277 hb;have n1_:=kb BK279 hb;have n2_:=kb BK281 hb;have n3_:=sb hb;clear BK277;clear BK279;clear BK281;clear HB;have BK277:=n0_;have BK279:=n1_;have BK281:=n2_;have HB:=n3_;clear n0_ n1_ n2_ n3_;(try clear hb);(try clear hb2);(try clear hk);(try clear hi);have hcz57_0:=ck BK281 0;have hcz57_1:=ck BK281 1;have hfz57_0:=blk_frozen BK281.out 0;have hfz57_1:=blk_frozen BK281.out 1;have hcz58_0:=ck BK279 0;have hcz58_1:=ck BK279 1;have hfz58_0:=blk_frozen BK279.out 0;have hfz58_1:=blk_frozen BK279.out 1))
             go_roundg k1
             case measure => have:=HK1.out;omega
             case rel => exact ⟨(x5_1),(wrap64 (x12_1 + 1)),(by first | rfl | (simp;done) | (simp [*];done)),(by first | rfl | (simp;done) | (simp [*];done)),H',⟨by have:=HK1.out;omega⟩,⟨by (with_reducible repeat (first | refine blk_drewN ?_ _ | refine blk_drew ?_ | refine blk_alloc ?_ _));exact BK277.out⟩,⟨by repeat (first | (with_reducible first | exact HB.out | apply below_alloc | apply pw_below_drewN | apply below_drew1 | refine below_set ?_ GE277.out | refine below_set ?_ GE279.out | refine below_set ?_ GE281.out) | exact HB.out)⟩⟩
           ·rw [if_neg c25] at H
            have c25b0 : decide (((rd_T30 l0 (ji8)).f1) < ((rd_T30 l0 x12_1).f1)) = false:=decide_eq_false c25
            clear c25
            by_cases c59 : t283 > 0
            ·rw [if_pos c59] at H
             have c59b0 : decide (0 < t283) = true:=decide_eq_true c59
             clear c59
             have H':=Aside0.mk H
             clear H
             have p278 : 0 ≤ (x12_1 : Int):=of_decide_eq_true (by first | (with_reducible assumption) | assumption)
             have q278 : x12_1 < (l0.length : Int):=of_decide_eq_true (by first | (with_reducible assumption) | assumption)
             obtain ⟨ad278,e278,hx278_0,hx278_1⟩:=at_T30 HR0.out x12_1 p278 q278
             cases e278
             replace hx278_0:=(HB.out.cell (bL w _ hx278_0)).trans hx278_0
             replace hx278_1:=(HB.out.cell (bL w _ hx278_1)).trans hx278_1
             replace p278:=eq_true p278
             replace q278:=eq_true q278
             go_wp2_with (first | ((with_reducible refine gate_dst (N:=7) rfl ?_);refine box_event ?hg (N:=7) ?hd (cs:=#[.int .i64 0,.int .i64 0]) (t:=30) ?hr ?_;(case hd => rfl);(case hg => rfl);(case hr => first | (go_simp;done) | (go_simp;rfl));intro gb279 hg w60 hbox hb;have n0_:=kb BK277 hb;have n1_:=sb hb;have n2_:=Aside0.mk (hbox);have n3_:=zb hg;have n4_:=zb hg;have n5_:=nl BK277 hg;have n6_:=ng BK277 hg;clear BK277;clear HB;have BK277:=n0_;have HB:=n1_;have BK279:=n2_;have GW279:=n3_;have GE279:=n4_;have NB277_279:=n5_;have NB279_277:=n6_;clear n0_ n1_ n2_ n3_ n4_ n5_ n6_;clear hb hbox hg;have hnb61:=NB279_277.out;have hnc61:=NB277_279.out;have hcz62_0:=ck BK279 0;have hcz62_1:=ck BK279 1;have hfz62_0:=blk_frozen BK279.out 0;have hfz62_1:=blk_frozen BK279.out 1;have p280 : 0 ≤ ((ji8) : Int):=of_decide_eq_true (by first | (with_reducible assumption) | assumption);have q280 : (ji8) < (l0.length : Int):=of_decide_eq_true (by first | (with_reducible assumption) | assumption);obtain ⟨ad280,e280,hx280_0,hx280_1⟩:=at_T30 HR0.out (ji8) p280 q280;obtain rfl : ad278 = ad280:=(by injection e280);have hn280_0 : ad278.block ≠ gb279:=Nat.ne_of_lt (Nat.lt_of_lt_of_le (by have:=bL _ _ hx280_0;first | rwa [add_block] at this | exact this) GW279.out);have hn280_1 : ad278.block ≠ gb279:=Nat.ne_of_lt (Nat.lt_of_lt_of_le (by have:=bL _ _ hx280_0;first | rwa [add_block] at this | exact this) GW279.out);replace hx280_0:=(HB.out.cell (bL w _ hx280_0)).trans hx280_0;replace hx280_1:=(HB.out.cell (bL w _ hx280_1)).trans hx280_1;replace hx280_0:=(cell_far (p:=⟨gb279,0,none⟩) (by first | (rw [add_block];exact hn280_0) | (show (Addr.add _ _).block ≠ _;rw [add_block];exact hn280_0) | exact hn280_0) (.int .i64 ((rd_T30 l0 x12_1).f0))).trans hx280_0;replace hx280_1:=(cell_far (p:=⟨gb279,0,none⟩) (by first | (rw [add_block];exact hn280_0) | (show (Addr.add _ _).block ≠ _;rw [add_block];exact hn280_0) | exact hn280_0) (.int .i64 ((rd_T30 l0 x12_1).f0))).trans hx280_1;replace hx280_0:=(cell_far (p:=⟨gb279,1,none⟩) (by first | (rw [add_block];exact hn280_1) | (show (Addr.add _ _).block ≠ _;rw [add_block];exact hn280_1) | exact hn280_1) (.int .i64 ((rd_T30 l0 x12_1).f1))).trans hx280_0;replace hx280_1:=(cell_far (p:=⟨gb279,1,none⟩) (by first | (rw [add_block];exact hn280_1) | (show (Addr.add _ _).block ≠ _;rw [add_block];exact hn280_1) | exact hn280_1) (.int .i64 ((rd_T30 l0 x12_1).f1))).trans hx280_1;clear hn280_0;clear hn280_1;replace p280:=eq_true p280;replace q280:=eq_true q280) | ((with_reducible refine gate_dst (N:=8) rfl ?_);refine box_event ?hg (N:=8) ?hd (cs:=#[.int .i64 0,.int .i64 0]) (t:=30) ?hr ?_;(case hd => rfl);(case hg => rfl);(case hr => first | (go_simp;done) | (go_simp;rfl));intro gb281 hg w63 hbox hb;have n0_:=Aside0.mk (blk_below (g:=gb277) (o:=.cells #[.int .i64 a1_0,.int .i64 a1_1] 30 (0,0)) (by (with_reducible repeat (first | refine blk_drewN ?_ _ | refine blk_drew ?_ | refine blk_alloc ?_ _));refine blk_far ?_ NB277_279.out _;(with_reducible repeat (first | refine blk_drewN ?_ _ | refine blk_drew ?_ | refine blk_alloc ?_ _));refine blk_far ?_ NB277_279.out _;(with_reducible repeat (first | refine blk_drewN ?_ _ | refine blk_drew ?_ | refine blk_alloc ?_ _));exact BK277.out) hb);have n1_:=Aside0.mk (blk_below (g:=gb279) (o:=.cells #[.int .i64 ((rd_T30 l0 x12_1).f0),.int .i64 ((rd_T30 l0 x12_1).f1)] 30 (0,0)) (by (with_reducible repeat (first | refine blk_drewN ?_ _ | refine blk_drew ?_ | refine blk_alloc ?_ _));refine blk_put (cs:=#[.int .i64 ((rd_T30 l0 x12_1).f0),.int .i64 0]) ?_ 1 _ rfl;(with_reducible repeat (first | refine blk_drewN ?_ _ | refine blk_drew ?_ | refine blk_alloc ?_ _));refine blk_put (cs:=#[.int .i64 0,.int .i64 0]) ?_ 0 _ rfl;(with_reducible repeat (first | refine blk_drewN ?_ _ | refine blk_drew ?_ | refine blk_alloc ?_ _));exact BK279.out) hb);have n2_:=sb hb;have n3_:=Aside0.mk (hbox);have n4_:=zb hg;have n5_:=zb hg;have n6_:=Aside0.mk ((by rw [hg];exact Nat.ne_of_lt (blk_lt (g:=gb277) (o:=.cells #[.int .i64 a1_0,.int .i64 a1_1] 30 (0,0)) (by (with_reducible repeat (first | refine blk_drewN ?_ _ | refine blk_drew ?_ | refine blk_alloc ?_ _));refine blk_far ?_ NB277_279.out _;(with_reducible repeat (first | refine blk_drewN ?_ _ | refine blk_drew ?_ | refine blk_alloc ?_ _));refine blk_far ?_ NB277_279.out _;(with_reducible repeat (first | refine blk_drewN ?_ _ | refine blk_drew ?_ | refine blk_alloc ?_ _));exact BK277.out)) : gb277 ≠ gb281));have n7_:=Aside0.mk ((by rw [hg];exact Nat.ne_of_gt (blk_lt (g:=gb277) (o:=.cells #[.int .i64 a1_0,.int .i64 a1_1] 30 (0,0)) (by (with_reducible repeat (first | refine blk_drewN ?_ _ | refine blk_drew ?_ | refine blk_alloc ?_ _));refine blk_far ?_ NB277_279.out _;(with_reducible repeat (first | refine blk_drewN ?_ _ | refine blk_drew ?_ | refine blk_alloc ?_ _));refine blk_far ?_ NB277_279.out _;(with_reducible repeat (first | refine blk_drewN ?_ _ | refine blk_drew ?_ | refine blk_alloc ?_ _));exact BK277.out)) : gb281 ≠ gb277));have n8_:=Aside0.mk ((by rw [hg];exact Nat.ne_of_lt (blk_lt (g:=gb279) (o:=.cells #[.int .i64 ((rd_T30 l0 x12_1).f0),.int .i64 ((rd_T30 l0 x12_1).f1)] 30 (0,0)) (by (with_reducible repeat (first | refine blk_drewN ?_ _ | refine blk_drew ?_ | refine blk_alloc ?_ _));refine blk_put (cs:=#[.int .i64 ((rd_T30 l0 x12_1).f0),.int .i64 0]) ?_ 1 _ rfl;(with_reducible repeat (first | refine blk_drewN ?_ _ | refine blk_drew ?_ | refine blk_alloc ?_ _));refine blk_put (cs:=#[.int .i64 0,.int .i64 0]) ?_ 0 _ rfl;(with_reducible repeat (first | refine blk_drewN ?_ _ | refine blk_drew ?_ | refine blk_alloc ?_ _));exact BK279.out)) : gb279 ≠ gb281));have n9_:=Aside0.mk ((by rw [hg];exact Nat.ne_of_gt (blk_lt (g:=gb279) (o:=.cells #[.int .i64 ((rd_T30 l0 x12_1).f0),.int .i64 ((rd_T30 l0 x12_1).f1)] 30 (0,0)) (by (with_reducible repeat (first | refine blk_drewN ?_ _ | refine blk_drew ?_ | refine blk_alloc ?_ _));refine blk_put (cs:=#[.int .i64 ((rd_T30 l0 x12_1).f0),.int .i64 0]) ?_ 1 _ rfl;(with_reducible repeat (first | refine blk_drewN ?_ _ | refine blk_drew ?_ | refine blk_alloc ?_ _));refine blk_put (cs:=#[.int .i64 0,.int .i64 0]) ?_ 0 _ rfl;(with_reducible repeat (first | refine blk_drewN ?_ _ | refine blk_drew ?_ | refine blk_alloc ?_ _));exact BK279.out)) : gb281 ≠ gb279));clear BK277;clear BK279;clear HB;have BK277:=n0_;have BK279:=n1_;have HB:=n2_;have BK281:=n3_;have GW281:=n4_;have GE281:=n5_;have NB277_281:=n6_;have NB281_277:=n7_;have NB279_281:=n8_;have NB281_279:=n9_;clear n0_ n1_ n2_ n3_ n4_ n5_ n6_ n7_ n8_ n9_;clear hb hbox hg;have hnb64:=NB281_277.out;have hnc64:=NB277_281.out;have hnb65:=NB281_279.out;have hnc65:=NB279_281.out;have hcz66_0:=ck BK281 0;have hcz66_1:=ck BK281 1;have hfz66_0:=blk_frozen BK281.out 0;have hfz66_1:=blk_frozen BK281.out 1;have hcz67_0:=ck BK279 0;have hcz67_1:=ck BK279 1;have hfz67_0:=blk_frozen BK279.out 0;have hfz67_1:=blk_frozen BK279.out 1;have hcz68_0:=ck BK277 0;have hcz68_1:=ck BK277 1;have hfz68_0:=blk_frozen BK277.out 0;have hfz68_1:=blk_frozen BK277.out 1) | ((with_reducible refine gate_callee (f:=85) rfl ?_);refine goesL_ (some 28) rfl rfl Try.func85 (by kernel_rfl) rfl #[.agg #[.int .i64 ((rd_T30 l0 x12_1).f0),.int .i64 ((rd_T30 l0 x12_1).f1)],.agg #[.int .i64 ((rd_T30 l0 (ji8)).f0),.int .i64 ((rd_T30 l0 (ji8)).f1)],.agg #[.int .i64 a1_0,.int .i64 a1_1]] rfl (by (try simp only [List.map_toArray,List.map_cons,List.map_nil]);first | done | (simp only [hji8];rfl) | rfl | (simp only [List.length_drop,List.length_take];rfl)) ?_;(with_reducible refine (impl_on.calls ((rd_T30 l0 x12_1).f0) ((rd_T30 l0 x12_1).f1) ((rd_T30 l0 (ji8)).f0) ((rd_T30 l0 (ji8)).f1) a1_0 a1_1 false _ A11.out).mono ?_);rintro e w69 ⟨rfl,hb⟩;refine ⟨_,rfl,?_⟩;have n0_:=Aside0.mk (blk_below (g:=gb277) (o:=.cells #[.int .i64 a1_0,.int .i64 a1_1] 30 (0,0)) (by (with_reducible repeat (first | refine blk_drewN ?_ _ | refine blk_drew ?_ | refine blk_alloc ?_ _));refine blk_far ?_ NB277_281.out _;(with_reducible repeat (first | refine blk_drewN ?_ _ | refine blk_drew ?_ | refine blk_alloc ?_ _));refine blk_far ?_ NB277_281.out _;(with_reducible repeat (first | refine blk_drewN ?_ _ | refine blk_drew ?_ | refine blk_alloc ?_ _));exact BK277.out) hb);have n1_:=Aside0.mk (blk_below (g:=gb279) (o:=.cells #[.int .i64 ((rd_T30 l0 x12_1).f0),.int .i64 ((rd_T30 l0 x12_1).f1)] 30 (0,0)) (by (with_reducible repeat (first | refine blk_drewN ?_ _ | refine blk_drew ?_ | refine blk_alloc ?_ _));refine blk_far ?_ NB279_281.out _;(with_reducible repeat (first | refine blk_drewN ?_ _ | refine blk_drew ?_ | refine blk_alloc ?_ _));refine blk_far ?_ NB279_281.out _;(with_reducible repeat (first | refine blk_drewN ?_ _ | refine blk_drew ?_ | refine blk_alloc ?_ _));exact BK279.out) hb);have n2_:=Aside0.mk (blk_below (g:=gb281) (o:=.cells #[.int .i64 ((rd_T30 l0 (ji8)).f0),.int .i64 ((rd_T30 l0 (ji8)).f1)] 30 (0,0)) (by (with_reducible repeat (first | refine blk_drewN ?_ _ | refine blk_drew ?_ | refine blk_alloc ?_ _));refine blk_put (cs:=#[.int .i64 ((rd_T30 l0 (ji8)).f0),.int .i64 0]) ?_ 1 _ rfl;(with_reducible repeat (first | refine blk_drewN ?_ _ | refine blk_drew ?_ | refine blk_alloc ?_ _));refine blk_put (cs:=#[.int .i64 0,.int .i64 0]) ?_ 0 _ rfl;(with_reducible repeat (first | refine blk_drewN ?_ _ | refine blk_drew ?_ | refine blk_alloc ?_ _));exact BK281.out) hb);have n3_:=sb hb;clear BK277;clear BK279;clear BK281;clear HB;have BK277:=n0_;have BK279:=n1_;have BK281:=n2_;have HB:=n3_;clear n0_ n1_ n2_ n3_;(try clear hb);(try clear hb2);(try clear hk);(try clear hi);have hcz70_0:=ck BK279 0;have hcz70_1:=ck BK279 1;have hfz70_0:=blk_frozen BK279.out 0;have hfz70_1:=blk_frozen BK279.out 1;have hcz71_0:=ck BK277 0;have hcz71_1:=ck BK277 1;have hfz71_0:=blk_frozen BK277.out 0;have hfz71_1:=blk_frozen BK277.out 1;have hcz72_0:=ck BK281 0;have hcz72_1:=ck BK281 1;have hfz72_0:=blk_frozen BK281.out 0;have hfz72_1:=blk_frozen BK281.out 1) | ((with_reducible refine gate_callee (f:=72) rfl ?_);refine goesL_ (some 43) rfl rfl Try.func72 (by kernel_rfl) rfl #[.agg #[.int .i64 ((rd_T30 l0 x12_1).f0),.int .i64 ((rd_T30 l0 x12_1).f1)],.agg #[.int .i64 ((rd_T30 l0 (ji8)).f0),.int .i64 ((rd_T30 l0 (ji8)).f1)],.agg #[.int .i64 a1_0,.int .i64 a1_1]] rfl (by (try simp only [List.map_toArray,List.map_cons,List.map_nil]);first | done | (simp only [hji8];rfl) | rfl | (simp only [List.length_drop,List.length_take];rfl)) ?_;(with_reducible refine (impl_side.calls ((rd_T30 l0 x12_1).f0) ((rd_T30 l0 x12_1).f1) ((rd_T30 l0 (ji8)).f0) ((rd_T30 l0 (ji8)).f1) a1_0 a1_1 t283 _ A24.out).mono ?_);rintro e w73 ⟨rfl,hb⟩;refine ⟨_,rfl,?_⟩;have n0_:=kb BK277 hb;have n1_:=kb BK279 hb;have n2_:=kb BK281 hb;have n3_:=sb hb;clear BK277;clear BK279;clear BK281;clear HB;have BK277:=n0_;have BK279:=n1_;have BK281:=n2_;have HB:=n3_;clear n0_ n1_ n2_ n3_;(try clear hb);(try clear hb2);(try clear hk);(try clear hi);have hcz74_0:=ck BK281 0;have hcz74_1:=ck BK281 1;have hfz74_0:=blk_frozen BK281.out 0;have hfz74_1:=blk_frozen BK281.out 1;have hcz75_0:=ck BK279 0;have hcz75_1:=ck BK279 1;have hfz75_0:=blk_frozen BK279.out 0;have hfz75_1:=blk_frozen BK279.out 1))
             go_roundg k1
             case measure => have:=HK1.out;omega
             case rel => exact ⟨(wrap64 (-x5_1)),(wrap64 (x12_1 + 1)),(by first | rfl | (simp;done) | (simp [*];done)),(by first | rfl | (simp;done) | (simp [*];done)),H',⟨by have:=HK1.out;omega⟩,⟨by (with_reducible repeat (first | refine blk_drewN ?_ _ | refine blk_drew ?_ | refine blk_alloc ?_ _));exact BK277.out⟩,⟨by repeat (first | (with_reducible first | exact HB.out | apply below_alloc | apply pw_below_drewN | apply below_drew1 | refine below_set ?_ GE277.out | refine below_set ?_ GE279.out | refine below_set ?_ GE281.out) | exact HB.out)⟩⟩
            ·rw [if_neg c59] at H
             have c59b0 : decide (0 < t283) = false:=decide_eq_false c59
             clear c59
             have H':=Aside0.mk H
             clear H
             have p278 : 0 ≤ (x12_1 : Int):=of_decide_eq_true (by first | (with_reducible assumption) | assumption)
             have q278 : x12_1 < (l0.length : Int):=of_decide_eq_true (by first | (with_reducible assumption) | assumption)
             obtain ⟨ad278,e278,hx278_0,hx278_1⟩:=at_T30 HR0.out x12_1 p278 q278
             cases e278
             replace hx278_0:=(HB.out.cell (bL w _ hx278_0)).trans hx278_0
             replace hx278_1:=(HB.out.cell (bL w _ hx278_1)).trans hx278_1
             replace p278:=eq_true p278
             replace q278:=eq_true q278
             go_wp2_with (first | ((with_reducible refine gate_dst (N:=7) rfl ?_);refine box_event ?hg (N:=7) ?hd (cs:=#[.int .i64 0,.int .i64 0]) (t:=30) ?hr ?_;(case hd => rfl);(case hg => rfl);(case hr => first | (go_simp;done) | (go_simp;rfl));intro gb279 hg w76 hbox hb;have n0_:=kb BK277 hb;have n1_:=sb hb;have n2_:=Aside0.mk (hbox);have n3_:=zb hg;have n4_:=zb hg;have n5_:=nl BK277 hg;have n6_:=ng BK277 hg;clear BK277;clear HB;have BK277:=n0_;have HB:=n1_;have BK279:=n2_;have GW279:=n3_;have GE279:=n4_;have NB277_279:=n5_;have NB279_277:=n6_;clear n0_ n1_ n2_ n3_ n4_ n5_ n6_;clear hb hbox hg;have hnb77:=NB279_277.out;have hnc77:=NB277_279.out;have hcz78_0:=ck BK279 0;have hcz78_1:=ck BK279 1;have hfz78_0:=blk_frozen BK279.out 0;have hfz78_1:=blk_frozen BK279.out 1;have p280 : 0 ≤ ((ji8) : Int):=of_decide_eq_true (by first | (with_reducible assumption) | assumption);have q280 : (ji8) < (l0.length : Int):=of_decide_eq_true (by first | (with_reducible assumption) | assumption);obtain ⟨ad280,e280,hx280_0,hx280_1⟩:=at_T30 HR0.out (ji8) p280 q280;obtain rfl : ad278 = ad280:=(by injection e280);have hn280_0 : ad278.block ≠ gb279:=Nat.ne_of_lt (Nat.lt_of_lt_of_le (by have:=bL _ _ hx280_0;first | rwa [add_block] at this | exact this) GW279.out);have hn280_1 : ad278.block ≠ gb279:=Nat.ne_of_lt (Nat.lt_of_lt_of_le (by have:=bL _ _ hx280_0;first | rwa [add_block] at this | exact this) GW279.out);replace hx280_0:=(HB.out.cell (bL w _ hx280_0)).trans hx280_0;replace hx280_1:=(HB.out.cell (bL w _ hx280_1)).trans hx280_1;replace hx280_0:=(cell_far (p:=⟨gb279,0,none⟩) (by first | (rw [add_block];exact hn280_0) | (show (Addr.add _ _).block ≠ _;rw [add_block];exact hn280_0) | exact hn280_0) (.int .i64 ((rd_T30 l0 x12_1).f0))).trans hx280_0;replace hx280_1:=(cell_far (p:=⟨gb279,0,none⟩) (by first | (rw [add_block];exact hn280_0) | (show (Addr.add _ _).block ≠ _;rw [add_block];exact hn280_0) | exact hn280_0) (.int .i64 ((rd_T30 l0 x12_1).f0))).trans hx280_1;replace hx280_0:=(cell_far (p:=⟨gb279,1,none⟩) (by first | (rw [add_block];exact hn280_1) | (show (Addr.add _ _).block ≠ _;rw [add_block];exact hn280_1) | exact hn280_1) (.int .i64 ((rd_T30 l0 x12_1).f1))).trans hx280_0;replace hx280_1:=(cell_far (p:=⟨gb279,1,none⟩) (by first | (rw [add_block];exact hn280_1) | (show (Addr.add _ _).block ≠ _;rw [add_block];exact hn280_1) | exact hn280_1) (.int .i64 ((rd_T30 l0 x12_1).f1))).trans hx280_1;clear hn280_0;clear hn280_1;replace p280:=eq_true p280;replace q280:=eq_true q280) | ((with_reducible refine gate_dst (N:=8) rfl ?_);refine box_event ?hg (N:=8) ?hd (cs:=#[.int .i64 0,.int .i64 0]) (t:=30) ?hr ?_;(case hd => rfl);(case hg => rfl);(case hr => first | (go_simp;done) | (go_simp;rfl));intro gb281 hg w79 hbox hb;have n0_:=Aside0.mk (blk_below (g:=gb277) (o:=.cells #[.int .i64 a1_0,.int .i64 a1_1] 30 (0,0)) (by (with_reducible repeat (first | refine blk_drewN ?_ _ | refine blk_drew ?_ | refine blk_alloc ?_ _));refine blk_far ?_ NB277_279.out _;(with_reducible repeat (first | refine blk_drewN ?_ _ | refine blk_drew ?_ | refine blk_alloc ?_ _));refine blk_far ?_ NB277_279.out _;(with_reducible repeat (first | refine blk_drewN ?_ _ | refine blk_drew ?_ | refine blk_alloc ?_ _));exact BK277.out) hb);have n1_:=Aside0.mk (blk_below (g:=gb279) (o:=.cells #[.int .i64 ((rd_T30 l0 x12_1).f0),.int .i64 ((rd_T30 l0 x12_1).f1)] 30 (0,0)) (by (with_reducible repeat (first | refine blk_drewN ?_ _ | refine blk_drew ?_ | refine blk_alloc ?_ _));refine blk_put (cs:=#[.int .i64 ((rd_T30 l0 x12_1).f0),.int .i64 0]) ?_ 1 _ rfl;(with_reducible repeat (first | refine blk_drewN ?_ _ | refine blk_drew ?_ | refine blk_alloc ?_ _));refine blk_put (cs:=#[.int .i64 0,.int .i64 0]) ?_ 0 _ rfl;(with_reducible repeat (first | refine blk_drewN ?_ _ | refine blk_drew ?_ | refine blk_alloc ?_ _));exact BK279.out) hb);have n2_:=sb hb;have n3_:=Aside0.mk (hbox);have n4_:=zb hg;have n5_:=zb hg;have n6_:=Aside0.mk ((by rw [hg];exact Nat.ne_of_lt (blk_lt (g:=gb277) (o:=.cells #[.int .i64 a1_0,.int .i64 a1_1] 30 (0,0)) (by (with_reducible repeat (first | refine blk_drewN ?_ _ | refine blk_drew ?_ | refine blk_alloc ?_ _));refine blk_far ?_ NB277_279.out _;(with_reducible repeat (first | refine blk_drewN ?_ _ | refine blk_drew ?_ | refine blk_alloc ?_ _));refine blk_far ?_ NB277_279.out _;(with_reducible repeat (first | refine blk_drewN ?_ _ | refine blk_drew ?_ | refine blk_alloc ?_ _));exact BK277.out)) : gb277 ≠ gb281));have n7_:=Aside0.mk ((by rw [hg];exact Nat.ne_of_gt (blk_lt (g:=gb277) (o:=.cells #[.int .i64 a1_0,.int .i64 a1_1] 30 (0,0)) (by (with_reducible repeat (first | refine blk_drewN ?_ _ | refine blk_drew ?_ | refine blk_alloc ?_ _));refine blk_far ?_ NB277_279.out _;(with_reducible repeat (first | refine blk_drewN ?_ _ | refine blk_drew ?_ | refine blk_alloc ?_ _));refine blk_far ?_ NB277_279.out _;(with_reducible repeat (first | refine blk_drewN ?_ _ | refine blk_drew ?_ | refine blk_alloc ?_ _));exact BK277.out)) : gb281 ≠ gb277));have n8_:=Aside0.mk ((by rw [hg];exact Nat.ne_of_lt (blk_lt (g:=gb279) (o:=.cells #[.int .i64 ((rd_T30 l0 x12_1).f0),.int .i64 ((rd_T30 l0 x12_1).f1)] 30 (0,0)) (by (with_reducible repeat (first | refine blk_drewN ?_ _ | refine blk_drew ?_ | refine blk_alloc ?_ _));refine blk_put (cs:=#[.int .i64 ((rd_T30 l0 x12_1).f0),.int .i64 0]) ?_ 1 _ rfl;(with_reducible repeat (first | refine blk_drewN ?_ _ | refine blk_drew ?_ | refine blk_alloc ?_ _));refine blk_put (cs:=#[.int .i64 0,.int .i64 0]) ?_ 0 _ rfl;(with_reducible repeat (first | refine blk_drewN ?_ _ | refine blk_drew ?_ | refine blk_alloc ?_ _));exact BK279.out)) : gb279 ≠ gb281));have n9_:=Aside0.mk ((by rw [hg];exact Nat.ne_of_gt (blk_lt (g:=gb279) (o:=.cells #[.int .i64 ((rd_T30 l0 x12_1).f0),.int .i64 ((rd_T30 l0 x12_1).f1)] 30 (0,0)) (by (with_reducible repeat (first | refine blk_drewN ?_ _ | refine blk_drew ?_ | refine blk_alloc ?_ _));refine blk_put (cs:=#[.int .i64 ((rd_T30 l0 x12_1).f0),.int .i64 0]) ?_ 1 _ rfl;(with_reducible repeat (first | refine blk_drewN ?_ _ | refine blk_drew ?_ | refine blk_alloc ?_ _));refine blk_put (cs:=#[.int .i64 0,.int .i64 0]) ?_ 0 _ rfl;(with_reducible repeat (first | refine blk_drewN ?_ _ | refine blk_drew ?_ | refine blk_alloc ?_ _));exact BK279.out)) : gb281 ≠ gb279));clear BK277;clear BK279;clear HB;have BK277:=n0_;have BK279:=n1_;have HB:=n2_;have BK281:=n3_;have GW281:=n4_;have GE281:=n5_;have NB277_281:=n6_;have NB281_277:=n7_;have NB279_281:=n8_;have NB281_279:=n9_;clear n0_ n1_ n2_ n3_ n4_ n5_ n6_ n7_ n8_ n9_;clear hb hbox hg;have hnb80:=NB281_277.out;have hnc80:=NB277_281.out;have hnb81:=NB281_279.out;have hnc81:=NB279_281.out;have hcz82_0:=ck BK281 0;have hcz82_1:=ck BK281 1;have hfz82_0:=blk_frozen BK281.out 0;have hfz82_1:=blk_frozen BK281.out 1;have hcz83_0:=ck BK279 0;have hcz83_1:=ck BK279 1;have hfz83_0:=blk_frozen BK279.out 0;have hfz83_1:=blk_frozen BK279.out 1;have hcz84_0:=ck BK277 0;have hcz84_1:=ck BK277 1;have hfz84_0:=blk_frozen BK277.out 0;have hfz84_1:=blk_frozen BK277.out 1) | ((with_reducible refine gate_callee (f:=85) rfl ?_);refine goesL_ (some 28) rfl rfl Try.func85 (by kernel_rfl) rfl #[.agg #[.int .i64 ((rd_T30 l0 x12_1).f0),.int .i64 ((rd_T30 l0 x12_1).f1)],.agg #[.int .i64 ((rd_T30 l0 (ji8)).f0),.int .i64 ((rd_T30 l0 (ji8)).f1)],.agg #[.int .i64 a1_0,.int .i64 a1_1]] rfl (by (try simp only [List.map_toArray,List.map_cons,List.map_nil]);first | done | (simp only [hji8];rfl) | rfl | (simp only [List.length_drop,List.length_take];rfl)) ?_;(with_reducible refine (impl_on.calls ((rd_T30 l0 x12_1).f0) ((rd_T30 l0 x12_1).f1) ((rd_T30 l0 (ji8)).f0) ((rd_T30 l0 (ji8)).f1) a1_0 a1_1 false _ A11.out).mono ?_);rintro e w85 ⟨rfl,hb⟩;refine ⟨_,rfl,?_⟩;have n0_:=Aside0.mk (blk_below (g:=gb277) (o:=.cells #[.int .i64 a1_0,.int .i64 a1_1] 30 (0,0)) (by (with_reducible repeat (first | refine blk_drewN ?_ _ | refine blk_drew ?_ | refine blk_alloc ?_ _));refine blk_far ?_ NB277_281.out _;(with_reducible repeat (first | refine blk_drewN ?_ _ | refine blk_drew ?_ | refine blk_alloc ?_ _));refine blk_far ?_ NB277_281.out _;(with_reducible repeat (first | refine blk_drewN ?_ _ | refine blk_drew ?_ | refine blk_alloc ?_ _));exact BK277.out) hb);have n1_:=Aside0.mk (blk_below (g:=gb279) (o:=.cells #[.int .i64 ((rd_T30 l0 x12_1).f0),.int .i64 ((rd_T30 l0 x12_1).f1)] 30 (0,0)) (by (with_reducible repeat (first | refine blk_drewN ?_ _ | refine blk_drew ?_ | refine blk_alloc ?_ _));refine blk_far ?_ NB279_281.out _;(with_reducible repeat (first | refine blk_drewN ?_ _ | refine blk_drew ?_ | refine blk_alloc ?_ _));refine blk_far ?_ NB279_281.out _;(with_reducible repeat (first | refine blk_drewN ?_ _ | refine blk_drew ?_ | refine blk_alloc ?_ _));exact BK279.out) hb);have n2_:=Aside0.mk (blk_below (g:=gb281) (o:=.cells #[.int .i64 ((rd_T30 l0 (ji8)).f0),.int .i64 ((rd_T30 l0 (ji8)).f1)] 30 (0,0)) (by (with_reducible repeat (first | refine blk_drewN ?_ _ | refine blk_drew ?_ | refine blk_alloc ?_ _));refine blk_put (cs:=#[.int .i64 ((rd_T30 l0 (ji8)).f0),.int .i64 0]) ?_ 1 _ rfl;(with_reducible repeat (first | refine blk_drewN ?_ _ | refine blk_drew ?_ | refine blk_alloc ?_ _));refine blk_put (cs:=#[.int .i64 0,.int .i64 0]) ?_ 0 _ rfl;(with_reducible repeat (first | refine blk_drewN ?_ _ | refine blk_drew ?_ | refine blk_alloc ?_ _));exact BK281.out) hb);have n3_:=sb hb;clear BK277;clear BK279;clear BK281;clear HB;have BK277:=n0_;have BK279:=n1_;have BK281:=n2_;have HB:=n3_;clear n0_ n1_ n2_ n3_;(try clear hb);(try clear hb2);(try clear hk);(try clear hi);have hcz86_0:=ck BK279 0;have hcz86_1:=ck BK279 1;have hfz86_0:=blk_frozen BK279.out 0;have hfz86_1:=blk_frozen BK279.out 1;have hcz87_0:=ck BK277 0;have hcz87_1:=ck BK277 1;have hfz87_0:=blk_frozen BK277.out 0;have hfz87_1:=blk_frozen BK277.out 1;have hcz88_0:=ck BK281 0;have hcz88_1:=ck BK281 1;have hfz88_0:=blk_frozen BK281.out 0;have hfz88_1:=blk_frozen BK281.out 1) | ((with_reducible refine gate_callee (f:=72) rfl ?_);refine goesL_ (some 43) rfl rfl Try.func72 (by kernel_rfl) rfl #[.agg #[.int .i64 ((rd_T30 l0 x12_1).f0),.int .i64 ((rd_T30 l0 x12_1).f1)],.agg #[.int .i64 ((rd_T30 l0 (ji8)).f0),.int .i64 ((rd_T30 l0 (ji8)).f1)],.agg #[.int .i64 a1_0,.int .i64 a1_1]] rfl (by (try simp only [List.map_toArray,List.map_cons,List.map_nil]);first | done | (simp only [hji8];rfl) | rfl | (simp only [List.length_drop,List.length_take];rfl)) ?_;(with_reducible refine (impl_side.calls ((rd_T30 l0 x12_1).f0) ((rd_T30 l0 x12_1).f1) ((rd_T30 l0 (ji8)).f0) ((rd_T30 l0 (ji8)).f1) a1_0 a1_1 t283 _ A24.out).mono ?_);rintro e w89 ⟨rfl,hb⟩;refine ⟨_,rfl,?_⟩;have n0_:=kb BK277 hb;have n1_:=kb BK279 hb;have n2_:=kb BK281 hb;have n3_:=sb hb;clear BK277;clear BK279;clear BK281;clear HB;have BK277:=n0_;have BK279:=n1_;have BK281:=n2_;have HB:=n3_;clear n0_ n1_ n2_ n3_;(try clear hb);(try clear hb2);(try clear hk);(try clear hi);have hcz90_0:=ck BK281 0;have hcz90_1:=ck BK281 1;have hfz90_0:=blk_frozen BK281.out 0;have hfz90_1:=blk_frozen BK281.out 1;have hcz91_0:=ck BK279 0;have hcz91_1:=ck BK279 1;have hfz91_0:=blk_frozen BK279.out 0;have hfz91_1:=blk_frozen BK279.out 1))
             go_roundg k1
             case measure => have:=HK1.out;omega
             case rel => exact ⟨(x5_1),(wrap64 (x12_1 + 1)),(by first | rfl | (simp;done) | (simp [*];done)),(by first | rfl | (simp;done) | (simp [*];done)),H',⟨by have:=HK1.out;omega⟩,⟨by (with_reducible repeat (first | refine blk_drewN ?_ _ | refine blk_drew ?_ | refine blk_alloc ?_ _));exact BK277.out⟩,⟨by repeat (first | (with_reducible first | exact HB.out | apply below_alloc | apply pw_below_drewN | apply below_drew1 | refine below_set ?_ GE277.out | refine below_set ?_ GE279.out | refine below_set ?_ GE281.out) | exact HB.out)⟩⟩
          ·rw [if_neg c23] at H
           have c23b0 : ((decide (((rd_T30 l0 x12_1).f1) > a1_1)) != (decide (((rd_T30 l0 (ji8)).f1) > a1_1))) = false:=by simpa using c23
           (try (have c23b1 : decide ((decide (((rd_T30 l0 x12_1).f1) > a1_1)) = (decide (((rd_T30 l0 (ji8)).f1) > a1_1))) = true:=by simpa using c23))
           (try (have c23b2 : ((decide (((rd_T30 l0 x12_1).f1) > a1_1)) == (decide (((rd_T30 l0 (ji8)).f1) > a1_1))) = true:=by simpa using c23))
           clear c23
           have H':=Aside0.mk H
           clear H
           have p278 : 0 ≤ (x12_1 : Int):=of_decide_eq_true (by first | (with_reducible assumption) | assumption)
           have q278 : x12_1 < (l0.length : Int):=of_decide_eq_true (by first | (with_reducible assumption) | assumption)
           obtain ⟨ad278,e278,hx278_0,hx278_1⟩:=at_T30 HR0.out x12_1 p278 q278
           cases e278
           replace hx278_0:=(HB.out.cell (bL w _ hx278_0)).trans hx278_0
           replace hx278_1:=(HB.out.cell (bL w _ hx278_1)).trans hx278_1
           replace p278:=eq_true p278
           replace q278:=eq_true q278
           go_wp2_with (first | ((with_reducible refine gate_dst (N:=7) rfl ?_);refine box_event ?hg (N:=7) ?hd (cs:=#[.int .i64 0,.int .i64 0]) (t:=30) ?hr ?_;(case hd => rfl);(case hg => rfl);(case hr => first | (go_simp;done) | (go_simp;rfl));intro gb279 hg w92 hbox hb;have n0_:=kb BK277 hb;have n1_:=sb hb;have n2_:=Aside0.mk (hbox);have n3_:=zb hg;have n4_:=zb hg;have n5_:=nl BK277 hg;have n6_:=ng BK277 hg;clear BK277;clear HB;have BK277:=n0_;have HB:=n1_;have BK279:=n2_;have GW279:=n3_;have GE279:=n4_;have NB277_279:=n5_;have NB279_277:=n6_;clear n0_ n1_ n2_ n3_ n4_ n5_ n6_;clear hb hbox hg;have hnb93:=NB279_277.out;have hnc93:=NB277_279.out;have hcz94_0:=ck BK279 0;have hcz94_1:=ck BK279 1;have hfz94_0:=blk_frozen BK279.out 0;have hfz94_1:=blk_frozen BK279.out 1;have p280 : 0 ≤ ((ji8) : Int):=of_decide_eq_true (by first | (with_reducible assumption) | assumption);have q280 : (ji8) < (l0.length : Int):=of_decide_eq_true (by first | (with_reducible assumption) | assumption);obtain ⟨ad280,e280,hx280_0,hx280_1⟩:=at_T30 HR0.out (ji8) p280 q280;obtain rfl : ad278 = ad280:=(by injection e280);have hn280_0 : ad278.block ≠ gb279:=Nat.ne_of_lt (Nat.lt_of_lt_of_le (by have:=bL _ _ hx280_0;first | rwa [add_block] at this | exact this) GW279.out);have hn280_1 : ad278.block ≠ gb279:=Nat.ne_of_lt (Nat.lt_of_lt_of_le (by have:=bL _ _ hx280_0;first | rwa [add_block] at this | exact this) GW279.out);replace hx280_0:=(HB.out.cell (bL w _ hx280_0)).trans hx280_0;replace hx280_1:=(HB.out.cell (bL w _ hx280_1)).trans hx280_1;replace hx280_0:=(cell_far (p:=⟨gb279,0,none⟩) (by first | (rw [add_block];exact hn280_0) | (show (Addr.add _ _).block ≠ _;rw [add_block];exact hn280_0) | exact hn280_0) (.int .i64 ((rd_T30 l0 x12_1).f0))).trans hx280_0;replace hx280_1:=(cell_far (p:=⟨gb279,0,none⟩) (by first | (rw [add_block];exact hn280_0) | (show (Addr.add _ _).block ≠ _;rw [add_block];exact hn280_0) | exact hn280_0) (.int .i64 ((rd_T30 l0 x12_1).f0))).trans hx280_1;replace hx280_0:=(cell_far (p:=⟨gb279,1,none⟩) (by first | (rw [add_block];exact hn280_1) | (show (Addr.add _ _).block ≠ _;rw [add_block];exact hn280_1) | exact hn280_1) (.int .i64 ((rd_T30 l0 x12_1).f1))).trans hx280_0;replace hx280_1:=(cell_far (p:=⟨gb279,1,none⟩) (by first | (rw [add_block];exact hn280_1) | (show (Addr.add _ _).block ≠ _;rw [add_block];exact hn280_1) | exact hn280_1) (.int .i64 ((rd_T30 l0 x12_1).f1))).trans hx280_1;clear hn280_0;clear hn280_1;replace p280:=eq_true p280;replace q280:=eq_true q280) | ((with_reducible refine gate_dst (N:=8) rfl ?_);refine box_event ?hg (N:=8) ?hd (cs:=#[.int .i64 0,.int .i64 0]) (t:=30) ?hr ?_;(case hd => rfl);(case hg => rfl);(case hr => first | (go_simp;done) | (go_simp;rfl));intro gb281 hg w95 hbox hb;have n0_:=Aside0.mk (blk_below (g:=gb277) (o:=.cells #[.int .i64 a1_0,.int .i64 a1_1] 30 (0,0)) (by (with_reducible repeat (first | refine blk_drewN ?_ _ | refine blk_drew ?_ | refine blk_alloc ?_ _));refine blk_far ?_ NB277_279.out _;(with_reducible repeat (first | refine blk_drewN ?_ _ | refine blk_drew ?_ | refine blk_alloc ?_ _));refine blk_far ?_ NB277_279.out _;(with_reducible repeat (first | refine blk_drewN ?_ _ | refine blk_drew ?_ | refine blk_alloc ?_ _));exact BK277.out) hb);have n1_:=Aside0.mk (blk_below (g:=gb279) (o:=.cells #[.int .i64 ((rd_T30 l0 x12_1).f0),.int .i64 ((rd_T30 l0 x12_1).f1)] 30 (0,0)) (by (with_reducible repeat (first | refine blk_drewN ?_ _ | refine blk_drew ?_ | refine blk_alloc ?_ _));refine blk_put (cs:=#[.int .i64 ((rd_T30 l0 x12_1).f0),.int .i64 0]) ?_ 1 _ rfl;(with_reducible repeat (first | refine blk_drewN ?_ _ | refine blk_drew ?_ | refine blk_alloc ?_ _));refine blk_put (cs:=#[.int .i64 0,.int .i64 0]) ?_ 0 _ rfl;(with_reducible repeat (first | refine blk_drewN ?_ _ | refine blk_drew ?_ | refine blk_alloc ?_ _));exact BK279.out) hb);have n2_:=sb hb;have n3_:=Aside0.mk (hbox);have n4_:=zb hg;have n5_:=zb hg;have n6_:=Aside0.mk ((by rw [hg];exact Nat.ne_of_lt (blk_lt (g:=gb277) (o:=.cells #[.int .i64 a1_0,.int .i64 a1_1] 30 (0,0)) (by (with_reducible repeat (first | refine blk_drewN ?_ _ | refine blk_drew ?_ | refine blk_alloc ?_ _));refine blk_far ?_ NB277_279.out _;(with_reducible repeat (first | refine blk_drewN ?_ _ | refine blk_drew ?_ | refine blk_alloc ?_ _));refine blk_far ?_ NB277_279.out _;(with_reducible repeat (first | refine blk_drewN ?_ _ | refine blk_drew ?_ | refine blk_alloc ?_ _));exact BK277.out)) : gb277 ≠ gb281));have n7_:=Aside0.mk ((by rw [hg];exact Nat.ne_of_gt (blk_lt (g:=gb277) (o:=.cells #[.int .i64 a1_0,.int .i64 a1_1] 30 (0,0)) (by (with_reducible repeat (first | refine blk_drewN ?_ _ | refine blk_drew ?_ | refine blk_alloc ?_ _));refine blk_far ?_ NB277_279.out _;(with_reducible repeat (first | refine blk_drewN ?_ _ | refine blk_drew ?_ | refine blk_alloc ?_ _));refine blk_far ?_ NB277_279.out _;(with_reducible repeat (first | refine blk_drewN ?_ _ | refine blk_drew ?_ | refine blk_alloc ?_ _));exact BK277.out)) : gb281 ≠ gb277));have n8_:=Aside0.mk ((by rw [hg];exact Nat.ne_of_lt (blk_lt (g:=gb279) (o:=.cells #[.int .i64 ((rd_T30 l0 x12_1).f0),.int .i64 ((rd_T30 l0 x12_1).f1)] 30 (0,0)) (by (with_reducible repeat (first | refine blk_drewN ?_ _ | refine blk_drew ?_ | refine blk_alloc ?_ _));refine blk_put (cs:=#[.int .i64 ((rd_T30 l0 x12_1).f0),.int .i64 0]) ?_ 1 _ rfl;(with_reducible repeat (first | refine blk_drewN ?_ _ | refine blk_drew ?_ | refine blk_alloc ?_ _));refine blk_put (cs:=#[.int .i64 0,.int .i64 0]) ?_ 0 _ rfl;(with_reducible repeat (first | refine blk_drewN ?_ _ | refine blk_drew ?_ | refine blk_alloc ?_ _));exact BK279.out)) : gb279 ≠ gb281));have n9_:=Aside0.mk ((by rw [hg];exact Nat.ne_of_gt (blk_lt (g:=gb279) (o:=.cells #[.int .i64 ((rd_T30 l0 x12_1).f0),.int .i64 ((rd_T30 l0 x12_1).f1)] 30 (0,0)) (by (with_reducible repeat (first | refine blk_drewN ?_ _ | refine blk_drew ?_ | refine blk_alloc ?_ _));refine blk_put (cs:=#[.int .i64 ((rd_T30 l0 x12_1).f0),.int .i64 0]) ?_ 1 _ rfl;(with_reducible repeat (first | refine blk_drewN ?_ _ | refine blk_drew ?_ | refine blk_alloc ?_ _));refine blk_put (cs:=#[.int .i64 0,.int .i64 0]) ?_ 0 _ rfl;(with_reducible repeat (first | refine blk_drewN ?_ _ | refine blk_drew ?_ | refine blk_alloc ?_ _));exact BK279.out)) : gb281 ≠ gb279));clear BK277;clear BK279;clear HB;have BK277:=n0_;have BK279:=n1_;have HB:=n2_;have BK281:=n3_;have GW281:=n4_;have GE281:=n5_;have NB277_281:=n6_;have NB281_277:=n7_;have NB279_281:=n8_;have NB281_279:=n9_;clear n0_ n1_ n2_ n3_ n4_ n5_ n6_ n7_ n8_ n9_;clear hb hbox hg;have hnb96:=NB281_277.out;have hnc96:=NB277_281.out;have hnb97:=NB281_279.out;have hnc97:=NB279_281.out;have hcz98_0:=ck BK281 0;have hcz98_1:=ck BK281 1;have hfz98_0:=blk_frozen BK281.out 0;have hfz98_1:=blk_frozen BK281.out 1;have hcz99_0:=ck BK279 0;have hcz99_1:=ck BK279 1;have hfz99_0:=blk_frozen BK279.out 0;have hfz99_1:=blk_frozen BK279.out 1;have hcz100_0:=ck BK277 0;have hcz100_1:=ck BK277 1;have hfz100_0:=blk_frozen BK277.out 0;have hfz100_1:=blk_frozen BK277.out 1) | ((with_reducible refine gate_callee (f:=85) rfl ?_);refine goesL_ (some 28) rfl rfl Try.func85 (by kernel_rfl) rfl #[.agg #[.int .i64 ((rd_T30 l0 x12_1).f0),.int .i64 ((rd_T30 l0 x12_1).f1)],.agg #[.int .i64 ((rd_T30 l0 (ji8)).f0),.int .i64 ((rd_T30 l0 (ji8)).f1)],.agg #[.int .i64 a1_0,.int .i64 a1_1]] rfl (by (try simp only [List.map_toArray,List.map_cons,List.map_nil]);first | done | (simp only [hji8];rfl) | rfl | (simp only [List.length_drop,List.length_take];rfl)) ?_;(with_reducible refine (impl_on.calls ((rd_T30 l0 x12_1).f0) ((rd_T30 l0 x12_1).f1) ((rd_T30 l0 (ji8)).f0) ((rd_T30 l0 (ji8)).f1) a1_0 a1_1 false _ A11.out).mono ?_);rintro e w101 ⟨rfl,hb⟩;refine ⟨_,rfl,?_⟩;have n0_:=Aside0.mk (blk_below (g:=gb277) (o:=.cells #[.int .i64 a1_0,.int .i64 a1_1] 30 (0,0)) (by (with_reducible repeat (first | refine blk_drewN ?_ _ | refine blk_drew ?_ | refine blk_alloc ?_ _));refine blk_far ?_ NB277_281.out _;(with_reducible repeat (first | refine blk_drewN ?_ _ | refine blk_drew ?_ | refine blk_alloc ?_ _));refine blk_far ?_ NB277_281.out _;(with_reducible repeat (first | refine blk_drewN ?_ _ | refine blk_drew ?_ | refine blk_alloc ?_ _));exact BK277.out) hb);have n1_:=Aside0.mk (blk_below (g:=gb279) (o:=.cells #[.int .i64 ((rd_T30 l0 x12_1).f0),.int .i64 ((rd_T30 l0 x12_1).f1)] 30 (0,0)) (by (with_reducible repeat (first | refine blk_drewN ?_ _ | refine blk_drew ?_ | refine blk_alloc ?_ _));refine blk_far ?_ NB279_281.out _;(with_reducible repeat (first | refine blk_drewN ?_ _ | refine blk_drew ?_ | refine blk_alloc ?_ _));refine blk_far ?_ NB279_281.out _;(with_reducible repeat (first | refine blk_drewN ?_ _ | refine blk_drew ?_ | refine blk_alloc ?_ _));exact BK279.out) hb);have n2_:=Aside0.mk (blk_below (g:=gb281) (o:=.cells #[.int .i64 ((rd_T30 l0 (ji8)).f0),.int .i64 ((rd_T30 l0 (ji8)).f1)] 30 (0,0)) (by (with_reducible repeat (first | refine blk_drewN ?_ _ | refine blk_drew ?_ | refine blk_alloc ?_ _));refine blk_put (cs:=#[.int .i64 ((rd_T30 l0 (ji8)).f0),.int .i64 0]) ?_ 1 _ rfl;(with_reducible repeat (first | refine blk_drewN ?_ _ | refine blk_drew ?_ | refine blk_alloc ?_ _));refine blk_put (cs:=#[.int .i64 0,.int .i64 0]) ?_ 0 _ rfl;(with_reducible repeat (first | refine blk_drewN ?_ _ | refine blk_drew ?_ | refine blk_alloc ?_ _));exact BK281.out) hb);have n3_:=sb hb;clear BK277;clear BK279;clear BK281;clear HB;have BK277:=n0_;have BK279:=n1_;have BK281:=n2_;have HB:=n3_;clear n0_ n1_ n2_ n3_;(try clear hb);(try clear hb2);(try clear hk);(try clear hi);have hcz102_0:=ck BK279 0;have hcz102_1:=ck BK279 1;have hfz102_0:=blk_frozen BK279.out 0;have hfz102_1:=blk_frozen BK279.out 1;have hcz103_0:=ck BK277 0;have hcz103_1:=ck BK277 1;have hfz103_0:=blk_frozen BK277.out 0;have hfz103_1:=blk_frozen BK277.out 1;have hcz104_0:=ck BK281 0;have hcz104_1:=ck BK281 1;have hfz104_0:=blk_frozen BK281.out 0;have hfz104_1:=blk_frozen BK281.out 1))
           go_roundg k1
           case measure => have:=HK1.out;omega
           case rel => exact ⟨(x5_1),(wrap64 (x12_1 + 1)),(by first | rfl | (simp;done) | (simp [*];done)),(by first | rfl | (simp;done) | (simp [*];done)),H',⟨by have:=HK1.out;omega⟩,⟨by (with_reducible repeat (first | refine blk_drewN ?_ _ | refine blk_drew ?_ | refine blk_alloc ?_ _));exact BK277.out⟩,⟨by repeat (first | (with_reducible first | exact HB.out | apply below_alloc | apply pw_below_drewN | apply below_drew1 | refine below_set ?_ GE277.out | refine below_set ?_ GE279.out | refine below_set ?_ GE281.out) | exact HB.out)⟩⟩
        ·rw [if_neg c10] at H
         exact absurd H (by simp)
       ·rw [if_neg c9] at H
        exact absurd H (by simp)
     ·first | (exfalso;have z_:=of_decide_eq_true c4b0;omega) | (rw [if_neg c6] at H;exact absurd H (by simp))
    ·rw [if_neg c5] at H
     exact absurd H (by simp)
   ·rw [if_neg c4] at H
    have c4b0 : decide (x12_1 < (l0.length : Int)) = false:=decide_eq_false c4
    clear c4
    obtain rfl:=Option.some.inj H
    go_wp2
    go_ret
    exact ⟨by first | rfl | (simp [errW_none,errW_some] <;> rfl) | (simp [*,errW_none,errW_some] <;> rfl),by repeat (first | (with_reducible first | exact HB.out | apply below_alloc | apply pw_below_drewN | apply below_drew1 | refine below_set ?_ GE277.out) | exact HB.out)⟩
def impl_squared.f (a0_0 : Int) (a0_1 : Int) (a1_0 : Int) (a1_1 : Int) : Option (Int):=some (wrap64 ((wrap64 ((wrap64 (a0_0 - a1_0)) * (wrap64 (a0_0 - a1_0)))) + (wrap64 ((wrap64 (a0_1 - a1_1)) * (wrap64 (a0_1 - a1_1))))))
set_option maxHeartbeats 8000000 in
set_option maxRecDepth 100000 in
theorem impl_squared.calls (a0_0 : Int) (a0_1 : Int) (a1_0 : Int) (a1_1 : Int) (r : Int) (w : World) (h : impl_squared.f a0_0 a0_1 a1_0 a1_1 = some r) :
  Calls Try.prog 73 #[.agg #[.int .i64 a0_0,.int .i64 a0_1],.agg #[.int .i64 a1_0,.int .i64 a1_1]] w fun e w' => e = .returned (.int .i64 r) ∧ Below w.heap.size w w':=by
 have hu30:=Try.underlying30
 have HB:=Aside0.mk (Below.refl w.heap.size w)
 have H : (some (wrap64 ((wrap64 ((wrap64 (a0_0 - a1_0)) * (wrap64 (a0_0 - a1_0)))) + (wrap64 ((wrap64 (a0_1 - a1_1)) * (wrap64 (a0_1 - a1_1))))))) = some r:=h
 clear h
 obtain rfl:=Option.some.inj H
 go_enter Try.func73,Try.ntmps73
 go_wp2_with (first | ((with_reducible refine gate_dst (N:=2) rfl ?_);refine box_event ?hg (N:=2) ?hd (cs:=#[.int .i64 a0_0,.int .i64 a0_1]) (t:=30) ?hr ?_;(case hd => rfl);(case hg => rfl);(case hr => first | (go_simp;done) | (go_simp;rfl));intro gb284 hg w3 hbox hb;have n0_:=sb hb;have n1_:=Aside0.mk (hbox);have n2_:=zb hg;have n3_:=zb hg;clear HB;have HB:=n0_;have BK284:=n1_;have GW284:=n2_;have GE284:=n3_;clear n0_ n1_ n2_ n3_;clear hb hbox hg) | ((with_reducible refine gate_dst (N:=3) rfl ?_);refine box_event ?hg (N:=3) ?hd (cs:=#[.int .i64 a1_0,.int .i64 a1_1]) (t:=30) ?hr ?_;(case hd => rfl);(case hg => rfl);(case hr => first | (go_simp;done) | (go_simp;rfl));intro gb285 hg w4 hbox hb;have n0_:=kb BK284 hb;have n1_:=sb hb;have n2_:=Aside0.mk (hbox);have n3_:=zb hg;have n4_:=zb hg;have n5_:=nl BK284 hg;have n6_:=ng BK284 hg;clear BK284;clear HB;have BK284:=n0_;have HB:=n1_;have BK285:=n2_;have GW285:=n3_;have GE285:=n4_;have NB284_285:=n5_;have NB285_284:=n6_;clear n0_ n1_ n2_ n3_ n4_ n5_ n6_;clear hb hbox hg;have hnb5:=NB284_285.out;have hnc5:=NB285_284.out;have hcz6_0:=ck BK284 0;have hcz6_1:=ck BK284 1;have hfz6_0:=blk_frozen BK284.out 0;have hfz6_1:=blk_frozen BK284.out 1;have hcz7_0:=ck BK285 0;have hcz7_1:=ck BK285 1;have hfz7_0:=blk_frozen BK285.out 0;have hfz7_1:=blk_frozen BK285.out 1))
 go_ret
 exact ⟨by first | rfl | (simp [errW_none,errW_some] <;> rfl) | (simp [*,errW_none,errW_some] <;> rfl),by repeat (first | (with_reducible first | exact HB.out | apply below_alloc | apply pw_below_drewN | apply below_drew1 | refine below_set ?_ GE284.out | refine below_set ?_ GE285.out) | exact HB.out)⟩
def impl_RootOf.l0 : Nat → Int → Int → Int → Option (Int)
 | 0,_,_,_ => none
 | k + 1,x0,x3,x4 => if x3 < x4 then (if (wrap64 (Int.tdiv (wrap64 ((wrap64 (x3 + x4)) + 1)) 2)) = 0 then (none) else (if (wrap64 (Int.tdiv (wrap64 ((wrap64 (x3 + x4)) + 1)) 2)) ≤ (wrap64 (Int.tdiv x0 (wrap64 (Int.tdiv (wrap64 ((wrap64 (x3 + x4)) + 1)) 2)))) then (impl_RootOf.l0 k x0 (wrap64 (Int.tdiv (wrap64 ((wrap64 (x3 + x4)) + 1)) 2)) x4) else (impl_RootOf.l0 k x0 x3 (wrap64 ((wrap64 (Int.tdiv (wrap64 ((wrap64 (x3 + x4)) + 1)) 2)) - 1))))) else (some x3)
def impl_RootOf.f (k : Nat) (a0 : Int) : Option (Int):=if a0 < 1 then (some 0) else (impl_RootOf.l0 k a0 1 3037000499)
theorem impl_RootOf.mono_l : ∀ k,(∀ y0 y1 y2,LeO (impl_RootOf.l0 k y0 y1 y2) (impl_RootOf.l0 (k + 1) y0 y1 y2))
 | 0 => fun _ _ _ r h => by simp [impl_RootOf.l0] at h
 | k + 1 => by
  have ih0:=impl_RootOf.mono_l k
  ·intro y0 y1 y2
   unfold impl_RootOf.l0
   repeat' first
   | (with_reducible exact ih0 _ _ _)
   | (with_reducible exact LeO.refl _)
   | (with_reducible exact LeO.none _)
   | (with_reducible refine LeO.ite ?_ ?_)
   | (with_reducible refine LeO.bind ?_ (fun _ => ?_))
   | exact ih0 _ _ _
   | exact LeO.none _
   | refine LeO.ite ?_ ?_
   | refine LeO.bind ?_ (fun _ => ?_)
theorem impl_RootOf.mono : ∀ a0 k,LeO (impl_RootOf.f k a0) (impl_RootOf.f (k + 1) a0):=by
 intro a0 k
 have ih0:=impl_RootOf.mono_l k
 unfold impl_RootOf.f
 repeat' first
   | (with_reducible exact ih0 _ _ _)
   | (with_reducible exact LeO.refl _)
   | (with_reducible exact LeO.none _)
   | (with_reducible refine LeO.ite ?_ ?_)
   | (with_reducible refine LeO.bind ?_ (fun _ => ?_))
   | exact ih0 _ _ _
   | exact LeO.none _
   | refine LeO.ite ?_ ?_
   | refine LeO.bind ?_ (fun _ => ?_)
set_option maxHeartbeats 8000000 in
set_option maxRecDepth 100000 in
theorem impl_RootOf.calls (k : Nat) (a0 : Int) (r : Int) (w : World) (h : impl_RootOf.f k a0 = some r) :
  Calls Try.prog 88 #[.int .i64 a0] w fun e w' => e = .returned (.int .i64 r) ∧ Drawn0 w w':=by
 have H : (if a0 < 1 then (some 0) else (impl_RootOf.l0 k a0 1 3037000499)) = some r:=h
 clear h
 by_cases c2 : a0 < 1
 ·rw [if_pos c2] at H
  have c2b0 : decide (a0 < 1) = true:=decide_eq_true c2
  clear c2
  obtain rfl:=Option.some.inj H
  go_enter Try.func88,Try.ntmps88
  go_wp2
  go_ret
  exact ⟨by first | rfl | (simp;done) | (simp [*];done),by repeat (first | exact Drawn0.refl _ | apply Drawn0.step)⟩
 ·rw [if_neg c2] at H
  have c2b0 : decide (a0 < 1) = false:=decide_eq_false c2
  clear c2
  have H':=Aside0.mk H
  clear H
  go_enter Try.func88,Try.ntmps88
  go_wp2
  go_loopg [3,4] k (fun kq v3 v4 w' => ∃ (x3_1 : Int) (x4_1 : Int),v3 = .int .i64 x3_1 ∧ v4 = .int .i64 x4_1 ∧ Aside0 (impl_RootOf.l0 kq a0 x3_1 x4_1 = some r) ∧ Aside0 (kq ≤ k) ∧ Drawn0 w w')
  case atStart => exact ⟨(1),(3037000499),(by first | rfl | (simp;done) | (simp [*];done)),(by first | rfl | (simp;done) | (simp [*];done)),H',⟨Nat.le_refl _⟩,by repeat (first | exact Drawn0.refl _ | apply Drawn0.step)⟩
  case round =>
   clear H'
   try clear c2
   try clear c2b0
   try clear p2
   obtain ⟨x3_1,x4_1,rfl,rfl,HA,HK1,⟨m1,rfl⟩⟩:=hrel
   cases gk with
   | zero => exact absurd HA.out (by simp [impl_RootOf.l0])
   | succ k1 =>
    have H:=HA.out
    clear HA
    simp only [impl_RootOf.l0] at H
    by_cases c3 : x3_1 < x4_1
    ·rw [if_pos c3] at H
     have c3b0 : decide (x3_1 < x4_1) = true:=decide_eq_true c3
     clear c3
     by_cases c4 : (wrap64 (Int.tdiv (wrap64 ((wrap64 (x3_1 + x4_1)) + 1)) 2)) = 0
     ·rw [if_pos c4] at H
      exact absurd H (by simp)
     ·rw [if_neg c4] at H
      have c4b0 : ((wrap64 (Int.tdiv (wrap64 ((wrap64 (x3_1 + x4_1)) + 1)) 2)) == 0) = false:=beq_eq_false_iff_ne.mpr c4
      have c4b1 : ((wrap64 (Int.tdiv (wrap64 ((wrap64 (x3_1 + x4_1)) + 1)) 2)) != 0) = true:=bne_iff_ne.mpr c4
      by_cases c5 : (wrap64 (Int.tdiv (wrap64 ((wrap64 (x3_1 + x4_1)) + 1)) 2)) ≤ (wrap64 (Int.tdiv a0 (wrap64 (Int.tdiv (wrap64 ((wrap64 (x3_1 + x4_1)) + 1)) 2))))
      ·rw [if_pos c5] at H
       have c5b0 : decide ((wrap64 (Int.tdiv (wrap64 ((wrap64 (x3_1 + x4_1)) + 1)) 2)) ≤ (wrap64 (Int.tdiv a0 (wrap64 (Int.tdiv (wrap64 ((wrap64 (x3_1 + x4_1)) + 1)) 2))))) = true:=decide_eq_true c5
       clear c5
       have H':=Aside0.mk H
       clear H
       go_wp2
       go_roundg k1
       case measure => have:=HK1.out;omega
       case rel => exact ⟨(wrap64 (Int.tdiv (wrap64 ((wrap64 (x3_1 + x4_1)) + 1)) 2)),(x4_1),(by first | rfl | (simp;done) | (simp [*];done)),(by first | rfl | (simp;done) | (simp [*];done)),H',⟨by have:=HK1.out;omega⟩,by repeat (first | exact Drawn0.refl _ | apply Drawn0.step)⟩
      ·rw [if_neg c5] at H
       have c5b0 : decide ((wrap64 (Int.tdiv (wrap64 ((wrap64 (x3_1 + x4_1)) + 1)) 2)) ≤ (wrap64 (Int.tdiv a0 (wrap64 (Int.tdiv (wrap64 ((wrap64 (x3_1 + x4_1)) + 1)) 2))))) = false:=decide_eq_false c5
       clear c5
       have H':=Aside0.mk H
       clear H
       go_wp2
       go_roundg k1
       case measure => have:=HK1.out;omega
       case rel => exact ⟨(x3_1),(wrap64 ((wrap64 (Int.tdiv (wrap64 ((wrap64 (x3_1 + x4_1)) + 1)) 2)) - 1)),(by first | rfl | (simp;done) | (simp [*];done)),(by first | rfl | (simp;done) | (simp [*];done)),H',⟨by have:=HK1.out;omega⟩,by repeat (first | exact Drawn0.refl _ | apply Drawn0.step)⟩
    ·rw [if_neg c3] at H
     have c3b0 : decide (x3_1 < x4_1) = false:=decide_eq_false c3
     clear c3
     obtain rfl:=Option.some.inj H
     go_wp2
     go_ret
     exact ⟨by first | rfl | (simp;done) | (simp [*];done),by repeat (first | exact Drawn0.refl _ | apply Drawn0.step)⟩
def bits_Mul64.f (a0 : Int) (a1 : Int) : Option (Int × Int):=some (IntKind.u64.wrap ((IntKind.u64.wrap ((IntKind.u64.wrap ((a0 / 4294967296) * (a1 / 4294967296))) + ((IntKind.u64.wrap ((IntKind.u64.wrap ((a0 / 4294967296) * (Go.bits .and .u64 a1 4294967295))) + ((IntKind.u64.wrap ((Go.bits .and .u64 a0 4294967295) * (Go.bits .and .u64 a1 4294967295))) / 4294967296))) / 4294967296))) + ((IntKind.u64.wrap ((Go.bits .and .u64 (IntKind.u64.wrap ((IntKind.u64.wrap ((a0 / 4294967296) * (Go.bits .and .u64 a1 4294967295))) + ((IntKind.u64.wrap ((Go.bits .and .u64 a0 4294967295) * (Go.bits .and .u64 a1 4294967295))) / 4294967296))) 4294967295) + (IntKind.u64.wrap ((Go.bits .and .u64 a0 4294967295) * (a1 / 4294967296))))) / 4294967296)),IntKind.u64.wrap (a0 * a1))
set_option maxHeartbeats 8000000 in
set_option maxRecDepth 100000 in
theorem bits_Mul64.calls (a0 : Int) (a1 : Int) (r1 : Int) (r2 : Int) (w : World) (h : bits_Mul64.f a0 a1 = some (r1,r2)) :
  Calls Try.prog 110 #[.int .u64 a0,.int .u64 a1] w fun e w' => e = .returned (.tuple #[.int .u64 r1,.int .u64 r2]) ∧ Drawn0 w w':=by
 have H : (some (IntKind.u64.wrap ((IntKind.u64.wrap ((IntKind.u64.wrap ((a0 / 4294967296) * (a1 / 4294967296))) + ((IntKind.u64.wrap ((IntKind.u64.wrap ((a0 / 4294967296) * (Go.bits .and .u64 a1 4294967295))) + ((IntKind.u64.wrap ((Go.bits .and .u64 a0 4294967295) * (Go.bits .and .u64 a1 4294967295))) / 4294967296))) / 4294967296))) + ((IntKind.u64.wrap ((Go.bits .and .u64 (IntKind.u64.wrap ((IntKind.u64.wrap ((a0 / 4294967296) * (Go.bits .and .u64 a1 4294967295))) + ((IntKind.u64.wrap ((Go.bits .and .u64 a0 4294967295) * (Go.bits .and .u64 a1 4294967295))) / 4294967296))) 4294967295) + (IntKind.u64.wrap ((Go.bits .and .u64 a0 4294967295) * (a1 / 4294967296))))) / 4294967296)),IntKind.u64.wrap (a0 * a1))) = some (r1,r2):=h
 clear h
 simp only [Option.some.injEq,Prod.mk.injEq] at H
 obtain ⟨rfl,rfl⟩:=H
 go_enter Try.func110,Try.ntmps110
 go_wp2
 go_ret2
 exact ⟨by first | rfl | (simp;done) | (simp [*];done),by repeat (first | exact Drawn0.refl _ | apply Drawn0.step)⟩
def bits_Div64.f (a0 : Int) (a1 : Int) (a2 : Int) : Option (Int × Int):=if a0 = 0 then (if 0 < a2 then (if 0 ≤ a1 then (if a1 ≤ 9223372036854775807 then (if a2 ≤ 9223372036854775807 then some (a1 / a2,a1 % a2) else none) else none) else none) else none) else none
set_option maxHeartbeats 8000000 in
set_option maxRecDepth 100000 in
theorem bits_Div64.calls (a0 : Int) (a1 : Int) (a2 : Int) (r1 : Int) (r2 : Int) (w : World) (h : bits_Div64.f a0 a1 a2 = some (r1,r2)) :
  Calls Try.prog 111 #[.int .u64 a0,.int .u64 a1,.int .u64 a2] w fun e w' => e = .returned (.tuple #[.int .u64 r1,.int .u64 r2]) ∧ Drawn0 w w':=by
 unfold bits_Div64.f at h
 by_cases h0 : a0 = 0
 ·rw [if_pos h0] at h
  by_cases h2 : 0 < a2
  ·rw [if_pos h2] at h
   by_cases h1 : 0 ≤ a1
   ·rw [if_pos h1] at h
    by_cases h3 : a1 ≤ 9223372036854775807
    ·rw [if_pos h3] at h
     by_cases h4 : a2 ≤ 9223372036854775807
     ·rw [if_pos h4] at h
      subst h0
      simp only [Option.some.injEq,Prod.mk.injEq] at h
      obtain ⟨rfl,rfl⟩:=h
      have e1 : (a2 == 0) = false:=by simp;omega
      have e2 : decide (a2 ≤ 0) = false:=by simp;omega
      have e3 : ¬ a2 ≤ 0:=by omega
      have e4 : a2 ≠ 0:=by omega
      go_enter Try.func111,Try.ntmps111
      go_wp2
      have q1 : IntKind.u64.wrap (Int.tdiv a1 a2) = a1 / a2:=by
       have:=Int.ediv_nonneg h1 (show 0 ≤ a2 by omega)
       have:=Int.ediv_le_self a2 h1
       rw [Int.tdiv_eq_ediv_of_nonneg h1]
       exact IntWalk.u64_in _ (by omega)
      have q2 : IntKind.u64.wrap (Int.tmod a1 a2) = a1 % a2:=by
       have:=Int.emod_nonneg a1 (show a2 ≠ 0 by omega)
       have:=Int.emod_lt_of_pos a1 h2
       rw [Int.tmod_eq_emod_of_nonneg h1]
       exact IntWalk.u64_in _ (by omega)
      go_quiet (fail)
      go_wp2
      go_ret2
      exact ⟨rfl,⟨⟨_,rfl⟩⟩⟩
     ·rw [if_neg h4] at h;cases h
    ·rw [if_neg h3] at h;cases h
   ·rw [if_neg h1] at h;cases h
  ·rw [if_neg h2] at h;cases h
 ·rw [if_neg h0] at h;cases h
def impl_toSegment.f (k : Nat) (a0_0 : Int) (a0_1 : Int) (a1_0 : Int) (a1_1 : Int) (a2_0 : Int) (a2_1 : Int) : Option (Int):=(impl_squared.f a0_0 a0_1 a1_0 a1_1).bind fun t289 => (if (wrap64 ((wrap64 ((wrap64 (a2_0 - a0_0)) * (wrap64 (a1_0 - a0_0)))) + (wrap64 ((wrap64 (a2_1 - a0_1)) * (wrap64 (a1_1 - a0_1)))))) ≤ 0 then ((impl_squared.f a0_0 a0_1 a2_0 a2_1).bind fun t290 => ((impl_RootOf.f k t290).bind fun t291 => (some t291))) else (if (wrap64 ((wrap64 ((wrap64 (a2_0 - a0_0)) * (wrap64 (a1_0 - a0_0)))) + (wrap64 ((wrap64 (a2_1 - a0_1)) * (wrap64 (a1_1 - a0_1)))))) ≥ t289 then ((impl_squared.f a1_0 a1_1 a2_0 a2_1).bind fun t292 => ((impl_RootOf.f k t292).bind fun t293 => (some t293))) else ((bits_Mul64.f (IntKind.u64.wrap (mx (wrap64 ((wrap64 ((wrap64 (a1_0 - a0_0)) * (wrap64 (a2_1 - a0_1)))) - (wrap64 ((wrap64 (a1_1 - a0_1)) * (wrap64 (a2_0 - a0_0)))))) (wrap64 (-(wrap64 ((wrap64 ((wrap64 (a1_0 - a0_0)) * (wrap64 (a2_1 - a0_1)))) - (wrap64 ((wrap64 (a1_1 - a0_1)) * (wrap64 (a2_0 - a0_0)))))))))) (IntKind.u64.wrap (mx (wrap64 ((wrap64 ((wrap64 (a1_0 - a0_0)) * (wrap64 (a2_1 - a0_1)))) - (wrap64 ((wrap64 (a1_1 - a0_1)) * (wrap64 (a2_0 - a0_0)))))) (wrap64 (-(wrap64 ((wrap64 ((wrap64 (a1_0 - a0_0)) * (wrap64 (a2_1 - a0_1)))) - (wrap64 ((wrap64 (a1_1 - a0_1)) * (wrap64 (a2_0 - a0_0))))))))))).bind fun bt294 => ((bits_Div64.f bt294.1 bt294.2 (IntKind.u64.wrap (t289))).bind fun bt296 => ((impl_RootOf.f k (wrap64 (bt296.1))).bind fun t298 => (some t298))))))
theorem impl_toSegment.mono : ∀ a0 a1 a2 a3 a4 a5 k,LeO (impl_toSegment.f k a0 a1 a2 a3 a4 a5) (impl_toSegment.f (k + 1) a0 a1 a2 a3 a4 a5):=by
 intro a0 a1 a2 a3 a4 a5 k
 unfold impl_toSegment.f
 repeat' first
   | (with_reducible exact impl_RootOf.mono _ _)
   | (with_reducible exact LeO.refl _)
   | (with_reducible exact LeO.none _)
   | (with_reducible refine LeO.ite ?_ ?_)
   | (with_reducible refine LeO.bind ?_ (fun _ => ?_))
   | exact impl_RootOf.mono _ _
   | exact LeO.none _
   | refine LeO.ite ?_ ?_
   | refine LeO.bind ?_ (fun _ => ?_)
set_option maxHeartbeats 8000000 in
set_option maxRecDepth 100000 in
theorem impl_toSegment.calls (k : Nat) (a0_0 : Int) (a0_1 : Int) (a1_0 : Int) (a1_1 : Int) (a2_0 : Int) (a2_1 : Int) (r : Int) (w : World) (h : impl_toSegment.f k a0_0 a0_1 a1_0 a1_1 a2_0 a2_1 = some r) :
  Calls Try.prog 109 #[.agg #[.int .i64 a0_0,.int .i64 a0_1],.agg #[.int .i64 a1_0,.int .i64 a1_1],.agg #[.int .i64 a2_0,.int .i64 a2_1]] w fun e w' => e = .returned (.int .i64 r) ∧ Below w.heap.size w w':=by
 have hu30:=Try.underlying30
 have HB:=Aside0.mk (Below.refl w.heap.size w)
 have H : ((impl_squared.f a0_0 a0_1 a1_0 a1_1).bind fun t289 => (if (wrap64 ((wrap64 ((wrap64 (a2_0 - a0_0)) * (wrap64 (a1_0 - a0_0)))) + (wrap64 ((wrap64 (a2_1 - a0_1)) * (wrap64 (a1_1 - a0_1)))))) ≤ 0 then ((impl_squared.f a0_0 a0_1 a2_0 a2_1).bind fun t290 => ((impl_RootOf.f k t290).bind fun t291 => (some t291))) else (if (wrap64 ((wrap64 ((wrap64 (a2_0 - a0_0)) * (wrap64 (a1_0 - a0_0)))) + (wrap64 ((wrap64 (a2_1 - a0_1)) * (wrap64 (a1_1 - a0_1)))))) ≥ t289 then ((impl_squared.f a1_0 a1_1 a2_0 a2_1).bind fun t292 => ((impl_RootOf.f k t292).bind fun t293 => (some t293))) else ((bits_Mul64.f (IntKind.u64.wrap (mx (wrap64 ((wrap64 ((wrap64 (a1_0 - a0_0)) * (wrap64 (a2_1 - a0_1)))) - (wrap64 ((wrap64 (a1_1 - a0_1)) * (wrap64 (a2_0 - a0_0)))))) (wrap64 (-(wrap64 ((wrap64 ((wrap64 (a1_0 - a0_0)) * (wrap64 (a2_1 - a0_1)))) - (wrap64 ((wrap64 (a1_1 - a0_1)) * (wrap64 (a2_0 - a0_0)))))))))) (IntKind.u64.wrap (mx (wrap64 ((wrap64 ((wrap64 (a1_0 - a0_0)) * (wrap64 (a2_1 - a0_1)))) - (wrap64 ((wrap64 (a1_1 - a0_1)) * (wrap64 (a2_0 - a0_0)))))) (wrap64 (-(wrap64 ((wrap64 ((wrap64 (a1_0 - a0_0)) * (wrap64 (a2_1 - a0_1)))) - (wrap64 ((wrap64 (a1_1 - a0_1)) * (wrap64 (a2_0 - a0_0))))))))))).bind fun bt294 => ((bits_Div64.f bt294.1 bt294.2 (IntKind.u64.wrap (t289))).bind fun bt296 => ((impl_RootOf.f k (wrap64 (bt296.1))).bind fun t298 => (some t298))))))) = some r:=h
 clear h
 replace H:=Option.bind_eq_some_iff.mp H
 obtain ⟨t289,A40,H⟩:=H
 replace H : (if (wrap64 ((wrap64 ((wrap64 (a2_0 - a0_0)) * (wrap64 (a1_0 - a0_0)))) + (wrap64 ((wrap64 (a2_1 - a0_1)) * (wrap64 (a1_1 - a0_1)))))) ≤ 0 then ((impl_squared.f a0_0 a0_1 a2_0 a2_1).bind fun t290 => ((impl_RootOf.f k t290).bind fun t291 => (some t291))) else (if (wrap64 ((wrap64 ((wrap64 (a2_0 - a0_0)) * (wrap64 (a1_0 - a0_0)))) + (wrap64 ((wrap64 (a2_1 - a0_1)) * (wrap64 (a1_1 - a0_1)))))) ≥ t289 then ((impl_squared.f a1_0 a1_1 a2_0 a2_1).bind fun t292 => ((impl_RootOf.f k t292).bind fun t293 => (some t293))) else ((bits_Mul64.f (IntKind.u64.wrap (mx (wrap64 ((wrap64 ((wrap64 (a1_0 - a0_0)) * (wrap64 (a2_1 - a0_1)))) - (wrap64 ((wrap64 (a1_1 - a0_1)) * (wrap64 (a2_0 - a0_0)))))) (wrap64 (-(wrap64 ((wrap64 ((wrap64 (a1_0 - a0_0)) * (wrap64 (a2_1 - a0_1)))) - (wrap64 ((wrap64 (a1_1 - a0_1)) * (wrap64 (a2_0 - a0_0)))))))))) (IntKind.u64.wrap (mx (wrap64 ((wrap64 ((wrap64 (a1_0 - a0_0)) * (wrap64 (a2_1 - a0_1)))) - (wrap64 ((wrap64 (a1_1 - a0_1)) * (wrap64 (a2_0 - a0_0)))))) (wrap64 (-(wrap64 ((wrap64 ((wrap64 (a1_0 - a0_0)) * (wrap64 (a2_1 - a0_1)))) - (wrap64 ((wrap64 (a1_1 - a0_1)) * (wrap64 (a2_0 - a0_0))))))))))).bind fun bt294 => ((bits_Div64.f bt294.1 bt294.2 (IntKind.u64.wrap (t289))).bind fun bt296 => ((impl_RootOf.f k (wrap64 (bt296.1))).bind fun t298 => (some t298)))))) = some r:=H
 have A4:=Aside0.mk A40
 clear A40
 by_cases c5 : (wrap64 ((wrap64 ((wrap64 (a2_0 - a0_0)) * (wrap64 (a1_0 - a0_0)))) + (wrap64 ((wrap64 (a2_1 - a0_1)) * (wrap64 (a1_1 - a0_1)))))) ≤ 0
 ·rw [if_pos c5] at H
  have c5b0 : decide ((wrap64 ((wrap64 ((wrap64 (a2_0 - a0_0)) * (wrap64 (a1_0 - a0_0)))) + (wrap64 ((wrap64 (a2_1 - a0_1)) * (wrap64 (a1_1 - a0_1)))))) ≤ 0) = true:=decide_eq_true c5
  clear c5
  replace H:=Option.bind_eq_some_iff.mp H
  obtain ⟨t290,A60,H⟩:=H
  replace H : ((impl_RootOf.f k t290).bind fun t291 => (some t291)) = some r:=H
  have A6:=Aside0.mk A60
  clear A60
  replace H:=Option.bind_eq_some_iff.mp H
  obtain ⟨t291,A70,H⟩:=H
  replace H : (some t291) = some r:=H
  have A7:=Aside0.mk A70
  clear A70
  obtain rfl:=Option.some.inj H
  go_enter Try.func109,Try.ntmps109
  go_wp2_with (first | ((with_reducible refine gate_dst (N:=3) rfl ?_);refine box_event ?hg (N:=3) ?hd (cs:=#[.int .i64 a0_0,.int .i64 a0_1]) (t:=30) ?hr ?_;(case hd => rfl);(case hg => rfl);(case hr => first | (go_simp;done) | (go_simp;rfl));intro gb286 hg w8 hbox hb;have n0_:=sb hb;have n1_:=Aside0.mk (hbox);have n2_:=zb hg;have n3_:=zb hg;clear HB;have HB:=n0_;have BK286:=n1_;have GW286:=n2_;have GE286:=n3_;clear n0_ n1_ n2_ n3_;clear hb hbox hg) | ((with_reducible refine gate_dst (N:=4) rfl ?_);refine box_event ?hg (N:=4) ?hd (cs:=#[.int .i64 a1_0,.int .i64 a1_1]) (t:=30) ?hr ?_;(case hd => rfl);(case hg => rfl);(case hr => first | (go_simp;done) | (go_simp;rfl));intro gb287 hg w9 hbox hb;have n0_:=kb BK286 hb;have n1_:=sb hb;have n2_:=Aside0.mk (hbox);have n3_:=zb hg;have n4_:=zb hg;have n5_:=nl BK286 hg;have n6_:=ng BK286 hg;clear BK286;clear HB;have BK286:=n0_;have HB:=n1_;have BK287:=n2_;have GW287:=n3_;have GE287:=n4_;have NB286_287:=n5_;have NB287_286:=n6_;clear n0_ n1_ n2_ n3_ n4_ n5_ n6_;clear hb hbox hg) | ((with_reducible refine gate_dst (N:=5) rfl ?_);refine box_event ?hg (N:=5) ?hd (cs:=#[.int .i64 a2_0,.int .i64 a2_1]) (t:=30) ?hr ?_;(case hd => rfl);(case hg => rfl);(case hr => first | (go_simp;done) | (go_simp;rfl));intro gb288 hg w10 hbox hb;have n0_:=kb BK286 hb;have n1_:=kb BK287 hb;have n2_:=sb hb;have n3_:=Aside0.mk (hbox);have n4_:=zb hg;have n5_:=zb hg;have n6_:=nl BK286 hg;have n7_:=ng BK286 hg;have n8_:=nl BK287 hg;have n9_:=ng BK287 hg;clear BK286;clear BK287;clear HB;have BK286:=n0_;have BK287:=n1_;have HB:=n2_;have BK288:=n3_;have GW288:=n4_;have GE288:=n5_;have NB286_288:=n6_;have NB288_286:=n7_;have NB287_288:=n8_;have NB288_287:=n9_;clear n0_ n1_ n2_ n3_ n4_ n5_ n6_ n7_ n8_ n9_;clear hb hbox hg;have hnb11:=NB288_286.out;have hnc11:=NB286_288.out;have hnb12:=NB288_287.out;have hnc12:=NB287_288.out;have hcz13_0:=ck BK288 0;have hcz13_1:=ck BK288 1;have hfz13_0:=blk_frozen BK288.out 0;have hfz13_1:=blk_frozen BK288.out 1;have hnb14:=NB286_287.out;have hnc14:=NB287_286.out;have hcz15_0:=ck BK286 0;have hcz15_1:=ck BK286 1;have hfz15_0:=blk_frozen BK286.out 0;have hfz15_1:=blk_frozen BK286.out 1;have hcz16_0:=ck BK287 0;have hcz16_1:=ck BK287 1;have hfz16_0:=blk_frozen BK287.out 0;have hfz16_1:=blk_frozen BK287.out 1) | ((with_reducible refine gate_callee (f:=73) rfl ?_);refine goesL_ (some 39) rfl rfl Try.func73 (by kernel_rfl) rfl #[.agg #[.int .i64 a0_0,.int .i64 a0_1],.agg #[.int .i64 a1_0,.int .i64 a1_1]] rfl (by (try simp only [List.map_toArray,List.map_cons,List.map_nil]);first | done | rfl | (simp only [List.length_drop,List.length_take];rfl)) ?_;(with_reducible refine (impl_squared.calls a0_0 a0_1 a1_0 a1_1 t289 _ A4.out).mono ?_);rintro e w17 ⟨rfl,hb⟩;refine ⟨_,rfl,?_⟩;have n0_:=kb BK286 hb;have n1_:=kb BK287 hb;have n2_:=kb BK288 hb;have n3_:=sb hb;clear BK286;clear BK287;clear BK288;clear HB;have BK286:=n0_;have BK287:=n1_;have BK288:=n2_;have HB:=n3_;clear n0_ n1_ n2_ n3_;(try clear hb);(try clear hb2);(try clear hk);(try clear hi);have hcz18_0:=ck BK286 0;have hcz18_1:=ck BK286 1;have hfz18_0:=blk_frozen BK286.out 0;have hfz18_1:=blk_frozen BK286.out 1;have hcz19_0:=ck BK288 0;have hcz19_1:=ck BK288 1;have hfz19_0:=blk_frozen BK288.out 0;have hfz19_1:=blk_frozen BK288.out 1) | ((with_reducible refine gate_callee (f:=73) rfl ?_);refine goesL_ (some 45) rfl rfl Try.func73 (by kernel_rfl) rfl #[.agg #[.int .i64 a0_0,.int .i64 a0_1],.agg #[.int .i64 a2_0,.int .i64 a2_1]] rfl (by (try simp only [List.map_toArray,List.map_cons,List.map_nil]);first | done | rfl | (simp only [List.length_drop,List.length_take];rfl)) ?_;(with_reducible refine (impl_squared.calls a0_0 a0_1 a2_0 a2_1 t290 _ A6.out).mono ?_);rintro e w20 ⟨rfl,hb⟩;refine ⟨_,rfl,?_⟩;have n0_:=kb BK286 hb;have n1_:=kb BK287 hb;have n2_:=kb BK288 hb;have n3_:=sb hb;clear BK286;clear BK287;clear BK288;clear HB;have BK286:=n0_;have BK287:=n1_;have BK288:=n2_;have HB:=n3_;clear n0_ n1_ n2_ n3_;(try clear hb);(try clear hb2);(try clear hk);(try clear hi)) | ((with_reducible refine gate_callee (f:=88) rfl ?_);refine goesL_ (some 46) rfl rfl Try.func88 (by kernel_rfl) rfl #[.int .i64 t290] rfl (by (try simp only [List.map_toArray,List.map_cons,List.map_nil]);first | done | rfl | (simp only [List.length_drop,List.length_take];rfl)) ?_;(with_reducible refine (impl_RootOf.calls k t290 t291 _ A7.out).mono ?_);rintro e w' ⟨rfl,⟨nd,rfl⟩⟩;refine ⟨_,rfl,?_⟩))
  go_ret
  exact ⟨by first | rfl | (simp [errW_none,errW_some] <;> rfl) | (simp [*,errW_none,errW_some] <;> rfl),by repeat (first | (with_reducible first | exact HB.out | apply below_alloc | apply pw_below_drewN | apply below_drew1 | refine below_set ?_ GE286.out | refine below_set ?_ GE287.out | refine below_set ?_ GE288.out) | exact HB.out)⟩
 ·rw [if_neg c5] at H
  have c5b0 : decide ((wrap64 ((wrap64 ((wrap64 (a2_0 - a0_0)) * (wrap64 (a1_0 - a0_0)))) + (wrap64 ((wrap64 (a2_1 - a0_1)) * (wrap64 (a1_1 - a0_1)))))) ≤ 0) = false:=decide_eq_false c5
  clear c5
  by_cases c21 : (wrap64 ((wrap64 ((wrap64 (a2_0 - a0_0)) * (wrap64 (a1_0 - a0_0)))) + (wrap64 ((wrap64 (a2_1 - a0_1)) * (wrap64 (a1_1 - a0_1)))))) ≥ t289
  ·rw [if_pos c21] at H
   have c21b0 : decide (t289 ≤ (wrap64 ((wrap64 ((wrap64 (a2_0 - a0_0)) * (wrap64 (a1_0 - a0_0)))) + (wrap64 ((wrap64 (a2_1 - a0_1)) * (wrap64 (a1_1 - a0_1))))))) = true:=decide_eq_true c21
   clear c21
   replace H:=Option.bind_eq_some_iff.mp H
   obtain ⟨t292,A220,H⟩:=H
   replace H : ((impl_RootOf.f k t292).bind fun t293 => (some t293)) = some r:=H
   have A22:=Aside0.mk A220
   clear A220
   replace H:=Option.bind_eq_some_iff.mp H
   obtain ⟨t293,A230,H⟩:=H
   replace H : (some t293) = some r:=H
   have A23:=Aside0.mk A230
   clear A230
   obtain rfl:=Option.some.inj H
   go_enter Try.func109,Try.ntmps109
   go_wp2_with (first | ((with_reducible refine gate_dst (N:=3) rfl ?_);refine box_event ?hg (N:=3) ?hd (cs:=#[.int .i64 a0_0,.int .i64 a0_1]) (t:=30) ?hr ?_;(case hd => rfl);(case hg => rfl);(case hr => first | (go_simp;done) | (go_simp;rfl));intro gb286 hg w24 hbox hb;have n0_:=sb hb;have n1_:=Aside0.mk (hbox);have n2_:=zb hg;have n3_:=zb hg;clear HB;have HB:=n0_;have BK286:=n1_;have GW286:=n2_;have GE286:=n3_;clear n0_ n1_ n2_ n3_;clear hb hbox hg) | ((with_reducible refine gate_dst (N:=4) rfl ?_);refine box_event ?hg (N:=4) ?hd (cs:=#[.int .i64 a1_0,.int .i64 a1_1]) (t:=30) ?hr ?_;(case hd => rfl);(case hg => rfl);(case hr => first | (go_simp;done) | (go_simp;rfl));intro gb287 hg w25 hbox hb;have n0_:=kb BK286 hb;have n1_:=sb hb;have n2_:=Aside0.mk (hbox);have n3_:=zb hg;have n4_:=zb hg;have n5_:=nl BK286 hg;have n6_:=ng BK286 hg;clear BK286;clear HB;have BK286:=n0_;have HB:=n1_;have BK287:=n2_;have GW287:=n3_;have GE287:=n4_;have NB286_287:=n5_;have NB287_286:=n6_;clear n0_ n1_ n2_ n3_ n4_ n5_ n6_;clear hb hbox hg) | ((with_reducible refine gate_dst (N:=5) rfl ?_);refine box_event ?hg (N:=5) ?hd (cs:=#[.int .i64 a2_0,.int .i64 a2_1]) (t:=30) ?hr ?_;(case hd => rfl);(case hg => rfl);(case hr => first | (go_simp;done) | (go_simp;rfl));intro gb288 hg w26 hbox hb;have n0_:=kb BK286 hb;have n1_:=kb BK287 hb;have n2_:=sb hb;have n3_:=Aside0.mk (hbox);have n4_:=zb hg;have n5_:=zb hg;have n6_:=nl BK286 hg;have n7_:=ng BK286 hg;have n8_:=nl BK287 hg;have n9_:=ng BK287 hg;clear BK286;clear BK287;clear HB;have BK286:=n0_;have BK287:=n1_;have HB:=n2_;have BK288:=n3_;have GW288:=n4_;have GE288:=n5_;have NB286_288:=n6_;have NB288_286:=n7_;have NB287_288:=n8_;have NB288_287:=n9_;clear n0_ n1_ n2_ n3_ n4_ n5_ n6_ n7_ n8_ n9_;clear hb hbox hg;have hnb27:=NB288_286.out;have hnc27:=NB286_288.out;have hnb28:=NB288_287.out;have hnc28:=NB287_288.out;have hcz29_0:=ck BK288 0;have hcz29_1:=ck BK288 1;have hfz29_0:=blk_frozen BK288.out 0;have hfz29_1:=blk_frozen BK288.out 1;have hnb30:=NB286_287.out;have hnc30:=NB287_286.out;have hcz31_0:=ck BK286 0;have hcz31_1:=ck BK286 1;have hfz31_0:=blk_frozen BK286.out 0;have hfz31_1:=blk_frozen BK286.out 1;have hcz32_0:=ck BK287 0;have hcz32_1:=ck BK287 1;have hfz32_0:=blk_frozen BK287.out 0;have hfz32_1:=blk_frozen BK287.out 1) | ((with_reducible refine gate_callee (f:=73) rfl ?_);refine goesL_ (some 39) rfl rfl Try.func73 (by kernel_rfl) rfl #[.agg #[.int .i64 a0_0,.int .i64 a0_1],.agg #[.int .i64 a1_0,.int .i64 a1_1]] rfl (by (try simp only [List.map_toArray,List.map_cons,List.map_nil]);first | done | rfl | (simp only [List.length_drop,List.length_take];rfl)) ?_;(with_reducible refine (impl_squared.calls a0_0 a0_1 a1_0 a1_1 t289 _ A4.out).mono ?_);rintro e w33 ⟨rfl,hb⟩;refine ⟨_,rfl,?_⟩;have n0_:=kb BK286 hb;have n1_:=kb BK287 hb;have n2_:=kb BK288 hb;have n3_:=sb hb;clear BK286;clear BK287;clear BK288;clear HB;have BK286:=n0_;have BK287:=n1_;have BK288:=n2_;have HB:=n3_;clear n0_ n1_ n2_ n3_;(try clear hb);(try clear hb2);(try clear hk);(try clear hi);have hcz34_0:=ck BK287 0;have hcz34_1:=ck BK287 1;have hfz34_0:=blk_frozen BK287.out 0;have hfz34_1:=blk_frozen BK287.out 1;have hcz35_0:=ck BK288 0;have hcz35_1:=ck BK288 1;have hfz35_0:=blk_frozen BK288.out 0;have hfz35_1:=blk_frozen BK288.out 1) | ((with_reducible refine gate_callee (f:=73) rfl ?_);refine goesL_ (some 53) rfl rfl Try.func73 (by kernel_rfl) rfl #[.agg #[.int .i64 a1_0,.int .i64 a1_1],.agg #[.int .i64 a2_0,.int .i64 a2_1]] rfl (by (try simp only [List.map_toArray,List.map_cons,List.map_nil]);first | done | rfl | (simp only [List.length_drop,List.length_take];rfl)) ?_;(with_reducible refine (impl_squared.calls a1_0 a1_1 a2_0 a2_1 t292 _ A22.out).mono ?_);rintro e w36 ⟨rfl,hb⟩;refine ⟨_,rfl,?_⟩;have n0_:=kb BK286 hb;have n1_:=kb BK287 hb;have n2_:=kb BK288 hb;have n3_:=sb hb;clear BK286;clear BK287;clear BK288;clear HB;have BK286:=n0_;have BK287:=n1_;have BK288:=n2_;have HB:=n3_;clear n0_ n1_ n2_ n3_;(try clear hb);(try clear hb2);(try clear hk);(try clear hi)) | ((with_reducible refine gate_callee (f:=88) rfl ?_);refine goesL_ (some 54) rfl rfl Try.func88 (by kernel_rfl) rfl #[.int .i64 t292] rfl (by (try simp only [List.map_toArray,List.map_cons,List.map_nil]);first | done | rfl | (simp only [List.length_drop,List.length_take];rfl)) ?_;(with_reducible refine (impl_RootOf.calls k t292 t293 _ A23.out).mono ?_);rintro e w' ⟨rfl,⟨nd,rfl⟩⟩;refine ⟨_,rfl,?_⟩))
   go_ret
   exact ⟨by first | rfl | (simp [errW_none,errW_some] <;> rfl) | (simp [*,errW_none,errW_some] <;> rfl),by repeat (first | (with_reducible first | exact HB.out | apply below_alloc | apply pw_below_drewN | apply below_drew1 | refine below_set ?_ GE286.out | refine below_set ?_ GE287.out | refine below_set ?_ GE288.out) | exact HB.out)⟩
  ·rw [if_neg c21] at H
   have c21b0 : decide (t289 ≤ (wrap64 ((wrap64 ((wrap64 (a2_0 - a0_0)) * (wrap64 (a1_0 - a0_0)))) + (wrap64 ((wrap64 (a2_1 - a0_1)) * (wrap64 (a1_1 - a0_1))))))) = false:=decide_eq_false c21
   clear c21
   obtain ⟨ji37,hji37⟩ : ∃ j_ : Int,(mx (wrap64 ((wrap64 ((wrap64 (a1_0 - a0_0)) * (wrap64 (a2_1 - a0_1)))) - (wrap64 ((wrap64 (a1_1 - a0_1)) * (wrap64 (a2_0 - a0_0)))))) (wrap64 (-(wrap64 ((wrap64 ((wrap64 (a1_0 - a0_0)) * (wrap64 (a2_1 - a0_1)))) - (wrap64 ((wrap64 (a1_1 - a0_1)) * (wrap64 (a2_0 - a0_0))))))))) = j_:=⟨_,rfl⟩
   replace H : ((bits_Mul64.f (IntKind.u64.wrap (ji37)) (IntKind.u64.wrap (ji37))).bind fun bt294 => ((bits_Div64.f bt294.1 bt294.2 (IntKind.u64.wrap (t289))).bind fun bt296 => ((impl_RootOf.f k (wrap64 (bt296.1))).bind fun t298 => (some t298)))) = some r:=by first | (rw [hji37] at H;exact H) | (simp only [hji37] at H ⊢;exact H)
   (try rw [hji37] at A4)
   have hji37_ : (if (wrap64 ((wrap64 ((wrap64 (a1_0 - a0_0)) * (wrap64 (a2_1 - a0_1)))) - (wrap64 ((wrap64 (a1_1 - a0_1)) * (wrap64 (a2_0 - a0_0)))))) < (wrap64 (-(wrap64 ((wrap64 ((wrap64 (a1_0 - a0_0)) * (wrap64 (a2_1 - a0_1)))) - (wrap64 ((wrap64 (a1_1 - a0_1)) * (wrap64 (a2_0 - a0_0)))))))) then (wrap64 (-(wrap64 ((wrap64 ((wrap64 (a1_0 - a0_0)) * (wrap64 (a2_1 - a0_1)))) - (wrap64 ((wrap64 (a1_1 - a0_1)) * (wrap64 (a2_0 - a0_0)))))))) else (wrap64 ((wrap64 ((wrap64 (a1_0 - a0_0)) * (wrap64 (a2_1 - a0_1)))) - (wrap64 ((wrap64 (a1_1 - a0_1)) * (wrap64 (a2_0 - a0_0))))))) = ji37:=hji37
   replace H:=Option.bind_eq_some_iff.mp H
   obtain ⟨⟨t294,t295⟩,A390,H⟩:=H
   replace H : ((bits_Div64.f t294 t295 (IntKind.u64.wrap (t289))).bind fun bt296 => ((impl_RootOf.f k (wrap64 (bt296.1))).bind fun t298 => (some t298))) = some r:=H
   have A39:=Aside0.mk A390
   clear A390
   replace H:=Option.bind_eq_some_iff.mp H
   obtain ⟨⟨t296,t297⟩,A400,H⟩:=H
   replace H : ((impl_RootOf.f k (wrap64 (t296))).bind fun t298 => (some t298)) = some r:=H
   have A40:=Aside0.mk A400
   clear A400
   replace H:=Option.bind_eq_some_iff.mp H
   obtain ⟨t298,A410,H⟩:=H
   replace H : (some t298) = some r:=H
   have A41:=Aside0.mk A410
   clear A410
   obtain rfl:=Option.some.inj H
   go_enter Try.func109,Try.ntmps109
   go_wp2_with (first | ((with_reducible refine gate_dst (N:=3) rfl ?_);refine box_event ?hg (N:=3) ?hd (cs:=#[.int .i64 a0_0,.int .i64 a0_1]) (t:=30) ?hr ?_;(case hd => rfl);(case hg => rfl);(case hr => first | (go_simp;done) | (go_simp;rfl));intro gb286 hg w42 hbox hb;have n0_:=sb hb;have n1_:=Aside0.mk (hbox);have n2_:=zb hg;have n3_:=zb hg;clear HB;have HB:=n0_;have BK286:=n1_;have GW286:=n2_;have GE286:=n3_;clear n0_ n1_ n2_ n3_;clear hb hbox hg) | ((with_reducible refine gate_dst (N:=4) rfl ?_);refine box_event ?hg (N:=4) ?hd (cs:=#[.int .i64 a1_0,.int .i64 a1_1]) (t:=30) ?hr ?_;(case hd => rfl);(case hg => rfl);(case hr => first | (go_simp;done) | (go_simp;rfl));intro gb287 hg w43 hbox hb;have n0_:=kb BK286 hb;have n1_:=sb hb;have n2_:=Aside0.mk (hbox);have n3_:=zb hg;have n4_:=zb hg;have n5_:=nl BK286 hg;have n6_:=ng BK286 hg;clear BK286;clear HB;have BK286:=n0_;have HB:=n1_;have BK287:=n2_;have GW287:=n3_;have GE287:=n4_;have NB286_287:=n5_;have NB287_286:=n6_;clear n0_ n1_ n2_ n3_ n4_ n5_ n6_;clear hb hbox hg) | ((with_reducible refine gate_dst (N:=5) rfl ?_);refine box_event ?hg (N:=5) ?hd (cs:=#[.int .i64 a2_0,.int .i64 a2_1]) (t:=30) ?hr ?_;(case hd => rfl);(case hg => rfl);(case hr => first | (go_simp;done) | (go_simp;rfl));intro gb288 hg w44 hbox hb;have n0_:=kb BK286 hb;have n1_:=kb BK287 hb;have n2_:=sb hb;have n3_:=Aside0.mk (hbox);have n4_:=zb hg;have n5_:=zb hg;have n6_:=nl BK286 hg;have n7_:=ng BK286 hg;have n8_:=nl BK287 hg;have n9_:=ng BK287 hg;clear BK286;clear BK287;clear HB;have BK286:=n0_;have BK287:=n1_;have HB:=n2_;have BK288:=n3_;have GW288:=n4_;have GE288:=n5_;have NB286_288:=n6_;have NB288_286:=n7_;have NB287_288:=n8_;have NB288_287:=n9_;clear n0_ n1_ n2_ n3_ n4_ n5_ n6_ n7_ n8_ n9_;clear hb hbox hg;have hnb45:=NB288_286.out;have hnc45:=NB286_288.out;have hnb46:=NB288_287.out;have hnc46:=NB287_288.out;have hcz47_0:=ck BK288 0;have hcz47_1:=ck BK288 1;have hfz47_0:=blk_frozen BK288.out 0;have hfz47_1:=blk_frozen BK288.out 1;have hnb48:=NB286_287.out;have hnc48:=NB287_286.out;have hcz49_0:=ck BK286 0;have hcz49_1:=ck BK286 1;have hfz49_0:=blk_frozen BK286.out 0;have hfz49_1:=blk_frozen BK286.out 1;have hcz50_0:=ck BK287 0;have hcz50_1:=ck BK287 1;have hfz50_0:=blk_frozen BK287.out 0;have hfz50_1:=blk_frozen BK287.out 1) | ((with_reducible refine gate_callee (f:=73) rfl ?_);refine goesL_ (some 39) rfl rfl Try.func73 (by kernel_rfl) rfl #[.agg #[.int .i64 a0_0,.int .i64 a0_1],.agg #[.int .i64 a1_0,.int .i64 a1_1]] rfl (by (try simp only [List.map_toArray,List.map_cons,List.map_nil]);first | done | rfl | (simp only [List.length_drop,List.length_take];rfl)) ?_;(with_reducible refine (impl_squared.calls a0_0 a0_1 a1_0 a1_1 t289 _ A4.out).mono ?_);rintro e w51 ⟨rfl,hb⟩;refine ⟨_,rfl,?_⟩;have n0_:=kb BK286 hb;have n1_:=kb BK287 hb;have n2_:=kb BK288 hb;have n3_:=sb hb;clear BK286;clear BK287;clear BK288;clear HB;have BK286:=n0_;have BK287:=n1_;have BK288:=n2_;have HB:=n3_;clear n0_ n1_ n2_ n3_;(try clear hb);(try clear hb2);(try clear hk);(try clear hi);have hcz52_0:=ck BK287 0;have hcz52_1:=ck BK287 1;have hfz52_0:=blk_frozen BK287.out 0;have hfz52_1:=blk_frozen BK287.out 1;have hcz53_0:=ck BK286 0;have hcz53_1:=ck BK286 1;have hfz53_0:=blk_frozen BK286.out 0;have hfz53_1:=blk_frozen BK286.out 1;have hcz54_0:=ck BK288 0;have hcz54_1:=ck BK288 1;have hfz54_0:=blk_frozen BK288.out 0;have hfz54_1:=blk_frozen BK288.out 1) | ((with_reducible refine gate_callee (f:=110) rfl ?_);refine goesL_ (some 89) rfl rfl Try.func110 (by kernel_rfl) rfl #[.int .u64 (IntKind.u64.wrap (ji37)),.int .u64 (IntKind.u64.wrap (ji37))] rfl (by (try simp only [List.map_toArray,List.map_cons,List.map_nil]);first | done | (simp only [hji37];rfl) | rfl | (simp only [List.length_drop,List.length_take];rfl)) ?_;(with_reducible refine (bits_Mul64.calls (IntKind.u64.wrap (ji37)) (IntKind.u64.wrap (ji37)) t294 t295 _ A39.out).mono ?_);rintro e w' ⟨rfl,⟨nd,rfl⟩⟩;refine ⟨_,rfl,?_⟩) | ((with_reducible refine gate_callee (f:=111) rfl ?_);refine goesL_ (some 97) rfl rfl Try.func111 (by kernel_rfl) rfl #[.int .u64 t294,.int .u64 t295,.int .u64 (IntKind.u64.wrap (t289))] rfl (by (try simp only [List.map_toArray,List.map_cons,List.map_nil]);first | done | rfl | (simp only [List.length_drop,List.length_take];rfl)) ?_;(with_reducible refine (bits_Div64.calls t294 t295 (IntKind.u64.wrap (t289)) t296 t297 _ A40.out).mono ?_);rintro e w' ⟨rfl,⟨nd,rfl⟩⟩;refine ⟨_,rfl,?_⟩) | ((with_reducible refine gate_callee (f:=88) rfl ?_);refine goesL_ (some 102) rfl rfl Try.func88 (by kernel_rfl) rfl #[.int .i64 (wrap64 (t296))] rfl (by (try simp only [List.map_toArray,List.map_cons,List.map_nil]);first | done | rfl | (simp only [List.length_drop,List.length_take];rfl)) ?_;(with_reducible refine (impl_RootOf.calls k (wrap64 (t296)) t298 _ A41.out).mono ?_);rintro e w' ⟨rfl,⟨nd,rfl⟩⟩;refine ⟨_,rfl,?_⟩))
   go_ret
   exact ⟨by first | rfl | (simp [errW_none,errW_some] <;> rfl) | (simp only [← hji37];first | rfl | (simp [errW_none,errW_some] <;> rfl)) | (simp [*,errW_none,errW_some] <;> rfl),by repeat (first | (with_reducible first | exact HB.out | apply below_alloc | apply pw_below_drewN | apply below_drew1 | refine below_set ?_ GE286.out | refine below_set ?_ GE287.out | refine below_set ?_ GE288.out) | exact HB.out)⟩
def impl_betweenSegments.f (k : Nat) (a0_0 : Int) (a0_1 : Int) (a1_0 : Int) (a1_1 : Int) (a2_0 : Int) (a2_1 : Int) (a3_0 : Int) (a3_1 : Int) : Option (Int):=(impl_touching.f a0_0 a0_1 a1_0 a1_1 a2_0 a2_1 a3_0 a3_1).bind fun t303 => (if t303 = true then (some 0) else ((impl_toSegment.f k a0_0 a0_1 a1_0 a1_1 a2_0 a2_1).bind fun t304 => ((impl_toSegment.f k a0_0 a0_1 a1_0 a1_1 a3_0 a3_1).bind fun t305 => ((impl_toSegment.f k a2_0 a2_1 a3_0 a3_1 a0_0 a0_1).bind fun t306 => ((impl_toSegment.f k a2_0 a2_1 a3_0 a3_1 a1_0 a1_1).bind fun t307 => (some (mn (mn (mn t304 t305) t306) t307)))))))
theorem impl_betweenSegments.mono : ∀ a0 a1 a2 a3 a4 a5 a6 a7 k,LeO (impl_betweenSegments.f k a0 a1 a2 a3 a4 a5 a6 a7) (impl_betweenSegments.f (k + 1) a0 a1 a2 a3 a4 a5 a6 a7):=by
 intro a0 a1 a2 a3 a4 a5 a6 a7 k
 unfold impl_betweenSegments.f
 repeat' first
   | (with_reducible exact impl_toSegment.mono _ _ _ _ _ _ _)
   | (with_reducible exact LeO.refl _)
   | (with_reducible exact LeO.none _)
   | (with_reducible refine LeO.ite ?_ ?_)
   | (with_reducible refine LeO.bind ?_ (fun _ => ?_))
   | exact impl_toSegment.mono _ _ _ _ _ _ _
   | exact LeO.none _
   | refine LeO.ite ?_ ?_
   | refine LeO.bind ?_ (fun _ => ?_)
def impl_betweenSegments.T3 : Bool × List (List Nat × List Nat):=(true,[([],[]),([],[]),([],[]),([0,1,2],[0,1,2]),([],[]),([],[]),([],[]),([4,5,6,3],[4,5,6]),([],[]),([],[]),([],[]),([8,9,10,7],[8,9,10]),([],[]),([],[]),([],[]),([12,13,14,11],[12,13,14]),([3,7,11,15],[3,7,11,15]),([16,15,0,1,2,3,4,5,6,7,8,9,10,11,12,13,14,15,16],[16])])
def impl_betweenSegments.B3 : List Nat:=[0,0,0,7,0,0,0,127,0,0,0,2047,0,0,0,32767,65535,131071]
theorem impl_betweenSegments.tab3 : rtab .any (opsOf Try.f101 3) = impl_betweenSegments.T3:=by kernel_rfl
theorem impl_betweenSegments.bits3 : waitsOk impl_betweenSegments.T3.2 impl_betweenSegments.B3 = true:=by kernel_rfl
set_option maxHeartbeats 8000000 in
set_option maxRecDepth 100000 in
theorem impl_betweenSegments.calls (k : Nat) (a0_0 : Int) (a0_1 : Int) (a1_0 : Int) (a1_1 : Int) (a2_0 : Int) (a2_1 : Int) (a3_0 : Int) (a3_1 : Int) (r : Int) (w : World) (h : impl_betweenSegments.f k a0_0 a0_1 a1_0 a1_1 a2_0 a2_1 a3_0 a3_1 = some r) :
  Calls Try.prog 101 #[.agg #[.int .i64 a0_0,.int .i64 a0_1],.agg #[.int .i64 a1_0,.int .i64 a1_1],.agg #[.int .i64 a2_0,.int .i64 a2_1],.agg #[.int .i64 a3_0,.int .i64 a3_1]] w fun e w' => e = .returned (.int .i64 r) ∧ Below w.heap.size w w':=by
 have hu30:=Try.underlying30
 have HB:=Aside0.mk (Below.refl w.heap.size w)
 have H : ((impl_touching.f a0_0 a0_1 a1_0 a1_1 a2_0 a2_1 a3_0 a3_1).bind fun t303 => (if t303 = true then (some 0) else ((impl_toSegment.f k a0_0 a0_1 a1_0 a1_1 a2_0 a2_1).bind fun t304 => ((impl_toSegment.f k a0_0 a0_1 a1_0 a1_1 a3_0 a3_1).bind fun t305 => ((impl_toSegment.f k a2_0 a2_1 a3_0 a3_1 a0_0 a0_1).bind fun t306 => ((impl_toSegment.f k a2_0 a2_1 a3_0 a3_1 a1_0 a1_1).bind fun t307 => (some (mn (mn (mn t304 t305) t306) t307)))))))) = some r:=h
 clear h
 replace H:=Option.bind_eq_some_iff.mp H
 obtain ⟨t303,A50,H⟩:=H
 replace H : (if t303 = true then (some 0) else ((impl_toSegment.f k a0_0 a0_1 a1_0 a1_1 a2_0 a2_1).bind fun t304 => ((impl_toSegment.f k a0_0 a0_1 a1_0 a1_1 a3_0 a3_1).bind fun t305 => ((impl_toSegment.f k a2_0 a2_1 a3_0 a3_1 a0_0 a0_1).bind fun t306 => ((impl_toSegment.f k a2_0 a2_1 a3_0 a3_1 a1_0 a1_1).bind fun t307 => (some (mn (mn (mn t304 t305) t306) t307))))))) = some r:=H
 have A5:=Aside0.mk A50
 clear A50
 by_cases c6 : t303 = true
 ·subst c6
  have H1 : (some 0) = some r:=by rw [if_pos rfl] at H;exact H
  clear H
  have H:=H1
  clear H1
  obtain rfl:=Option.some.inj H
  go_enter Try.func101,Try.ntmps101
  go_wp2_with (first | ((with_reducible refine gate_dst (N:=4) rfl ?_);refine box_event ?hg (N:=4) ?hd (cs:=#[.int .i64 a0_0,.int .i64 a0_1]) (t:=30) ?hr ?_;(case hd => rfl);(case hg => rfl);(case hr => first | (go_simp;done) | (go_simp;rfl));intro gb299 hg w7 hbox hb;have n0_:=sb hb;have n1_:=Aside0.mk (hbox);have n2_:=zb hg;have n3_:=zb hg;clear HB;have HB:=n0_;have BK299:=n1_;have GW299:=n2_;have GE299:=n3_;clear n0_ n1_ n2_ n3_;clear hb hbox hg) | ((with_reducible refine gate_dst (N:=5) rfl ?_);refine box_event ?hg (N:=5) ?hd (cs:=#[.int .i64 a1_0,.int .i64 a1_1]) (t:=30) ?hr ?_;(case hd => rfl);(case hg => rfl);(case hr => first | (go_simp;done) | (go_simp;rfl));intro gb300 hg w8 hbox hb;have n0_:=kb BK299 hb;have n1_:=sb hb;have n2_:=Aside0.mk (hbox);have n3_:=zb hg;have n4_:=zb hg;have n5_:=nl BK299 hg;have n6_:=ng BK299 hg;clear BK299;clear HB;have BK299:=n0_;have HB:=n1_;have BK300:=n2_;have GW300:=n3_;have GE300:=n4_;have NB299_300:=n5_;have NB300_299:=n6_;clear n0_ n1_ n2_ n3_ n4_ n5_ n6_;clear hb hbox hg) | ((with_reducible refine gate_dst (N:=6) rfl ?_);refine box_event ?hg (N:=6) ?hd (cs:=#[.int .i64 a2_0,.int .i64 a2_1]) (t:=30) ?hr ?_;(case hd => rfl);(case hg => rfl);(case hr => first | (go_simp;done) | (go_simp;rfl));intro gb301 hg w9 hbox hb;have n0_:=kb BK299 hb;have n1_:=kb BK300 hb;have n2_:=sb hb;have n3_:=Aside0.mk (hbox);have n4_:=zb hg;have n5_:=zb hg;have n6_:=nl BK299 hg;have n7_:=ng BK299 hg;have n8_:=nl BK300 hg;have n9_:=ng BK300 hg;clear BK299;clear BK300;clear HB;have BK299:=n0_;have BK300:=n1_;have HB:=n2_;have BK301:=n3_;have GW301:=n4_;have GE301:=n5_;have NB299_301:=n6_;have NB301_299:=n7_;have NB300_301:=n8_;have NB301_300:=n9_;clear n0_ n1_ n2_ n3_ n4_ n5_ n6_ n7_ n8_ n9_;clear hb hbox hg) | ((with_reducible refine gate_dst (N:=7) rfl ?_);refine box_event ?hg (N:=7) ?hd (cs:=#[.int .i64 a3_0,.int .i64 a3_1]) (t:=30) ?hr ?_;(case hd => rfl);(case hg => rfl);(case hr => first | (go_simp;done) | (go_simp;rfl));intro gb302 hg w10 hbox hb;have n0_:=kb BK299 hb;have n1_:=kb BK300 hb;have n2_:=kb BK301 hb;have n3_:=sb hb;have n4_:=Aside0.mk (hbox);have n5_:=zb hg;have n6_:=zb hg;have n7_:=nl BK299 hg;have n8_:=ng BK299 hg;have n9_:=nl BK300 hg;have n10_:=ng BK300 hg;have n11_:=nl BK301 hg;have n12_:=ng BK301 hg;clear BK299;clear BK300;clear BK301;clear HB;have BK299:=n0_;have BK300:=n1_;have BK301:=n2_;have HB:=n3_;have BK302:=n4_;have GW302:=n5_;have GE302:=n6_;have NB299_302:=n7_;have NB302_299:=n8_;have NB300_302:=n9_;have NB302_300:=n10_;have NB301_302:=n11_;have NB302_301:=n12_;clear n0_ n1_ n2_ n3_ n4_ n5_ n6_ n7_ n8_ n9_ n10_ n11_ n12_;clear hb hbox hg;have hnb11:=NB299_300.out;have hnc11:=NB300_299.out;have hnb12:=NB299_301.out;have hnc12:=NB301_299.out;have hnb13:=NB299_302.out;have hnc13:=NB302_299.out;have hcz14_0:=ck BK299 0;have hcz14_1:=ck BK299 1;have hfz14_0:=blk_frozen BK299.out 0;have hfz14_1:=blk_frozen BK299.out 1;have hnb15:=NB300_301.out;have hnc15:=NB301_300.out;have hnb16:=NB300_302.out;have hnc16:=NB302_300.out;have hcz17_0:=ck BK300 0;have hcz17_1:=ck BK300 1;have hfz17_0:=blk_frozen BK300.out 0;have hfz17_1:=blk_frozen BK300.out 1;have hnb18:=NB301_302.out;have hnc18:=NB302_301.out;have hcz19_0:=ck BK301 0;have hcz19_1:=ck BK301 1;have hfz19_0:=blk_frozen BK301.out 0;have hfz19_1:=blk_frozen BK301.out 1;have hcz20_0:=ck BK302 0;have hcz20_1:=ck BK302 1;have hfz20_0:=blk_frozen BK302.out 0;have hfz20_1:=blk_frozen BK302.out 1) | ((with_reducible refine gate_callee (f:=86) rfl ?_);refine goesL_ (some 13) rfl rfl Try.func86 (by kernel_rfl) rfl #[.agg #[.int .i64 a0_0,.int .i64 a0_1],.agg #[.int .i64 a1_0,.int .i64 a1_1],.agg #[.int .i64 a2_0,.int .i64 a2_1],.agg #[.int .i64 a3_0,.int .i64 a3_1]] rfl (by (try simp only [List.map_toArray,List.map_cons,List.map_nil]);first | done | rfl | (simp only [List.length_drop,List.length_take];rfl)) ?_;(with_reducible refine (impl_touching.calls a0_0 a0_1 a1_0 a1_1 a2_0 a2_1 a3_0 a3_1 true _ A5.out).mono ?_);rintro e w21 ⟨rfl,hb⟩;refine ⟨_,rfl,?_⟩;have n0_:=kb BK299 hb;have n1_:=kb BK300 hb;have n2_:=kb BK301 hb;have n3_:=kb BK302 hb;have n4_:=sb hb;clear BK299;clear BK300;clear BK301;clear BK302;clear HB;have BK299:=n0_;have BK300:=n1_;have BK301:=n2_;have BK302:=n3_;have HB:=n4_;clear n0_ n1_ n2_ n3_ n4_;(try clear hb);(try clear hb2);(try clear hk);(try clear hi)))
  go_ret
  exact ⟨by first | rfl | (simp [errW_none,errW_some] <;> rfl) | (simp [*,errW_none,errW_some] <;> rfl),by repeat (first | (with_reducible first | exact HB.out | apply below_alloc | apply pw_below_drewN | apply below_drew1 | refine below_set ?_ GE299.out | refine below_set ?_ GE300.out | refine below_set ?_ GE301.out | refine below_set ?_ GE302.out) | exact HB.out)⟩
 ·replace c6:=Bool.eq_false_iff.mpr c6
  subst c6
  have H1 : ((impl_toSegment.f k a0_0 a0_1 a1_0 a1_1 a2_0 a2_1).bind fun t304 => ((impl_toSegment.f k a0_0 a0_1 a1_0 a1_1 a3_0 a3_1).bind fun t305 => ((impl_toSegment.f k a2_0 a2_1 a3_0 a3_1 a0_0 a0_1).bind fun t306 => ((impl_toSegment.f k a2_0 a2_1 a3_0 a3_1 a1_0 a1_1).bind fun t307 => (some (mn (mn (mn t304 t305) t306) t307)))))) = some r:=by rw [if_neg (show ¬ (false = true) by decide)] at H;exact H
  clear H
  have H:=H1
  clear H1
  replace H:=Option.bind_eq_some_iff.mp H
  obtain ⟨t304,A220,H⟩:=H
  replace H : ((impl_toSegment.f k a0_0 a0_1 a1_0 a1_1 a3_0 a3_1).bind fun t305 => ((impl_toSegment.f k a2_0 a2_1 a3_0 a3_1 a0_0 a0_1).bind fun t306 => ((impl_toSegment.f k a2_0 a2_1 a3_0 a3_1 a1_0 a1_1).bind fun t307 => (some (mn (mn (mn t304 t305) t306) t307))))) = some r:=H
  have A22:=Aside0.mk A220
  clear A220
  replace H:=Option.bind_eq_some_iff.mp H
  obtain ⟨t305,A230,H⟩:=H
  replace H : ((impl_toSegment.f k a2_0 a2_1 a3_0 a3_1 a0_0 a0_1).bind fun t306 => ((impl_toSegment.f k a2_0 a2_1 a3_0 a3_1 a1_0 a1_1).bind fun t307 => (some (mn (mn (mn t304 t305) t306) t307)))) = some r:=H
  have A23:=Aside0.mk A230
  clear A230
  replace H:=Option.bind_eq_some_iff.mp H
  obtain ⟨t306,A240,H⟩:=H
  replace H : ((impl_toSegment.f k a2_0 a2_1 a3_0 a3_1 a1_0 a1_1).bind fun t307 => (some (mn (mn (mn t304 t305) t306) t307))) = some r:=H
  have A24:=Aside0.mk A240
  clear A240
  replace H:=Option.bind_eq_some_iff.mp H
  obtain ⟨t307,A250,H⟩:=H
  replace H : (some (mn (mn (mn t304 t305) t306) t307)) = some r:=H
  have A25:=Aside0.mk A250
  clear A250
  obtain ⟨ji26,hji26⟩ : ∃ j_ : Int,(mn t304 t305) = j_:=⟨_,rfl⟩
  replace H : (some (mn (mn (ji26) t306) t307)) = some r:=by first | (rw [hji26] at H;exact H) | (simp only [hji26] at H ⊢;exact H)
  (try rw [hji26] at A5)
  (try rw [hji26] at A22)
  (try rw [hji26] at A23)
  (try rw [hji26] at A24)
  (try rw [hji26] at A25)
  have hji26_ : (if t305 < t304 then t305 else t304) = ji26:=hji26
  obtain ⟨ji27,hji27⟩ : ∃ j_ : Int,(mn (ji26) t306) = j_:=⟨_,rfl⟩
  replace H : (some (mn (ji27) t307)) = some r:=by first | (rw [hji27] at H;exact H) | (simp only [hji27] at H ⊢;exact H)
  (try rw [hji27] at A5)
  (try rw [hji27] at A22)
  (try rw [hji27] at A23)
  (try rw [hji27] at A24)
  (try rw [hji27] at A25)
  have hji27_ : (if t306 < (ji26) then t306 else (ji26)) = ji27:=hji27
  obtain ⟨ji28,hji28⟩ : ∃ j_ : Int,(mn (ji27) t307) = j_:=⟨_,rfl⟩
  replace H : (some ji28) = some r:=by first | (rw [hji28] at H;exact H) | (simp only [hji28] at H ⊢;exact H)
  (try rw [hji28] at A5)
  (try rw [hji28] at A22)
  (try rw [hji28] at A23)
  (try rw [hji28] at A24)
  (try rw [hji28] at A25)
  have hji28_ : (if t307 < (ji27) then t307 else (ji27)) = ji28:=hji28
  obtain rfl:=Option.some.inj H
  go_enter Try.func101,Try.ntmps101
  try go_wp2_with (first | ((with_reducible refine gate_dst (N:=4) rfl ?_);refine box_event ?hg (N:=4) ?hd (cs:=#[.int .i64 a0_0,.int .i64 a0_1]) (t:=30) ?hr ?_;(case hd => rfl);(case hg => rfl);(case hr => first | (go_simp;done) | (go_simp;rfl));intro gb299 hg w29 hbox hb;have n0_:=sb hb;have n1_:=Aside0.mk (hbox);have n2_:=zb hg;have n3_:=zb hg;clear HB;have HB:=n0_;have BK299:=n1_;have GW299:=n2_;have GE299:=n3_;clear n0_ n1_ n2_ n3_;clear hb hbox hg) | ((with_reducible refine gate_dst (N:=5) rfl ?_);refine box_event ?hg (N:=5) ?hd (cs:=#[.int .i64 a1_0,.int .i64 a1_1]) (t:=30) ?hr ?_;(case hd => rfl);(case hg => rfl);(case hr => first | (go_simp;done) | (go_simp;rfl));intro gb300 hg w30 hbox hb;have n0_:=kb BK299 hb;have n1_:=sb hb;have n2_:=Aside0.mk (hbox);have n3_:=zb hg;have n4_:=zb hg;have n5_:=nl BK299 hg;have n6_:=ng BK299 hg;clear BK299;clear HB;have BK299:=n0_;have HB:=n1_;have BK300:=n2_;have GW300:=n3_;have GE300:=n4_;have NB299_300:=n5_;have NB300_299:=n6_;clear n0_ n1_ n2_ n3_ n4_ n5_ n6_;clear hb hbox hg) | ((with_reducible refine gate_dst (N:=6) rfl ?_);refine box_event ?hg (N:=6) ?hd (cs:=#[.int .i64 a2_0,.int .i64 a2_1]) (t:=30) ?hr ?_;(case hd => rfl);(case hg => rfl);(case hr => first | (go_simp;done) | (go_simp;rfl));intro gb301 hg w31 hbox hb;have n0_:=kb BK299 hb;have n1_:=kb BK300 hb;have n2_:=sb hb;have n3_:=Aside0.mk (hbox);have n4_:=zb hg;have n5_:=zb hg;have n6_:=nl BK299 hg;have n7_:=ng BK299 hg;have n8_:=nl BK300 hg;have n9_:=ng BK300 hg;clear BK299;clear BK300;clear HB;have BK299:=n0_;have BK300:=n1_;have HB:=n2_;have BK301:=n3_;have GW301:=n4_;have GE301:=n5_;have NB299_301:=n6_;have NB301_299:=n7_;have NB300_301:=n8_;have NB301_300:=n9_;clear n0_ n1_ n2_ n3_ n4_ n5_ n6_ n7_ n8_ n9_;clear hb hbox hg) | ((with_reducible refine gate_dst (N:=7) rfl ?_);refine box_event ?hg (N:=7) ?hd (cs:=#[.int .i64 a3_0,.int .i64 a3_1]) (t:=30) ?hr ?_;(case hd => rfl);(case hg => rfl);(case hr => first | (go_simp;done) | (go_simp;rfl));intro gb302 hg w32 hbox hb;have n0_:=kb BK299 hb;have n1_:=kb BK300 hb;have n2_:=kb BK301 hb;have n3_:=sb hb;have n4_:=Aside0.mk (hbox);have n5_:=zb hg;have n6_:=zb hg;have n7_:=nl BK299 hg;have n8_:=ng BK299 hg;have n9_:=nl BK300 hg;have n10_:=ng BK300 hg;have n11_:=nl BK301 hg;have n12_:=ng BK301 hg;clear BK299;clear BK300;clear BK301;clear HB;have BK299:=n0_;have BK300:=n1_;have BK301:=n2_;have HB:=n3_;have BK302:=n4_;have GW302:=n5_;have GE302:=n6_;have NB299_302:=n7_;have NB302_299:=n8_;have NB300_302:=n9_;have NB302_300:=n10_;have NB301_302:=n11_;have NB302_301:=n12_;clear n0_ n1_ n2_ n3_ n4_ n5_ n6_ n7_ n8_ n9_ n10_ n11_ n12_;clear hb hbox hg;have hnb33:=NB299_300.out;have hnc33:=NB300_299.out;have hnb34:=NB299_301.out;have hnc34:=NB301_299.out;have hnb35:=NB299_302.out;have hnc35:=NB302_299.out;have hcz36_0:=ck BK299 0;have hcz36_1:=ck BK299 1;have hfz36_0:=blk_frozen BK299.out 0;have hfz36_1:=blk_frozen BK299.out 1;have hnb37:=NB300_301.out;have hnc37:=NB301_300.out;have hnb38:=NB300_302.out;have hnc38:=NB302_300.out;have hcz39_0:=ck BK300 0;have hcz39_1:=ck BK300 1;have hfz39_0:=blk_frozen BK300.out 0;have hfz39_1:=blk_frozen BK300.out 1;have hnb40:=NB301_302.out;have hnc40:=NB302_301.out;have hcz41_0:=ck BK301 0;have hcz41_1:=ck BK301 1;have hfz41_0:=blk_frozen BK301.out 0;have hfz41_1:=blk_frozen BK301.out 1;have hcz42_0:=ck BK302 0;have hcz42_1:=ck BK302 1;have hfz42_0:=blk_frozen BK302.out 0;have hfz42_1:=blk_frozen BK302.out 1) | ((with_reducible refine gate_callee (f:=86) rfl ?_);refine goesL_ (some 13) rfl rfl Try.func86 (by kernel_rfl) rfl #[.agg #[.int .i64 a0_0,.int .i64 a0_1],.agg #[.int .i64 a1_0,.int .i64 a1_1],.agg #[.int .i64 a2_0,.int .i64 a2_1],.agg #[.int .i64 a3_0,.int .i64 a3_1]] rfl (by (try simp only [List.map_toArray,List.map_cons,List.map_nil]);first | done | rfl | (simp only [List.length_drop,List.length_take];rfl)) ?_;(with_reducible refine (impl_touching.calls a0_0 a0_1 a1_0 a1_1 a2_0 a2_1 a3_0 a3_1 false _ A5.out).mono ?_);rintro e w43 ⟨rfl,hb⟩;refine ⟨_,rfl,?_⟩;have n0_:=kb BK299 hb;have n1_:=kb BK300 hb;have n2_:=kb BK301 hb;have n3_:=kb BK302 hb;have n4_:=sb hb;clear BK299;clear BK300;clear BK301;clear BK302;clear HB;have BK299:=n0_;have BK300:=n1_;have BK301:=n2_;have BK302:=n3_;have HB:=n4_;clear n0_ n1_ n2_ n3_ n4_;(try clear hb);(try clear hb2);(try clear hk);(try clear hi)))
  have n0_:=Aside0.mk (blk_drew BK299.out)
  have n1_:=Aside0.mk (blk_drew BK300.out)
  have n2_:=Aside0.mk (blk_drew BK301.out)
  have n3_:=Aside0.mk (blk_drew BK302.out)
  have n4_:=Aside0.mk (below_drew1 HB.out)
  clear BK299
  clear BK300
  clear BK301
  clear BK302
  clear HB
  have BK299:=n0_
  have BK300:=n1_
  have BK301:=n2_
  have BK302:=n3_
  have HB:=n4_
  clear n0_ n1_ n2_ n3_ n4_
  refine start_ (n:=18) (S:=fun w' => w'.cell? ⟨gb299,0,none⟩ = some (.int .i64 a0_0) ∧ w'.cell? ⟨gb299,1,none⟩ = some (.int .i64 a0_1) ∧ w'.cell? ⟨gb300,0,none⟩ = some (.int .i64 a1_0) ∧ w'.cell? ⟨gb300,1,none⟩ = some (.int .i64 a1_1) ∧ w'.cell? ⟨gb301,0,none⟩ = some (.int .i64 a2_0) ∧ w'.cell? ⟨gb301,1,none⟩ = some (.int .i64 a2_1) ∧ w'.cell? ⟨gb302,0,none⟩ = some (.int .i64 a3_0) ∧ w'.cell? ⟨gb302,1,none⟩ = some (.int .i64 a3_1)) (ds:=[]) #[fF,fF,fF,fF,fF,fF,fF,fF,fF,fF,fF,fF,fF,fF,fF,fF,fF,fF] (by kernel_rfl) rfl rfl ⟨(blk_cell BK299.out 0).trans rfl,(blk_cell BK299.out 1).trans rfl,(blk_cell BK300.out 0).trans rfl,(blk_cell BK300.out 1).trans rfl,(blk_cell BK301.out 0).trans rfl,(blk_cell BK301.out 1).trans rfl,(blk_cell BK302.out 0).trans rfl,(blk_cell BK302.out 1).trans rfl⟩ (fun hHeld => ?_);refine with_tabW impl_betweenSegments.tab3 impl_betweenSegments.bits3 (fun HT_ HW_ => ?_)
  generalize w43.drew = w44 at BK299 BK300 BK301 BK302 HB hHeld ⊢
  refine take_ (i:=0) (N:=some 14) (v:=?_) (a':=?_) #[tT,fF,fF,fF,fF,fF,fF,fF,fF,fF,fF,fF,fF,fF,fF,fF,fF,fF] rfl rfl (take_ofW HT_.out HW_.out (by kernel_rfl)) (fun _ _ _ h => h) (Or.inl ⟨by rfl,?_⟩) hHeld ?_ ?_
  rotate_left
  ·rintro w' ⟨s0,s1,s2,s3,s4,s5,s6,s7⟩
   go_simp
   with_reducible rfl
  rotate_left
  ·exact pa
  refine take_ (i:=1) (N:=some 15) (v:=?_) (a':=?_) #[tT,tT,fF,fF,fF,fF,fF,fF,fF,fF,fF,fF,fF,fF,fF,fF,fF,fF] rfl rfl (take_ofW HT_.out HW_.out (by kernel_rfl)) (fun _ _ _ h => h) (Or.inl ⟨by rfl,?_⟩) hHeld ?_ ?_
  rotate_left
  ·rintro w' ⟨s0,s1,s2,s3,s4,s5,s6,s7⟩
   go_simp
   with_reducible rfl
  rotate_left
  ·exact pa
  refine take_ (i:=2) (N:=some 16) (v:=?_) (a':=?_) #[tT,tT,tT,fF,fF,fF,fF,fF,fF,fF,fF,fF,fF,fF,fF,fF,fF,fF] rfl rfl (take_ofW HT_.out HW_.out (by kernel_rfl)) (fun _ _ _ h => h) (Or.inl ⟨by rfl,?_⟩) hHeld ?_ ?_
  rotate_left
  ·rintro w' ⟨s0,s1,s2,s3,s4,s5,s6,s7⟩
   go_simp
   with_reducible rfl
  rotate_left
  ·exact pa
  refine take_ (i:=4) (N:=some 18) (v:=?_) (a':=?_) #[tT,tT,tT,fF,tT,fF,fF,fF,fF,fF,fF,fF,fF,fF,fF,fF,fF,fF] rfl rfl (take_ofW HT_.out HW_.out (by kernel_rfl)) (fun _ _ _ h => h) (Or.inl ⟨by rfl,?_⟩) hHeld ?_ ?_
  rotate_left
  ·rintro w' ⟨s0,s1,s2,s3,s4,s5,s6,s7⟩
   go_simp
   with_reducible rfl
  rotate_left
  ·exact pa
  refine take_ (i:=5) (N:=some 19) (v:=?_) (a':=?_) #[tT,tT,tT,fF,tT,tT,fF,fF,fF,fF,fF,fF,fF,fF,fF,fF,fF,fF] rfl rfl (take_ofW HT_.out HW_.out (by kernel_rfl)) (fun _ _ _ h => h) (Or.inl ⟨by rfl,?_⟩) hHeld ?_ ?_
  rotate_left
  ·rintro w' ⟨s0,s1,s2,s3,s4,s5,s6,s7⟩
   go_simp
   with_reducible rfl
  rotate_left
  ·exact pa
  refine take_ (i:=6) (N:=some 20) (v:=?_) (a':=?_) #[tT,tT,tT,fF,tT,tT,tT,fF,fF,fF,fF,fF,fF,fF,fF,fF,fF,fF] rfl rfl (take_ofW HT_.out HW_.out (by kernel_rfl)) (fun _ _ _ h => h) (Or.inl ⟨by rfl,?_⟩) hHeld ?_ ?_
  rotate_left
  ·rintro w' ⟨s0,s1,s2,s3,s4,s5,s6,s7⟩
   go_simp
   with_reducible rfl
  rotate_left
  ·exact pa
  refine take_ (i:=8) (N:=some 22) (v:=?_) (a':=?_) #[tT,tT,tT,fF,tT,tT,tT,fF,tT,fF,fF,fF,fF,fF,fF,fF,fF,fF] rfl rfl (take_ofW HT_.out HW_.out (by kernel_rfl)) (fun _ _ _ h => h) (Or.inl ⟨by rfl,?_⟩) hHeld ?_ ?_
  rotate_left
  ·rintro w' ⟨s0,s1,s2,s3,s4,s5,s6,s7⟩
   go_simp
   with_reducible rfl
  rotate_left
  ·exact pa
  refine take_ (i:=9) (N:=some 23) (v:=?_) (a':=?_) #[tT,tT,tT,fF,tT,tT,tT,fF,tT,tT,fF,fF,fF,fF,fF,fF,fF,fF] rfl rfl (take_ofW HT_.out HW_.out (by kernel_rfl)) (fun _ _ _ h => h) (Or.inl ⟨by rfl,?_⟩) hHeld ?_ ?_
  rotate_left
  ·rintro w' ⟨s0,s1,s2,s3,s4,s5,s6,s7⟩
   go_simp
   with_reducible rfl
  rotate_left
  ·exact pa
  refine take_ (i:=10) (N:=some 24) (v:=?_) (a':=?_) #[tT,tT,tT,fF,tT,tT,tT,fF,tT,tT,tT,fF,fF,fF,fF,fF,fF,fF] rfl rfl (take_ofW HT_.out HW_.out (by kernel_rfl)) (fun _ _ _ h => h) (Or.inl ⟨by rfl,?_⟩) hHeld ?_ ?_
  rotate_left
  ·rintro w' ⟨s0,s1,s2,s3,s4,s5,s6,s7⟩
   go_simp
   with_reducible rfl
  rotate_left
  ·exact pa
  refine take_ (i:=12) (N:=some 26) (v:=?_) (a':=?_) #[tT,tT,tT,fF,tT,tT,tT,fF,tT,tT,tT,fF,tT,fF,fF,fF,fF,fF] rfl rfl (take_ofW HT_.out HW_.out (by kernel_rfl)) (fun _ _ _ h => h) (Or.inl ⟨by rfl,?_⟩) hHeld ?_ ?_
  rotate_left
  ·rintro w' ⟨s0,s1,s2,s3,s4,s5,s6,s7⟩
   go_simp
   with_reducible rfl
  rotate_left
  ·exact pa
  refine take_ (i:=13) (N:=some 27) (v:=?_) (a':=?_) #[tT,tT,tT,fF,tT,tT,tT,fF,tT,tT,tT,fF,tT,tT,fF,fF,fF,fF] rfl rfl (take_ofW HT_.out HW_.out (by kernel_rfl)) (fun _ _ _ h => h) (Or.inl ⟨by rfl,?_⟩) hHeld ?_ ?_
  rotate_left
  ·rintro w' ⟨s0,s1,s2,s3,s4,s5,s6,s7⟩
   go_simp
   with_reducible rfl
  rotate_left
  ·exact pa
  refine take_ (i:=14) (N:=some 28) (v:=?_) (a':=?_) #[tT,tT,tT,fF,tT,tT,tT,fF,tT,tT,tT,fF,tT,tT,tT,fF,fF,fF] rfl rfl (take_ofW HT_.out HW_.out (by kernel_rfl)) (fun _ _ _ h => h) (Or.inl ⟨by rfl,?_⟩) hHeld ?_ ?_
  rotate_left
  ·rintro w' ⟨s0,s1,s2,s3,s4,s5,s6,s7⟩
   go_simp
   with_reducible rfl
  rotate_left
  ·exact pa
  refine one_ (i:=3) (N:=some 17) #[tT,tT,tT,tT,tT,tT,tT,fF,tT,tT,tT,fF,tT,tT,tT,fF,fF,fF] rfl rfl (one_of HT_.out (by kernel_rfl)) (by decide) (fun K hK => ?_)
  refine goes_ Try.func109 (by kernel_rfl) rfl #[.agg #[.int .i64 a0_0,.int .i64 a0_1],.agg #[.int .i64 a1_0,.int .i64 a1_1],.agg #[.int .i64 a2_0,.int .i64 a2_1]] (by rfl) rfl rfl (by (try simp only [List.map_toArray,List.map_cons,List.map_nil]);first | done | rfl | (simp only [List.length_drop,List.length_take];rfl)) ?_
  with_reducible refine (impl_toSegment.calls k a0_0 a0_1 a1_0 a1_1 a2_0 a2_1 t304 _ A22.out).mono ?_
  rintro e w45 ⟨rfl,hb⟩
  refine ⟨_,rfl,?_⟩
  have n0_:=kb BK299 hb
  have n1_:=kb BK300 hb
  have n2_:=kb BK301 hb
  have n3_:=kb BK302 hb
  have n4_:=sb hb
  clear BK299
  clear BK300
  clear BK301
  clear BK302
  clear HB
  have BK299:=n0_
  have BK300:=n1_
  have BK301:=n2_
  have BK302:=n3_
  have HB:=n4_
  clear n0_ n1_ n2_ n3_ n4_
  (try clear hb)
  (try clear hb2)
  (try clear hk)
  (try clear hi)
  refine hK.out _ _ ⟨(blk_cell BK299.out 0).trans rfl,(blk_cell BK299.out 1).trans rfl,(blk_cell BK300.out 0).trans rfl,(blk_cell BK300.out 1).trans rfl,(blk_cell BK301.out 0).trans rfl,(blk_cell BK301.out 1).trans rfl,(blk_cell BK302.out 0).trans rfl,(blk_cell BK302.out 1).trans rfl⟩ (fun hHeld => ?_)
  clear hK K
  refine norm_ (a':=?_) ?_ ?_
  rotate_left
  ·show Act.put _ (some 17) _ = _
   simp only [Act.put,List.setIfInBounds_toArray,List.set_cons_zero,List.set_cons_succ,i64_w,i32_w]
   rfl
  refine one_ (i:=7) (N:=some 21) #[tT,tT,tT,tT,tT,tT,tT,tT,tT,tT,tT,fF,tT,tT,tT,fF,fF,fF] rfl rfl (one_of HT_.out (by kernel_rfl)) (by decide) (fun K hK => ?_)
  refine goes_ Try.func109 (by kernel_rfl) rfl #[.agg #[.int .i64 a0_0,.int .i64 a0_1],.agg #[.int .i64 a1_0,.int .i64 a1_1],.agg #[.int .i64 a3_0,.int .i64 a3_1]] (by rfl) rfl rfl (by (try simp only [List.map_toArray,List.map_cons,List.map_nil]);first | done | rfl | (simp only [List.length_drop,List.length_take];rfl)) ?_
  with_reducible refine (impl_toSegment.calls k a0_0 a0_1 a1_0 a1_1 a3_0 a3_1 t305 _ A23.out).mono ?_
  rintro e w46 ⟨rfl,hb⟩
  refine ⟨_,rfl,?_⟩
  have n0_:=kb BK299 hb
  have n1_:=kb BK300 hb
  have n2_:=kb BK301 hb
  have n3_:=kb BK302 hb
  have n4_:=sb hb
  clear BK299
  clear BK300
  clear BK301
  clear BK302
  clear HB
  have BK299:=n0_
  have BK300:=n1_
  have BK301:=n2_
  have BK302:=n3_
  have HB:=n4_
  clear n0_ n1_ n2_ n3_ n4_
  (try clear hb)
  (try clear hb2)
  (try clear hk)
  (try clear hi)
  refine hK.out _ _ ⟨(blk_cell BK299.out 0).trans rfl,(blk_cell BK299.out 1).trans rfl,(blk_cell BK300.out 0).trans rfl,(blk_cell BK300.out 1).trans rfl,(blk_cell BK301.out 0).trans rfl,(blk_cell BK301.out 1).trans rfl,(blk_cell BK302.out 0).trans rfl,(blk_cell BK302.out 1).trans rfl⟩ (fun hHeld => ?_)
  clear hK K
  refine norm_ (a':=?_) ?_ ?_
  rotate_left
  ·show Act.put _ (some 21) _ = _
   simp only [Act.put,List.setIfInBounds_toArray,List.set_cons_zero,List.set_cons_succ,i64_w,i32_w]
   rfl
  refine one_ (i:=11) (N:=some 25) #[tT,tT,tT,tT,tT,tT,tT,tT,tT,tT,tT,tT,tT,tT,tT,fF,fF,fF] rfl rfl (one_of HT_.out (by kernel_rfl)) (by decide) (fun K hK => ?_)
  refine goes_ Try.func109 (by kernel_rfl) rfl #[.agg #[.int .i64 a2_0,.int .i64 a2_1],.agg #[.int .i64 a3_0,.int .i64 a3_1],.agg #[.int .i64 a0_0,.int .i64 a0_1]] (by rfl) rfl rfl (by (try simp only [List.map_toArray,List.map_cons,List.map_nil]);first | done | rfl | (simp only [List.length_drop,List.length_take];rfl)) ?_
  with_reducible refine (impl_toSegment.calls k a2_0 a2_1 a3_0 a3_1 a0_0 a0_1 t306 _ A24.out).mono ?_
  rintro e w47 ⟨rfl,hb⟩
  refine ⟨_,rfl,?_⟩
  have n0_:=kb BK299 hb
  have n1_:=kb BK300 hb
  have n2_:=kb BK301 hb
  have n3_:=kb BK302 hb
  have n4_:=sb hb
  clear BK299
  clear BK300
  clear BK301
  clear BK302
  clear HB
  have BK299:=n0_
  have BK300:=n1_
  have BK301:=n2_
  have BK302:=n3_
  have HB:=n4_
  clear n0_ n1_ n2_ n3_ n4_
  (try clear hb)
  (try clear hb2)
  (try clear hk)
  (try clear hi)
  refine hK.out _ _ ⟨(blk_cell BK299.out 0).trans rfl,(blk_cell BK299.out 1).trans rfl,(blk_cell BK300.out 0).trans rfl,(blk_cell BK300.out 1).trans rfl,(blk_cell BK301.out 0).trans rfl,(blk_cell BK301.out 1).trans rfl,(blk_cell BK302.out 0).trans rfl,(blk_cell BK302.out 1).trans rfl⟩ (fun hHeld => ?_)
  clear hK K
  refine norm_ (a':=?_) ?_ ?_
  rotate_left
  ·show Act.put _ (some 25) _ = _
   simp only [Act.put,List.setIfInBounds_toArray,List.set_cons_zero,List.set_cons_succ,i64_w,i32_w]
   rfl
  refine one_ (i:=15) (N:=some 29) #[tT,tT,tT,tT,tT,tT,tT,tT,tT,tT,tT,tT,tT,tT,tT,tT,fF,fF] rfl rfl (one_of HT_.out (by kernel_rfl)) (by decide) (fun K hK => ?_)
  refine goes_ Try.func109 (by kernel_rfl) rfl #[.agg #[.int .i64 a2_0,.int .i64 a2_1],.agg #[.int .i64 a3_0,.int .i64 a3_1],.agg #[.int .i64 a1_0,.int .i64 a1_1]] (by rfl) rfl rfl (by (try simp only [List.map_toArray,List.map_cons,List.map_nil]);first | done | rfl | (simp only [List.length_drop,List.length_take];rfl)) ?_
  with_reducible refine (impl_toSegment.calls k a2_0 a2_1 a3_0 a3_1 a1_0 a1_1 t307 _ A25.out).mono ?_
  rintro e w48 ⟨rfl,hb⟩
  refine ⟨_,rfl,?_⟩
  have n0_:=kb BK299 hb
  have n1_:=kb BK300 hb
  have n2_:=kb BK301 hb
  have n3_:=kb BK302 hb
  have n4_:=sb hb
  clear BK299
  clear BK300
  clear BK301
  clear BK302
  clear HB
  have BK299:=n0_
  have BK300:=n1_
  have BK301:=n2_
  have BK302:=n3_
  have HB:=n4_
  clear n0_ n1_ n2_ n3_ n4_
  (try clear hb)
  (try clear hb2)
  (try clear hk)
  (try clear hi)
  refine hK.out _ _ ⟨(blk_cell BK299.out 0).trans rfl,(blk_cell BK299.out 1).trans rfl,(blk_cell BK300.out 0).trans rfl,(blk_cell BK300.out 1).trans rfl,(blk_cell BK301.out 0).trans rfl,(blk_cell BK301.out 1).trans rfl,(blk_cell BK302.out 0).trans rfl,(blk_cell BK302.out 1).trans rfl⟩ (fun hHeld => ?_)
  clear hK K
  refine norm_ (a':=?_) ?_ ?_
  rotate_left
  ·show Act.put _ (some 29) _ = _
   simp only [Act.put,List.setIfInBounds_toArray,List.set_cons_zero,List.set_cons_succ,i64_w,i32_w]
   rfl
  refine pure_ (i:=16) (N:=some 30) (v:=?_) (a':=?_) #[tT,tT,tT,tT,tT,tT,tT,tT,tT,tT,tT,tT,tT,tT,tT,tT,tT,fF] rfl rfl (any_of HT_.out (by kernel_rfl)) (fun _ _ _ h => h) (Or.inl ⟨by rfl,?_⟩) ?_ ?_
  rotate_left
  ·intro w'
   go_simp
   with_reducible rfl
  rotate_left
  ·exact pa
  refine pure_ (i:=17) (N:=some 8) (v:=?_) (a':=?_) #[tT,tT,tT,tT,tT,tT,tT,tT,tT,tT,tT,tT,tT,tT,tT,tT,tT,tT] rfl rfl (any_of HT_.out (by kernel_rfl)) (fun _ _ _ h => h) (Or.inl ⟨by rfl,?_⟩) ?_ ?_
  rotate_left
  ·intro w'
   go_simp
   with_reducible rfl
  rotate_left
  ·exact pa
  refine done_ (done_of HT_.out (by kernel_rfl)) ?_
  try go_wp2
  go_ret
  exact ⟨by first | rfl | (simp [errW_none,errW_some] <;> rfl) | (simp only [← hji26,← hji27,← hji28];first | rfl | (simp [errW_none,errW_some] <;> rfl)) | (simp [*,errW_none,errW_some] <;> rfl),by repeat (first | (with_reducible first | exact HB.out | apply below_alloc | apply pw_below_drewN | apply below_drew1 | refine below_set ?_ GE299.out | refine below_set ?_ GE300.out | refine below_set ?_ GE301.out | refine below_set ?_ GE302.out) | exact HB.out)⟩
end Go.Proofs.Ytkobmkdjmpnojaa.PFnExactPolygonDistance
