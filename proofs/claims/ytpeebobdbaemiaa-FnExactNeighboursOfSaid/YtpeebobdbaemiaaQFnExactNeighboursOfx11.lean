/- Contracts of functions that FnExactNeighboursOf reaches, out of the lines of the kit's print. -/
import Derived.Test.YtpeebobdbaemiaaQFnExactNeighboursOfx0
import Derived.Test.YtpeebobdbaemiaaQFnExactNeighboursOfx10
namespace Go.Proofs.Ytpeebobdbaemiaa.PFnExactNeighboursOf
set_option maxHeartbeats 8000000
set_option maxRecDepth 100000
open Go.RowKit Go.Proofs.YtpeebobdbaemiaaW.PrintWords Go.Proofs.YtpeebobdbaemiaaW.PrintLast Go.Proofs.YtpeebobdbaemiaaW.PrintMore
open Bool renaming true → tT, false → fF
open Go.World renaming block_lt_of_cell? → bL
open List renaming setIfInBounds_toArray → iT, set_cons_zero → sZ, set_cons_succ → sC, length_take → lT, length_drop → lD, map_toArray → mT, map_cons → mC, map_nil → mN
open Option renaming bind_eq_some_iff → bE
attribute [local go_sem] max2_int min2_int max_two min_two max_three min_three max_four min_four
set_option linter.unusedVariables false
set_option linter.unusedSimpArgs false
def impl_validPoints.l0 : Nat → List (S78) → Int → Int → Option (Bool)
 | 0,_,_,_ => none
 | k + 1,x5,x6,x7 => if x7 < x6 then (if 0 ≤ x7 then (if x7 < (x5.length : Int) then ((impl_ValidPoint.f ((rd_T78 x5 x7).f0) ((rd_T78 x5 x7).f1)).bind fun t282 => (if t282 = true then (impl_validPoints.l0 k x5 x6 (wrap64 (x7 + 1))) else (some false))) else (none)) else (none)) else (some true)
def impl_validPoints.f (k : Nat) (l0 : List (S78)) : Option (Bool):=impl_validPoints.l0 k l0 (l0.length : Int) 0
theorem impl_validPoints.calls (k : Nat) (A0 : Option Addr) (c0 : Nat) (l0 : List (S78)) (r : Bool) (w : World) (hr0 : Kd.C k78 w A0 l0.length l0) (hc0 : l0.length ≤ c0) (h : impl_validPoints.f k l0 = some r) :
  Calls Try.prog 71 #[.slice A0 l0.length c0] w fun e w' => e = .returned (.bool r) ∧ Below w.heap.size w w':=by
 have hu78:=Try.underlying78
 have HR0:=Aside0.mk hr0
 have HC0:=Aside0.mk hc0
 clear hr0 hc0
 have HB:=Aside0.mk (Below.refl w.heap.size w)
 have H : (impl_validPoints.l0 k l0 (l0.length : Int) 0) = some r:=h
 clear h
 have H':=Aside0.mk H
 clear H
 go_enter Try.func71,Try.ntmps71
 go_wp2
 go_loopg [7] k (fun kq v7 w' => ∃ (x7_1 : Int),v7 = .int .i64 x7_1 ∧ Aside0 (impl_validPoints.l0 kq l0 (l0.length : Int) x7_1 = some r) ∧ Aside0 (kq ≤ k) ∧ Aside0 (Below w.heap.size w w'))
 case atStart => exact ⟨(0),(by first | rfl | (simp;done) | (simp [*];done)),H',⟨Nat.le_refl _⟩,⟨ib⟩⟩
 case round =>
  clear H'
  obtain ⟨x7_1,rfl,HA,HK1,HB⟩:=hrel
  cases gk with
  | zero => exact absurd HA.out (by simp [impl_validPoints.l0])
  | succ k1 =>
   have H:=HA.out
   clear HA
   simp only [impl_validPoints.l0] at H
   by_cases c2 : x7_1 < (l0.length : Int)
   ·rw [if_pos c2] at H
    have c2b0 : decide (x7_1 < (l0.length : Int)) = true:=decide_eq_true c2
    clear c2
    by_cases c3 : 0 ≤ x7_1
    ·rw [if_pos c3] at H
     have c3b0 : decide (0 ≤ x7_1) = true:=decide_eq_true c3
     clear c3
     by_cases c4 : x7_1 < (l0.length : Int)
     ·rw [if_pos c4] at H
      have c4b0 : decide (x7_1 < (l0.length : Int)) = true:=decide_eq_true c4
      clear c4
      replace H:=bE.mp H
      obtain ⟨t282,A50,H⟩:=H
      replace H : (if t282 = true then (impl_validPoints.l0 k1 l0 (l0.length : Int) (wrap64 (x7_1 + 1))) else (some false)) = some r:=H
      have A5:=Aside0.mk A50
      clear A50
      by_cases c6 : t282 = true
      ·subst c6
       have H1 : (impl_validPoints.l0 k1 l0 (l0.length : Int) (wrap64 (x7_1 + 1))) = some r:=by rw [if_pos rfl] at H;exact H
       clear H
       have H:=H1
       clear H1
       have H':=Aside0.mk H
       clear H
       have p280 : 0 ≤ (x7_1 : Int):=da
       have q280 : x7_1 < (l0.length : Int):=da
       obtain ⟨ad280,e280,hx280_0,hx280_1⟩:=at_T78 HR0.out x7_1 p280 q280
       cases e280
       replace hx280_0:=cq HB.out hx280_0
       replace hx280_1:=cq HB.out hx280_1
       replace p280:=eq_true p280
       replace q280:=eq_true q280
       go_wp2_with (first | ((with_reducible refine gate_dst (N:=4) rfl ?_);refine bx (cs:=#[.int .i64 0,.int .i64 0]) (t:=78) ?_;intro gb281 hg w7 hbox hb;have BK281:=Aside0.mk (hbox);have GW281:=zb hg;have GE281:=zb hg;replace HB:=sb hb;clear hb hbox hg;have hcz8_0:=ck BK281 0;have hcz8_1:=ck BK281 1;have hfz8_0:=blk_frozen BK281.out 0;have hfz8_1:=blk_frozen BK281.out 1) | ((with_reducible refine gate_callee (f:=90) rfl ?_);refine goesL_ (some 12) rfl rfl Try.func90 (by kernel_rfl) rfl #[.agg #[.int .i64 ((rd_T78 l0 x7_1).f0),.int .i64 ((rd_T78 l0 x7_1).f1)]] rfl (by (try simp only [mT,mC,mN]);first | done | rfl | (simp only [lD,lT];rfl)) ?_;(with_reducible refine (impl_ValidPoint.calls ((rd_T78 l0 x7_1).f0) ((rd_T78 l0 x7_1).f1) true _ A5.out).mono ?_);rintro e w9 ⟨rfl,hb⟩;refine ⟨_,rfl,?_⟩;replace BK281:=Aside0.mk (blk_below (g:=gb281) (o:=.cells #[.int .i64 ((rd_T78 l0 x7_1).f0),.int .i64 ((rd_T78 l0 x7_1).f1)] 78 (0,0)) (by refine bP (cs:=#[.int .i64 ((rd_T78 l0 x7_1).f0),.int .i64 0]) 1 ?_;refine bP (cs:=#[.int .i64 0,.int .i64 0]) 0 ?_;exact bk BK281) hb);replace HB:=sb hb;(try clear hb);(try clear hb2);(try clear hk);(try clear hi)))
       go_roundg k1
       case measure => have:=HK1.out;omega
       case rel => exact ⟨(wrap64 (x7_1 + 1)),(by first | rfl | (simp;done) | (simp [*];done)),H',⟨by have:=HK1.out;omega⟩,⟨ib⟩⟩
      ·replace c6:=Bool.eq_false_iff.mpr c6
       subst c6
       have H1 : (some false) = some r:=by rw [if_neg (show ¬ (false = true) by decide)] at H;exact H
       clear H
       have H:=H1
       clear H1
       obtain rfl:=Option.some.inj H
       have p280 : 0 ≤ (x7_1 : Int):=da
       have q280 : x7_1 < (l0.length : Int):=da
       obtain ⟨ad280,e280,hx280_0,hx280_1⟩:=at_T78 HR0.out x7_1 p280 q280
       cases e280
       replace hx280_0:=cq HB.out hx280_0
       replace hx280_1:=cq HB.out hx280_1
       replace p280:=eq_true p280
       replace q280:=eq_true q280
       go_wp2_with (first | ((with_reducible refine gate_dst (N:=4) rfl ?_);refine bx (cs:=#[.int .i64 0,.int .i64 0]) (t:=78) ?_;intro gb281 hg w10 hbox hb;have BK281:=Aside0.mk (hbox);have GW281:=zb hg;have GE281:=zb hg;replace HB:=sb hb;clear hb hbox hg;have hcz11_0:=ck BK281 0;have hcz11_1:=ck BK281 1;have hfz11_0:=blk_frozen BK281.out 0;have hfz11_1:=blk_frozen BK281.out 1) | ((with_reducible refine gate_callee (f:=90) rfl ?_);refine goesL_ (some 12) rfl rfl Try.func90 (by kernel_rfl) rfl #[.agg #[.int .i64 ((rd_T78 l0 x7_1).f0),.int .i64 ((rd_T78 l0 x7_1).f1)]] rfl (by (try simp only [mT,mC,mN]);first | done | rfl | (simp only [lD,lT];rfl)) ?_;(with_reducible refine (impl_ValidPoint.calls ((rd_T78 l0 x7_1).f0) ((rd_T78 l0 x7_1).f1) false _ A5.out).mono ?_);rintro e w12 ⟨rfl,hb⟩;refine ⟨_,rfl,?_⟩;replace BK281:=Aside0.mk (blk_below (g:=gb281) (o:=.cells #[.int .i64 ((rd_T78 l0 x7_1).f0),.int .i64 ((rd_T78 l0 x7_1).f1)] 78 (0,0)) (by refine bP (cs:=#[.int .i64 ((rd_T78 l0 x7_1).f0),.int .i64 0]) 1 ?_;refine bP (cs:=#[.int .i64 0,.int .i64 0]) 0 ?_;exact bk BK281) hb);replace HB:=sb hb;(try clear hb);(try clear hb2);(try clear hk);(try clear hi)))
       go_ret
       exact ⟨by first | rfl | (simp [errW_none,errW_some] <;> rfl) | (simp [*,errW_none,errW_some] <;> rfl),ib⟩
     ·first | (exfalso;have z_:=of_decide_eq_true c2b0;omega) | (rw [if_neg c4] at H;exact absurd H (by simp))
    ·rw [if_neg c3] at H
     exact absurd H (by simp)
   ·rw [if_neg c2] at H
    have c2b0 : decide (x7_1 < (l0.length : Int)) = false:=decide_eq_false c2
    clear c2
    obtain rfl:=Option.some.inj H
    go_wp2
    go_ret
    exact ⟨by first | rfl | (simp [errW_none,errW_some] <;> rfl) | (simp [*,errW_none,errW_some] <;> rfl),ib⟩
def impl_side.f (a0_0 : Int) (a0_1 : Int) (a1_0 : Int) (a1_1 : Int) (a2_0 : Int) (a2_1 : Int) : Option (Int):=if (wrap64 ((wrap64 ((wrap64 (a1_0 - a0_0)) * (wrap64 (a2_1 - a0_1)))) - (wrap64 ((wrap64 (a1_1 - a0_1)) * (wrap64 (a2_0 - a0_0)))))) > 0 then (some 1) else (if (wrap64 ((wrap64 ((wrap64 (a1_0 - a0_0)) * (wrap64 (a2_1 - a0_1)))) - (wrap64 ((wrap64 (a1_1 - a0_1)) * (wrap64 (a2_0 - a0_0)))))) < 0 then (some (-1)) else (some 0))
theorem impl_side.calls (a0_0 : Int) (a0_1 : Int) (a1_0 : Int) (a1_1 : Int) (a2_0 : Int) (a2_1 : Int) (r : Int) (w : World) (h : impl_side.f a0_0 a0_1 a1_0 a1_1 a2_0 a2_1 = some r) :
  Calls Try.prog 91 #[.agg #[.int .i64 a0_0,.int .i64 a0_1],.agg #[.int .i64 a1_0,.int .i64 a1_1],.agg #[.int .i64 a2_0,.int .i64 a2_1]] w fun e w' => e = .returned (.int .i64 r) ∧ Below w.heap.size w w':=by
 have hu78:=Try.underlying78
 have HB:=Aside0.mk (Below.refl w.heap.size w)
 have H : (if (wrap64 ((wrap64 ((wrap64 (a1_0 - a0_0)) * (wrap64 (a2_1 - a0_1)))) - (wrap64 ((wrap64 (a1_1 - a0_1)) * (wrap64 (a2_0 - a0_0)))))) > 0 then (some 1) else (if (wrap64 ((wrap64 ((wrap64 (a1_0 - a0_0)) * (wrap64 (a2_1 - a0_1)))) - (wrap64 ((wrap64 (a1_1 - a0_1)) * (wrap64 (a2_0 - a0_0)))))) < 0 then (some (-1)) else (some 0))) = some r:=h
 clear h
 by_cases c4 : (wrap64 ((wrap64 ((wrap64 (a1_0 - a0_0)) * (wrap64 (a2_1 - a0_1)))) - (wrap64 ((wrap64 (a1_1 - a0_1)) * (wrap64 (a2_0 - a0_0)))))) > 0
 ·rw [if_pos c4] at H
  have c4b0 : decide (0 < (wrap64 ((wrap64 ((wrap64 (a1_0 - a0_0)) * (wrap64 (a2_1 - a0_1)))) - (wrap64 ((wrap64 (a1_1 - a0_1)) * (wrap64 (a2_0 - a0_0))))))) = true:=decide_eq_true c4
  clear c4
  obtain rfl:=Option.some.inj H
  go_enter Try.func91,Try.ntmps91
  go_wp2_with (first | ((with_reducible refine gate_dst (N:=3) rfl ?_);refine bx (cs:=#[.int .i64 a0_0,.int .i64 a0_1]) (t:=78) ?_;intro gb283 hg w5 hbox hb;have BK283:=Aside0.mk (hbox);have GW283:=zb hg;have GE283:=zb hg;replace HB:=sb hb;clear hb hbox hg) | ((with_reducible refine gate_dst (N:=4) rfl ?_);refine bx (cs:=#[.int .i64 a1_0,.int .i64 a1_1]) (t:=78) ?_;intro gb284 hg w6 hbox hb;have BK284:=Aside0.mk (hbox);have GW284:=zb hg;have GE284:=zb hg;replace HB:=sb hb;have NB283_284:=nl BK283 hg;have NB284_283:=ng BK283 hg;replace BK283:=kb BK283 hb;clear hb hbox hg) | ((with_reducible refine gate_dst (N:=5) rfl ?_);refine bx (cs:=#[.int .i64 a2_0,.int .i64 a2_1]) (t:=78) ?_;intro gb285 hg w7 hbox hb;have BK285:=Aside0.mk (hbox);have GW285:=zb hg;have GE285:=zb hg;replace HB:=sb hb;have NB283_285:=nl BK283 hg;have NB285_283:=ng BK283 hg;replace BK283:=kb BK283 hb;have NB284_285:=nl BK284 hg;have NB285_284:=ng BK284 hg;replace BK284:=kb BK284 hb;clear hb hbox hg;have hnb8:=NB284_283.out;have hnc8:=NB283_284.out;have hnb9:=NB284_285.out;have hnc9:=NB285_284.out;have hcz10_0:=ck BK284 0;have hcz10_1:=ck BK284 1;have hfz10_0:=blk_frozen BK284.out 0;have hfz10_1:=blk_frozen BK284.out 1;have hnb11:=NB283_285.out;have hnc11:=NB285_283.out;have hcz12_0:=ck BK283 0;have hcz12_1:=ck BK283 1;have hfz12_0:=blk_frozen BK283.out 0;have hfz12_1:=blk_frozen BK283.out 1;have hcz13_0:=ck BK285 0;have hcz13_1:=ck BK285 1;have hfz13_0:=blk_frozen BK285.out 0;have hfz13_1:=blk_frozen BK285.out 1))
  go_ret
  exact ⟨by first | rfl | (simp [errW_none,errW_some] <;> rfl) | (simp [*,errW_none,errW_some] <;> rfl),ib⟩
 ·rw [if_neg c4] at H
  have c4b0 : decide (0 < (wrap64 ((wrap64 ((wrap64 (a1_0 - a0_0)) * (wrap64 (a2_1 - a0_1)))) - (wrap64 ((wrap64 (a1_1 - a0_1)) * (wrap64 (a2_0 - a0_0))))))) = false:=decide_eq_false c4
  clear c4
  by_cases c14 : (wrap64 ((wrap64 ((wrap64 (a1_0 - a0_0)) * (wrap64 (a2_1 - a0_1)))) - (wrap64 ((wrap64 (a1_1 - a0_1)) * (wrap64 (a2_0 - a0_0)))))) < 0
  ·rw [if_pos c14] at H
   have c14b0 : decide ((wrap64 ((wrap64 ((wrap64 (a1_0 - a0_0)) * (wrap64 (a2_1 - a0_1)))) - (wrap64 ((wrap64 (a1_1 - a0_1)) * (wrap64 (a2_0 - a0_0)))))) < 0) = true:=decide_eq_true c14
   clear c14
   obtain rfl:=Option.some.inj H
   go_enter Try.func91,Try.ntmps91
   go_wp2_with (first | ((with_reducible refine gate_dst (N:=3) rfl ?_);refine bx (cs:=#[.int .i64 a0_0,.int .i64 a0_1]) (t:=78) ?_;intro gb283 hg w15 hbox hb;have BK283:=Aside0.mk (hbox);have GW283:=zb hg;have GE283:=zb hg;replace HB:=sb hb;clear hb hbox hg) | ((with_reducible refine gate_dst (N:=4) rfl ?_);refine bx (cs:=#[.int .i64 a1_0,.int .i64 a1_1]) (t:=78) ?_;intro gb284 hg w16 hbox hb;have BK284:=Aside0.mk (hbox);have GW284:=zb hg;have GE284:=zb hg;replace HB:=sb hb;have NB283_284:=nl BK283 hg;have NB284_283:=ng BK283 hg;replace BK283:=kb BK283 hb;clear hb hbox hg) | ((with_reducible refine gate_dst (N:=5) rfl ?_);refine bx (cs:=#[.int .i64 a2_0,.int .i64 a2_1]) (t:=78) ?_;intro gb285 hg w17 hbox hb;have BK285:=Aside0.mk (hbox);have GW285:=zb hg;have GE285:=zb hg;replace HB:=sb hb;have NB283_285:=nl BK283 hg;have NB285_283:=ng BK283 hg;replace BK283:=kb BK283 hb;have NB284_285:=nl BK284 hg;have NB285_284:=ng BK284 hg;replace BK284:=kb BK284 hb;clear hb hbox hg;have hnb18:=NB284_283.out;have hnc18:=NB283_284.out;have hnb19:=NB284_285.out;have hnc19:=NB285_284.out;have hcz20_0:=ck BK284 0;have hcz20_1:=ck BK284 1;have hfz20_0:=blk_frozen BK284.out 0;have hfz20_1:=blk_frozen BK284.out 1;have hnb21:=NB283_285.out;have hnc21:=NB285_283.out;have hcz22_0:=ck BK283 0;have hcz22_1:=ck BK283 1;have hfz22_0:=blk_frozen BK283.out 0;have hfz22_1:=blk_frozen BK283.out 1;have hcz23_0:=ck BK285 0;have hcz23_1:=ck BK285 1;have hfz23_0:=blk_frozen BK285.out 0;have hfz23_1:=blk_frozen BK285.out 1))
   go_ret
   exact ⟨by first | rfl | (simp [errW_none,errW_some] <;> rfl) | (simp [*,errW_none,errW_some] <;> rfl),ib⟩
  ·rw [if_neg c14] at H
   have c14b0 : decide ((wrap64 ((wrap64 ((wrap64 (a1_0 - a0_0)) * (wrap64 (a2_1 - a0_1)))) - (wrap64 ((wrap64 (a1_1 - a0_1)) * (wrap64 (a2_0 - a0_0)))))) < 0) = false:=decide_eq_false c14
   clear c14
   obtain rfl:=Option.some.inj H
   go_enter Try.func91,Try.ntmps91
   go_wp2_with (first | ((with_reducible refine gate_dst (N:=3) rfl ?_);refine bx (cs:=#[.int .i64 a0_0,.int .i64 a0_1]) (t:=78) ?_;intro gb283 hg w24 hbox hb;have BK283:=Aside0.mk (hbox);have GW283:=zb hg;have GE283:=zb hg;replace HB:=sb hb;clear hb hbox hg) | ((with_reducible refine gate_dst (N:=4) rfl ?_);refine bx (cs:=#[.int .i64 a1_0,.int .i64 a1_1]) (t:=78) ?_;intro gb284 hg w25 hbox hb;have BK284:=Aside0.mk (hbox);have GW284:=zb hg;have GE284:=zb hg;replace HB:=sb hb;have NB283_284:=nl BK283 hg;have NB284_283:=ng BK283 hg;replace BK283:=kb BK283 hb;clear hb hbox hg) | ((with_reducible refine gate_dst (N:=5) rfl ?_);refine bx (cs:=#[.int .i64 a2_0,.int .i64 a2_1]) (t:=78) ?_;intro gb285 hg w26 hbox hb;have BK285:=Aside0.mk (hbox);have GW285:=zb hg;have GE285:=zb hg;replace HB:=sb hb;have NB283_285:=nl BK283 hg;have NB285_283:=ng BK283 hg;replace BK283:=kb BK283 hb;have NB284_285:=nl BK284 hg;have NB285_284:=ng BK284 hg;replace BK284:=kb BK284 hb;clear hb hbox hg;have hnb27:=NB284_283.out;have hnc27:=NB283_284.out;have hnb28:=NB284_285.out;have hnc28:=NB285_284.out;have hcz29_0:=ck BK284 0;have hcz29_1:=ck BK284 1;have hfz29_0:=blk_frozen BK284.out 0;have hfz29_1:=blk_frozen BK284.out 1;have hnb30:=NB283_285.out;have hnc30:=NB285_283.out;have hcz31_0:=ck BK283 0;have hcz31_1:=ck BK283 1;have hfz31_0:=blk_frozen BK283.out 0;have hfz31_1:=blk_frozen BK283.out 1;have hcz32_0:=ck BK285 0;have hcz32_1:=ck BK285 1;have hfz32_0:=blk_frozen BK285.out 0;have hfz32_1:=blk_frozen BK285.out 1))
   go_ret
   exact ⟨by first | rfl | (simp [errW_none,errW_some] <;> rfl) | (simp [*,errW_none,errW_some] <;> rfl),ib⟩
def impl_on.f (a0_0 : Int) (a0_1 : Int) (a1_0 : Int) (a1_1 : Int) (a2_0 : Int) (a2_1 : Int) : Option (Bool):=(impl_side.f a0_0 a0_1 a1_0 a1_1 a2_0 a2_1).bind fun t289 => (if t289 = 0 then ((impl_within.f a2_0 (mn a0_0 a1_0) (mx a0_0 a1_0)).bind fun t290 => (if t290 = true then ((impl_within.f a2_1 (mn a0_1 a1_1) (mx a0_1 a1_1)).bind fun t291 => (some t291)) else (some false))) else (some false))
theorem impl_on.calls (a0_0 : Int) (a0_1 : Int) (a1_0 : Int) (a1_1 : Int) (a2_0 : Int) (a2_1 : Int) (r : Bool) (w : World) (h : impl_on.f a0_0 a0_1 a1_0 a1_1 a2_0 a2_1 = some r) :
  Calls Try.prog 72 #[.agg #[.int .i64 a0_0,.int .i64 a0_1],.agg #[.int .i64 a1_0,.int .i64 a1_1],.agg #[.int .i64 a2_0,.int .i64 a2_1]] w fun e w' => e = .returned (.bool r) ∧ Below w.heap.size w w':=by
 have hu78:=Try.underlying78
 have HB:=Aside0.mk (Below.refl w.heap.size w)
 have H : ((impl_side.f a0_0 a0_1 a1_0 a1_1 a2_0 a2_1).bind fun t289 => (if t289 = 0 then ((impl_within.f a2_0 (mn a0_0 a1_0) (mx a0_0 a1_0)).bind fun t290 => (if t290 = true then ((impl_within.f a2_1 (mn a0_1 a1_1) (mx a0_1 a1_1)).bind fun t291 => (some t291)) else (some false))) else (some false))) = some r:=h
 clear h
 replace H:=bE.mp H
 obtain ⟨t289,A40,H⟩:=H
 replace H : (if t289 = 0 then ((impl_within.f a2_0 (mn a0_0 a1_0) (mx a0_0 a1_0)).bind fun t290 => (if t290 = true then ((impl_within.f a2_1 (mn a0_1 a1_1) (mx a0_1 a1_1)).bind fun t291 => (some t291)) else (some false))) else (some false)) = some r:=H
 have A4:=Aside0.mk A40
 clear A40
 by_cases c5 : t289 = 0
 ·rw [if_pos c5] at H
  have c5b0 : (t289 == 0) = true:=beq_iff_eq.mpr c5
  have c5b1 : (t289 != 0) = false:=bne_eq_false_iff_eq.mpr c5
  clear c5
  obtain ⟨ji6,hji6⟩ : ∃ j_ : Int,(mn a0_0 a1_0) = j_:=⟨_,rfl⟩
  replace H : ((impl_within.f a2_0 (ji6) (mx a0_0 a1_0)).bind fun t290 => (if t290 = true then ((impl_within.f a2_1 (mn a0_1 a1_1) (mx a0_1 a1_1)).bind fun t291 => (some t291)) else (some false))) = some r:=by first | (rw [hji6] at H;exact H) | (simp only [hji6] at H ⊢;exact H)
  (try rw [hji6] at A4)
  have hji6_ : (if a1_0 < a0_0 then a1_0 else a0_0) = ji6:=hji6
  obtain ⟨ji7,hji7⟩ : ∃ j_ : Int,(mx a0_0 a1_0) = j_:=⟨_,rfl⟩
  replace H : ((impl_within.f a2_0 (ji6) (ji7)).bind fun t290 => (if t290 = true then ((impl_within.f a2_1 (mn a0_1 a1_1) (mx a0_1 a1_1)).bind fun t291 => (some t291)) else (some false))) = some r:=by first | (rw [hji7] at H;exact H) | (simp only [hji7] at H ⊢;exact H)
  (try rw [hji7] at A4)
  have hji7_ : (if a0_0 < a1_0 then a1_0 else a0_0) = ji7:=hji7
  replace H:=bE.mp H
  obtain ⟨t290,A80,H⟩:=H
  replace H : (if t290 = true then ((impl_within.f a2_1 (mn a0_1 a1_1) (mx a0_1 a1_1)).bind fun t291 => (some t291)) else (some false)) = some r:=H
  have A8:=Aside0.mk A80
  clear A80
  by_cases c9 : t290 = true
  ·subst c9
   have H1 : ((impl_within.f a2_1 (mn a0_1 a1_1) (mx a0_1 a1_1)).bind fun t291 => (some t291)) = some r:=by rw [if_pos rfl] at H;exact H
   clear H
   have H:=H1
   clear H1
   obtain ⟨ji10,hji10⟩ : ∃ j_ : Int,(mn a0_1 a1_1) = j_:=⟨_,rfl⟩
   replace H : ((impl_within.f a2_1 (ji10) (mx a0_1 a1_1)).bind fun t291 => (some t291)) = some r:=by first | (rw [hji10] at H;exact H) | (simp only [hji10] at H ⊢;exact H)
   (try rw [hji10] at A4)
   (try rw [hji10] at A8)
   have hji10_ : (if a1_1 < a0_1 then a1_1 else a0_1) = ji10:=hji10
   obtain ⟨ji11,hji11⟩ : ∃ j_ : Int,(mx a0_1 a1_1) = j_:=⟨_,rfl⟩
   replace H : ((impl_within.f a2_1 (ji10) (ji11)).bind fun t291 => (some t291)) = some r:=by first | (rw [hji11] at H;exact H) | (simp only [hji11] at H ⊢;exact H)
   (try rw [hji11] at A4)
   (try rw [hji11] at A8)
   have hji11_ : (if a0_1 < a1_1 then a1_1 else a0_1) = ji11:=hji11
   replace H:=bE.mp H
   obtain ⟨t291,A120,H⟩:=H
   replace H : (some t291) = some r:=H
   have A12:=Aside0.mk A120
   clear A120
   obtain rfl:=Option.some.inj H
   go_enter Try.func72,Try.ntmps72
   go_wp2_with (first | ((with_reducible refine gate_dst (N:=3) rfl ?_);(try (refine gate_guard (by rfl) ?_;dsimp only));refine bx (cs:=#[.int .i64 a0_0,.int .i64 a0_1]) (t:=78) ?_;intro gb286 hg w13 hbox hb;have BK286:=Aside0.mk (hbox);have GW286:=zb hg;have GE286:=zb hg;replace HB:=sb hb;clear hb hbox hg) | ((with_reducible refine gate_dst (N:=4) rfl ?_);(try (refine gate_guard (by rfl) ?_;dsimp only));refine bx (cs:=#[.int .i64 a1_0,.int .i64 a1_1]) (t:=78) ?_;intro gb287 hg w14 hbox hb;have BK287:=Aside0.mk (hbox);have GW287:=zb hg;have GE287:=zb hg;replace HB:=sb hb;have NB286_287:=nl BK286 hg;have NB287_286:=ng BK286 hg;replace BK286:=kb BK286 hb;clear hb hbox hg) | ((with_reducible refine gate_dst (N:=5) rfl ?_);(try (refine gate_guard (by rfl) ?_;dsimp only));refine bx (cs:=#[.int .i64 a2_0,.int .i64 a2_1]) (t:=78) ?_;intro gb288 hg w15 hbox hb;have BK288:=Aside0.mk (hbox);have GW288:=zb hg;have GE288:=zb hg;replace HB:=sb hb;have NB286_288:=nl BK286 hg;have NB288_286:=ng BK286 hg;replace BK286:=kb BK286 hb;have NB287_288:=nl BK287 hg;have NB288_287:=ng BK287 hg;replace BK287:=kb BK287 hb;clear hb hbox hg;have hnb16:=NB286_287.out;have hnc16:=NB287_286.out;have hnb17:=NB286_288.out;have hnc17:=NB288_286.out;have hcz18_0:=ck BK286 0;have hcz18_1:=ck BK286 1;have hfz18_0:=blk_frozen BK286.out 0;have hfz18_1:=blk_frozen BK286.out 1;have hnb19:=NB287_288.out;have hnc19:=NB288_287.out;have hcz20_0:=ck BK287 0;have hcz20_1:=ck BK287 1;have hfz20_0:=blk_frozen BK287.out 0;have hfz20_1:=blk_frozen BK287.out 1;have hcz21_0:=ck BK288 0;have hcz21_1:=ck BK288 1;have hfz21_0:=blk_frozen BK288.out 0;have hfz21_1:=blk_frozen BK288.out 1) | ((with_reducible refine gate_callee (f:=91) rfl ?_);refine goesL_ (some 10) rfl rfl Try.func91 (by kernel_rfl) rfl #[.agg #[.int .i64 a0_0,.int .i64 a0_1],.agg #[.int .i64 a1_0,.int .i64 a1_1],.agg #[.int .i64 a2_0,.int .i64 a2_1]] rfl (by (try simp only [mT,mC,mN]);first | done | rfl | (simp only [lD,lT];rfl)) ?_;(with_reducible refine (impl_side.calls a0_0 a0_1 a1_0 a1_1 a2_0 a2_1 t289 _ A4.out).mono ?_);rintro e w22 ⟨rfl,hb⟩;refine ⟨_,rfl,?_⟩;replace BK286:=kb BK286 hb;replace BK287:=kb BK287 hb;replace BK288:=kb BK288 hb;replace HB:=sb hb;(try clear hb);(try clear hb2);(try clear hk);(try clear hi);have hcz23_0:=ck BK288 0;have hcz23_1:=ck BK288 1;have hfz23_0:=blk_frozen BK288.out 0;have hfz23_1:=blk_frozen BK288.out 1;have hcz24_0:=ck BK286 0;have hcz24_1:=ck BK286 1;have hfz24_0:=blk_frozen BK286.out 0;have hfz24_1:=blk_frozen BK286.out 1;have hcz25_0:=ck BK287 0;have hcz25_1:=ck BK287 1;have hfz25_0:=blk_frozen BK287.out 0;have hfz25_1:=blk_frozen BK287.out 1) | (go_at_call 46;(with_reducible refine (impl_within.calls a2_0 ji6 ji7 true _ A8.out).mono ?_);rintro e w' ⟨rfl,⟨nd,rfl⟩⟩) | (go_at_call 46;(with_reducible refine (impl_within.calls a2_1 ji10 ji11 t291 _ A12.out).mono ?_);rintro e w' ⟨rfl,⟨nd,rfl⟩⟩))
   go_ret
   exact ⟨by first | rfl | (simp [errW_none,errW_some] <;> rfl) | (simp only [← hji6,← hji7,← hji10,← hji11];first | rfl | (simp [errW_none,errW_some] <;> rfl)) | (simp [*,errW_none,errW_some] <;> rfl),ib⟩
  ·replace c9:=Bool.eq_false_iff.mpr c9
   subst c9
   have H1 : (some false) = some r:=by rw [if_neg (show ¬ (false = true) by decide)] at H;exact H
   clear H
   have H:=H1
   clear H1
   obtain rfl:=Option.some.inj H
   go_enter Try.func72,Try.ntmps72
   go_wp2_with (first | ((with_reducible refine gate_dst (N:=3) rfl ?_);(try (refine gate_guard (by rfl) ?_;dsimp only));refine bx (cs:=#[.int .i64 a0_0,.int .i64 a0_1]) (t:=78) ?_;intro gb286 hg w26 hbox hb;have BK286:=Aside0.mk (hbox);have GW286:=zb hg;have GE286:=zb hg;replace HB:=sb hb;clear hb hbox hg) | ((with_reducible refine gate_dst (N:=4) rfl ?_);(try (refine gate_guard (by rfl) ?_;dsimp only));refine bx (cs:=#[.int .i64 a1_0,.int .i64 a1_1]) (t:=78) ?_;intro gb287 hg w27 hbox hb;have BK287:=Aside0.mk (hbox);have GW287:=zb hg;have GE287:=zb hg;replace HB:=sb hb;have NB286_287:=nl BK286 hg;have NB287_286:=ng BK286 hg;replace BK286:=kb BK286 hb;clear hb hbox hg) | ((with_reducible refine gate_dst (N:=5) rfl ?_);(try (refine gate_guard (by rfl) ?_;dsimp only));refine bx (cs:=#[.int .i64 a2_0,.int .i64 a2_1]) (t:=78) ?_;intro gb288 hg w28 hbox hb;have BK288:=Aside0.mk (hbox);have GW288:=zb hg;have GE288:=zb hg;replace HB:=sb hb;have NB286_288:=nl BK286 hg;have NB288_286:=ng BK286 hg;replace BK286:=kb BK286 hb;have NB287_288:=nl BK287 hg;have NB288_287:=ng BK287 hg;replace BK287:=kb BK287 hb;clear hb hbox hg;have hnb29:=NB286_287.out;have hnc29:=NB287_286.out;have hnb30:=NB286_288.out;have hnc30:=NB288_286.out;have hcz31_0:=ck BK286 0;have hcz31_1:=ck BK286 1;have hfz31_0:=blk_frozen BK286.out 0;have hfz31_1:=blk_frozen BK286.out 1;have hnb32:=NB287_288.out;have hnc32:=NB288_287.out;have hcz33_0:=ck BK287 0;have hcz33_1:=ck BK287 1;have hfz33_0:=blk_frozen BK287.out 0;have hfz33_1:=blk_frozen BK287.out 1;have hcz34_0:=ck BK288 0;have hcz34_1:=ck BK288 1;have hfz34_0:=blk_frozen BK288.out 0;have hfz34_1:=blk_frozen BK288.out 1) | ((with_reducible refine gate_callee (f:=91) rfl ?_);refine goesL_ (some 10) rfl rfl Try.func91 (by kernel_rfl) rfl #[.agg #[.int .i64 a0_0,.int .i64 a0_1],.agg #[.int .i64 a1_0,.int .i64 a1_1],.agg #[.int .i64 a2_0,.int .i64 a2_1]] rfl (by (try simp only [mT,mC,mN]);first | done | rfl | (simp only [lD,lT];rfl)) ?_;(with_reducible refine (impl_side.calls a0_0 a0_1 a1_0 a1_1 a2_0 a2_1 t289 _ A4.out).mono ?_);rintro e w35 ⟨rfl,hb⟩;refine ⟨_,rfl,?_⟩;replace BK286:=kb BK286 hb;replace BK287:=kb BK287 hb;replace BK288:=kb BK288 hb;replace HB:=sb hb;(try clear hb);(try clear hb2);(try clear hk);(try clear hi);have hcz36_0:=ck BK288 0;have hcz36_1:=ck BK288 1;have hfz36_0:=blk_frozen BK288.out 0;have hfz36_1:=blk_frozen BK288.out 1;have hcz37_0:=ck BK286 0;have hcz37_1:=ck BK286 1;have hfz37_0:=blk_frozen BK286.out 0;have hfz37_1:=blk_frozen BK286.out 1;have hcz38_0:=ck BK287 0;have hcz38_1:=ck BK287 1;have hfz38_0:=blk_frozen BK287.out 0;have hfz38_1:=blk_frozen BK287.out 1) | (go_at_call 46;(with_reducible refine (impl_within.calls a2_0 ji6 ji7 false _ A8.out).mono ?_);rintro e w' ⟨rfl,⟨nd,rfl⟩⟩))
   go_ret
   exact ⟨by first | rfl | (simp [errW_none,errW_some] <;> rfl) | (simp only [← hji6,← hji7];first | rfl | (simp [errW_none,errW_some] <;> rfl)) | (simp [*,errW_none,errW_some] <;> rfl),ib⟩
 ·rw [if_neg c5] at H
  have c5b0 : (t289 == 0) = false:=beq_eq_false_iff_ne.mpr c5
  have c5b1 : (t289 != 0) = true:=bne_iff_ne.mpr c5
  obtain rfl:=Option.some.inj H
  go_enter Try.func72,Try.ntmps72
  go_wp2_with (first | ((with_reducible refine gate_dst (N:=3) rfl ?_);(try (refine gate_guard (by rfl) ?_;dsimp only));refine bx (cs:=#[.int .i64 a0_0,.int .i64 a0_1]) (t:=78) ?_;intro gb286 hg w39 hbox hb;have BK286:=Aside0.mk (hbox);have GW286:=zb hg;have GE286:=zb hg;replace HB:=sb hb;clear hb hbox hg) | ((with_reducible refine gate_dst (N:=4) rfl ?_);(try (refine gate_guard (by rfl) ?_;dsimp only));refine bx (cs:=#[.int .i64 a1_0,.int .i64 a1_1]) (t:=78) ?_;intro gb287 hg w40 hbox hb;have BK287:=Aside0.mk (hbox);have GW287:=zb hg;have GE287:=zb hg;replace HB:=sb hb;have NB286_287:=nl BK286 hg;have NB287_286:=ng BK286 hg;replace BK286:=kb BK286 hb;clear hb hbox hg) | ((with_reducible refine gate_dst (N:=5) rfl ?_);(try (refine gate_guard (by rfl) ?_;dsimp only));refine bx (cs:=#[.int .i64 a2_0,.int .i64 a2_1]) (t:=78) ?_;intro gb288 hg w41 hbox hb;have BK288:=Aside0.mk (hbox);have GW288:=zb hg;have GE288:=zb hg;replace HB:=sb hb;have NB286_288:=nl BK286 hg;have NB288_286:=ng BK286 hg;replace BK286:=kb BK286 hb;have NB287_288:=nl BK287 hg;have NB288_287:=ng BK287 hg;replace BK287:=kb BK287 hb;clear hb hbox hg;have hnb42:=NB286_287.out;have hnc42:=NB287_286.out;have hnb43:=NB286_288.out;have hnc43:=NB288_286.out;have hcz44_0:=ck BK286 0;have hcz44_1:=ck BK286 1;have hfz44_0:=blk_frozen BK286.out 0;have hfz44_1:=blk_frozen BK286.out 1;have hnb45:=NB287_288.out;have hnc45:=NB288_287.out;have hcz46_0:=ck BK287 0;have hcz46_1:=ck BK287 1;have hfz46_0:=blk_frozen BK287.out 0;have hfz46_1:=blk_frozen BK287.out 1;have hcz47_0:=ck BK288 0;have hcz47_1:=ck BK288 1;have hfz47_0:=blk_frozen BK288.out 0;have hfz47_1:=blk_frozen BK288.out 1) | ((with_reducible refine gate_callee (f:=91) rfl ?_);refine goesL_ (some 10) rfl rfl Try.func91 (by kernel_rfl) rfl #[.agg #[.int .i64 a0_0,.int .i64 a0_1],.agg #[.int .i64 a1_0,.int .i64 a1_1],.agg #[.int .i64 a2_0,.int .i64 a2_1]] rfl (by (try simp only [mT,mC,mN]);first | done | rfl | (simp only [lD,lT];rfl)) ?_;(with_reducible refine (impl_side.calls a0_0 a0_1 a1_0 a1_1 a2_0 a2_1 t289 _ A4.out).mono ?_);rintro e w48 ⟨rfl,hb⟩;refine ⟨_,rfl,?_⟩;replace BK286:=kb BK286 hb;replace BK287:=kb BK287 hb;replace BK288:=kb BK288 hb;replace HB:=sb hb;(try clear hb);(try clear hb2);(try clear hk);(try clear hi)))
  go_ret
  exact ⟨by first | rfl | (simp [errW_none,errW_some] <;> rfl) | (simp [*,errW_none,errW_some] <;> rfl),ib⟩
def impl_crossing.f (a0_0 : Int) (a0_1 : Int) (a1_0 : Int) (a1_1 : Int) (a2_0 : Int) (a2_1 : Int) (a3_0 : Int) (a3_1 : Int) : Option (Bool):=(impl_side.f a0_0 a0_1 a1_0 a1_1 a2_0 a2_1).bind fun t296 => ((impl_side.f a0_0 a0_1 a1_0 a1_1 a3_0 a3_1).bind fun t297 => (if (wrap64 (t296 * t297)) < 0 then ((impl_side.f a2_0 a2_1 a3_0 a3_1 a0_0 a0_1).bind fun t298 => ((impl_side.f a2_0 a2_1 a3_0 a3_1 a1_0 a1_1).bind fun t299 => (some (decide ((wrap64 (t298 * t299)) < 0))))) else (some false)))
def impl_crossing.T1 : Bool × List (List Nat × List Nat):=(true,[([],[]),([],[]),([],[]),([0,1,2],[0,1,2]),([],[]),([],[]),([],[]),([4,5,6,3],[4,5,6]),([3,7],[3,7]),([8],[8]),([9,7],[9]),([10],[10]),([10],[10]),([10],[10]),([11,12,13,10,10],[10,11,12,13]),([10],[10]),([10],[10]),([10],[10]),([15,16,17,14,10],[10,15,16,17]),([14,18,10],[10,14,18]),([19,10],[10,19]),([10,20],[10,20]),([21,18,0,1,2,3,4,5,6,7,8,9,10,11,12,13,14,15,16,17,18,19,20,21],[21])])
def impl_crossing.B1 : List Nat:=[0,0,0,7,0,0,0,127,255,511,1023,2047,2047,2047,16383,2047,2047,2047,262143,524287,1048575,2097151,4194303]
theorem impl_crossing.tab1 : rtab .any (opsOf Try.f92 1) = impl_crossing.T1:=by kernel_rfl
theorem impl_crossing.bits1 : waitsOk impl_crossing.T1.2 impl_crossing.B1 = true:=by kernel_rfl
theorem impl_crossing.calls (a0_0 : Int) (a0_1 : Int) (a1_0 : Int) (a1_1 : Int) (a2_0 : Int) (a2_1 : Int) (a3_0 : Int) (a3_1 : Int) (r : Bool) (w : World) (h : impl_crossing.f a0_0 a0_1 a1_0 a1_1 a2_0 a2_1 a3_0 a3_1 = some r) :
  Calls Try.prog 92 #[.agg #[.int .i64 a0_0,.int .i64 a0_1],.agg #[.int .i64 a1_0,.int .i64 a1_1],.agg #[.int .i64 a2_0,.int .i64 a2_1],.agg #[.int .i64 a3_0,.int .i64 a3_1]] w fun e w' => e = .returned (.bool r) ∧ Below w.heap.size w w':=by
 have hu78:=Try.underlying78
 have HB:=Aside0.mk (Below.refl w.heap.size w)
 have H : ((impl_side.f a0_0 a0_1 a1_0 a1_1 a2_0 a2_1).bind fun t296 => ((impl_side.f a0_0 a0_1 a1_0 a1_1 a3_0 a3_1).bind fun t297 => (if (wrap64 (t296 * t297)) < 0 then ((impl_side.f a2_0 a2_1 a3_0 a3_1 a0_0 a0_1).bind fun t298 => ((impl_side.f a2_0 a2_1 a3_0 a3_1 a1_0 a1_1).bind fun t299 => (some (decide ((wrap64 (t298 * t299)) < 0))))) else (some false)))) = some r:=h
 clear h
 replace H:=bE.mp H
 obtain ⟨t296,A50,H⟩:=H
 replace H : ((impl_side.f a0_0 a0_1 a1_0 a1_1 a3_0 a3_1).bind fun t297 => (if (wrap64 (t296 * t297)) < 0 then ((impl_side.f a2_0 a2_1 a3_0 a3_1 a0_0 a0_1).bind fun t298 => ((impl_side.f a2_0 a2_1 a3_0 a3_1 a1_0 a1_1).bind fun t299 => (some (decide ((wrap64 (t298 * t299)) < 0))))) else (some false))) = some r:=H
 have A5:=Aside0.mk A50
 clear A50
 replace H:=bE.mp H
 obtain ⟨t297,A60,H⟩:=H
 replace H : (if (wrap64 (t296 * t297)) < 0 then ((impl_side.f a2_0 a2_1 a3_0 a3_1 a0_0 a0_1).bind fun t298 => ((impl_side.f a2_0 a2_1 a3_0 a3_1 a1_0 a1_1).bind fun t299 => (some (decide ((wrap64 (t298 * t299)) < 0))))) else (some false)) = some r:=H
 have A6:=Aside0.mk A60
 clear A60
 by_cases c7 : (wrap64 (t296 * t297)) < 0
 ·rw [if_pos c7] at H
  have c7b0 : decide ((wrap64 (t296 * t297)) < 0) = true:=decide_eq_true c7
  clear c7
  replace H:=bE.mp H
  obtain ⟨t298,A80,H⟩:=H
  replace H : ((impl_side.f a2_0 a2_1 a3_0 a3_1 a1_0 a1_1).bind fun t299 => (some (decide ((wrap64 (t298 * t299)) < 0)))) = some r:=H
  have A8:=Aside0.mk A80
  clear A80
  replace H:=bE.mp H
  obtain ⟨t299,A90,H⟩:=H
  replace H : (some (decide ((wrap64 (t298 * t299)) < 0))) = some r:=H
  have A9:=Aside0.mk A90
  clear A90
  obtain rfl:=Option.some.inj H
  go_enter Try.func92,Try.ntmps92
  try go_wp2_with (first | ((with_reducible refine gate_dst (N:=4) rfl ?_);refine bx (cs:=#[.int .i64 a0_0,.int .i64 a0_1]) (t:=78) ?_;intro gb292 hg w10 hbox hb;have BK292:=Aside0.mk (hbox);have GW292:=zb hg;have GE292:=zb hg;replace HB:=sb hb;clear hb hbox hg) | ((with_reducible refine gate_dst (N:=5) rfl ?_);refine bx (cs:=#[.int .i64 a1_0,.int .i64 a1_1]) (t:=78) ?_;intro gb293 hg w11 hbox hb;have BK293:=Aside0.mk (hbox);have GW293:=zb hg;have GE293:=zb hg;replace HB:=sb hb;have NB292_293:=nl BK292 hg;have NB293_292:=ng BK292 hg;replace BK292:=kb BK292 hb;clear hb hbox hg) | ((with_reducible refine gate_dst (N:=6) rfl ?_);refine bx (cs:=#[.int .i64 a2_0,.int .i64 a2_1]) (t:=78) ?_;intro gb294 hg w12 hbox hb;have BK294:=Aside0.mk (hbox);have GW294:=zb hg;have GE294:=zb hg;replace HB:=sb hb;have NB292_294:=nl BK292 hg;have NB294_292:=ng BK292 hg;replace BK292:=kb BK292 hb;have NB293_294:=nl BK293 hg;have NB294_293:=ng BK293 hg;replace BK293:=kb BK293 hb;clear hb hbox hg) | ((with_reducible refine gate_dst (N:=7) rfl ?_);refine bx (cs:=#[.int .i64 a3_0,.int .i64 a3_1]) (t:=78) ?_;intro gb295 hg w13 hbox hb;have BK295:=Aside0.mk (hbox);have GW295:=zb hg;have GE295:=zb hg;replace HB:=sb hb;have NB292_295:=nl BK292 hg;have NB295_292:=ng BK292 hg;replace BK292:=kb BK292 hb;have NB293_295:=nl BK293 hg;have NB295_293:=ng BK293 hg;replace BK293:=kb BK293 hb;have NB294_295:=nl BK294 hg;have NB295_294:=ng BK294 hg;replace BK294:=kb BK294 hb;clear hb hbox hg))
  replace BK292:=Aside0.mk (blk_drew BK292.out)
  replace BK293:=Aside0.mk (blk_drew BK293.out)
  replace BK294:=Aside0.mk (blk_drew BK294.out)
  replace BK295:=Aside0.mk (blk_drew BK295.out)
  replace HB:=Aside0.mk (below_drew1 HB.out)
  refine start_ (n:=23) (S:=fun w' => w'.cell? ⟨gb292,0,none⟩ = some (.int .i64 a0_0) ∧ w'.cell? ⟨gb292,1,none⟩ = some (.int .i64 a0_1) ∧ w'.cell? ⟨gb293,0,none⟩ = some (.int .i64 a1_0) ∧ w'.cell? ⟨gb293,1,none⟩ = some (.int .i64 a1_1) ∧ w'.cell? ⟨gb294,0,none⟩ = some (.int .i64 a2_0) ∧ w'.cell? ⟨gb294,1,none⟩ = some (.int .i64 a2_1) ∧ w'.cell? ⟨gb295,0,none⟩ = some (.int .i64 a3_0) ∧ w'.cell? ⟨gb295,1,none⟩ = some (.int .i64 a3_1)) (ds:=[]) #[fF,fF,fF,fF,fF,fF,fF,fF,fF,fF,fF,fF,fF,fF,fF,fF,fF,fF,fF,fF,fF,fF,fF] (by kernel_rfl) rfl rfl ⟨(blk_cell BK292.out 0).trans rfl,(blk_cell BK292.out 1).trans rfl,(blk_cell BK293.out 0).trans rfl,(blk_cell BK293.out 1).trans rfl,(blk_cell BK294.out 0).trans rfl,(blk_cell BK294.out 1).trans rfl,(blk_cell BK295.out 0).trans rfl,(blk_cell BK295.out 1).trans rfl⟩ (fun hHeld => ?_);refine with_tabW impl_crossing.tab1 impl_crossing.bits1 (fun HT_ HW_ => ?_)
  generalize w13.drew = w14 at BK292 BK293 BK294 BK295 HB hHeld ⊢
  refine tk 0 9 HT_ HW_ hHeld ?_
  refine tk 1 10 HT_ HW_ hHeld ?_
  refine tk 2 11 HT_ HW_ hHeld ?_
  refine tk 4 13 HT_ HW_ hHeld ?_
  refine tk 5 14 HT_ HW_ hHeld ?_
  refine tk 6 15 HT_ HW_ hHeld ?_
  refine on 3 12 HT_ (fun K hK => ?_)
  refine goes_ Try.func91 (by kernel_rfl) rfl #[.agg #[.int .i64 a0_0,.int .i64 a0_1],.agg #[.int .i64 a1_0,.int .i64 a1_1],.agg #[.int .i64 a2_0,.int .i64 a2_1]] (by rfl) rfl rfl (by (try simp only [mT,mC,mN]);first | done | rfl | (simp only [lD,lT];rfl)) ?_
  with_reducible refine (impl_side.calls a0_0 a0_1 a1_0 a1_1 a2_0 a2_1 t296 _ A5.out).mono ?_
  rintro e w15 ⟨rfl,hb⟩
  refine ⟨_,rfl,?_⟩
  replace BK292:=kb BK292 hb
  replace BK293:=kb BK293 hb
  replace BK294:=kb BK294 hb
  replace BK295:=kb BK295 hb
  replace HB:=sb hb
  (try clear hb)
  (try clear hb2)
  (try clear hk)
  (try clear hi)
  refine hK.out _ _ ⟨(blk_cell BK292.out 0).trans rfl,(blk_cell BK292.out 1).trans rfl,(blk_cell BK293.out 0).trans rfl,(blk_cell BK293.out 1).trans rfl,(blk_cell BK294.out 0).trans rfl,(blk_cell BK294.out 1).trans rfl,(blk_cell BK295.out 0).trans rfl,(blk_cell BK295.out 1).trans rfl⟩ (fun hHeld => ?_)
  clear hK K
  refine norm_ (a':=?_) ?_ ?_
  rotate_left
  ·show Act.put _ (some 12) _ = _
   simp only [Act.put,iT,sZ,sC,i64_w,i32_w]
   rfl
  refine on 7 16 HT_ (fun K hK => ?_)
  refine goes_ Try.func91 (by kernel_rfl) rfl #[.agg #[.int .i64 a0_0,.int .i64 a0_1],.agg #[.int .i64 a1_0,.int .i64 a1_1],.agg #[.int .i64 a3_0,.int .i64 a3_1]] (by rfl) rfl rfl (by (try simp only [mT,mC,mN]);first | done | rfl | (simp only [lD,lT];rfl)) ?_
  with_reducible refine (impl_side.calls a0_0 a0_1 a1_0 a1_1 a3_0 a3_1 t297 _ A6.out).mono ?_
  rintro e w16 ⟨rfl,hb⟩
  refine ⟨_,rfl,?_⟩
  replace BK292:=kb BK292 hb
  replace BK293:=kb BK293 hb
  replace BK294:=kb BK294 hb
  replace BK295:=kb BK295 hb
  replace HB:=sb hb
  (try clear hb)
  (try clear hb2)
  (try clear hk)
  (try clear hi)
  refine hK.out _ _ ⟨(blk_cell BK292.out 0).trans rfl,(blk_cell BK292.out 1).trans rfl,(blk_cell BK293.out 0).trans rfl,(blk_cell BK293.out 1).trans rfl,(blk_cell BK294.out 0).trans rfl,(blk_cell BK294.out 1).trans rfl,(blk_cell BK295.out 0).trans rfl,(blk_cell BK295.out 1).trans rfl⟩ (fun hHeld => ?_)
  clear hK K
  refine norm_ (a':=?_) ?_ ?_
  rotate_left
  ·show Act.put _ (some 16) _ = _
   simp only [Act.put,iT,sZ,sC,i64_w,i32_w]
   rfl
  refine pu 8 17 HT_ ?_
  refine pu 9 18 HT_ ?_
  refine pu 10 19 HT_ ?_
  refine tk 11 20 HT_ HW_ hHeld ?_
  refine tk 12 21 HT_ HW_ hHeld ?_
  refine tk 13 22 HT_ HW_ hHeld ?_
  refine tk 15 24 HT_ HW_ hHeld ?_
  refine tk 16 25 HT_ HW_ hHeld ?_
  refine tk 17 26 HT_ HW_ hHeld ?_
  refine on 14 23 HT_ (fun K hK => ?_)
  refine goes_ Try.func91 (by kernel_rfl) rfl #[.agg #[.int .i64 a2_0,.int .i64 a2_1],.agg #[.int .i64 a3_0,.int .i64 a3_1],.agg #[.int .i64 a0_0,.int .i64 a0_1]] (by rfl) rfl rfl (by (try simp only [mT,mC,mN]);first | done | rfl | (simp only [lD,lT];rfl)) ?_
  with_reducible refine (impl_side.calls a2_0 a2_1 a3_0 a3_1 a0_0 a0_1 t298 _ A8.out).mono ?_
  rintro e w17 ⟨rfl,hb⟩
  refine ⟨_,rfl,?_⟩
  replace BK292:=kb BK292 hb
  replace BK293:=kb BK293 hb
  replace BK294:=kb BK294 hb
  replace BK295:=kb BK295 hb
  replace HB:=sb hb
  (try clear hb)
  (try clear hb2)
  (try clear hk)
  (try clear hi)
  refine hK.out _ _ ⟨(blk_cell BK292.out 0).trans rfl,(blk_cell BK292.out 1).trans rfl,(blk_cell BK293.out 0).trans rfl,(blk_cell BK293.out 1).trans rfl,(blk_cell BK294.out 0).trans rfl,(blk_cell BK294.out 1).trans rfl,(blk_cell BK295.out 0).trans rfl,(blk_cell BK295.out 1).trans rfl⟩ (fun hHeld => ?_)
  clear hK K
  refine norm_ (a':=?_) ?_ ?_
  rotate_left
  ·show Act.put _ (some 23) _ = _
   simp only [Act.put,iT,sZ,sC,i64_w,i32_w]
   rfl
  refine on 18 27 HT_ (fun K hK => ?_)
  refine goes_ Try.func91 (by kernel_rfl) rfl #[.agg #[.int .i64 a2_0,.int .i64 a2_1],.agg #[.int .i64 a3_0,.int .i64 a3_1],.agg #[.int .i64 a1_0,.int .i64 a1_1]] (by rfl) rfl rfl (by (try simp only [mT,mC,mN]);first | done | rfl | (simp only [lD,lT];rfl)) ?_
  with_reducible refine (impl_side.calls a2_0 a2_1 a3_0 a3_1 a1_0 a1_1 t299 _ A9.out).mono ?_
  rintro e w18 ⟨rfl,hb⟩
  refine ⟨_,rfl,?_⟩
  replace BK292:=kb BK292 hb
  replace BK293:=kb BK293 hb
  replace BK294:=kb BK294 hb
  replace BK295:=kb BK295 hb
  replace HB:=sb hb
  (try clear hb)
  (try clear hb2)
  (try clear hk)
  (try clear hi)
  refine hK.out _ _ ⟨(blk_cell BK292.out 0).trans rfl,(blk_cell BK292.out 1).trans rfl,(blk_cell BK293.out 0).trans rfl,(blk_cell BK293.out 1).trans rfl,(blk_cell BK294.out 0).trans rfl,(blk_cell BK294.out 1).trans rfl,(blk_cell BK295.out 0).trans rfl,(blk_cell BK295.out 1).trans rfl⟩ (fun hHeld => ?_)
  clear hK K
  refine norm_ (a':=?_) ?_ ?_
  rotate_left
  ·show Act.put _ (some 27) _ = _
   simp only [Act.put,iT,sZ,sC,i64_w,i32_w]
   rfl
  refine pu 19 28 HT_ ?_
  refine pu 20 29 HT_ ?_
  refine pu 21 30 HT_ ?_
  refine pu 22 8 HT_ ?_
  refine done_ (done_of HT_.out (by kernel_rfl)) ?_
  try go_wp2
  go_ret
  exact ⟨by first | rfl | (simp [errW_none,errW_some] <;> rfl) | (simp [*,errW_none,errW_some] <;> rfl),ib⟩
 ·rw [if_neg c7] at H
  have c7b0 : decide ((wrap64 (t296 * t297)) < 0) = false:=decide_eq_false c7
  clear c7
  obtain rfl:=Option.some.inj H
  go_enter Try.func92,Try.ntmps92
  try go_wp2_with (first | ((with_reducible refine gate_dst (N:=4) rfl ?_);refine bx (cs:=#[.int .i64 a0_0,.int .i64 a0_1]) (t:=78) ?_;intro gb292 hg w19 hbox hb;have BK292:=Aside0.mk (hbox);have GW292:=zb hg;have GE292:=zb hg;replace HB:=sb hb;clear hb hbox hg) | ((with_reducible refine gate_dst (N:=5) rfl ?_);refine bx (cs:=#[.int .i64 a1_0,.int .i64 a1_1]) (t:=78) ?_;intro gb293 hg w20 hbox hb;have BK293:=Aside0.mk (hbox);have GW293:=zb hg;have GE293:=zb hg;replace HB:=sb hb;have NB292_293:=nl BK292 hg;have NB293_292:=ng BK292 hg;replace BK292:=kb BK292 hb;clear hb hbox hg) | ((with_reducible refine gate_dst (N:=6) rfl ?_);refine bx (cs:=#[.int .i64 a2_0,.int .i64 a2_1]) (t:=78) ?_;intro gb294 hg w21 hbox hb;have BK294:=Aside0.mk (hbox);have GW294:=zb hg;have GE294:=zb hg;replace HB:=sb hb;have NB292_294:=nl BK292 hg;have NB294_292:=ng BK292 hg;replace BK292:=kb BK292 hb;have NB293_294:=nl BK293 hg;have NB294_293:=ng BK293 hg;replace BK293:=kb BK293 hb;clear hb hbox hg) | ((with_reducible refine gate_dst (N:=7) rfl ?_);refine bx (cs:=#[.int .i64 a3_0,.int .i64 a3_1]) (t:=78) ?_;intro gb295 hg w22 hbox hb;have BK295:=Aside0.mk (hbox);have GW295:=zb hg;have GE295:=zb hg;replace HB:=sb hb;have NB292_295:=nl BK292 hg;have NB295_292:=ng BK292 hg;replace BK292:=kb BK292 hb;have NB293_295:=nl BK293 hg;have NB295_293:=ng BK293 hg;replace BK293:=kb BK293 hb;have NB294_295:=nl BK294 hg;have NB295_294:=ng BK294 hg;replace BK294:=kb BK294 hb;clear hb hbox hg))
  replace BK292:=Aside0.mk (blk_drew BK292.out)
  replace BK293:=Aside0.mk (blk_drew BK293.out)
  replace BK294:=Aside0.mk (blk_drew BK294.out)
  replace BK295:=Aside0.mk (blk_drew BK295.out)
  replace HB:=Aside0.mk (below_drew1 HB.out)
  refine start_ (n:=23) (S:=fun w' => w'.cell? ⟨gb292,0,none⟩ = some (.int .i64 a0_0) ∧ w'.cell? ⟨gb292,1,none⟩ = some (.int .i64 a0_1) ∧ w'.cell? ⟨gb293,0,none⟩ = some (.int .i64 a1_0) ∧ w'.cell? ⟨gb293,1,none⟩ = some (.int .i64 a1_1) ∧ w'.cell? ⟨gb294,0,none⟩ = some (.int .i64 a2_0) ∧ w'.cell? ⟨gb294,1,none⟩ = some (.int .i64 a2_1) ∧ w'.cell? ⟨gb295,0,none⟩ = some (.int .i64 a3_0) ∧ w'.cell? ⟨gb295,1,none⟩ = some (.int .i64 a3_1)) (ds:=[]) #[fF,fF,fF,fF,fF,fF,fF,fF,fF,fF,fF,fF,fF,fF,fF,fF,fF,fF,fF,fF,fF,fF,fF] (by kernel_rfl) rfl rfl ⟨(blk_cell BK292.out 0).trans rfl,(blk_cell BK292.out 1).trans rfl,(blk_cell BK293.out 0).trans rfl,(blk_cell BK293.out 1).trans rfl,(blk_cell BK294.out 0).trans rfl,(blk_cell BK294.out 1).trans rfl,(blk_cell BK295.out 0).trans rfl,(blk_cell BK295.out 1).trans rfl⟩ (fun hHeld => ?_);refine with_tabW impl_crossing.tab1 impl_crossing.bits1 (fun HT_ HW_ => ?_)
  generalize w22.drew = w23 at BK292 BK293 BK294 BK295 HB hHeld ⊢
  refine tk 0 9 HT_ HW_ hHeld ?_
  refine tk 1 10 HT_ HW_ hHeld ?_
  refine tk 2 11 HT_ HW_ hHeld ?_
  refine tk 4 13 HT_ HW_ hHeld ?_
  refine tk 5 14 HT_ HW_ hHeld ?_
  refine tk 6 15 HT_ HW_ hHeld ?_
  refine on 3 12 HT_ (fun K hK => ?_)
  refine goes_ Try.func91 (by kernel_rfl) rfl #[.agg #[.int .i64 a0_0,.int .i64 a0_1],.agg #[.int .i64 a1_0,.int .i64 a1_1],.agg #[.int .i64 a2_0,.int .i64 a2_1]] (by rfl) rfl rfl (by (try simp only [mT,mC,mN]);first | done | rfl | (simp only [lD,lT];rfl)) ?_
  with_reducible refine (impl_side.calls a0_0 a0_1 a1_0 a1_1 a2_0 a2_1 t296 _ A5.out).mono ?_
  rintro e w24 ⟨rfl,hb⟩
  refine ⟨_,rfl,?_⟩
  replace BK292:=kb BK292 hb
  replace BK293:=kb BK293 hb
  replace BK294:=kb BK294 hb
  replace BK295:=kb BK295 hb
  replace HB:=sb hb
  (try clear hb)
  (try clear hb2)
  (try clear hk)
  (try clear hi)
  refine hK.out _ _ ⟨(blk_cell BK292.out 0).trans rfl,(blk_cell BK292.out 1).trans rfl,(blk_cell BK293.out 0).trans rfl,(blk_cell BK293.out 1).trans rfl,(blk_cell BK294.out 0).trans rfl,(blk_cell BK294.out 1).trans rfl,(blk_cell BK295.out 0).trans rfl,(blk_cell BK295.out 1).trans rfl⟩ (fun hHeld => ?_)
  clear hK K
  refine norm_ (a':=?_) ?_ ?_
  rotate_left
  ·show Act.put _ (some 12) _ = _
   simp only [Act.put,iT,sZ,sC,i64_w,i32_w]
   rfl
  refine on 7 16 HT_ (fun K hK => ?_)
  refine goes_ Try.func91 (by kernel_rfl) rfl #[.agg #[.int .i64 a0_0,.int .i64 a0_1],.agg #[.int .i64 a1_0,.int .i64 a1_1],.agg #[.int .i64 a3_0,.int .i64 a3_1]] (by rfl) rfl rfl (by (try simp only [mT,mC,mN]);first | done | rfl | (simp only [lD,lT];rfl)) ?_
  with_reducible refine (impl_side.calls a0_0 a0_1 a1_0 a1_1 a3_0 a3_1 t297 _ A6.out).mono ?_
  rintro e w25 ⟨rfl,hb⟩
  refine ⟨_,rfl,?_⟩
  replace BK292:=kb BK292 hb
  replace BK293:=kb BK293 hb
  replace BK294:=kb BK294 hb
  replace BK295:=kb BK295 hb
  replace HB:=sb hb
  (try clear hb)
  (try clear hb2)
  (try clear hk)
  (try clear hi)
  refine hK.out _ _ ⟨(blk_cell BK292.out 0).trans rfl,(blk_cell BK292.out 1).trans rfl,(blk_cell BK293.out 0).trans rfl,(blk_cell BK293.out 1).trans rfl,(blk_cell BK294.out 0).trans rfl,(blk_cell BK294.out 1).trans rfl,(blk_cell BK295.out 0).trans rfl,(blk_cell BK295.out 1).trans rfl⟩ (fun hHeld => ?_)
  clear hK K
  refine norm_ (a':=?_) ?_ ?_
  rotate_left
  ·show Act.put _ (some 16) _ = _
   simp only [Act.put,iT,sZ,sC,i64_w,i32_w]
   rfl
  refine pu 8 17 HT_ ?_
  refine pu 9 18 HT_ ?_
  refine pu 10 19 HT_ ?_
  refine pd 11 20 HT_ ?_
  refine pd 12 21 HT_ ?_
  refine pd 13 22 HT_ ?_
  refine pd 14 23 HT_ ?_
  refine pd 15 24 HT_ ?_
  refine pd 16 25 HT_ ?_
  refine pd 17 26 HT_ ?_
  refine pd 18 27 HT_ ?_
  refine pd 19 28 HT_ ?_
  refine pd 20 29 HT_ ?_
  refine pu 21 30 HT_ ?_
  refine pu 22 8 HT_ ?_
  refine done_ (done_of HT_.out (by kernel_rfl)) ?_
  try go_wp2
  go_ret
  exact ⟨by first | rfl | (simp [errW_none,errW_some] <;> rfl) | (simp [*,errW_none,errW_some] <;> rfl),ib⟩
end Go.Proofs.Ytpeebobdbaemiaa.PFnExactNeighboursOf
