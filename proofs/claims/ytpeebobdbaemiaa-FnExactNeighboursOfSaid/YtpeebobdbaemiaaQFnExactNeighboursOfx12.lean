/- Contracts of functions that FnExactNeighboursOf reaches, out of the lines of the kit's print. -/
import Derived.Test.YtpeebobdbaemiaaQFnExactNeighboursOfx0
import Derived.Test.YtpeebobdbaemiaaQFnExactNeighboursOfx11
namespace Go.Proofs.Ytpeebobdbaemiaa.PFnExactNeighboursOf
set_option maxHeartbeats 8000000
set_option maxRecDepth 100000
open Go.RowKit Go.Proofs.YtpeebobdbaemiaaW.PrintWords Go.Proofs.YtpeebobdbaemiaaW.PrintLast Go.Proofs.YtpeebobdbaemiaaW.PrintMore
open Bool renaming true → tT, false → fF
open Go.World renaming block_lt_of_cell? → bL
open List renaming length_take → lT, length_drop → lD, map_toArray → mT, map_cons → mC, map_nil → mN
open Option renaming bind_eq_some_iff → bE
attribute [local go_sem] max2_int min2_int max_two min_two max_three min_three max_four min_four
set_option linter.unusedVariables false
set_option linter.unusedSimpArgs false
def impl_touching.f (a0_0 : Int) (a0_1 : Int) (a1_0 : Int) (a1_1 : Int) (a2_0 : Int) (a2_1 : Int) (a3_0 : Int) (a3_1 : Int) : Option (Bool):=(impl_crossing.f a0_0 a0_1 a1_0 a1_1 a2_0 a2_1 a3_0 a3_1).bind fun t304 => (if t304 = true then (some true) else ((impl_on.f a0_0 a0_1 a1_0 a1_1 a2_0 a2_1).bind fun t305 => (if t305 = true then (some true) else ((impl_on.f a0_0 a0_1 a1_0 a1_1 a3_0 a3_1).bind fun t306 => (if t306 = true then (some true) else ((impl_on.f a2_0 a2_1 a3_0 a3_1 a0_0 a0_1).bind fun t307 => (if t307 = true then (some true) else ((impl_on.f a2_0 a2_1 a3_0 a3_1 a1_0 a1_1).bind fun t308 => (some t308)))))))))
theorem impl_touching.calls (a0_0 : Int) (a0_1 : Int) (a1_0 : Int) (a1_1 : Int) (a2_0 : Int) (a2_1 : Int) (a3_0 : Int) (a3_1 : Int) (r : Bool) (w : World) (h : impl_touching.f a0_0 a0_1 a1_0 a1_1 a2_0 a2_1 a3_0 a3_1 = some r) :
  Calls Try.prog 73 #[.agg #[.int .i64 a0_0,.int .i64 a0_1],.agg #[.int .i64 a1_0,.int .i64 a1_1],.agg #[.int .i64 a2_0,.int .i64 a2_1],.agg #[.int .i64 a3_0,.int .i64 a3_1]] w fun e w' => e = .returned (.bool r) ∧ Below w.heap.size w w':=by
 have hu78:=Try.underlying78
 have HB:=Aside0.mk (Below.refl w.heap.size w)
 have H : ((impl_crossing.f a0_0 a0_1 a1_0 a1_1 a2_0 a2_1 a3_0 a3_1).bind fun t304 => (if t304 = true then (some true) else ((impl_on.f a0_0 a0_1 a1_0 a1_1 a2_0 a2_1).bind fun t305 => (if t305 = true then (some true) else ((impl_on.f a0_0 a0_1 a1_0 a1_1 a3_0 a3_1).bind fun t306 => (if t306 = true then (some true) else ((impl_on.f a2_0 a2_1 a3_0 a3_1 a0_0 a0_1).bind fun t307 => (if t307 = true then (some true) else ((impl_on.f a2_0 a2_1 a3_0 a3_1 a1_0 a1_1).bind fun t308 => (some t308)))))))))) = some r:=h
 clear h
 replace H:=bE.mp H
 obtain ⟨t304,A50,H⟩:=H
 replace H : (if t304 = true then (some true) else ((impl_on.f a0_0 a0_1 a1_0 a1_1 a2_0 a2_1).bind fun t305 => (if t305 = true then (some true) else ((impl_on.f a0_0 a0_1 a1_0 a1_1 a3_0 a3_1).bind fun t306 => (if t306 = true then (some true) else ((impl_on.f a2_0 a2_1 a3_0 a3_1 a0_0 a0_1).bind fun t307 => (if t307 = true then (some true) else ((impl_on.f a2_0 a2_1 a3_0 a3_1 a1_0 a1_1).bind fun t308 => (some t308))))))))) = some r:=H
 have A5:=Aside0.mk A50
 clear A50
 by_cases c6 : t304 = true
 ·subst c6
  have H1 : (some true) = some r:=by rw [if_pos rfl] at H;exact H
  clear H
  have H:=H1
  clear H1
  obtain rfl:=Option.some.inj H
  go_enter Try.func73,Try.ntmps73
  go_wp2_with (first | ((with_reducible refine gate_dst (N:=4) rfl ?_);refine bx (cs:=#[.int .i64 a0_0,.int .i64 a0_1]) (t:=78) ?_;intro gb300 hg w7 hbox hb;have BK300:=Aside0.mk (hbox);have GW300:=zb hg;have GE300:=zb hg;replace HB:=sb hb;clear hb hbox hg) | ((with_reducible refine gate_dst (N:=5) rfl ?_);refine bx (cs:=#[.int .i64 a1_0,.int .i64 a1_1]) (t:=78) ?_;intro gb301 hg w8 hbox hb;have BK301:=Aside0.mk (hbox);have GW301:=zb hg;have GE301:=zb hg;replace HB:=sb hb;have NB300_301:=nl BK300 hg;have NB301_300:=ng BK300 hg;replace BK300:=kb BK300 hb;clear hb hbox hg) | ((with_reducible refine gate_dst (N:=6) rfl ?_);refine bx (cs:=#[.int .i64 a2_0,.int .i64 a2_1]) (t:=78) ?_;intro gb302 hg w9 hbox hb;have BK302:=Aside0.mk (hbox);have GW302:=zb hg;have GE302:=zb hg;replace HB:=sb hb;have NB300_302:=nl BK300 hg;have NB302_300:=ng BK300 hg;replace BK300:=kb BK300 hb;have NB301_302:=nl BK301 hg;have NB302_301:=ng BK301 hg;replace BK301:=kb BK301 hb;clear hb hbox hg) | ((with_reducible refine gate_dst (N:=7) rfl ?_);refine bx (cs:=#[.int .i64 a3_0,.int .i64 a3_1]) (t:=78) ?_;intro gb303 hg w10 hbox hb;have BK303:=Aside0.mk (hbox);have GW303:=zb hg;have GE303:=zb hg;replace HB:=sb hb;have NB300_303:=nl BK300 hg;have NB303_300:=ng BK300 hg;replace BK300:=kb BK300 hb;have NB301_303:=nl BK301 hg;have NB303_301:=ng BK301 hg;replace BK301:=kb BK301 hb;have NB302_303:=nl BK302 hg;have NB303_302:=ng BK302 hg;replace BK302:=kb BK302 hb;clear hb hbox hg;have hnb11:=NB300_301.out;have hnc11:=NB301_300.out;have hnb12:=NB300_302.out;have hnc12:=NB302_300.out;have hnb13:=NB300_303.out;have hnc13:=NB303_300.out;have hcz14_0:=ck BK300 0;have hcz14_1:=ck BK300 1;have hfz14_0:=blk_frozen BK300.out 0;have hfz14_1:=blk_frozen BK300.out 1;have hnb15:=NB301_302.out;have hnc15:=NB302_301.out;have hnb16:=NB301_303.out;have hnc16:=NB303_301.out;have hcz17_0:=ck BK301 0;have hcz17_1:=ck BK301 1;have hfz17_0:=blk_frozen BK301.out 0;have hfz17_1:=blk_frozen BK301.out 1;have hnb18:=NB302_303.out;have hnc18:=NB303_302.out;have hcz19_0:=ck BK302 0;have hcz19_1:=ck BK302 1;have hfz19_0:=blk_frozen BK302.out 0;have hfz19_1:=blk_frozen BK302.out 1;have hcz20_0:=ck BK303 0;have hcz20_1:=ck BK303 1;have hfz20_0:=blk_frozen BK303.out 0;have hfz20_1:=blk_frozen BK303.out 1) | ((with_reducible refine gate_callee (f:=92) rfl ?_);refine goesL_ (some 13) rfl rfl Try.func92 (by kernel_rfl) rfl #[.agg #[.int .i64 a0_0,.int .i64 a0_1],.agg #[.int .i64 a1_0,.int .i64 a1_1],.agg #[.int .i64 a2_0,.int .i64 a2_1],.agg #[.int .i64 a3_0,.int .i64 a3_1]] rfl (by (try simp only [mT,mC,mN]);first | done | rfl | (simp only [lD,lT];rfl)) ?_;(with_reducible refine (impl_crossing.calls a0_0 a0_1 a1_0 a1_1 a2_0 a2_1 a3_0 a3_1 true _ A5.out).mono ?_);rintro e w21 ⟨rfl,hb⟩;refine ⟨_,rfl,?_⟩;replace BK300:=kb BK300 hb;replace BK301:=kb BK301 hb;replace BK302:=kb BK302 hb;replace BK303:=kb BK303 hb;replace HB:=sb hb;(try clear hb);(try clear hb2);(try clear hk);(try clear hi)))
  go_ret
  exact ⟨by first | rfl | (simp [errW_none,errW_some] <;> rfl) | (simp [*,errW_none,errW_some] <;> rfl),ib⟩
 ·replace c6:=Bool.eq_false_iff.mpr c6
  subst c6
  have H1 : ((impl_on.f a0_0 a0_1 a1_0 a1_1 a2_0 a2_1).bind fun t305 => (if t305 = true then (some true) else ((impl_on.f a0_0 a0_1 a1_0 a1_1 a3_0 a3_1).bind fun t306 => (if t306 = true then (some true) else ((impl_on.f a2_0 a2_1 a3_0 a3_1 a0_0 a0_1).bind fun t307 => (if t307 = true then (some true) else ((impl_on.f a2_0 a2_1 a3_0 a3_1 a1_0 a1_1).bind fun t308 => (some t308)))))))) = some r:=by rw [if_neg (show ¬ (false = true) by decide)] at H;exact H
  clear H
  have H:=H1
  clear H1
  replace H:=bE.mp H
  obtain ⟨t305,A220,H⟩:=H
  replace H : (if t305 = true then (some true) else ((impl_on.f a0_0 a0_1 a1_0 a1_1 a3_0 a3_1).bind fun t306 => (if t306 = true then (some true) else ((impl_on.f a2_0 a2_1 a3_0 a3_1 a0_0 a0_1).bind fun t307 => (if t307 = true then (some true) else ((impl_on.f a2_0 a2_1 a3_0 a3_1 a1_0 a1_1).bind fun t308 => (some t308))))))) = some r:=H
  have A22:=Aside0.mk A220
  clear A220
  by_cases c23 : t305 = true
  ·subst c23
   have H1 : (some true) = some r:=by rw [if_pos rfl] at H;exact H
   clear H
   have H:=H1
   clear H1
   obtain rfl:=Option.some.inj H
   go_enter Try.func73,Try.ntmps73
   go_wp2_with (first | ((with_reducible refine gate_dst (N:=4) rfl ?_);refine bx (cs:=#[.int .i64 a0_0,.int .i64 a0_1]) (t:=78) ?_;intro gb300 hg w24 hbox hb;have BK300:=Aside0.mk (hbox);have GW300:=zb hg;have GE300:=zb hg;replace HB:=sb hb;clear hb hbox hg) | ((with_reducible refine gate_dst (N:=5) rfl ?_);refine bx (cs:=#[.int .i64 a1_0,.int .i64 a1_1]) (t:=78) ?_;intro gb301 hg w25 hbox hb;have BK301:=Aside0.mk (hbox);have GW301:=zb hg;have GE301:=zb hg;replace HB:=sb hb;have NB300_301:=nl BK300 hg;have NB301_300:=ng BK300 hg;replace BK300:=kb BK300 hb;clear hb hbox hg) | ((with_reducible refine gate_dst (N:=6) rfl ?_);refine bx (cs:=#[.int .i64 a2_0,.int .i64 a2_1]) (t:=78) ?_;intro gb302 hg w26 hbox hb;have BK302:=Aside0.mk (hbox);have GW302:=zb hg;have GE302:=zb hg;replace HB:=sb hb;have NB300_302:=nl BK300 hg;have NB302_300:=ng BK300 hg;replace BK300:=kb BK300 hb;have NB301_302:=nl BK301 hg;have NB302_301:=ng BK301 hg;replace BK301:=kb BK301 hb;clear hb hbox hg) | ((with_reducible refine gate_dst (N:=7) rfl ?_);refine bx (cs:=#[.int .i64 a3_0,.int .i64 a3_1]) (t:=78) ?_;intro gb303 hg w27 hbox hb;have BK303:=Aside0.mk (hbox);have GW303:=zb hg;have GE303:=zb hg;replace HB:=sb hb;have NB300_303:=nl BK300 hg;have NB303_300:=ng BK300 hg;replace BK300:=kb BK300 hb;have NB301_303:=nl BK301 hg;have NB303_301:=ng BK301 hg;replace BK301:=kb BK301 hb;have NB302_303:=nl BK302 hg;have NB303_302:=ng BK302 hg;replace BK302:=kb BK302 hb;clear hb hbox hg;have hnb28:=NB300_301.out;have hnc28:=NB301_300.out;have hnb29:=NB300_302.out;have hnc29:=NB302_300.out;have hnb30:=NB300_303.out;have hnc30:=NB303_300.out;have hcz31_0:=ck BK300 0;have hcz31_1:=ck BK300 1;have hfz31_0:=blk_frozen BK300.out 0;have hfz31_1:=blk_frozen BK300.out 1;have hnb32:=NB301_302.out;have hnc32:=NB302_301.out;have hnb33:=NB301_303.out;have hnc33:=NB303_301.out;have hcz34_0:=ck BK301 0;have hcz34_1:=ck BK301 1;have hfz34_0:=blk_frozen BK301.out 0;have hfz34_1:=blk_frozen BK301.out 1;have hnb35:=NB302_303.out;have hnc35:=NB303_302.out;have hcz36_0:=ck BK302 0;have hcz36_1:=ck BK302 1;have hfz36_0:=blk_frozen BK302.out 0;have hfz36_1:=blk_frozen BK302.out 1;have hcz37_0:=ck BK303 0;have hcz37_1:=ck BK303 1;have hfz37_0:=blk_frozen BK303.out 0;have hfz37_1:=blk_frozen BK303.out 1) | ((with_reducible refine gate_callee (f:=92) rfl ?_);refine goesL_ (some 13) rfl rfl Try.func92 (by kernel_rfl) rfl #[.agg #[.int .i64 a0_0,.int .i64 a0_1],.agg #[.int .i64 a1_0,.int .i64 a1_1],.agg #[.int .i64 a2_0,.int .i64 a2_1],.agg #[.int .i64 a3_0,.int .i64 a3_1]] rfl (by (try simp only [mT,mC,mN]);first | done | rfl | (simp only [lD,lT];rfl)) ?_;(with_reducible refine (impl_crossing.calls a0_0 a0_1 a1_0 a1_1 a2_0 a2_1 a3_0 a3_1 false _ A5.out).mono ?_);rintro e w38 ⟨rfl,hb⟩;refine ⟨_,rfl,?_⟩;replace BK300:=kb BK300 hb;replace BK301:=kb BK301 hb;replace BK302:=kb BK302 hb;replace BK303:=kb BK303 hb;replace HB:=sb hb;(try clear hb);(try clear hb2);(try clear hk);(try clear hi);have hcz39_0:=ck BK300 0;have hcz39_1:=ck BK300 1;have hfz39_0:=blk_frozen BK300.out 0;have hfz39_1:=blk_frozen BK300.out 1;have hcz40_0:=ck BK301 0;have hcz40_1:=ck BK301 1;have hfz40_0:=blk_frozen BK301.out 0;have hfz40_1:=blk_frozen BK301.out 1;have hcz41_0:=ck BK302 0;have hcz41_1:=ck BK302 1;have hfz41_0:=blk_frozen BK302.out 0;have hfz41_1:=blk_frozen BK302.out 1) | (go_at_call 72;(with_reducible refine (impl_on.calls a0_0 a0_1 a1_0 a1_1 a2_0 a2_1 true _ A22.out).mono ?_);rintro e w42 ⟨rfl,hb⟩;replace BK300:=kb BK300 hb;replace BK301:=kb BK301 hb;replace BK302:=kb BK302 hb;replace BK303:=kb BK303 hb;replace HB:=sb hb;(try clear hb);(try clear hb2);(try clear hk);(try clear hi)))
   go_ret
   exact ⟨by first | rfl | (simp [errW_none,errW_some] <;> rfl) | (simp [*,errW_none,errW_some] <;> rfl),ib⟩
  ·replace c23:=Bool.eq_false_iff.mpr c23
   subst c23
   have H1 : ((impl_on.f a0_0 a0_1 a1_0 a1_1 a3_0 a3_1).bind fun t306 => (if t306 = true then (some true) else ((impl_on.f a2_0 a2_1 a3_0 a3_1 a0_0 a0_1).bind fun t307 => (if t307 = true then (some true) else ((impl_on.f a2_0 a2_1 a3_0 a3_1 a1_0 a1_1).bind fun t308 => (some t308)))))) = some r:=by rw [if_neg (show ¬ (false = true) by decide)] at H;exact H
   clear H
   have H:=H1
   clear H1
   replace H:=bE.mp H
   obtain ⟨t306,A430,H⟩:=H
   replace H : (if t306 = true then (some true) else ((impl_on.f a2_0 a2_1 a3_0 a3_1 a0_0 a0_1).bind fun t307 => (if t307 = true then (some true) else ((impl_on.f a2_0 a2_1 a3_0 a3_1 a1_0 a1_1).bind fun t308 => (some t308))))) = some r:=H
   have A43:=Aside0.mk A430
   clear A430
   by_cases c44 : t306 = true
   ·subst c44
    have H1 : (some true) = some r:=by rw [if_pos rfl] at H;exact H
    clear H
    have H:=H1
    clear H1
    obtain rfl:=Option.some.inj H
    go_enter Try.func73,Try.ntmps73
    go_wp2_with (first | ((with_reducible refine gate_dst (N:=4) rfl ?_);refine bx (cs:=#[.int .i64 a0_0,.int .i64 a0_1]) (t:=78) ?_;intro gb300 hg w45 hbox hb;have BK300:=Aside0.mk (hbox);have GW300:=zb hg;have GE300:=zb hg;replace HB:=sb hb;clear hb hbox hg) | ((with_reducible refine gate_dst (N:=5) rfl ?_);refine bx (cs:=#[.int .i64 a1_0,.int .i64 a1_1]) (t:=78) ?_;intro gb301 hg w46 hbox hb;have BK301:=Aside0.mk (hbox);have GW301:=zb hg;have GE301:=zb hg;replace HB:=sb hb;have NB300_301:=nl BK300 hg;have NB301_300:=ng BK300 hg;replace BK300:=kb BK300 hb;clear hb hbox hg) | ((with_reducible refine gate_dst (N:=6) rfl ?_);refine bx (cs:=#[.int .i64 a2_0,.int .i64 a2_1]) (t:=78) ?_;intro gb302 hg w47 hbox hb;have BK302:=Aside0.mk (hbox);have GW302:=zb hg;have GE302:=zb hg;replace HB:=sb hb;have NB300_302:=nl BK300 hg;have NB302_300:=ng BK300 hg;replace BK300:=kb BK300 hb;have NB301_302:=nl BK301 hg;have NB302_301:=ng BK301 hg;replace BK301:=kb BK301 hb;clear hb hbox hg) | ((with_reducible refine gate_dst (N:=7) rfl ?_);refine bx (cs:=#[.int .i64 a3_0,.int .i64 a3_1]) (t:=78) ?_;intro gb303 hg w48 hbox hb;have BK303:=Aside0.mk (hbox);have GW303:=zb hg;have GE303:=zb hg;replace HB:=sb hb;have NB300_303:=nl BK300 hg;have NB303_300:=ng BK300 hg;replace BK300:=kb BK300 hb;have NB301_303:=nl BK301 hg;have NB303_301:=ng BK301 hg;replace BK301:=kb BK301 hb;have NB302_303:=nl BK302 hg;have NB303_302:=ng BK302 hg;replace BK302:=kb BK302 hb;clear hb hbox hg;have hnb49:=NB300_301.out;have hnc49:=NB301_300.out;have hnb50:=NB300_302.out;have hnc50:=NB302_300.out;have hnb51:=NB300_303.out;have hnc51:=NB303_300.out;have hcz52_0:=ck BK300 0;have hcz52_1:=ck BK300 1;have hfz52_0:=blk_frozen BK300.out 0;have hfz52_1:=blk_frozen BK300.out 1;have hnb53:=NB301_302.out;have hnc53:=NB302_301.out;have hnb54:=NB301_303.out;have hnc54:=NB303_301.out;have hcz55_0:=ck BK301 0;have hcz55_1:=ck BK301 1;have hfz55_0:=blk_frozen BK301.out 0;have hfz55_1:=blk_frozen BK301.out 1;have hnb56:=NB302_303.out;have hnc56:=NB303_302.out;have hcz57_0:=ck BK302 0;have hcz57_1:=ck BK302 1;have hfz57_0:=blk_frozen BK302.out 0;have hfz57_1:=blk_frozen BK302.out 1;have hcz58_0:=ck BK303 0;have hcz58_1:=ck BK303 1;have hfz58_0:=blk_frozen BK303.out 0;have hfz58_1:=blk_frozen BK303.out 1) | ((with_reducible refine gate_callee (f:=92) rfl ?_);refine goesL_ (some 13) rfl rfl Try.func92 (by kernel_rfl) rfl #[.agg #[.int .i64 a0_0,.int .i64 a0_1],.agg #[.int .i64 a1_0,.int .i64 a1_1],.agg #[.int .i64 a2_0,.int .i64 a2_1],.agg #[.int .i64 a3_0,.int .i64 a3_1]] rfl (by (try simp only [mT,mC,mN]);first | done | rfl | (simp only [lD,lT];rfl)) ?_;(with_reducible refine (impl_crossing.calls a0_0 a0_1 a1_0 a1_1 a2_0 a2_1 a3_0 a3_1 false _ A5.out).mono ?_);rintro e w59 ⟨rfl,hb⟩;refine ⟨_,rfl,?_⟩;replace BK300:=kb BK300 hb;replace BK301:=kb BK301 hb;replace BK302:=kb BK302 hb;replace BK303:=kb BK303 hb;replace HB:=sb hb;(try clear hb);(try clear hb2);(try clear hk);(try clear hi);have hcz60_0:=ck BK300 0;have hcz60_1:=ck BK300 1;have hfz60_0:=blk_frozen BK300.out 0;have hfz60_1:=blk_frozen BK300.out 1;have hcz61_0:=ck BK301 0;have hcz61_1:=ck BK301 1;have hfz61_0:=blk_frozen BK301.out 0;have hfz61_1:=blk_frozen BK301.out 1;have hcz62_0:=ck BK302 0;have hcz62_1:=ck BK302 1;have hfz62_0:=blk_frozen BK302.out 0;have hfz62_1:=blk_frozen BK302.out 1) | (go_at_call 72;(with_reducible refine (impl_on.calls a0_0 a0_1 a1_0 a1_1 a2_0 a2_1 false _ A22.out).mono ?_);rintro e w63 ⟨rfl,hb⟩;replace BK300:=kb BK300 hb;replace BK301:=kb BK301 hb;replace BK302:=kb BK302 hb;replace BK303:=kb BK303 hb;replace HB:=sb hb;(try clear hb);(try clear hb2);(try clear hk);(try clear hi);have hcz64_0:=ck BK300 0;have hcz64_1:=ck BK300 1;have hfz64_0:=blk_frozen BK300.out 0;have hfz64_1:=blk_frozen BK300.out 1;have hcz65_0:=ck BK301 0;have hcz65_1:=ck BK301 1;have hfz65_0:=blk_frozen BK301.out 0;have hfz65_1:=blk_frozen BK301.out 1;have hcz66_0:=ck BK303 0;have hcz66_1:=ck BK303 1;have hfz66_0:=blk_frozen BK303.out 0;have hfz66_1:=blk_frozen BK303.out 1) | (go_at_call 72;(with_reducible refine (impl_on.calls a0_0 a0_1 a1_0 a1_1 a3_0 a3_1 true _ A43.out).mono ?_);rintro e w67 ⟨rfl,hb⟩;replace BK300:=kb BK300 hb;replace BK301:=kb BK301 hb;replace BK302:=kb BK302 hb;replace BK303:=kb BK303 hb;replace HB:=sb hb;(try clear hb);(try clear hb2);(try clear hk);(try clear hi)))
    go_ret
    exact ⟨by first | rfl | (simp [errW_none,errW_some] <;> rfl) | (simp [*,errW_none,errW_some] <;> rfl),ib⟩
   ·replace c44:=Bool.eq_false_iff.mpr c44
    subst c44
    have H1 : ((impl_on.f a2_0 a2_1 a3_0 a3_1 a0_0 a0_1).bind fun t307 => (if t307 = true then (some true) else ((impl_on.f a2_0 a2_1 a3_0 a3_1 a1_0 a1_1).bind fun t308 => (some t308)))) = some r:=by rw [if_neg (show ¬ (false = true) by decide)] at H;exact H
    clear H
    have H:=H1
    clear H1
    replace H:=bE.mp H
    obtain ⟨t307,A680,H⟩:=H
    replace H : (if t307 = true then (some true) else ((impl_on.f a2_0 a2_1 a3_0 a3_1 a1_0 a1_1).bind fun t308 => (some t308))) = some r:=H
    have A68:=Aside0.mk A680
    clear A680
    by_cases c69 : t307 = true
    ·subst c69
     have H1 : (some true) = some r:=by rw [if_pos rfl] at H;exact H
     clear H
     have H:=H1
     clear H1
     obtain rfl:=Option.some.inj H
     go_enter Try.func73,Try.ntmps73
     go_wp2_with (first | ((with_reducible refine gate_dst (N:=4) rfl ?_);refine bx (cs:=#[.int .i64 a0_0,.int .i64 a0_1]) (t:=78) ?_;intro gb300 hg w70 hbox hb;have BK300:=Aside0.mk (hbox);have GW300:=zb hg;have GE300:=zb hg;replace HB:=sb hb;clear hb hbox hg) | ((with_reducible refine gate_dst (N:=5) rfl ?_);refine bx (cs:=#[.int .i64 a1_0,.int .i64 a1_1]) (t:=78) ?_;intro gb301 hg w71 hbox hb;have BK301:=Aside0.mk (hbox);have GW301:=zb hg;have GE301:=zb hg;replace HB:=sb hb;have NB300_301:=nl BK300 hg;have NB301_300:=ng BK300 hg;replace BK300:=kb BK300 hb;clear hb hbox hg) | ((with_reducible refine gate_dst (N:=6) rfl ?_);refine bx (cs:=#[.int .i64 a2_0,.int .i64 a2_1]) (t:=78) ?_;intro gb302 hg w72 hbox hb;have BK302:=Aside0.mk (hbox);have GW302:=zb hg;have GE302:=zb hg;replace HB:=sb hb;have NB300_302:=nl BK300 hg;have NB302_300:=ng BK300 hg;replace BK300:=kb BK300 hb;have NB301_302:=nl BK301 hg;have NB302_301:=ng BK301 hg;replace BK301:=kb BK301 hb;clear hb hbox hg) | ((with_reducible refine gate_dst (N:=7) rfl ?_);refine bx (cs:=#[.int .i64 a3_0,.int .i64 a3_1]) (t:=78) ?_;intro gb303 hg w73 hbox hb;have BK303:=Aside0.mk (hbox);have GW303:=zb hg;have GE303:=zb hg;replace HB:=sb hb;have NB300_303:=nl BK300 hg;have NB303_300:=ng BK300 hg;replace BK300:=kb BK300 hb;have NB301_303:=nl BK301 hg;have NB303_301:=ng BK301 hg;replace BK301:=kb BK301 hb;have NB302_303:=nl BK302 hg;have NB303_302:=ng BK302 hg;replace BK302:=kb BK302 hb;clear hb hbox hg;have hnb74:=NB300_301.out;have hnc74:=NB301_300.out;have hnb75:=NB300_302.out;have hnc75:=NB302_300.out;have hnb76:=NB300_303.out;have hnc76:=NB303_300.out;have hcz77_0:=ck BK300 0;have hcz77_1:=ck BK300 1;have hfz77_0:=blk_frozen BK300.out 0;have hfz77_1:=blk_frozen BK300.out 1;have hnb78:=NB301_302.out;have hnc78:=NB302_301.out;have hnb79:=NB301_303.out;have hnc79:=NB303_301.out;have hcz80_0:=ck BK301 0;have hcz80_1:=ck BK301 1;have hfz80_0:=blk_frozen BK301.out 0;have hfz80_1:=blk_frozen BK301.out 1;have hnb81:=NB302_303.out;have hnc81:=NB303_302.out;have hcz82_0:=ck BK302 0;have hcz82_1:=ck BK302 1;have hfz82_0:=blk_frozen BK302.out 0;have hfz82_1:=blk_frozen BK302.out 1;have hcz83_0:=ck BK303 0;have hcz83_1:=ck BK303 1;have hfz83_0:=blk_frozen BK303.out 0;have hfz83_1:=blk_frozen BK303.out 1) | ((with_reducible refine gate_callee (f:=92) rfl ?_);refine goesL_ (some 13) rfl rfl Try.func92 (by kernel_rfl) rfl #[.agg #[.int .i64 a0_0,.int .i64 a0_1],.agg #[.int .i64 a1_0,.int .i64 a1_1],.agg #[.int .i64 a2_0,.int .i64 a2_1],.agg #[.int .i64 a3_0,.int .i64 a3_1]] rfl (by (try simp only [mT,mC,mN]);first | done | rfl | (simp only [lD,lT];rfl)) ?_;(with_reducible refine (impl_crossing.calls a0_0 a0_1 a1_0 a1_1 a2_0 a2_1 a3_0 a3_1 false _ A5.out).mono ?_);rintro e w84 ⟨rfl,hb⟩;refine ⟨_,rfl,?_⟩;replace BK300:=kb BK300 hb;replace BK301:=kb BK301 hb;replace BK302:=kb BK302 hb;replace BK303:=kb BK303 hb;replace HB:=sb hb;(try clear hb);(try clear hb2);(try clear hk);(try clear hi);have hcz85_0:=ck BK300 0;have hcz85_1:=ck BK300 1;have hfz85_0:=blk_frozen BK300.out 0;have hfz85_1:=blk_frozen BK300.out 1;have hcz86_0:=ck BK301 0;have hcz86_1:=ck BK301 1;have hfz86_0:=blk_frozen BK301.out 0;have hfz86_1:=blk_frozen BK301.out 1;have hcz87_0:=ck BK302 0;have hcz87_1:=ck BK302 1;have hfz87_0:=blk_frozen BK302.out 0;have hfz87_1:=blk_frozen BK302.out 1) | (go_at_call 72;(with_reducible refine (impl_on.calls a0_0 a0_1 a1_0 a1_1 a2_0 a2_1 false _ A22.out).mono ?_);rintro e w88 ⟨rfl,hb⟩;replace BK300:=kb BK300 hb;replace BK301:=kb BK301 hb;replace BK302:=kb BK302 hb;replace BK303:=kb BK303 hb;replace HB:=sb hb;(try clear hb);(try clear hb2);(try clear hk);(try clear hi);have hcz89_0:=ck BK300 0;have hcz89_1:=ck BK300 1;have hfz89_0:=blk_frozen BK300.out 0;have hfz89_1:=blk_frozen BK300.out 1;have hcz90_0:=ck BK301 0;have hcz90_1:=ck BK301 1;have hfz90_0:=blk_frozen BK301.out 0;have hfz90_1:=blk_frozen BK301.out 1;have hcz91_0:=ck BK303 0;have hcz91_1:=ck BK303 1;have hfz91_0:=blk_frozen BK303.out 0;have hfz91_1:=blk_frozen BK303.out 1) | (go_at_call 72;(with_reducible refine (impl_on.calls a0_0 a0_1 a1_0 a1_1 a3_0 a3_1 false _ A43.out).mono ?_);rintro e w92 ⟨rfl,hb⟩;replace BK300:=kb BK300 hb;replace BK301:=kb BK301 hb;replace BK302:=kb BK302 hb;replace BK303:=kb BK303 hb;replace HB:=sb hb;(try clear hb);(try clear hb2);(try clear hk);(try clear hi);have hcz93_0:=ck BK302 0;have hcz93_1:=ck BK302 1;have hfz93_0:=blk_frozen BK302.out 0;have hfz93_1:=blk_frozen BK302.out 1;have hcz94_0:=ck BK303 0;have hcz94_1:=ck BK303 1;have hfz94_0:=blk_frozen BK303.out 0;have hfz94_1:=blk_frozen BK303.out 1;have hcz95_0:=ck BK300 0;have hcz95_1:=ck BK300 1;have hfz95_0:=blk_frozen BK300.out 0;have hfz95_1:=blk_frozen BK300.out 1) | (go_at_call 72;(with_reducible refine (impl_on.calls a2_0 a2_1 a3_0 a3_1 a0_0 a0_1 true _ A68.out).mono ?_);rintro e w96 ⟨rfl,hb⟩;replace BK300:=kb BK300 hb;replace BK301:=kb BK301 hb;replace BK302:=kb BK302 hb;replace BK303:=kb BK303 hb;replace HB:=sb hb;(try clear hb);(try clear hb2);(try clear hk);(try clear hi)))
     go_ret
     exact ⟨by first | rfl | (simp [errW_none,errW_some] <;> rfl) | (simp [*,errW_none,errW_some] <;> rfl),ib⟩
    ·replace c69:=Bool.eq_false_iff.mpr c69
     subst c69
     have H1 : ((impl_on.f a2_0 a2_1 a3_0 a3_1 a1_0 a1_1).bind fun t308 => (some t308)) = some r:=by rw [if_neg (show ¬ (false = true) by decide)] at H;exact H
     clear H
     have H:=H1
     clear H1
     replace H:=bE.mp H
     obtain ⟨t308,A970,H⟩:=H
     replace H : (some t308) = some r:=H
     have A97:=Aside0.mk A970
     clear A970
     obtain rfl:=Option.some.inj H
     go_enter Try.func73,Try.ntmps73
     go_wp2_with (first | ((with_reducible refine gate_dst (N:=4) rfl ?_);refine bx (cs:=#[.int .i64 a0_0,.int .i64 a0_1]) (t:=78) ?_;intro gb300 hg w98 hbox hb;have BK300:=Aside0.mk (hbox);have GW300:=zb hg;have GE300:=zb hg;replace HB:=sb hb;clear hb hbox hg) | ((with_reducible refine gate_dst (N:=5) rfl ?_);refine bx (cs:=#[.int .i64 a1_0,.int .i64 a1_1]) (t:=78) ?_;intro gb301 hg w99 hbox hb;have BK301:=Aside0.mk (hbox);have GW301:=zb hg;have GE301:=zb hg;replace HB:=sb hb;have NB300_301:=nl BK300 hg;have NB301_300:=ng BK300 hg;replace BK300:=kb BK300 hb;clear hb hbox hg) | ((with_reducible refine gate_dst (N:=6) rfl ?_);refine bx (cs:=#[.int .i64 a2_0,.int .i64 a2_1]) (t:=78) ?_;intro gb302 hg w100 hbox hb;have BK302:=Aside0.mk (hbox);have GW302:=zb hg;have GE302:=zb hg;replace HB:=sb hb;have NB300_302:=nl BK300 hg;have NB302_300:=ng BK300 hg;replace BK300:=kb BK300 hb;have NB301_302:=nl BK301 hg;have NB302_301:=ng BK301 hg;replace BK301:=kb BK301 hb;clear hb hbox hg) | ((with_reducible refine gate_dst (N:=7) rfl ?_);refine bx (cs:=#[.int .i64 a3_0,.int .i64 a3_1]) (t:=78) ?_;intro gb303 hg w101 hbox hb;have BK303:=Aside0.mk (hbox);have GW303:=zb hg;have GE303:=zb hg;replace HB:=sb hb;have NB300_303:=nl BK300 hg;have NB303_300:=ng BK300 hg;replace BK300:=kb BK300 hb;have NB301_303:=nl BK301 hg;have NB303_301:=ng BK301 hg;replace BK301:=kb BK301 hb;have NB302_303:=nl BK302 hg;have NB303_302:=ng BK302 hg;replace BK302:=kb BK302 hb;clear hb hbox hg;have hnb102:=NB300_301.out;have hnc102:=NB301_300.out;have hnb103:=NB300_302.out;have hnc103:=NB302_300.out;have hnb104:=NB300_303.out;have hnc104:=NB303_300.out;have hcz105_0:=ck BK300 0;have hcz105_1:=ck BK300 1;have hfz105_0:=blk_frozen BK300.out 0;have hfz105_1:=blk_frozen BK300.out 1;have hnb106:=NB301_302.out;have hnc106:=NB302_301.out;have hnb107:=NB301_303.out;have hnc107:=NB303_301.out;have hcz108_0:=ck BK301 0;have hcz108_1:=ck BK301 1;have hfz108_0:=blk_frozen BK301.out 0;have hfz108_1:=blk_frozen BK301.out 1;have hnb109:=NB302_303.out;have hnc109:=NB303_302.out;have hcz110_0:=ck BK302 0;have hcz110_1:=ck BK302 1;have hfz110_0:=blk_frozen BK302.out 0;have hfz110_1:=blk_frozen BK302.out 1;have hcz111_0:=ck BK303 0;have hcz111_1:=ck BK303 1;have hfz111_0:=blk_frozen BK303.out 0;have hfz111_1:=blk_frozen BK303.out 1) | ((with_reducible refine gate_callee (f:=92) rfl ?_);refine goesL_ (some 13) rfl rfl Try.func92 (by kernel_rfl) rfl #[.agg #[.int .i64 a0_0,.int .i64 a0_1],.agg #[.int .i64 a1_0,.int .i64 a1_1],.agg #[.int .i64 a2_0,.int .i64 a2_1],.agg #[.int .i64 a3_0,.int .i64 a3_1]] rfl (by (try simp only [mT,mC,mN]);first | done | rfl | (simp only [lD,lT];rfl)) ?_;(with_reducible refine (impl_crossing.calls a0_0 a0_1 a1_0 a1_1 a2_0 a2_1 a3_0 a3_1 false _ A5.out).mono ?_);rintro e w112 ⟨rfl,hb⟩;refine ⟨_,rfl,?_⟩;replace BK300:=kb BK300 hb;replace BK301:=kb BK301 hb;replace BK302:=kb BK302 hb;replace BK303:=kb BK303 hb;replace HB:=sb hb;(try clear hb);(try clear hb2);(try clear hk);(try clear hi);have hcz113_0:=ck BK300 0;have hcz113_1:=ck BK300 1;have hfz113_0:=blk_frozen BK300.out 0;have hfz113_1:=blk_frozen BK300.out 1;have hcz114_0:=ck BK301 0;have hcz114_1:=ck BK301 1;have hfz114_0:=blk_frozen BK301.out 0;have hfz114_1:=blk_frozen BK301.out 1;have hcz115_0:=ck BK302 0;have hcz115_1:=ck BK302 1;have hfz115_0:=blk_frozen BK302.out 0;have hfz115_1:=blk_frozen BK302.out 1) | (go_at_call 72;(with_reducible refine (impl_on.calls a0_0 a0_1 a1_0 a1_1 a2_0 a2_1 false _ A22.out).mono ?_);rintro e w116 ⟨rfl,hb⟩;replace BK300:=kb BK300 hb;replace BK301:=kb BK301 hb;replace BK302:=kb BK302 hb;replace BK303:=kb BK303 hb;replace HB:=sb hb;(try clear hb);(try clear hb2);(try clear hk);(try clear hi);have hcz117_0:=ck BK300 0;have hcz117_1:=ck BK300 1;have hfz117_0:=blk_frozen BK300.out 0;have hfz117_1:=blk_frozen BK300.out 1;have hcz118_0:=ck BK301 0;have hcz118_1:=ck BK301 1;have hfz118_0:=blk_frozen BK301.out 0;have hfz118_1:=blk_frozen BK301.out 1;have hcz119_0:=ck BK303 0;have hcz119_1:=ck BK303 1;have hfz119_0:=blk_frozen BK303.out 0;have hfz119_1:=blk_frozen BK303.out 1) | (go_at_call 72;(with_reducible refine (impl_on.calls a0_0 a0_1 a1_0 a1_1 a3_0 a3_1 false _ A43.out).mono ?_);rintro e w120 ⟨rfl,hb⟩;replace BK300:=kb BK300 hb;replace BK301:=kb BK301 hb;replace BK302:=kb BK302 hb;replace BK303:=kb BK303 hb;replace HB:=sb hb;(try clear hb);(try clear hb2);(try clear hk);(try clear hi);have hcz121_0:=ck BK302 0;have hcz121_1:=ck BK302 1;have hfz121_0:=blk_frozen BK302.out 0;have hfz121_1:=blk_frozen BK302.out 1;have hcz122_0:=ck BK303 0;have hcz122_1:=ck BK303 1;have hfz122_0:=blk_frozen BK303.out 0;have hfz122_1:=blk_frozen BK303.out 1;have hcz123_0:=ck BK300 0;have hcz123_1:=ck BK300 1;have hfz123_0:=blk_frozen BK300.out 0;have hfz123_1:=blk_frozen BK300.out 1) | (go_at_call 72;(with_reducible refine (impl_on.calls a2_0 a2_1 a3_0 a3_1 a0_0 a0_1 false _ A68.out).mono ?_);rintro e w124 ⟨rfl,hb⟩;replace BK300:=kb BK300 hb;replace BK301:=kb BK301 hb;replace BK302:=kb BK302 hb;replace BK303:=kb BK303 hb;replace HB:=sb hb;(try clear hb);(try clear hb2);(try clear hk);(try clear hi);have hcz125_0:=ck BK302 0;have hcz125_1:=ck BK302 1;have hfz125_0:=blk_frozen BK302.out 0;have hfz125_1:=blk_frozen BK302.out 1;have hcz126_0:=ck BK303 0;have hcz126_1:=ck BK303 1;have hfz126_0:=blk_frozen BK303.out 0;have hfz126_1:=blk_frozen BK303.out 1;have hcz127_0:=ck BK301 0;have hcz127_1:=ck BK301 1;have hfz127_0:=blk_frozen BK301.out 0;have hfz127_1:=blk_frozen BK301.out 1) | (go_at_call 72;(with_reducible refine (impl_on.calls a2_0 a2_1 a3_0 a3_1 a1_0 a1_1 t308 _ A97.out).mono ?_);rintro e w128 ⟨rfl,hb⟩;replace BK300:=kb BK300 hb;replace BK301:=kb BK301 hb;replace BK302:=kb BK302 hb;replace BK303:=kb BK303 hb;replace HB:=sb hb;(try clear hb);(try clear hb2);(try clear hk);(try clear hi)))
     go_ret
     exact ⟨by first | rfl | (simp [errW_none,errW_some] <;> rfl) | (simp [*,errW_none,errW_some] <;> rfl),ib⟩
def impl_doubled.l0 : Nat → List (S78) → Int → List (S78) → Int → Int → Option (Int)
 | 0,_,_,_,_,_ => none
 | k + 1,x0,x3,x7,x8,x9 => if x9 < x8 then (if 0 ≤ x9 then (if x9 < (x7.length : Int) then (if (x0.length : Int) = 0 then (none) else (if 0 ≤ (Int.tmod (wrap64 (x9 + 1)) (x0.length : Int)) then (if (Int.tmod (wrap64 (x9 + 1)) (x0.length : Int)) < (x0.length : Int) then (impl_doubled.l0 k x0 (wrap64 (x3 + (wrap64 ((wrap64 (((rd_T78 x7 x9).f0) * ((rd_T78 x0 (Int.tmod (wrap64 (x9 + 1)) (x0.length : Int))).f1))) - (wrap64 (((rd_T78 x7 x9).f1) * ((rd_T78 x0 (Int.tmod (wrap64 (x9 + 1)) (x0.length : Int))).f0))))))) x7 x8 (wrap64 (x9 + 1))) else (none)) else (none))) else (none)) else (none)) else (some x3)
def impl_doubled.f (k : Nat) (l0 : List (S78)) : Option (Int):=impl_doubled.l0 k l0 0 l0 (l0.length : Int) 0
theorem impl_doubled.calls (k : Nat) (A0 : Option Addr) (c0 : Nat) (l0 : List (S78)) (r : Int) (w : World) (hr0 : Kd.C k78 w A0 l0.length l0) (hc0 : l0.length ≤ c0) (h : impl_doubled.f k l0 = some r) :
  Calls Try.prog 74 #[.slice A0 l0.length c0] w fun e w' => e = .returned (.int .i64 r) ∧ Below w.heap.size w w':=by
 have hu78:=Try.underlying78
 have HR0:=Aside0.mk hr0
 have HC0:=Aside0.mk hc0
 clear hr0 hc0
 have HB:=Aside0.mk (Below.refl w.heap.size w)
 have H : (impl_doubled.l0 k l0 0 l0 (l0.length : Int) 0) = some r:=h
 clear h
 have H':=Aside0.mk H
 clear H
 go_enter Try.func74,Try.ntmps74
 go_wp2
 go_loopg [3,9] k (fun kq v3 v9 w' => ∃ (x3_1 : Int) (x9_1 : Int),v3 = .int .i64 x3_1 ∧ v9 = .int .i64 x9_1 ∧ Aside0 (impl_doubled.l0 kq l0 x3_1 l0 (l0.length : Int) x9_1 = some r) ∧ Aside0 (kq ≤ k) ∧ Aside0 (Below w.heap.size w w'))
 case atStart => exact ⟨(0),(0),(by first | rfl | (simp;done) | (simp [*];done)),(by first | rfl | (simp;done) | (simp [*];done)),H',⟨Nat.le_refl _⟩,⟨ib⟩⟩
 case round =>
  clear H'
  obtain ⟨x3_1,x9_1,rfl,rfl,HA,HK1,HB⟩:=hrel
  cases gk with
  | zero => exact absurd HA.out (by simp [impl_doubled.l0])
  | succ k1 =>
   have H:=HA.out
   clear HA
   simp only [impl_doubled.l0] at H
   by_cases c2 : x9_1 < (l0.length : Int)
   ·rw [if_pos c2] at H
    have c2b0 : decide (x9_1 < (l0.length : Int)) = true:=decide_eq_true c2
    clear c2
    by_cases c3 : 0 ≤ x9_1
    ·rw [if_pos c3] at H
     have c3b0 : decide (0 ≤ x9_1) = true:=decide_eq_true c3
     clear c3
     by_cases c4 : x9_1 < (l0.length : Int)
     ·rw [if_pos c4] at H
      have c4b0 : decide (x9_1 < (l0.length : Int)) = true:=decide_eq_true c4
      clear c4
      by_cases c5 : (l0.length : Int) = 0
      ·rw [if_pos c5] at H
       exact absurd H (by simp)
      ·rw [if_neg c5] at H
       have c5b0 : ((l0.length : Int) == 0) = false:=beq_eq_false_iff_ne.mpr c5
       have c5b1 : ((l0.length : Int) != 0) = true:=bne_iff_ne.mpr c5
       have c5b2 : ¬ (l0 = []):=fun h_ => c5 (by rw [h_];rfl)
       obtain ⟨ji6,hji6⟩ : ∃ j_ : Int,(Int.tmod (wrap64 (x9_1 + 1)) (l0.length : Int)) = j_:=⟨_,rfl⟩
       replace H : (if 0 ≤ (ji6) then (if (ji6) < (l0.length : Int) then (impl_doubled.l0 k1 l0 (wrap64 (x3_1 + (wrap64 ((wrap64 (((rd_T78 l0 x9_1).f0) * ((rd_T78 l0 (ji6)).f1))) - (wrap64 (((rd_T78 l0 x9_1).f1) * ((rd_T78 l0 (ji6)).f0))))))) l0 (l0.length : Int) (wrap64 (x9_1 + 1))) else (none)) else (none)) = some r:=by first | (rw [hji6] at H;exact H) | (simp only [hji6] at H ⊢;exact H)
       by_cases c7 : 0 ≤ (ji6)
       ·rw [if_pos c7] at H
        have c7b0 : decide (0 ≤ (ji6)) = true:=decide_eq_true c7
        clear c7
        by_cases c8 : (ji6) < (l0.length : Int)
        ·rw [if_pos c8] at H
         have c8b0 : decide ((ji6) < (l0.length : Int)) = true:=decide_eq_true c8
         clear c8
         have H':=Aside0.mk H
         clear H
         have p309 : 0 ≤ (x9_1 : Int):=da
         have q309 : x9_1 < (l0.length : Int):=da
         obtain ⟨ad309,e309,hx309_0,hx309_1⟩:=at_T78 HR0.out x9_1 p309 q309
         cases e309
         replace hx309_0:=cq HB.out hx309_0
         replace hx309_1:=cq HB.out hx309_1
         replace p309:=eq_true p309
         replace q309:=eq_true q309
         go_wp2_with (first | ((with_reducible refine gate_dst (N:=5) rfl ?_);refine bx (cs:=#[.int .i64 0,.int .i64 0]) (t:=78) ?_;intro gb310 hg w9 hbox hb;have BK310:=Aside0.mk (hbox);have GW310:=zb hg;have GE310:=zb hg;replace HB:=sb hb;clear hb hbox hg;have hcz10_0:=ck BK310 0;have hcz10_1:=ck BK310 1;have hfz10_0:=blk_frozen BK310.out 0;have hfz10_1:=blk_frozen BK310.out 1;have p311 : 0 ≤ ((ji6) : Int):=da;have q311 : (ji6) < (l0.length : Int):=da;obtain ⟨ad311,e311,hx311_0,hx311_1⟩:=at_T78 HR0.out (ji6) p311 q311;obtain rfl : ad309 = ad311:=(by injection e311);have hn311_0 : ad309.block ≠ gb310:=nw hx311_0 GW310;have hn311_1 : ad309.block ≠ gb310:=nw hx311_0 GW310;replace hx311_0:=cq HB.out hx311_0;replace hx311_1:=cq HB.out hx311_1;replace hx311_0:=cf hn311_0 hx311_0 0 (.int .i64 ((rd_T78 l0 x9_1).f0));replace hx311_1:=cf hn311_0 hx311_1 0 (.int .i64 ((rd_T78 l0 x9_1).f0));replace hx311_0:=cf hn311_1 hx311_0 1 (.int .i64 ((rd_T78 l0 x9_1).f1));replace hx311_1:=cf hn311_1 hx311_1 1 (.int .i64 ((rd_T78 l0 x9_1).f1));clear hn311_0;clear hn311_1;replace p311:=eq_true p311;replace q311:=eq_true q311) | ((with_reducible refine gate_dst (N:=6) rfl ?_);refine bx (cs:=#[.int .i64 0,.int .i64 0]) (t:=78) ?_;intro gb312 hg w11 hbox hb;have z0_:=mz hb (g:=gb310) (o:=.cells #[.int .i64 ((rd_T78 l0 x9_1).f0),.int .i64 ((rd_T78 l0 x9_1).f1)] 78 (0,0)) (by refine bP (cs:=#[.int .i64 ((rd_T78 l0 x9_1).f0),.int .i64 0]) 1 ?_;refine bP (cs:=#[.int .i64 0,.int .i64 0]) 0 ?_;exact bk BK310);have n0_:=kc z0_ hb;have n1_:=sb hb;have n2_:=Aside0.mk (hbox);have n3_:=zb hg;have n4_:=zb hg;have n5_:=nm z0_ hg;have n6_:=nn z0_ hg;clear BK310;clear HB;have BK310:=n0_;have HB:=n1_;have BK312:=n2_;have GW312:=n3_;have GE312:=n4_;have NB310_312:=n5_;have NB312_310:=n6_;clear z0_ n0_ n1_ n2_ n3_ n4_ n5_ n6_;clear hb hbox hg;have hnb12:=NB312_310.out;have hnc12:=NB310_312.out;have hcz13_0:=ck BK312 0;have hcz13_1:=ck BK312 1;have hfz13_0:=blk_frozen BK312.out 0;have hfz13_1:=blk_frozen BK312.out 1;have hcz14_0:=ck BK310 0;have hcz14_1:=ck BK310 1;have hfz14_0:=blk_frozen BK310.out 0;have hfz14_1:=blk_frozen BK310.out 1))
         go_roundg k1
         case measure => have:=HK1.out;omega
         case rel => exact ⟨(wrap64 (x3_1 + (wrap64 ((wrap64 (((rd_T78 l0 x9_1).f0) * ((rd_T78 l0 (ji6)).f1))) - (wrap64 (((rd_T78 l0 x9_1).f1) * ((rd_T78 l0 (ji6)).f0))))))),(wrap64 (x9_1 + 1)),(by first | rfl | (simp;done) | (simp only [← hji6] <;> (first | rfl | simp)) | (simp [*];done)),(by first | rfl | (simp;done) | (simp [*];done)),H',⟨by have:=HK1.out;omega⟩,⟨ib⟩⟩
        ·rw [if_neg c8] at H
         exact absurd H (by simp)
       ·rw [if_neg c7] at H
        exact absurd H (by simp)
     ·first | (exfalso;have z_:=of_decide_eq_true c2b0;omega) | (rw [if_neg c4] at H;exact absurd H (by simp))
    ·rw [if_neg c3] at H
     exact absurd H (by simp)
   ·rw [if_neg c2] at H
    have c2b0 : decide (x9_1 < (l0.length : Int)) = false:=decide_eq_false c2
    clear c2
    obtain rfl:=Option.some.inj H
    go_wp2
    go_ret
    exact ⟨by first | rfl | (simp [errW_none,errW_some] <;> rfl) | (simp [*,errW_none,errW_some] <;> rfl),ib⟩
end Go.Proofs.Ytpeebobdbaemiaa.PFnExactNeighboursOf
