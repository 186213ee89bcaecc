/- Contracts of functions that FnExactStartAt reaches, out of the lines of the kit's print. -/
import Derived.Test.YtnnchaggdnlfmaaQFnExactStartAtx0
import Derived.Test.YtnnchaggdnlfmaaQFnExactStartAtx2
namespace Go.Proofs.Ytnnchaggdnlfmaa.PFnExactStartAt
set_option maxHeartbeats 8000000
set_option maxRecDepth 100000
open Go.RowKit Go.Proofs.YtnnchaggdnlfmaaW.PrintWords Go.Proofs.YtnnchaggdnlfmaaW.PrintLast Go.Proofs.YtnnchaggdnlfmaaW.PrintMore
open Bool renaming true → tT, false → fF
open Go.World renaming block_lt_of_cell? → bL
open List renaming length_take → lT, length_drop → lD, map_toArray → mT, map_cons → mC, map_nil → mN
attribute [local go_sem] max2_int min2_int max_two min_two max_three min_three max_four min_four
set_option linter.unusedVariables false
set_option linter.unusedSimpArgs false
def spec_l02Ok.f (a0_0 : Int) (a0_1 : Int) : Option (Bool):=(spec_l00In.f a0_0 0 20000).bind fun t121 => (if t121 = true then ((spec_l00In.f a0_1 0 20000).bind fun t122 => (some t122)) else (some false))
theorem spec_l02Ok.calls (a0_0 : Int) (a0_1 : Int) (r : Bool) (w : World) (h : spec_l02Ok.f a0_0 a0_1 = some r) :
  Calls Try.prog 98 #[.agg #[.int .i64 a0_0,.int .i64 a0_1]] w fun e w' => e = .returned (.bool r) ∧ Below w.heap.size w w':=by
 have hu73:=Try.underlying73
 have HB:=Aside0.mk (Below.refl w.heap.size w)
 have H : ((spec_l00In.f a0_0 0 20000).bind fun t121 => (if t121 = true then ((spec_l00In.f a0_1 0 20000).bind fun t122 => (some t122)) else (some false))) = some r:=h
 clear h
 replace H:=Option.bind_eq_some_iff.mp H
 obtain ⟨t121,A20,H⟩:=H
 replace H : (if t121 = true then ((spec_l00In.f a0_1 0 20000).bind fun t122 => (some t122)) else (some false)) = some r:=H
 have A2:=Aside0.mk A20
 clear A20
 by_cases c3 : t121 = true
 ·subst c3
  have H1 : ((spec_l00In.f a0_1 0 20000).bind fun t122 => (some t122)) = some r:=by rw [if_pos rfl] at H;exact H
  clear H
  have H:=H1
  clear H1
  replace H:=Option.bind_eq_some_iff.mp H
  obtain ⟨t122,A40,H⟩:=H
  replace H : (some t122) = some r:=H
  have A4:=Aside0.mk A40
  clear A40
  obtain rfl:=Option.some.inj H
  go_enter Try.func98,Try.ntmps98
  go_wp2_with (first | ((with_reducible refine gate_dst (N:=1) rfl ?_);refine bx (cs:=#[.int .i64 a0_0,.int .i64 a0_1]) (t:=73) ?_;intro gb120 hg w5 hbox hb;have BK120:=Aside0.mk (hbox);have GW120:=zb hg;have GE120:=zb hg;replace HB:=sb hb;clear hb hbox hg;have hcz6_0:=ck BK120 0;have hcz6_1:=ck BK120 1;have hfz6_0:=blk_frozen BK120.out 0;have hfz6_1:=blk_frozen BK120.out 1) | ((with_reducible refine gate_callee (f:=58) rfl ?_);refine goesL_ (some 5) rfl rfl Try.func58 (by kernel_rfl) rfl #[.int .i64 a0_0,.int .i64 0,.int .i64 20000] rfl (by (try simp only [mT,mC,mN]);first | done | rfl | (simp only [lD,lT];rfl)) ?_;(with_reducible refine (spec_l00In.calls a0_0 0 20000 true _ A2.out).mono ?_);rintro e w' ⟨rfl,⟨nd,rfl⟩⟩;refine ⟨_,rfl,?_⟩) | (go_at_call 58;(with_reducible refine (spec_l00In.calls a0_1 0 20000 t122 _ A4.out).mono ?_);rintro e w' ⟨rfl,⟨nd,rfl⟩⟩))
  go_ret
  exact ⟨by first | rfl | (simp [errW_none,errW_some] <;> rfl) | (simp [*,errW_none,errW_some] <;> rfl),ib⟩
 ·replace c3:=Bool.eq_false_iff.mpr c3
  subst c3
  have H1 : (some false) = some r:=by rw [if_neg (show ¬ (false = true) by decide)] at H;exact H
  clear H
  have H:=H1
  clear H1
  obtain rfl:=Option.some.inj H
  go_enter Try.func98,Try.ntmps98
  go_wp2_with (first | ((with_reducible refine gate_dst (N:=1) rfl ?_);refine bx (cs:=#[.int .i64 a0_0,.int .i64 a0_1]) (t:=73) ?_;intro gb120 hg w7 hbox hb;have BK120:=Aside0.mk (hbox);have GW120:=zb hg;have GE120:=zb hg;replace HB:=sb hb;clear hb hbox hg;have hcz8_0:=ck BK120 0;have hcz8_1:=ck BK120 1;have hfz8_0:=blk_frozen BK120.out 0;have hfz8_1:=blk_frozen BK120.out 1) | ((with_reducible refine gate_callee (f:=58) rfl ?_);refine goesL_ (some 5) rfl rfl Try.func58 (by kernel_rfl) rfl #[.int .i64 a0_0,.int .i64 0,.int .i64 20000] rfl (by (try simp only [mT,mC,mN]);first | done | rfl | (simp only [lD,lT];rfl)) ?_;(with_reducible refine (spec_l00In.calls a0_0 0 20000 false _ A2.out).mono ?_);rintro e w' ⟨rfl,⟨nd,rfl⟩⟩;refine ⟨_,rfl,?_⟩))
  go_ret
  exact ⟨by first | rfl | (simp [errW_none,errW_some] <;> rfl) | (simp [*,errW_none,errW_some] <;> rfl),ib⟩
def spec_l02Cross.f (a0_0 : Int) (a0_1 : Int) (a1_0 : Int) (a1_1 : Int) (a2_0 : Int) (a2_1 : Int) : Option (Int):=some (wrap64 ((wrap64 ((wrap64 (a1_0 - a0_0)) * (wrap64 (a2_1 - a0_1)))) - (wrap64 ((wrap64 (a1_1 - a0_1)) * (wrap64 (a2_0 - a0_0))))))
theorem spec_l02Cross.calls (a0_0 : Int) (a0_1 : Int) (a1_0 : Int) (a1_1 : Int) (a2_0 : Int) (a2_1 : Int) (r : Int) (w : World) (h : spec_l02Cross.f a0_0 a0_1 a1_0 a1_1 a2_0 a2_1 = some r) :
  Calls Try.prog 145 #[.agg #[.int .i64 a0_0,.int .i64 a0_1],.agg #[.int .i64 a1_0,.int .i64 a1_1],.agg #[.int .i64 a2_0,.int .i64 a2_1]] w fun e w' => e = .returned (.int .i64 r) ∧ Below w.heap.size w w':=by
 have hu73:=Try.underlying73
 have HB:=Aside0.mk (Below.refl w.heap.size w)
 have H : (some (wrap64 ((wrap64 ((wrap64 (a1_0 - a0_0)) * (wrap64 (a2_1 - a0_1)))) - (wrap64 ((wrap64 (a1_1 - a0_1)) * (wrap64 (a2_0 - a0_0))))))) = some r:=h
 clear h
 obtain rfl:=Option.some.inj H
 go_enter Try.func145,Try.ntmps145
 go_wp2_with (first | ((with_reducible refine gate_dst (N:=3) rfl ?_);refine bx (cs:=#[.int .i64 a0_0,.int .i64 a0_1]) (t:=73) ?_;intro gb123 hg w4 hbox hb;have BK123:=Aside0.mk (hbox);have GW123:=zb hg;have GE123:=zb hg;replace HB:=sb hb;clear hb hbox hg) | ((with_reducible refine gate_dst (N:=4) rfl ?_);refine bx (cs:=#[.int .i64 a1_0,.int .i64 a1_1]) (t:=73) ?_;intro gb124 hg w5 hbox hb;have BK124:=Aside0.mk (hbox);have GW124:=zb hg;have GE124:=zb hg;replace HB:=sb hb;have NB123_124:=nl BK123 hg;have NB124_123:=ng BK123 hg;replace BK123:=kb BK123 hb;clear hb hbox hg) | ((with_reducible refine gate_dst (N:=5) rfl ?_);refine bx (cs:=#[.int .i64 a2_0,.int .i64 a2_1]) (t:=73) ?_;intro gb125 hg w6 hbox hb;have BK125:=Aside0.mk (hbox);have GW125:=zb hg;have GE125:=zb hg;replace HB:=sb hb;have NB123_125:=nl BK123 hg;have NB125_123:=ng BK123 hg;replace BK123:=kb BK123 hb;have NB124_125:=nl BK124 hg;have NB125_124:=ng BK124 hg;replace BK124:=kb BK124 hb;clear hb hbox hg;have hnb7:=NB124_123.out;have hnc7:=NB123_124.out;have hnb8:=NB124_125.out;have hnc8:=NB125_124.out;have hcz9_0:=ck BK124 0;have hcz9_1:=ck BK124 1;have hfz9_0:=blk_frozen BK124.out 0;have hfz9_1:=blk_frozen BK124.out 1;have hnb10:=NB123_125.out;have hnc10:=NB125_123.out;have hcz11_0:=ck BK123 0;have hcz11_1:=ck BK123 1;have hfz11_0:=blk_frozen BK123.out 0;have hfz11_1:=blk_frozen BK123.out 1;have hcz12_0:=ck BK125 0;have hcz12_1:=ck BK125 1;have hfz12_0:=blk_frozen BK125.out 0;have hfz12_1:=blk_frozen BK125.out 1))
 go_ret
 exact ⟨by first | rfl | (simp [errW_none,errW_some] <;> rfl) | (simp [*,errW_none,errW_some] <;> rfl),ib⟩
def spec_l02Side.f (a0_0 : Int) (a0_1 : Int) (a1_0 : Int) (a1_1 : Int) (a2_0 : Int) (a2_1 : Int) : Option (Int):=(spec_l02Cross.f a0_0 a0_1 a1_0 a1_1 a2_0 a2_1).bind fun t129 => (if t129 > 0 then (some 1) else (if t129 < 0 then (some (-1)) else (some 0)))
theorem spec_l02Side.calls (a0_0 : Int) (a0_1 : Int) (a1_0 : Int) (a1_1 : Int) (a2_0 : Int) (a2_1 : Int) (r : Int) (w : World) (h : spec_l02Side.f a0_0 a0_1 a1_0 a1_1 a2_0 a2_1 = some r) :
  Calls Try.prog 103 #[.agg #[.int .i64 a0_0,.int .i64 a0_1],.agg #[.int .i64 a1_0,.int .i64 a1_1],.agg #[.int .i64 a2_0,.int .i64 a2_1]] w fun e w' => e = .returned (.int .i64 r) ∧ Below w.heap.size w w':=by
 have hu73:=Try.underlying73
 have HB:=Aside0.mk (Below.refl w.heap.size w)
 have H : ((spec_l02Cross.f a0_0 a0_1 a1_0 a1_1 a2_0 a2_1).bind fun t129 => (if t129 > 0 then (some 1) else (if t129 < 0 then (some (-1)) else (some 0)))) = some r:=h
 clear h
 replace H:=Option.bind_eq_some_iff.mp H
 obtain ⟨t129,A40,H⟩:=H
 replace H : (if t129 > 0 then (some 1) else (if t129 < 0 then (some (-1)) else (some 0))) = some r:=H
 have A4:=Aside0.mk A40
 clear A40
 by_cases c5 : t129 > 0
 ·rw [if_pos c5] at H
  have c5b0 : decide (0 < t129) = true:=decide_eq_true c5
  clear c5
  obtain rfl:=Option.some.inj H
  go_enter Try.func103,Try.ntmps103
  go_wp2_with (first | ((with_reducible refine gate_dst (N:=3) rfl ?_);refine bx (cs:=#[.int .i64 a0_0,.int .i64 a0_1]) (t:=73) ?_;intro gb126 hg w6 hbox hb;have BK126:=Aside0.mk (hbox);have GW126:=zb hg;have GE126:=zb hg;replace HB:=sb hb;clear hb hbox hg) | ((with_reducible refine gate_dst (N:=4) rfl ?_);refine bx (cs:=#[.int .i64 a1_0,.int .i64 a1_1]) (t:=73) ?_;intro gb127 hg w7 hbox hb;have BK127:=Aside0.mk (hbox);have GW127:=zb hg;have GE127:=zb hg;replace HB:=sb hb;have NB126_127:=nl BK126 hg;have NB127_126:=ng BK126 hg;replace BK126:=kb BK126 hb;clear hb hbox hg) | ((with_reducible refine gate_dst (N:=5) rfl ?_);refine bx (cs:=#[.int .i64 a2_0,.int .i64 a2_1]) (t:=73) ?_;intro gb128 hg w8 hbox hb;have BK128:=Aside0.mk (hbox);have GW128:=zb hg;have GE128:=zb hg;replace HB:=sb hb;have NB126_128:=nl BK126 hg;have NB128_126:=ng BK126 hg;replace BK126:=kb BK126 hb;have NB127_128:=nl BK127 hg;have NB128_127:=ng BK127 hg;replace BK127:=kb BK127 hb;clear hb hbox hg;have hnb9:=NB126_127.out;have hnc9:=NB127_126.out;have hnb10:=NB126_128.out;have hnc10:=NB128_126.out;have hcz11_0:=ck BK126 0;have hcz11_1:=ck BK126 1;have hfz11_0:=blk_frozen BK126.out 0;have hfz11_1:=blk_frozen BK126.out 1;have hnb12:=NB127_128.out;have hnc12:=NB128_127.out;have hcz13_0:=ck BK127 0;have hcz13_1:=ck BK127 1;have hfz13_0:=blk_frozen BK127.out 0;have hfz13_1:=blk_frozen BK127.out 1;have hcz14_0:=ck BK128 0;have hcz14_1:=ck BK128 1;have hfz14_0:=blk_frozen BK128.out 0;have hfz14_1:=blk_frozen BK128.out 1) | ((with_reducible refine gate_callee (f:=145) rfl ?_);refine goesL_ (some 11) rfl rfl Try.func145 (by kernel_rfl) rfl #[.agg #[.int .i64 a0_0,.int .i64 a0_1],.agg #[.int .i64 a1_0,.int .i64 a1_1],.agg #[.int .i64 a2_0,.int .i64 a2_1]] rfl (by (try simp only [mT,mC,mN]);first | done | rfl | (simp only [lD,lT];rfl)) ?_;(with_reducible refine (spec_l02Cross.calls a0_0 a0_1 a1_0 a1_1 a2_0 a2_1 t129 _ A4.out).mono ?_);rintro e w15 ⟨rfl,hb⟩;refine ⟨_,rfl,?_⟩;replace BK126:=kb BK126 hb;replace BK127:=kb BK127 hb;replace BK128:=kb BK128 hb;replace HB:=sb hb;(try clear hb);(try clear hb2);(try clear hk);(try clear hi)))
  go_ret
  exact ⟨by first | rfl | (simp [errW_none,errW_some] <;> rfl) | (simp [*,errW_none,errW_some] <;> rfl),ib⟩
 ·rw [if_neg c5] at H
  have c5b0 : decide (0 < t129) = false:=decide_eq_false c5
  clear c5
  by_cases c16 : t129 < 0
  ·rw [if_pos c16] at H
   have c16b0 : decide (t129 < 0) = true:=decide_eq_true c16
   clear c16
   obtain rfl:=Option.some.inj H
   go_enter Try.func103,Try.ntmps103
   go_wp2_with (first | ((with_reducible refine gate_dst (N:=3) rfl ?_);refine bx (cs:=#[.int .i64 a0_0,.int .i64 a0_1]) (t:=73) ?_;intro gb126 hg w17 hbox hb;have BK126:=Aside0.mk (hbox);have GW126:=zb hg;have GE126:=zb hg;replace HB:=sb hb;clear hb hbox hg) | ((with_reducible refine gate_dst (N:=4) rfl ?_);refine bx (cs:=#[.int .i64 a1_0,.int .i64 a1_1]) (t:=73) ?_;intro gb127 hg w18 hbox hb;have BK127:=Aside0.mk (hbox);have GW127:=zb hg;have GE127:=zb hg;replace HB:=sb hb;have NB126_127:=nl BK126 hg;have NB127_126:=ng BK126 hg;replace BK126:=kb BK126 hb;clear hb hbox hg) | ((with_reducible refine gate_dst (N:=5) rfl ?_);refine bx (cs:=#[.int .i64 a2_0,.int .i64 a2_1]) (t:=73) ?_;intro gb128 hg w19 hbox hb;have BK128:=Aside0.mk (hbox);have GW128:=zb hg;have GE128:=zb hg;replace HB:=sb hb;have NB126_128:=nl BK126 hg;have NB128_126:=ng BK126 hg;replace BK126:=kb BK126 hb;have NB127_128:=nl BK127 hg;have NB128_127:=ng BK127 hg;replace BK127:=kb BK127 hb;clear hb hbox hg;have hnb20:=NB126_127.out;have hnc20:=NB127_126.out;have hnb21:=NB126_128.out;have hnc21:=NB128_126.out;have hcz22_0:=ck BK126 0;have hcz22_1:=ck BK126 1;have hfz22_0:=blk_frozen BK126.out 0;have hfz22_1:=blk_frozen BK126.out 1;have hnb23:=NB127_128.out;have hnc23:=NB128_127.out;have hcz24_0:=ck BK127 0;have hcz24_1:=ck BK127 1;have hfz24_0:=blk_frozen BK127.out 0;have hfz24_1:=blk_frozen BK127.out 1;have hcz25_0:=ck BK128 0;have hcz25_1:=ck BK128 1;have hfz25_0:=blk_frozen BK128.out 0;have hfz25_1:=blk_frozen BK128.out 1) | ((with_reducible refine gate_callee (f:=145) rfl ?_);refine goesL_ (some 11) rfl rfl Try.func145 (by kernel_rfl) rfl #[.agg #[.int .i64 a0_0,.int .i64 a0_1],.agg #[.int .i64 a1_0,.int .i64 a1_1],.agg #[.int .i64 a2_0,.int .i64 a2_1]] rfl (by (try simp only [mT,mC,mN]);first | done | rfl | (simp only [lD,lT];rfl)) ?_;(with_reducible refine (spec_l02Cross.calls a0_0 a0_1 a1_0 a1_1 a2_0 a2_1 t129 _ A4.out).mono ?_);rintro e w26 ⟨rfl,hb⟩;refine ⟨_,rfl,?_⟩;replace BK126:=kb BK126 hb;replace BK127:=kb BK127 hb;replace BK128:=kb BK128 hb;replace HB:=sb hb;(try clear hb);(try clear hb2);(try clear hk);(try clear hi)))
   go_ret
   exact ⟨by first | rfl | (simp [errW_none,errW_some] <;> rfl) | (simp [*,errW_none,errW_some] <;> rfl),ib⟩
  ·rw [if_neg c16] at H
   have c16b0 : decide (t129 < 0) = false:=decide_eq_false c16
   clear c16
   obtain rfl:=Option.some.inj H
   go_enter Try.func103,Try.ntmps103
   go_wp2_with (first | ((with_reducible refine gate_dst (N:=3) rfl ?_);refine bx (cs:=#[.int .i64 a0_0,.int .i64 a0_1]) (t:=73) ?_;intro gb126 hg w27 hbox hb;have BK126:=Aside0.mk (hbox);have GW126:=zb hg;have GE126:=zb hg;replace HB:=sb hb;clear hb hbox hg) | ((with_reducible refine gate_dst (N:=4) rfl ?_);refine bx (cs:=#[.int .i64 a1_0,.int .i64 a1_1]) (t:=73) ?_;intro gb127 hg w28 hbox hb;have BK127:=Aside0.mk (hbox);have GW127:=zb hg;have GE127:=zb hg;replace HB:=sb hb;have NB126_127:=nl BK126 hg;have NB127_126:=ng BK126 hg;replace BK126:=kb BK126 hb;clear hb hbox hg) | ((with_reducible refine gate_dst (N:=5) rfl ?_);refine bx (cs:=#[.int .i64 a2_0,.int .i64 a2_1]) (t:=73) ?_;intro gb128 hg w29 hbox hb;have BK128:=Aside0.mk (hbox);have GW128:=zb hg;have GE128:=zb hg;replace HB:=sb hb;have NB126_128:=nl BK126 hg;have NB128_126:=ng BK126 hg;replace BK126:=kb BK126 hb;have NB127_128:=nl BK127 hg;have NB128_127:=ng BK127 hg;replace BK127:=kb BK127 hb;clear hb hbox hg;have hnb30:=NB126_127.out;have hnc30:=NB127_126.out;have hnb31:=NB126_128.out;have hnc31:=NB128_126.out;have hcz32_0:=ck BK126 0;have hcz32_1:=ck BK126 1;have hfz32_0:=blk_frozen BK126.out 0;have hfz32_1:=blk_frozen BK126.out 1;have hnb33:=NB127_128.out;have hnc33:=NB128_127.out;have hcz34_0:=ck BK127 0;have hcz34_1:=ck BK127 1;have hfz34_0:=blk_frozen BK127.out 0;have hfz34_1:=blk_frozen BK127.out 1;have hcz35_0:=ck BK128 0;have hcz35_1:=ck BK128 1;have hfz35_0:=blk_frozen BK128.out 0;have hfz35_1:=blk_frozen BK128.out 1) | ((with_reducible refine gate_callee (f:=145) rfl ?_);refine goesL_ (some 11) rfl rfl Try.func145 (by kernel_rfl) rfl #[.agg #[.int .i64 a0_0,.int .i64 a0_1],.agg #[.int .i64 a1_0,.int .i64 a1_1],.agg #[.int .i64 a2_0,.int .i64 a2_1]] rfl (by (try simp only [mT,mC,mN]);first | done | rfl | (simp only [lD,lT];rfl)) ?_;(with_reducible refine (spec_l02Cross.calls a0_0 a0_1 a1_0 a1_1 a2_0 a2_1 t129 _ A4.out).mono ?_);rintro e w36 ⟨rfl,hb⟩;refine ⟨_,rfl,?_⟩;replace BK126:=kb BK126 hb;replace BK127:=kb BK127 hb;replace BK128:=kb BK128 hb;replace HB:=sb hb;(try clear hb);(try clear hb2);(try clear hk);(try clear hi)))
   go_ret
   exact ⟨by first | rfl | (simp [errW_none,errW_some] <;> rfl) | (simp [*,errW_none,errW_some] <;> rfl),ib⟩
def spec_l00Min.f (a0 : Int) (a1 : Int) : Option (Int):=if a0 < a1 then (some a0) else (some a1)
theorem spec_l00Min.calls (a0 : Int) (a1 : Int) (r : Int) (w : World) (h : spec_l00Min.f a0 a1 = some r) :
  Calls Try.prog 143 #[.int .i64 a0,.int .i64 a1] w fun e w' => e = .returned (.int .i64 r) ∧ Drawn0 w w':=by
 have H : (if a0 < a1 then (some a0) else (some a1)) = some r:=h
 clear h
 by_cases c3 : a0 < a1
 ·rw [if_pos c3] at H
  have c3b0 : decide (a0 < a1) = true:=decide_eq_true c3
  clear c3
  obtain rfl:=Option.some.inj H
  go_enter Try.func143,Try.ntmps143
  go_wp2
  go_ret
  exact ⟨by first | rfl | (simp;done) | (simp [*];done),by repeat (first | exact Drawn0.refl _ | apply Drawn0.step)⟩
 ·rw [if_neg c3] at H
  have c3b0 : decide (a0 < a1) = false:=decide_eq_false c3
  clear c3
  obtain rfl:=Option.some.inj H
  go_enter Try.func143,Try.ntmps143
  go_wp2
  go_ret
  exact ⟨by first | rfl | (simp;done) | (simp [*];done),by repeat (first | exact Drawn0.refl _ | apply Drawn0.step)⟩
def spec_l00Max.f (a0 : Int) (a1 : Int) : Option (Int):=if a0 > a1 then (some a0) else (some a1)
theorem spec_l00Max.calls (a0 : Int) (a1 : Int) (r : Int) (w : World) (h : spec_l00Max.f a0 a1 = some r) :
  Calls Try.prog 144 #[.int .i64 a0,.int .i64 a1] w fun e w' => e = .returned (.int .i64 r) ∧ Drawn0 w w':=by
 have H : (if a0 > a1 then (some a0) else (some a1)) = some r:=h
 clear h
 by_cases c3 : a0 > a1
 ·rw [if_pos c3] at H
  have c3b0 : decide (a1 < a0) = true:=decide_eq_true c3
  clear c3
  obtain rfl:=Option.some.inj H
  go_enter Try.func144,Try.ntmps144
  go_wp2
  go_ret
  exact ⟨by first | rfl | (simp;done) | (simp [*];done),by repeat (first | exact Drawn0.refl _ | apply Drawn0.step)⟩
 ·rw [if_neg c3] at H
  have c3b0 : decide (a1 < a0) = false:=decide_eq_false c3
  clear c3
  obtain rfl:=Option.some.inj H
  go_enter Try.func144,Try.ntmps144
  go_wp2
  go_ret
  exact ⟨by first | rfl | (simp;done) | (simp [*];done),by repeat (first | exact Drawn0.refl _ | apply Drawn0.step)⟩
end Go.Proofs.Ytnnchaggdnlfmaa.PFnExactStartAt
