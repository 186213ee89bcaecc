/- Contracts of functions that FnExactFacePolygon reaches, out of the lines of the kit's print. -/
import Derived.Test.YtnnchaggdnlfmaaQFnExactFacePolygonx0
import Derived.Test.YtnnchaggdnlfmaaQFnExactFacePolygonx2
import Derived.Test.YtnnchaggdnlfmaaQFnExactFacePolygonx4
namespace Go.Proofs.Ytnnchaggdnlfmaa.PFnExactFacePolygon
set_option maxHeartbeats 8000000
set_option maxRecDepth 100000
open Go.RowKit Go.Proofs.YtnnchaggdnlfmaaW.PrintWords Go.Proofs.YtnnchaggdnlfmaaW.PrintLast Go.Proofs.YtnnchaggdnlfmaaW.PrintMore
open Bool renaming true → tT, false → fF
open Go.World renaming block_lt_of_cell? → bL
open List renaming length_take → lT, length_drop → lD, map_toArray → mT, map_cons → mC, map_nil → mN
open Option renaming bind_eq_some_iff → bE
attribute [local go_sem] max2_int min2_int max_two min_two max_three min_three max_four min_four
set_option linter.unusedVariables false
set_option linter.unusedSimpArgs false
def laws_markDrawing.f (k : Nat) (a0_0 : Int) (a0_1 : Int) (l0_2 : List (S73)) (l0_3 : List (S103)) (a1 : Int) : Option (Int):=(laws_markPointS.f k l0_2 a1).bind fun bt => ((laws_markFaceS.f k l0_3 bt.1).bind fun bu => (some bu.1))
theorem laws_markDrawing.calls (k : Nat) (P0_ : Nat → Prop) (a0_0 : Int) (a0_1 : Int) (u9000_ : Value) (l0_2 : List (S73)) (u9001_ : Value) (l0_3 : List (S103)) (a1 : Int) (r1 : Int) (w0 w : World) (hB : Below w0.heap.size w0 w) (ho0 : Kd.R k73 73 w w0.heap.size P0_ u9000_ l0_2) (ho1 : Kd.S k103 103 w w0.heap.size P0_ u9001_ l0_3) (h : laws_markDrawing.f k a0_0 a0_1 l0_2 l0_3 a1 = some r1) :
  Calls Try.prog 41 #[.agg #[.int .i64 a0_0,.int .i64 a0_1,u9000_,u9001_],.int .i64 a1] w fun e w' => e = .returned (.int .i64 r1) ∧ Below w0.heap.size w0 w' ∧ Kept w w' (fun k_ => P0_ k_):=by
 have HB:=Aside0.mk hB
 have HK:=Aside0.mk (Kept.refl w (fun k_ => P0_ k_))
 have HO:=Aside0.mk ho0
 have HS:=Aside0.mk (Kd.S_apart' ho1 (Kd.R_typed ho0) (by decide))
 have HP:=Aside0.mk (ho0.1)
 clear hB ho0 ho1
 obtain ⟨⟨m1,m2⟩,A10_,H⟩:=bE.mp h
 obtain ⟨⟨m3,m4⟩,A20_,H⟩:=bE.mp H
 obtain rfl:=Option.some.inj H
 have A1:=Aside0.mk A10_
 have A2:=Aside0.mk A20_
 clear A10_ A20_ h H
 obtain ⟨A5_,c5_,e5_⟩:=Kd.R_slice HO.out
 subst e5_
 obtain ⟨A6_,c6_,e6_⟩:=Kd.S_slice HS.out
 subst e6_
 go_enter Try.func41,Try.ntmps41
 go_wp2_with (first | ((with_reducible refine gate_dst (N:=2) rfl ?_);refine bx (cs:=#[.int .i64 a0_0,.int .i64 a0_1,.slice A5_ l0_2.length c5_,.slice A6_ l0_3.length c6_]) (t:=51) ?_;intro gb hg w3 hbox hb;have n0_:=Aside0.mk (Kd.R_below HO.out hb);have n1_:=Aside0.mk (Kd.S_below HS.out hb);have n2_:=Aside0.mk (below_weaken ib HB.out.size hb);have n3_:=Aside0.mk (Kept.below (by repeat (first | (with_reducible first | exact HK.out | apply Kept.alloc | apply Kept.drewN | apply Kept.drew) | exact HK.out)) hb);have GNE:=Aside0.mk (show some gb ≠ (Value.slice A5_ l0_2.length c5_).ownBlock from (by rw [hg];exact Kd.R_ne_new HO.out 0));have hx2 : w3.cell? ⟨gb,2,none⟩ = some (.slice A5_ l0_2.length c5_):=(blk_cell hbox 2).trans rfl;have BX:=Aside0.mk hbox;clear HO HS HB HK hb hbox hg;have HO:=n0_;have HS:=n1_;have HB:=n2_;have HK:=n3_;clear n0_ n1_ n2_ n3_) | ((with_reducible refine gate_callee (f:=23) rfl ?_);refine goesL_ (some 8) rfl rfl Try.func23 (by kernel_rfl) rfl #[.slice A5_ l0_2.length c5_,.int .i64 a1] rfl (by (try simp only [mT,mC,mN]);first | done | rfl | (simp only [lD,lT];rfl)) ?_;(with_reducible refine (laws_markPointS.calls k (fun k_ => some k_ = (.slice A5_ l0_2.length c5_ : Value).ownBlock) _ l0_2 a1 m1 m2 w0 _ ib (Kd.R_tight rfl (rO HO.out)) A1.out).mono ?_);rintro e w5 ⟨rfl,ho,hb,hk⟩;refine ⟨_,rfl,?_⟩;have n1_:=Aside0.mk (Kd.S_kept HS.out hk (fun k_ h_ => h_.2));have n3_:=Aside0.mk (Kept.then_ (by repeat (first | (with_reducible first | exact HK.out | apply Kept.alloc | apply Kept.drewN | apply Kept.drew) | exact HK.out)) hk (fun k_ h_ => .inl (HP.out k_ h_.symm)));have hx3 : w5.cell? ⟨gb,3,none⟩ = some (.slice A6_ l0_3.length c6_):=(blk_cell (blk_kept BX.out hk GNE.out) 3).trans rfl;clear HO HS HB HK hk ho hx2;have HS:=n1_;have HB:=Aside0.mk hb;have HK:=n3_;clear n1_ n3_ hb) | ((with_reducible refine gate_callee (f:=80) rfl ?_);refine goesL_ (some 12) rfl rfl Try.func80 (by kernel_rfl) rfl #[.slice A6_ l0_3.length c6_,.int .i64 m1] rfl (by (try simp only [mT,mC,mN]);first | done | rfl | (simp only [lD,lT];rfl)) ?_;(with_reducible refine (laws_markFaceS.calls k P0_ _ l0_3 m1 m3 m4 w0 _ ib (Kd.S_mono HS.out (fun k_ h_ => h_.1)) A2.out).mono ?_);rintro e w6 ⟨rfl,ho,hb,hk⟩;refine ⟨_,rfl,?_⟩;have n3_:=Aside0.mk (Kept.then_ (by repeat (first | (with_reducible first | exact HK.out | apply Kept.alloc | apply Kept.drewN | apply Kept.drew) | exact HK.out)) hk (fun k_ h_ => .inl h_));clear HS HB HK hk ho;have HB:=Aside0.mk hb;have HK:=n3_;clear n3_ hb))
 go_ret
 exact ⟨(by first | rfl | (simp;done) | (simp [*];done)),ib,(by repeat (first | (with_reducible first | exact HK.out | apply Kept.alloc | apply Kept.drewN | apply Kept.drew) | exact HK.out))⟩
def spec_l00In.f (a0 : Int) (a1 : Int) (a2 : Int) : Option (Bool):=if a0 ≥ a1 then (some (decide (a0 ≤ a2))) else (some false)
theorem spec_l00In.calls (a0 : Int) (a1 : Int) (a2 : Int) (r : Bool) (w : World) (h : spec_l00In.f a0 a1 a2 = some r) :
  Calls Try.prog 58 #[.int .i64 a0,.int .i64 a1,.int .i64 a2] w fun e w' => e = .returned (.bool r) ∧ Drawn0 w w':=by
 have H : (if a0 ≥ a1 then (some (decide (a0 ≤ a2))) else (some false)) = some r:=h
 clear h
 by_cases c4 : a0 ≥ a1
 ·rw [if_pos c4] at H
  have c4b0 : decide (a1 ≤ a0) = true:=decide_eq_true c4
  clear c4
  obtain rfl:=Option.some.inj H
  go_enter Try.func58,Try.ntmps58
  go_wp2
  go_ret
  exact ⟨by first | rfl | (simp;done) | (simp [*];done),by repeat (first | exact Drawn0.refl _ | apply Drawn0.step)⟩
 ·rw [if_neg c4] at H
  have c4b0 : decide (a1 ≤ a0) = false:=decide_eq_false c4
  clear c4
  obtain rfl:=Option.some.inj H
  go_enter Try.func58,Try.ntmps58
  go_wp2
  go_ret
  exact ⟨by first | rfl | (simp;done) | (simp [*];done),by repeat (first | exact Drawn0.refl _ | apply Drawn0.step)⟩
def spec_l02Ok.f (a0_0 : Int) (a0_1 : Int) : Option (Bool):=(spec_l00In.f a0_0 0 20000).bind fun t173 => (if t173 = true then ((spec_l00In.f a0_1 0 20000).bind fun t174 => (some t174)) else (some false))
theorem spec_l02Ok.calls (a0_0 : Int) (a0_1 : Int) (r : Bool) (w : World) (h : spec_l02Ok.f a0_0 a0_1 = some r) :
  Calls Try.prog 98 #[.agg #[.int .i64 a0_0,.int .i64 a0_1]] w fun e w' => e = .returned (.bool r) ∧ Below w.heap.size w w':=by
 have hu73:=Try.underlying73
 have HB:=Aside0.mk (Below.refl w.heap.size w)
 have H : ((spec_l00In.f a0_0 0 20000).bind fun t173 => (if t173 = true then ((spec_l00In.f a0_1 0 20000).bind fun t174 => (some t174)) else (some false))) = some r:=h
 clear h
 replace H:=bE.mp H
 obtain ⟨t173,A20,H⟩:=H
 replace H : (if t173 = true then ((spec_l00In.f a0_1 0 20000).bind fun t174 => (some t174)) else (some false)) = some r:=H
 have A2:=Aside0.mk A20
 clear A20
 by_cases c3 : t173 = true
 ·subst c3
  have H1 : ((spec_l00In.f a0_1 0 20000).bind fun t174 => (some t174)) = some r:=by rw [if_pos rfl] at H;exact H
  clear H
  have H:=H1
  clear H1
  replace H:=bE.mp H
  obtain ⟨t174,A40,H⟩:=H
  replace H : (some t174) = some r:=H
  have A4:=Aside0.mk A40
  clear A40
  obtain rfl:=Option.some.inj H
  go_enter Try.func98,Try.ntmps98
  go_wp2_with (first | ((with_reducible refine gate_dst (N:=1) rfl ?_);refine bx (cs:=#[.int .i64 a0_0,.int .i64 a0_1]) (t:=73) ?_;intro gb172 hg w5 hbox hb;have BK172:=Aside0.mk (hbox);have GW172:=zb hg;have GE172:=zb hg;replace HB:=sb hb;clear hb hbox hg;have hcz6_0:=ck BK172 0;have hcz6_1:=ck BK172 1;have hfz6_0:=blk_frozen BK172.out 0;have hfz6_1:=blk_frozen BK172.out 1) | ((with_reducible refine gate_callee (f:=58) rfl ?_);refine goesL_ (some 5) rfl rfl Try.func58 (by kernel_rfl) rfl #[.int .i64 a0_0,.int .i64 0,.int .i64 20000] rfl (by (try simp only [mT,mC,mN]);first | done | rfl | (simp only [lD,lT];rfl)) ?_;(with_reducible refine (spec_l00In.calls a0_0 0 20000 true _ A2.out).mono ?_);rintro e w' ⟨rfl,⟨nd,rfl⟩⟩;refine ⟨_,rfl,?_⟩) | (go_at_call 58;(with_reducible refine (spec_l00In.calls a0_1 0 20000 t174 _ A4.out).mono ?_);rintro e w' ⟨rfl,⟨nd,rfl⟩⟩))
  go_ret
  exact ⟨by first | rfl | (simp [errW_none,errW_some] <;> rfl) | (simp [*,errW_none,errW_some] <;> rfl),ib⟩
 ·replace c3:=Bool.eq_false_iff.mpr c3
  subst c3
  have H1 : (some false) = some r:=by rw [if_neg (show ¬ (false = true) by decide)] at H;exact H
  clear H
  have H:=H1
  clear H1
  obtain rfl:=Option.some.inj H
  go_enter Try.func98,Try.ntmps98
  go_wp2_with (first | ((with_reducible refine gate_dst (N:=1) rfl ?_);refine bx (cs:=#[.int .i64 a0_0,.int .i64 a0_1]) (t:=73) ?_;intro gb172 hg w7 hbox hb;have BK172:=Aside0.mk (hbox);have GW172:=zb hg;have GE172:=zb hg;replace HB:=sb hb;clear hb hbox hg;have hcz8_0:=ck BK172 0;have hcz8_1:=ck BK172 1;have hfz8_0:=blk_frozen BK172.out 0;have hfz8_1:=blk_frozen BK172.out 1) | ((with_reducible refine gate_callee (f:=58) rfl ?_);refine goesL_ (some 5) rfl rfl Try.func58 (by kernel_rfl) rfl #[.int .i64 a0_0,.int .i64 0,.int .i64 20000] rfl (by (try simp only [mT,mC,mN]);first | done | rfl | (simp only [lD,lT];rfl)) ?_;(with_reducible refine (spec_l00In.calls a0_0 0 20000 false _ A2.out).mono ?_);rintro e w' ⟨rfl,⟨nd,rfl⟩⟩;refine ⟨_,rfl,?_⟩))
  go_ret
  exact ⟨by first | rfl | (simp [errW_none,errW_some] <;> rfl) | (simp [*,errW_none,errW_some] <;> rfl),ib⟩
def spec_l02Cross.f (a0_0 : Int) (a0_1 : Int) (a1_0 : Int) (a1_1 : Int) (a2_0 : Int) (a2_1 : Int) : Option (Int):=some (wrap64 ((wrap64 ((wrap64 (a1_0 - a0_0)) * (wrap64 (a2_1 - a0_1)))) - (wrap64 ((wrap64 (a1_1 - a0_1)) * (wrap64 (a2_0 - a0_0))))))
theorem spec_l02Cross.calls (a0_0 : Int) (a0_1 : Int) (a1_0 : Int) (a1_1 : Int) (a2_0 : Int) (a2_1 : Int) (r : Int) (w : World) (h : spec_l02Cross.f a0_0 a0_1 a1_0 a1_1 a2_0 a2_1 = some r) :
  Calls Try.prog 145 #[.agg #[.int .i64 a0_0,.int .i64 a0_1],.agg #[.int .i64 a1_0,.int .i64 a1_1],.agg #[.int .i64 a2_0,.int .i64 a2_1]] w fun e w' => e = .returned (.int .i64 r) ∧ Below w.heap.size w w':=by
 have hu73:=Try.underlying73
 have HB:=Aside0.mk (Below.refl w.heap.size w)
 have H : (some (wrap64 ((wrap64 ((wrap64 (a1_0 - a0_0)) * (wrap64 (a2_1 - a0_1)))) - (wrap64 ((wrap64 (a1_1 - a0_1)) * (wrap64 (a2_0 - a0_0))))))) = some r:=h
 clear h
 obtain rfl:=Option.some.inj H
 go_enter Try.func145,Try.ntmps145
 go_wp2_with (first | ((with_reducible refine gate_dst (N:=3) rfl ?_);refine bx (cs:=#[.int .i64 a0_0,.int .i64 a0_1]) (t:=73) ?_;intro gb175 hg w4 hbox hb;have BK175:=Aside0.mk (hbox);have GW175:=zb hg;have GE175:=zb hg;replace HB:=sb hb;clear hb hbox hg) | ((with_reducible refine gate_dst (N:=4) rfl ?_);refine bx (cs:=#[.int .i64 a1_0,.int .i64 a1_1]) (t:=73) ?_;intro gb176 hg w5 hbox hb;have BK176:=Aside0.mk (hbox);have GW176:=zb hg;have GE176:=zb hg;replace HB:=sb hb;have NB175_176:=nl BK175 hg;have NB176_175:=ng BK175 hg;replace BK175:=kb BK175 hb;clear hb hbox hg) | ((with_reducible refine gate_dst (N:=5) rfl ?_);refine bx (cs:=#[.int .i64 a2_0,.int .i64 a2_1]) (t:=73) ?_;intro gb177 hg w6 hbox hb;have BK177:=Aside0.mk (hbox);have GW177:=zb hg;have GE177:=zb hg;replace HB:=sb hb;have NB175_177:=nl BK175 hg;have NB177_175:=ng BK175 hg;replace BK175:=kb BK175 hb;have NB176_177:=nl BK176 hg;have NB177_176:=ng BK176 hg;replace BK176:=kb BK176 hb;clear hb hbox hg;have hnb7:=NB176_175.out;have hnc7:=NB175_176.out;have hnb8:=NB176_177.out;have hnc8:=NB177_176.out;have hcz9_0:=ck BK176 0;have hcz9_1:=ck BK176 1;have hfz9_0:=blk_frozen BK176.out 0;have hfz9_1:=blk_frozen BK176.out 1;have hnb10:=NB175_177.out;have hnc10:=NB177_175.out;have hcz11_0:=ck BK175 0;have hcz11_1:=ck BK175 1;have hfz11_0:=blk_frozen BK175.out 0;have hfz11_1:=blk_frozen BK175.out 1;have hcz12_0:=ck BK177 0;have hcz12_1:=ck BK177 1;have hfz12_0:=blk_frozen BK177.out 0;have hfz12_1:=blk_frozen BK177.out 1))
 go_ret
 exact ⟨by first | rfl | (simp [errW_none,errW_some] <;> rfl) | (simp [*,errW_none,errW_some] <;> rfl),ib⟩
def spec_l02Side.f (a0_0 : Int) (a0_1 : Int) (a1_0 : Int) (a1_1 : Int) (a2_0 : Int) (a2_1 : Int) : Option (Int):=(spec_l02Cross.f a0_0 a0_1 a1_0 a1_1 a2_0 a2_1).bind fun t181 => (if t181 > 0 then (some 1) else (if t181 < 0 then (some (-1)) else (some 0)))
theorem spec_l02Side.calls (a0_0 : Int) (a0_1 : Int) (a1_0 : Int) (a1_1 : Int) (a2_0 : Int) (a2_1 : Int) (r : Int) (w : World) (h : spec_l02Side.f a0_0 a0_1 a1_0 a1_1 a2_0 a2_1 = some r) :
  Calls Try.prog 103 #[.agg #[.int .i64 a0_0,.int .i64 a0_1],.agg #[.int .i64 a1_0,.int .i64 a1_1],.agg #[.int .i64 a2_0,.int .i64 a2_1]] w fun e w' => e = .returned (.int .i64 r) ∧ Below w.heap.size w w':=by
 have hu73:=Try.underlying73
 have HB:=Aside0.mk (Below.refl w.heap.size w)
 have H : ((spec_l02Cross.f a0_0 a0_1 a1_0 a1_1 a2_0 a2_1).bind fun t181 => (if t181 > 0 then (some 1) else (if t181 < 0 then (some (-1)) else (some 0)))) = some r:=h
 clear h
 replace H:=bE.mp H
 obtain ⟨t181,A40,H⟩:=H
 replace H : (if t181 > 0 then (some 1) else (if t181 < 0 then (some (-1)) else (some 0))) = some r:=H
 have A4:=Aside0.mk A40
 clear A40
 by_cases c5 : t181 > 0
 ·rw [if_pos c5] at H
  have c5b0 : decide (0 < t181) = true:=decide_eq_true c5
  clear c5
  obtain rfl:=Option.some.inj H
  go_enter Try.func103,Try.ntmps103
  go_wp2_with (first | ((with_reducible refine gate_dst (N:=3) rfl ?_);refine bx (cs:=#[.int .i64 a0_0,.int .i64 a0_1]) (t:=73) ?_;intro gb178 hg w6 hbox hb;have BK178:=Aside0.mk (hbox);have GW178:=zb hg;have GE178:=zb hg;replace HB:=sb hb;clear hb hbox hg) | ((with_reducible refine gate_dst (N:=4) rfl ?_);refine bx (cs:=#[.int .i64 a1_0,.int .i64 a1_1]) (t:=73) ?_;intro gb179 hg w7 hbox hb;have BK179:=Aside0.mk (hbox);have GW179:=zb hg;have GE179:=zb hg;replace HB:=sb hb;have NB178_179:=nl BK178 hg;have NB179_178:=ng BK178 hg;replace BK178:=kb BK178 hb;clear hb hbox hg) | ((with_reducible refine gate_dst (N:=5) rfl ?_);refine bx (cs:=#[.int .i64 a2_0,.int .i64 a2_1]) (t:=73) ?_;intro gb180 hg w8 hbox hb;have BK180:=Aside0.mk (hbox);have GW180:=zb hg;have GE180:=zb hg;replace HB:=sb hb;have NB178_180:=nl BK178 hg;have NB180_178:=ng BK178 hg;replace BK178:=kb BK178 hb;have NB179_180:=nl BK179 hg;have NB180_179:=ng BK179 hg;replace BK179:=kb BK179 hb;clear hb hbox hg;have hnb9:=NB178_179.out;have hnc9:=NB179_178.out;have hnb10:=NB178_180.out;have hnc10:=NB180_178.out;have hcz11_0:=ck BK178 0;have hcz11_1:=ck BK178 1;have hfz11_0:=blk_frozen BK178.out 0;have hfz11_1:=blk_frozen BK178.out 1;have hnb12:=NB179_180.out;have hnc12:=NB180_179.out;have hcz13_0:=ck BK179 0;have hcz13_1:=ck BK179 1;have hfz13_0:=blk_frozen BK179.out 0;have hfz13_1:=blk_frozen BK179.out 1;have hcz14_0:=ck BK180 0;have hcz14_1:=ck BK180 1;have hfz14_0:=blk_frozen BK180.out 0;have hfz14_1:=blk_frozen BK180.out 1) | ((with_reducible refine gate_callee (f:=145) rfl ?_);refine goesL_ (some 11) rfl rfl Try.func145 (by kernel_rfl) rfl #[.agg #[.int .i64 a0_0,.int .i64 a0_1],.agg #[.int .i64 a1_0,.int .i64 a1_1],.agg #[.int .i64 a2_0,.int .i64 a2_1]] rfl (by (try simp only [mT,mC,mN]);first | done | rfl | (simp only [lD,lT];rfl)) ?_;(with_reducible refine (spec_l02Cross.calls a0_0 a0_1 a1_0 a1_1 a2_0 a2_1 t181 _ A4.out).mono ?_);rintro e w15 ⟨rfl,hb⟩;refine ⟨_,rfl,?_⟩;replace BK178:=kb BK178 hb;replace BK179:=kb BK179 hb;replace BK180:=kb BK180 hb;replace HB:=sb hb;(try clear hb);(try clear hb2);(try clear hk);(try clear hi)))
  go_ret
  exact ⟨by first | rfl | (simp [errW_none,errW_some] <;> rfl) | (simp [*,errW_none,errW_some] <;> rfl),ib⟩
 ·rw [if_neg c5] at H
  have c5b0 : decide (0 < t181) = false:=decide_eq_false c5
  clear c5
  by_cases c16 : t181 < 0
  ·rw [if_pos c16] at H
   have c16b0 : decide (t181 < 0) = true:=decide_eq_true c16
   clear c16
   obtain rfl:=Option.some.inj H
   go_enter Try.func103,Try.ntmps103
   go_wp2_with (first | ((with_reducible refine gate_dst (N:=3) rfl ?_);refine bx (cs:=#[.int .i64 a0_0,.int .i64 a0_1]) (t:=73) ?_;intro gb178 hg w17 hbox hb;have BK178:=Aside0.mk (hbox);have GW178:=zb hg;have GE178:=zb hg;replace HB:=sb hb;clear hb hbox hg) | ((with_reducible refine gate_dst (N:=4) rfl ?_);refine bx (cs:=#[.int .i64 a1_0,.int .i64 a1_1]) (t:=73) ?_;intro gb179 hg w18 hbox hb;have BK179:=Aside0.mk (hbox);have GW179:=zb hg;have GE179:=zb hg;replace HB:=sb hb;have NB178_179:=nl BK178 hg;have NB179_178:=ng BK178 hg;replace BK178:=kb BK178 hb;clear hb hbox hg) | ((with_reducible refine gate_dst (N:=5) rfl ?_);refine bx (cs:=#[.int .i64 a2_0,.int .i64 a2_1]) (t:=73) ?_;intro gb180 hg w19 hbox hb;have BK180:=Aside0.mk (hbox);have GW180:=zb hg;have GE180:=zb hg;replace HB:=sb hb;have NB178_180:=nl BK178 hg;have NB180_178:=ng BK178 hg;replace BK178:=kb BK178 hb;have NB179_180:=nl BK179 hg;have NB180_179:=ng BK179 hg;replace BK179:=kb BK179 hb;clear hb hbox hg;have hnb20:=NB178_179.out;have hnc20:=NB179_178.out;have hnb21:=NB178_180.out;have hnc21:=NB180_178.out;have hcz22_0:=ck BK178 0;have hcz22_1:=ck BK178 1;have hfz22_0:=blk_frozen BK178.out 0;have hfz22_1:=blk_frozen BK178.out 1;have hnb23:=NB179_180.out;have hnc23:=NB180_179.out;have hcz24_0:=ck BK179 0;have hcz24_1:=ck BK179 1;have hfz24_0:=blk_frozen BK179.out 0;have hfz24_1:=blk_frozen BK179.out 1;have hcz25_0:=ck BK180 0;have hcz25_1:=ck BK180 1;have hfz25_0:=blk_frozen BK180.out 0;have hfz25_1:=blk_frozen BK180.out 1) | ((with_reducible refine gate_callee (f:=145) rfl ?_);refine goesL_ (some 11) rfl rfl Try.func145 (by kernel_rfl) rfl #[.agg #[.int .i64 a0_0,.int .i64 a0_1],.agg #[.int .i64 a1_0,.int .i64 a1_1],.agg #[.int .i64 a2_0,.int .i64 a2_1]] rfl (by (try simp only [mT,mC,mN]);first | done | rfl | (simp only [lD,lT];rfl)) ?_;(with_reducible refine (spec_l02Cross.calls a0_0 a0_1 a1_0 a1_1 a2_0 a2_1 t181 _ A4.out).mono ?_);rintro e w26 ⟨rfl,hb⟩;refine ⟨_,rfl,?_⟩;replace BK178:=kb BK178 hb;replace BK179:=kb BK179 hb;replace BK180:=kb BK180 hb;replace HB:=sb hb;(try clear hb);(try clear hb2);(try clear hk);(try clear hi)))
   go_ret
   exact ⟨by first | rfl | (simp [errW_none,errW_some] <;> rfl) | (simp [*,errW_none,errW_some] <;> rfl),ib⟩
  ·rw [if_neg c16] at H
   have c16b0 : decide (t181 < 0) = false:=decide_eq_false c16
   clear c16
   obtain rfl:=Option.some.inj H
   go_enter Try.func103,Try.ntmps103
   go_wp2_with (first | ((with_reducible refine gate_dst (N:=3) rfl ?_);refine bx (cs:=#[.int .i64 a0_0,.int .i64 a0_1]) (t:=73) ?_;intro gb178 hg w27 hbox hb;have BK178:=Aside0.mk (hbox);have GW178:=zb hg;have GE178:=zb hg;replace HB:=sb hb;clear hb hbox hg) | ((with_reducible refine gate_dst (N:=4) rfl ?_);refine bx (cs:=#[.int .i64 a1_0,.int .i64 a1_1]) (t:=73) ?_;intro gb179 hg w28 hbox hb;have BK179:=Aside0.mk (hbox);have GW179:=zb hg;have GE179:=zb hg;replace HB:=sb hb;have NB178_179:=nl BK178 hg;have NB179_178:=ng BK178 hg;replace BK178:=kb BK178 hb;clear hb hbox hg) | ((with_reducible refine gate_dst (N:=5) rfl ?_);refine bx (cs:=#[.int .i64 a2_0,.int .i64 a2_1]) (t:=73) ?_;intro gb180 hg w29 hbox hb;have BK180:=Aside0.mk (hbox);have GW180:=zb hg;have GE180:=zb hg;replace HB:=sb hb;have NB178_180:=nl BK178 hg;have NB180_178:=ng BK178 hg;replace BK178:=kb BK178 hb;have NB179_180:=nl BK179 hg;have NB180_179:=ng BK179 hg;replace BK179:=kb BK179 hb;clear hb hbox hg;have hnb30:=NB178_179.out;have hnc30:=NB179_178.out;have hnb31:=NB178_180.out;have hnc31:=NB180_178.out;have hcz32_0:=ck BK178 0;have hcz32_1:=ck BK178 1;have hfz32_0:=blk_frozen BK178.out 0;have hfz32_1:=blk_frozen BK178.out 1;have hnb33:=NB179_180.out;have hnc33:=NB180_179.out;have hcz34_0:=ck BK179 0;have hcz34_1:=ck BK179 1;have hfz34_0:=blk_frozen BK179.out 0;have hfz34_1:=blk_frozen BK179.out 1;have hcz35_0:=ck BK180 0;have hcz35_1:=ck BK180 1;have hfz35_0:=blk_frozen BK180.out 0;have hfz35_1:=blk_frozen BK180.out 1) | ((with_reducible refine gate_callee (f:=145) rfl ?_);refine goesL_ (some 11) rfl rfl Try.func145 (by kernel_rfl) rfl #[.agg #[.int .i64 a0_0,.int .i64 a0_1],.agg #[.int .i64 a1_0,.int .i64 a1_1],.agg #[.int .i64 a2_0,.int .i64 a2_1]] rfl (by (try simp only [mT,mC,mN]);first | done | rfl | (simp only [lD,lT];rfl)) ?_;(with_reducible refine (spec_l02Cross.calls a0_0 a0_1 a1_0 a1_1 a2_0 a2_1 t181 _ A4.out).mono ?_);rintro e w36 ⟨rfl,hb⟩;refine ⟨_,rfl,?_⟩;replace BK178:=kb BK178 hb;replace BK179:=kb BK179 hb;replace BK180:=kb BK180 hb;replace HB:=sb hb;(try clear hb);(try clear hb2);(try clear hk);(try clear hi)))
   go_ret
   exact ⟨by first | rfl | (simp [errW_none,errW_some] <;> rfl) | (simp [*,errW_none,errW_some] <;> rfl),ib⟩
def spec_l00Min.f (a0 : Int) (a1 : Int) : Option (Int):=if a0 < a1 then (some a0) else (some a1)
theorem spec_l00Min.calls (a0 : Int) (a1 : Int) (r : Int) (w : World) (h : spec_l00Min.f a0 a1 = some r) :
  Calls Try.prog 143 #[.int .i64 a0,.int .i64 a1] w fun e w' => e = .returned (.int .i64 r) ∧ Drawn0 w w':=by
 have H : (if a0 < a1 then (some a0) else (some a1)) = some r:=h
 clear h
 by_cases c3 : a0 < a1
 ·rw [if_pos c3] at H
  have c3b0 : decide (a0 < a1) = true:=decide_eq_true c3
  clear c3
  obtain rfl:=Option.some.inj H
  go_enter Try.func143,Try.ntmps143
  go_wp2
  go_ret
  exact ⟨by first | rfl | (simp;done) | (simp [*];done),by repeat (first | exact Drawn0.refl _ | apply Drawn0.step)⟩
 ·rw [if_neg c3] at H
  have c3b0 : decide (a0 < a1) = false:=decide_eq_false c3
  clear c3
  obtain rfl:=Option.some.inj H
  go_enter Try.func143,Try.ntmps143
  go_wp2
  go_ret
  exact ⟨by first | rfl | (simp;done) | (simp [*];done),by repeat (first | exact Drawn0.refl _ | apply Drawn0.step)⟩
def spec_l00Max.f (a0 : Int) (a1 : Int) : Option (Int):=if a0 > a1 then (some a0) else (some a1)
theorem spec_l00Max.calls (a0 : Int) (a1 : Int) (r : Int) (w : World) (h : spec_l00Max.f a0 a1 = some r) :
  Calls Try.prog 144 #[.int .i64 a0,.int .i64 a1] w fun e w' => e = .returned (.int .i64 r) ∧ Drawn0 w w':=by
 have H : (if a0 > a1 then (some a0) else (some a1)) = some r:=h
 clear h
 by_cases c3 : a0 > a1
 ·rw [if_pos c3] at H
  have c3b0 : decide (a1 < a0) = true:=decide_eq_true c3
  clear c3
  obtain rfl:=Option.some.inj H
  go_enter Try.func144,Try.ntmps144
  go_wp2
  go_ret
  exact ⟨by first | rfl | (simp;done) | (simp [*];done),by repeat (first | exact Drawn0.refl _ | apply Drawn0.step)⟩
 ·rw [if_neg c3] at H
  have c3b0 : decide (a1 < a0) = false:=decide_eq_false c3
  clear c3
  obtain rfl:=Option.some.inj H
  go_enter Try.func144,Try.ntmps144
  go_wp2
  go_ret
  exact ⟨by first | rfl | (simp;done) | (simp [*];done),by repeat (first | exact Drawn0.refl _ | apply Drawn0.step)⟩
end Go.Proofs.Ytnnchaggdnlfmaa.PFnExactFacePolygon
