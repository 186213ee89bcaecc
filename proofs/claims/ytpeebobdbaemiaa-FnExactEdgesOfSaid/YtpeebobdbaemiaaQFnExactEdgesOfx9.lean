/- Contracts of functions that FnExactEdgesOf reaches, out of the lines of the kit's print. -/
import Derived.Test.YtpeebobdbaemiaaQFnExactEdgesOfx0
import Derived.Test.YtpeebobdbaemiaaQFnExactEdgesOfx7
import Derived.Test.YtpeebobdbaemiaaQFnExactEdgesOfx8
namespace Go.Proofs.Ytpeebobdbaemiaa.PFnExactEdgesOf
set_option maxHeartbeats 8000000
set_option maxRecDepth 100000
open Go.RowKit Go.Proofs.YtpeebobdbaemiaaW.PrintWords Go.Proofs.YtpeebobdbaemiaaW.PrintLast Go.Proofs.YtpeebobdbaemiaaW.PrintMore
open Bool renaming true → tT, false → fF
open Go.World renaming block_lt_of_cell? → bL
open List renaming setIfInBounds_toArray → iT, set_cons_zero → sZ, set_cons_succ → sC, length_take → lT, length_drop → lD, map_toArray → mT, map_cons → mC, map_nil → mN
open Option renaming bind_eq_some_iff → bE
attribute [local go_sem] max2_int min2_int max_two min_two max_three min_three max_four min_four
set_option linter.unusedVariables false
set_option linter.unusedSimpArgs false
def spec_l02Crosses.f (a0_0 : Int) (a0_1 : Int) (a1_0 : Int) (a1_1 : Int) (a2_0 : Int) (a2_1 : Int) (a3_0 : Int) (a3_1 : Int) : Option (Bool):=(spec_l02Side.f a0_0 a0_1 a1_0 a1_1 a2_0 a2_1).bind fun t213 => ((spec_l02Side.f a0_0 a0_1 a1_0 a1_1 a3_0 a3_1).bind fun t214 => (if (wrap64 (t213 * t214)) < 0 then ((spec_l02Side.f a2_0 a2_1 a3_0 a3_1 a0_0 a0_1).bind fun t215 => ((spec_l02Side.f a2_0 a2_1 a3_0 a3_1 a1_0 a1_1).bind fun t216 => (some (decide ((wrap64 (t215 * t216)) < 0))))) else (some false)))
def spec_l02Crosses.T1 : Bool × List (List Nat × List Nat):=(true,[([],[]),([],[]),([],[]),([0,1,2],[0,1,2]),([],[]),([],[]),([],[]),([4,5,6,3],[4,5,6]),([3,7],[3,7]),([8],[8]),([9,7],[9]),([10],[10]),([10],[10]),([10],[10]),([11,12,13,10,10],[10,11,12,13]),([10],[10]),([10],[10]),([10],[10]),([15,16,17,14,10],[10,15,16,17]),([14,18,10],[10,14,18]),([19,10],[10,19]),([10,20],[10,20]),([21,18,0,1,2,3,4,5,6,7,8,9,10,11,12,13,14,15,16,17,18,19,20,21],[21])])
def spec_l02Crosses.B1 : List Nat:=[0,0,0,7,0,0,0,127,255,511,1023,2047,2047,2047,16383,2047,2047,2047,262143,524287,1048575,2097151,4194303]
theorem spec_l02Crosses.tab1 : rtab .any (opsOf Try.f89 1) = spec_l02Crosses.T1:=by kernel_rfl
theorem spec_l02Crosses.bits1 : waitsOk spec_l02Crosses.T1.2 spec_l02Crosses.B1 = true:=by kernel_rfl
theorem spec_l02Crosses.calls (a0_0 : Int) (a0_1 : Int) (a1_0 : Int) (a1_1 : Int) (a2_0 : Int) (a2_1 : Int) (a3_0 : Int) (a3_1 : Int) (r : Bool) (w : World) (h : spec_l02Crosses.f a0_0 a0_1 a1_0 a1_1 a2_0 a2_1 a3_0 a3_1 = some r) :
  Calls Try.prog 89 #[.agg #[.int .i64 a0_0,.int .i64 a0_1],.agg #[.int .i64 a1_0,.int .i64 a1_1],.agg #[.int .i64 a2_0,.int .i64 a2_1],.agg #[.int .i64 a3_0,.int .i64 a3_1]] w fun e w' => e = .returned (.bool r) ∧ Below w.heap.size w w':=by
 have hu78:=Try.underlying78
 have HB:=Aside0.mk (Below.refl w.heap.size w)
 have H : ((spec_l02Side.f a0_0 a0_1 a1_0 a1_1 a2_0 a2_1).bind fun t213 => ((spec_l02Side.f a0_0 a0_1 a1_0 a1_1 a3_0 a3_1).bind fun t214 => (if (wrap64 (t213 * t214)) < 0 then ((spec_l02Side.f a2_0 a2_1 a3_0 a3_1 a0_0 a0_1).bind fun t215 => ((spec_l02Side.f a2_0 a2_1 a3_0 a3_1 a1_0 a1_1).bind fun t216 => (some (decide ((wrap64 (t215 * t216)) < 0))))) else (some false)))) = some r:=h
 clear h
 replace H:=bE.mp H
 obtain ⟨t213,A50,H⟩:=H
 replace H : ((spec_l02Side.f a0_0 a0_1 a1_0 a1_1 a3_0 a3_1).bind fun t214 => (if (wrap64 (t213 * t214)) < 0 then ((spec_l02Side.f a2_0 a2_1 a3_0 a3_1 a0_0 a0_1).bind fun t215 => ((spec_l02Side.f a2_0 a2_1 a3_0 a3_1 a1_0 a1_1).bind fun t216 => (some (decide ((wrap64 (t215 * t216)) < 0))))) else (some false))) = some r:=H
 have A5:=Aside0.mk A50
 clear A50
 replace H:=bE.mp H
 obtain ⟨t214,A60,H⟩:=H
 replace H : (if (wrap64 (t213 * t214)) < 0 then ((spec_l02Side.f a2_0 a2_1 a3_0 a3_1 a0_0 a0_1).bind fun t215 => ((spec_l02Side.f a2_0 a2_1 a3_0 a3_1 a1_0 a1_1).bind fun t216 => (some (decide ((wrap64 (t215 * t216)) < 0))))) else (some false)) = some r:=H
 have A6:=Aside0.mk A60
 clear A60
 by_cases c7 : (wrap64 (t213 * t214)) < 0
 ·rw [if_pos c7] at H
  have c7b0 : decide ((wrap64 (t213 * t214)) < 0) = true:=decide_eq_true c7
  clear c7
  replace H:=bE.mp H
  obtain ⟨t215,A80,H⟩:=H
  replace H : ((spec_l02Side.f a2_0 a2_1 a3_0 a3_1 a1_0 a1_1).bind fun t216 => (some (decide ((wrap64 (t215 * t216)) < 0)))) = some r:=H
  have A8:=Aside0.mk A80
  clear A80
  replace H:=bE.mp H
  obtain ⟨t216,A90,H⟩:=H
  replace H : (some (decide ((wrap64 (t215 * t216)) < 0))) = some r:=H
  have A9:=Aside0.mk A90
  clear A90
  obtain rfl:=Option.some.inj H
  go_enter Try.func89,Try.ntmps89
  try go_wp2_with (first | ((with_reducible refine gate_dst (N:=4) rfl ?_);refine bx (cs:=#[.int .i64 a0_0,.int .i64 a0_1]) (t:=78) ?_;intro gb209 hg w10 hbox hb;have BK209:=Aside0.mk (hbox);have GW209:=zb hg;have GE209:=zb hg;replace HB:=sb hb;clear hb hbox hg) | ((with_reducible refine gate_dst (N:=5) rfl ?_);refine bx (cs:=#[.int .i64 a1_0,.int .i64 a1_1]) (t:=78) ?_;intro gb210 hg w11 hbox hb;have BK210:=Aside0.mk (hbox);have GW210:=zb hg;have GE210:=zb hg;replace HB:=sb hb;have NB209_210:=nl BK209 hg;have NB210_209:=ng BK209 hg;replace BK209:=kb BK209 hb;clear hb hbox hg) | ((with_reducible refine gate_dst (N:=6) rfl ?_);refine bx (cs:=#[.int .i64 a2_0,.int .i64 a2_1]) (t:=78) ?_;intro gb211 hg w12 hbox hb;have BK211:=Aside0.mk (hbox);have GW211:=zb hg;have GE211:=zb hg;replace HB:=sb hb;have NB209_211:=nl BK209 hg;have NB211_209:=ng BK209 hg;replace BK209:=kb BK209 hb;have NB210_211:=nl BK210 hg;have NB211_210:=ng BK210 hg;replace BK210:=kb BK210 hb;clear hb hbox hg) | ((with_reducible refine gate_dst (N:=7) rfl ?_);refine bx (cs:=#[.int .i64 a3_0,.int .i64 a3_1]) (t:=78) ?_;intro gb212 hg w13 hbox hb;have BK212:=Aside0.mk (hbox);have GW212:=zb hg;have GE212:=zb hg;replace HB:=sb hb;have NB209_212:=nl BK209 hg;have NB212_209:=ng BK209 hg;replace BK209:=kb BK209 hb;have NB210_212:=nl BK210 hg;have NB212_210:=ng BK210 hg;replace BK210:=kb BK210 hb;have NB211_212:=nl BK211 hg;have NB212_211:=ng BK211 hg;replace BK211:=kb BK211 hb;clear hb hbox hg))
  replace BK209:=Aside0.mk (blk_drew BK209.out)
  replace BK210:=Aside0.mk (blk_drew BK210.out)
  replace BK211:=Aside0.mk (blk_drew BK211.out)
  replace BK212:=Aside0.mk (blk_drew BK212.out)
  replace HB:=Aside0.mk (below_drew1 HB.out)
  refine start_ (n:=23) (S:=fun w' => w'.cell? ⟨gb209,0,none⟩ = some (.int .i64 a0_0) ∧ w'.cell? ⟨gb209,1,none⟩ = some (.int .i64 a0_1) ∧ w'.cell? ⟨gb210,0,none⟩ = some (.int .i64 a1_0) ∧ w'.cell? ⟨gb210,1,none⟩ = some (.int .i64 a1_1) ∧ w'.cell? ⟨gb211,0,none⟩ = some (.int .i64 a2_0) ∧ w'.cell? ⟨gb211,1,none⟩ = some (.int .i64 a2_1) ∧ w'.cell? ⟨gb212,0,none⟩ = some (.int .i64 a3_0) ∧ w'.cell? ⟨gb212,1,none⟩ = some (.int .i64 a3_1)) (ds:=[]) #[fF,fF,fF,fF,fF,fF,fF,fF,fF,fF,fF,fF,fF,fF,fF,fF,fF,fF,fF,fF,fF,fF,fF] (by kernel_rfl) rfl rfl ⟨(blk_cell BK209.out 0).trans rfl,(blk_cell BK209.out 1).trans rfl,(blk_cell BK210.out 0).trans rfl,(blk_cell BK210.out 1).trans rfl,(blk_cell BK211.out 0).trans rfl,(blk_cell BK211.out 1).trans rfl,(blk_cell BK212.out 0).trans rfl,(blk_cell BK212.out 1).trans rfl⟩ (fun hHeld => ?_);refine with_tabW spec_l02Crosses.tab1 spec_l02Crosses.bits1 (fun HT_ HW_ => ?_)
  generalize w13.drew = w14 at BK209 BK210 BK211 BK212 HB hHeld ⊢
  refine tk 0 9 HT_ HW_ hHeld ?_
  refine tk 1 10 HT_ HW_ hHeld ?_
  refine tk 2 11 HT_ HW_ hHeld ?_
  refine tk 4 13 HT_ HW_ hHeld ?_
  refine tk 5 14 HT_ HW_ hHeld ?_
  refine tk 6 15 HT_ HW_ hHeld ?_
  refine on 3 12 HT_ (fun K hK => ?_)
  refine goes_ Try.func86 (by kernel_rfl) rfl #[.agg #[.int .i64 a0_0,.int .i64 a0_1],.agg #[.int .i64 a1_0,.int .i64 a1_1],.agg #[.int .i64 a2_0,.int .i64 a2_1]] (by rfl) rfl rfl (by (try simp only [mT,mC,mN]);first | done | rfl | (simp only [lD,lT];rfl)) ?_
  with_reducible refine (spec_l02Side.calls a0_0 a0_1 a1_0 a1_1 a2_0 a2_1 t213 _ A5.out).mono ?_
  rintro e w15 ⟨rfl,hb⟩
  refine ⟨_,rfl,?_⟩
  replace BK209:=kb BK209 hb
  replace BK210:=kb BK210 hb
  replace BK211:=kb BK211 hb
  replace BK212:=kb BK212 hb
  replace HB:=sb hb
  (try clear hb)
  (try clear hb2)
  (try clear hk)
  (try clear hi)
  refine hK.out _ _ ⟨(blk_cell BK209.out 0).trans rfl,(blk_cell BK209.out 1).trans rfl,(blk_cell BK210.out 0).trans rfl,(blk_cell BK210.out 1).trans rfl,(blk_cell BK211.out 0).trans rfl,(blk_cell BK211.out 1).trans rfl,(blk_cell BK212.out 0).trans rfl,(blk_cell BK212.out 1).trans rfl⟩ (fun hHeld => ?_)
  clear hK K
  refine norm_ (a':=?_) ?_ ?_
  rotate_left
  ·show Act.put _ (some 12) _ = _
   simp only [Act.put,iT,sZ,sC,i64_w,i32_w]
   rfl
  refine on 7 16 HT_ (fun K hK => ?_)
  refine goes_ Try.func86 (by kernel_rfl) rfl #[.agg #[.int .i64 a0_0,.int .i64 a0_1],.agg #[.int .i64 a1_0,.int .i64 a1_1],.agg #[.int .i64 a3_0,.int .i64 a3_1]] (by rfl) rfl rfl (by (try simp only [mT,mC,mN]);first | done | rfl | (simp only [lD,lT];rfl)) ?_
  with_reducible refine (spec_l02Side.calls a0_0 a0_1 a1_0 a1_1 a3_0 a3_1 t214 _ A6.out).mono ?_
  rintro e w16 ⟨rfl,hb⟩
  refine ⟨_,rfl,?_⟩
  replace BK209:=kb BK209 hb
  replace BK210:=kb BK210 hb
  replace BK211:=kb BK211 hb
  replace BK212:=kb BK212 hb
  replace HB:=sb hb
  (try clear hb)
  (try clear hb2)
  (try clear hk)
  (try clear hi)
  refine hK.out _ _ ⟨(blk_cell BK209.out 0).trans rfl,(blk_cell BK209.out 1).trans rfl,(blk_cell BK210.out 0).trans rfl,(blk_cell BK210.out 1).trans rfl,(blk_cell BK211.out 0).trans rfl,(blk_cell BK211.out 1).trans rfl,(blk_cell BK212.out 0).trans rfl,(blk_cell BK212.out 1).trans rfl⟩ (fun hHeld => ?_)
  clear hK K
  refine norm_ (a':=?_) ?_ ?_
  rotate_left
  ·show Act.put _ (some 16) _ = _
   simp only [Act.put,iT,sZ,sC,i64_w,i32_w]
   rfl
  refine pu 8 17 HT_ ?_
  refine pu 9 18 HT_ ?_
  refine pu 10 19 HT_ ?_
  refine tk 11 20 HT_ HW_ hHeld ?_
  refine tk 12 21 HT_ HW_ hHeld ?_
  refine tk 13 22 HT_ HW_ hHeld ?_
  refine tk 15 24 HT_ HW_ hHeld ?_
  refine tk 16 25 HT_ HW_ hHeld ?_
  refine tk 17 26 HT_ HW_ hHeld ?_
  refine on 14 23 HT_ (fun K hK => ?_)
  refine goes_ Try.func86 (by kernel_rfl) rfl #[.agg #[.int .i64 a2_0,.int .i64 a2_1],.agg #[.int .i64 a3_0,.int .i64 a3_1],.agg #[.int .i64 a0_0,.int .i64 a0_1]] (by rfl) rfl rfl (by (try simp only [mT,mC,mN]);first | done | rfl | (simp only [lD,lT];rfl)) ?_
  with_reducible refine (spec_l02Side.calls a2_0 a2_1 a3_0 a3_1 a0_0 a0_1 t215 _ A8.out).mono ?_
  rintro e w17 ⟨rfl,hb⟩
  refine ⟨_,rfl,?_⟩
  replace BK209:=kb BK209 hb
  replace BK210:=kb BK210 hb
  replace BK211:=kb BK211 hb
  replace BK212:=kb BK212 hb
  replace HB:=sb hb
  (try clear hb)
  (try clear hb2)
  (try clear hk)
  (try clear hi)
  refine hK.out _ _ ⟨(blk_cell BK209.out 0).trans rfl,(blk_cell BK209.out 1).trans rfl,(blk_cell BK210.out 0).trans rfl,(blk_cell BK210.out 1).trans rfl,(blk_cell BK211.out 0).trans rfl,(blk_cell BK211.out 1).trans rfl,(blk_cell BK212.out 0).trans rfl,(blk_cell BK212.out 1).trans rfl⟩ (fun hHeld => ?_)
  clear hK K
  refine norm_ (a':=?_) ?_ ?_
  rotate_left
  ·show Act.put _ (some 23) _ = _
   simp only [Act.put,iT,sZ,sC,i64_w,i32_w]
   rfl
  refine on 18 27 HT_ (fun K hK => ?_)
  refine goes_ Try.func86 (by kernel_rfl) rfl #[.agg #[.int .i64 a2_0,.int .i64 a2_1],.agg #[.int .i64 a3_0,.int .i64 a3_1],.agg #[.int .i64 a1_0,.int .i64 a1_1]] (by rfl) rfl rfl (by (try simp only [mT,mC,mN]);first | done | rfl | (simp only [lD,lT];rfl)) ?_
  with_reducible refine (spec_l02Side.calls a2_0 a2_1 a3_0 a3_1 a1_0 a1_1 t216 _ A9.out).mono ?_
  rintro e w18 ⟨rfl,hb⟩
  refine ⟨_,rfl,?_⟩
  replace BK209:=kb BK209 hb
  replace BK210:=kb BK210 hb
  replace BK211:=kb BK211 hb
  replace BK212:=kb BK212 hb
  replace HB:=sb hb
  (try clear hb)
  (try clear hb2)
  (try clear hk)
  (try clear hi)
  refine hK.out _ _ ⟨(blk_cell BK209.out 0).trans rfl,(blk_cell BK209.out 1).trans rfl,(blk_cell BK210.out 0).trans rfl,(blk_cell BK210.out 1).trans rfl,(blk_cell BK211.out 0).trans rfl,(blk_cell BK211.out 1).trans rfl,(blk_cell BK212.out 0).trans rfl,(blk_cell BK212.out 1).trans rfl⟩ (fun hHeld => ?_)
  clear hK K
  refine norm_ (a':=?_) ?_ ?_
  rotate_left
  ·show Act.put _ (some 27) _ = _
   simp only [Act.put,iT,sZ,sC,i64_w,i32_w]
   rfl
  refine pu 19 28 HT_ ?_
  refine pu 20 29 HT_ ?_
  refine pu 21 30 HT_ ?_
  refine pu 22 8 HT_ ?_
  refine done_ (done_of HT_.out (by kernel_rfl)) ?_
  try go_wp2
  go_ret
  exact ⟨by first | rfl | (simp [errW_none,errW_some] <;> rfl) | (simp [*,errW_none,errW_some] <;> rfl),ib⟩
 ·rw [if_neg c7] at H
  have c7b0 : decide ((wrap64 (t213 * t214)) < 0) = false:=decide_eq_false c7
  clear c7
  obtain rfl:=Option.some.inj H
  go_enter Try.func89,Try.ntmps89
  try go_wp2_with (first | ((with_reducible refine gate_dst (N:=4) rfl ?_);refine bx (cs:=#[.int .i64 a0_0,.int .i64 a0_1]) (t:=78) ?_;intro gb209 hg w19 hbox hb;have BK209:=Aside0.mk (hbox);have GW209:=zb hg;have GE209:=zb hg;replace HB:=sb hb;clear hb hbox hg) | ((with_reducible refine gate_dst (N:=5) rfl ?_);refine bx (cs:=#[.int .i64 a1_0,.int .i64 a1_1]) (t:=78) ?_;intro gb210 hg w20 hbox hb;have BK210:=Aside0.mk (hbox);have GW210:=zb hg;have GE210:=zb hg;replace HB:=sb hb;have NB209_210:=nl BK209 hg;have NB210_209:=ng BK209 hg;replace BK209:=kb BK209 hb;clear hb hbox hg) | ((with_reducible refine gate_dst (N:=6) rfl ?_);refine bx (cs:=#[.int .i64 a2_0,.int .i64 a2_1]) (t:=78) ?_;intro gb211 hg w21 hbox hb;have BK211:=Aside0.mk (hbox);have GW211:=zb hg;have GE211:=zb hg;replace HB:=sb hb;have NB209_211:=nl BK209 hg;have NB211_209:=ng BK209 hg;replace BK209:=kb BK209 hb;have NB210_211:=nl BK210 hg;have NB211_210:=ng BK210 hg;replace BK210:=kb BK210 hb;clear hb hbox hg) | ((with_reducible refine gate_dst (N:=7) rfl ?_);refine bx (cs:=#[.int .i64 a3_0,.int .i64 a3_1]) (t:=78) ?_;intro gb212 hg w22 hbox hb;have BK212:=Aside0.mk (hbox);have GW212:=zb hg;have GE212:=zb hg;replace HB:=sb hb;have NB209_212:=nl BK209 hg;have NB212_209:=ng BK209 hg;replace BK209:=kb BK209 hb;have NB210_212:=nl BK210 hg;have NB212_210:=ng BK210 hg;replace BK210:=kb BK210 hb;have NB211_212:=nl BK211 hg;have NB212_211:=ng BK211 hg;replace BK211:=kb BK211 hb;clear hb hbox hg))
  replace BK209:=Aside0.mk (blk_drew BK209.out)
  replace BK210:=Aside0.mk (blk_drew BK210.out)
  replace BK211:=Aside0.mk (blk_drew BK211.out)
  replace BK212:=Aside0.mk (blk_drew BK212.out)
  replace HB:=Aside0.mk (below_drew1 HB.out)
  refine start_ (n:=23) (S:=fun w' => w'.cell? ⟨gb209,0,none⟩ = some (.int .i64 a0_0) ∧ w'.cell? ⟨gb209,1,none⟩ = some (.int .i64 a0_1) ∧ w'.cell? ⟨gb210,0,none⟩ = some (.int .i64 a1_0) ∧ w'.cell? ⟨gb210,1,none⟩ = some (.int .i64 a1_1) ∧ w'.cell? ⟨gb211,0,none⟩ = some (.int .i64 a2_0) ∧ w'.cell? ⟨gb211,1,none⟩ = some (.int .i64 a2_1) ∧ w'.cell? ⟨gb212,0,none⟩ = some (.int .i64 a3_0) ∧ w'.cell? ⟨gb212,1,none⟩ = some (.int .i64 a3_1)) (ds:=[]) #[fF,fF,fF,fF,fF,fF,fF,fF,fF,fF,fF,fF,fF,fF,fF,fF,fF,fF,fF,fF,fF,fF,fF] (by kernel_rfl) rfl rfl ⟨(blk_cell BK209.out 0).trans rfl,(blk_cell BK209.out 1).trans rfl,(blk_cell BK210.out 0).trans rfl,(blk_cell BK210.out 1).trans rfl,(blk_cell BK211.out 0).trans rfl,(blk_cell BK211.out 1).trans rfl,(blk_cell BK212.out 0).trans rfl,(blk_cell BK212.out 1).trans rfl⟩ (fun hHeld => ?_);refine with_tabW spec_l02Crosses.tab1 spec_l02Crosses.bits1 (fun HT_ HW_ => ?_)
  generalize w22.drew = w23 at BK209 BK210 BK211 BK212 HB hHeld ⊢
  refine tk 0 9 HT_ HW_ hHeld ?_
  refine tk 1 10 HT_ HW_ hHeld ?_
  refine tk 2 11 HT_ HW_ hHeld ?_
  refine tk 4 13 HT_ HW_ hHeld ?_
  refine tk 5 14 HT_ HW_ hHeld ?_
  refine tk 6 15 HT_ HW_ hHeld ?_
  refine on 3 12 HT_ (fun K hK => ?_)
  refine goes_ Try.func86 (by kernel_rfl) rfl #[.agg #[.int .i64 a0_0,.int .i64 a0_1],.agg #[.int .i64 a1_0,.int .i64 a1_1],.agg #[.int .i64 a2_0,.int .i64 a2_1]] (by rfl) rfl rfl (by (try simp only [mT,mC,mN]);first | done | rfl | (simp only [lD,lT];rfl)) ?_
  with_reducible refine (spec_l02Side.calls a0_0 a0_1 a1_0 a1_1 a2_0 a2_1 t213 _ A5.out).mono ?_
  rintro e w24 ⟨rfl,hb⟩
  refine ⟨_,rfl,?_⟩
  replace BK209:=kb BK209 hb
  replace BK210:=kb BK210 hb
  replace BK211:=kb BK211 hb
  replace BK212:=kb BK212 hb
  replace HB:=sb hb
  (try clear hb)
  (try clear hb2)
  (try clear hk)
  (try clear hi)
  refine hK.out _ _ ⟨(blk_cell BK209.out 0).trans rfl,(blk_cell BK209.out 1).trans rfl,(blk_cell BK210.out 0).trans rfl,(blk_cell BK210.out 1).trans rfl,(blk_cell BK211.out 0).trans rfl,(blk_cell BK211.out 1).trans rfl,(blk_cell BK212.out 0).trans rfl,(blk_cell BK212.out 1).trans rfl⟩ (fun hHeld => ?_)
  clear hK K
  refine norm_ (a':=?_) ?_ ?_
  rotate_left
  ·show Act.put _ (some 12) _ = _
   simp only [Act.put,iT,sZ,sC,i64_w,i32_w]
   rfl
  refine on 7 16 HT_ (fun K hK => ?_)
  refine goes_ Try.func86 (by kernel_rfl) rfl #[.agg #[.int .i64 a0_0,.int .i64 a0_1],.agg #[.int .i64 a1_0,.int .i64 a1_1],.agg #[.int .i64 a3_0,.int .i64 a3_1]] (by rfl) rfl rfl (by (try simp only [mT,mC,mN]);first | done | rfl | (simp only [lD,lT];rfl)) ?_
  with_reducible refine (spec_l02Side.calls a0_0 a0_1 a1_0 a1_1 a3_0 a3_1 t214 _ A6.out).mono ?_
  rintro e w25 ⟨rfl,hb⟩
  refine ⟨_,rfl,?_⟩
  replace BK209:=kb BK209 hb
  replace BK210:=kb BK210 hb
  replace BK211:=kb BK211 hb
  replace BK212:=kb BK212 hb
  replace HB:=sb hb
  (try clear hb)
  (try clear hb2)
  (try clear hk)
  (try clear hi)
  refine hK.out _ _ ⟨(blk_cell BK209.out 0).trans rfl,(blk_cell BK209.out 1).trans rfl,(blk_cell BK210.out 0).trans rfl,(blk_cell BK210.out 1).trans rfl,(blk_cell BK211.out 0).trans rfl,(blk_cell BK211.out 1).trans rfl,(blk_cell BK212.out 0).trans rfl,(blk_cell BK212.out 1).trans rfl⟩ (fun hHeld => ?_)
  clear hK K
  refine norm_ (a':=?_) ?_ ?_
  rotate_left
  ·show Act.put _ (some 16) _ = _
   simp only [Act.put,iT,sZ,sC,i64_w,i32_w]
   rfl
  refine pu 8 17 HT_ ?_
  refine pu 9 18 HT_ ?_
  refine pu 10 19 HT_ ?_
  refine pd 11 20 HT_ ?_
  refine pd 12 21 HT_ ?_
  refine pd 13 22 HT_ ?_
  refine pd 14 23 HT_ ?_
  refine pd 15 24 HT_ ?_
  refine pd 16 25 HT_ ?_
  refine pd 17 26 HT_ ?_
  refine pd 18 27 HT_ ?_
  refine pd 19 28 HT_ ?_
  refine pd 20 29 HT_ ?_
  refine pu 21 30 HT_ ?_
  refine pu 22 8 HT_ ?_
  refine done_ (done_of HT_.out (by kernel_rfl)) ?_
  try go_wp2
  go_ret
  exact ⟨by first | rfl | (simp [errW_none,errW_some] <;> rfl) | (simp [*,errW_none,errW_some] <;> rfl),ib⟩
def spec_l03Meet.f (a0_0 : Int) (a0_1 : Int) (a1_0 : Int) (a1_1 : Int) (a2_0 : Int) (a2_1 : Int) (a3_0 : Int) (a3_1 : Int) : Option (Bool):=(spec_l02Crosses.f a0_0 a0_1 a1_0 a1_1 a2_0 a2_1 a3_0 a3_1).bind fun t221 => (if t221 = true then (some true) else ((spec_l02On.f a0_0 a0_1 a1_0 a1_1 a2_0 a2_1).bind fun t222 => (if t222 = true then (some true) else ((spec_l02On.f a0_0 a0_1 a1_0 a1_1 a3_0 a3_1).bind fun t223 => (if t223 = true then (some true) else ((spec_l02On.f a2_0 a2_1 a3_0 a3_1 a0_0 a0_1).bind fun t224 => (if t224 = true then (some true) else ((spec_l02On.f a2_0 a2_1 a3_0 a3_1 a1_0 a1_1).bind fun t225 => (some t225)))))))))
theorem spec_l03Meet.calls (a0_0 : Int) (a0_1 : Int) (a1_0 : Int) (a1_1 : Int) (a2_0 : Int) (a2_1 : Int) (a3_0 : Int) (a3_1 : Int) (r : Bool) (w : World) (h : spec_l03Meet.f a0_0 a0_1 a1_0 a1_1 a2_0 a2_1 a3_0 a3_1 = some r) :
  Calls Try.prog 65 #[.agg #[.int .i64 a0_0,.int .i64 a0_1],.agg #[.int .i64 a1_0,.int .i64 a1_1],.agg #[.int .i64 a2_0,.int .i64 a2_1],.agg #[.int .i64 a3_0,.int .i64 a3_1]] w fun e w' => e = .returned (.bool r) ∧ Below w.heap.size w w':=by
 have hu78:=Try.underlying78
 have HB:=Aside0.mk (Below.refl w.heap.size w)
 have H : ((spec_l02Crosses.f a0_0 a0_1 a1_0 a1_1 a2_0 a2_1 a3_0 a3_1).bind fun t221 => (if t221 = true then (some true) else ((spec_l02On.f a0_0 a0_1 a1_0 a1_1 a2_0 a2_1).bind fun t222 => (if t222 = true then (some true) else ((spec_l02On.f a0_0 a0_1 a1_0 a1_1 a3_0 a3_1).bind fun t223 => (if t223 = true then (some true) else ((spec_l02On.f a2_0 a2_1 a3_0 a3_1 a0_0 a0_1).bind fun t224 => (if t224 = true then (some true) else ((spec_l02On.f a2_0 a2_1 a3_0 a3_1 a1_0 a1_1).bind fun t225 => (some t225)))))))))) = some r:=h
 clear h
 replace H:=bE.mp H
 obtain ⟨t221,A50,H⟩:=H
 replace H : (if t221 = true then (some true) else ((spec_l02On.f a0_0 a0_1 a1_0 a1_1 a2_0 a2_1).bind fun t222 => (if t222 = true then (some true) else ((spec_l02On.f a0_0 a0_1 a1_0 a1_1 a3_0 a3_1).bind fun t223 => (if t223 = true then (some true) else ((spec_l02On.f a2_0 a2_1 a3_0 a3_1 a0_0 a0_1).bind fun t224 => (if t224 = true then (some true) else ((spec_l02On.f a2_0 a2_1 a3_0 a3_1 a1_0 a1_1).bind fun t225 => (some t225))))))))) = some r:=H
 have A5:=Aside0.mk A50
 clear A50
 by_cases c6 : t221 = true
 ·subst c6
  have H1 : (some true) = some r:=by rw [if_pos rfl] at H;exact H
  clear H
  have H:=H1
  clear H1
  obtain rfl:=Option.some.inj H
  go_enter Try.func65,Try.ntmps65
  go_wp2_with (first | ((with_reducible refine gate_dst (N:=4) rfl ?_);refine bx (cs:=#[.int .i64 a0_0,.int .i64 a0_1]) (t:=78) ?_;intro gb217 hg w7 hbox hb;have BK217:=Aside0.mk (hbox);have GW217:=zb hg;have GE217:=zb hg;replace HB:=sb hb;clear hb hbox hg) | ((with_reducible refine gate_dst (N:=5) rfl ?_);refine bx (cs:=#[.int .i64 a1_0,.int .i64 a1_1]) (t:=78) ?_;intro gb218 hg w8 hbox hb;have BK218:=Aside0.mk (hbox);have GW218:=zb hg;have GE218:=zb hg;replace HB:=sb hb;have NB217_218:=nl BK217 hg;have NB218_217:=ng BK217 hg;replace BK217:=kb BK217 hb;clear hb hbox hg) | ((with_reducible refine gate_dst (N:=6) rfl ?_);refine bx (cs:=#[.int .i64 a2_0,.int .i64 a2_1]) (t:=78) ?_;intro gb219 hg w9 hbox hb;have BK219:=Aside0.mk (hbox);have GW219:=zb hg;have GE219:=zb hg;replace HB:=sb hb;have NB217_219:=nl BK217 hg;have NB219_217:=ng BK217 hg;replace BK217:=kb BK217 hb;have NB218_219:=nl BK218 hg;have NB219_218:=ng BK218 hg;replace BK218:=kb BK218 hb;clear hb hbox hg) | ((with_reducible refine gate_dst (N:=7) rfl ?_);refine bx (cs:=#[.int .i64 a3_0,.int .i64 a3_1]) (t:=78) ?_;intro gb220 hg w10 hbox hb;have BK220:=Aside0.mk (hbox);have GW220:=zb hg;have GE220:=zb hg;replace HB:=sb hb;have NB217_220:=nl BK217 hg;have NB220_217:=ng BK217 hg;replace BK217:=kb BK217 hb;have NB218_220:=nl BK218 hg;have NB220_218:=ng BK218 hg;replace BK218:=kb BK218 hb;have NB219_220:=nl BK219 hg;have NB220_219:=ng BK219 hg;replace BK219:=kb BK219 hb;clear hb hbox hg;have hnb11:=NB217_218.out;have hnc11:=NB218_217.out;have hnb12:=NB217_219.out;have hnc12:=NB219_217.out;have hnb13:=NB217_220.out;have hnc13:=NB220_217.out;have hcz14_0:=ck BK217 0;have hcz14_1:=ck BK217 1;have hfz14_0:=blk_frozen BK217.out 0;have hfz14_1:=blk_frozen BK217.out 1;have hnb15:=NB218_219.out;have hnc15:=NB219_218.out;have hnb16:=NB218_220.out;have hnc16:=NB220_218.out;have hcz17_0:=ck BK218 0;have hcz17_1:=ck BK218 1;have hfz17_0:=blk_frozen BK218.out 0;have hfz17_1:=blk_frozen BK218.out 1;have hnb18:=NB219_220.out;have hnc18:=NB220_219.out;have hcz19_0:=ck BK219 0;have hcz19_1:=ck BK219 1;have hfz19_0:=blk_frozen BK219.out 0;have hfz19_1:=blk_frozen BK219.out 1;have hcz20_0:=ck BK220 0;have hcz20_1:=ck BK220 1;have hfz20_0:=blk_frozen BK220.out 0;have hfz20_1:=blk_frozen BK220.out 1) | ((with_reducible refine gate_callee (f:=89) rfl ?_);refine goesL_ (some 13) rfl rfl Try.func89 (by kernel_rfl) rfl #[.agg #[.int .i64 a0_0,.int .i64 a0_1],.agg #[.int .i64 a1_0,.int .i64 a1_1],.agg #[.int .i64 a2_0,.int .i64 a2_1],.agg #[.int .i64 a3_0,.int .i64 a3_1]] rfl (by (try simp only [mT,mC,mN]);first | done | rfl | (simp only [lD,lT];rfl)) ?_;(with_reducible refine (spec_l02Crosses.calls a0_0 a0_1 a1_0 a1_1 a2_0 a2_1 a3_0 a3_1 true _ A5.out).mono ?_);rintro e w21 ⟨rfl,hb⟩;refine ⟨_,rfl,?_⟩;replace BK217:=kb BK217 hb;replace BK218:=kb BK218 hb;replace BK219:=kb BK219 hb;replace BK220:=kb BK220 hb;replace HB:=sb hb;(try clear hb);(try clear hb2);(try clear hk);(try clear hi)))
  go_ret
  exact ⟨by first | rfl | (simp [errW_none,errW_some] <;> rfl) | (simp [*,errW_none,errW_some] <;> rfl),ib⟩
 ·replace c6:=Bool.eq_false_iff.mpr c6
  subst c6
  have H1 : ((spec_l02On.f a0_0 a0_1 a1_0 a1_1 a2_0 a2_1).bind fun t222 => (if t222 = true then (some true) else ((spec_l02On.f a0_0 a0_1 a1_0 a1_1 a3_0 a3_1).bind fun t223 => (if t223 = true then (some true) else ((spec_l02On.f a2_0 a2_1 a3_0 a3_1 a0_0 a0_1).bind fun t224 => (if t224 = true then (some true) else ((spec_l02On.f a2_0 a2_1 a3_0 a3_1 a1_0 a1_1).bind fun t225 => (some t225)))))))) = some r:=by rw [if_neg (show ¬ (false = true) by decide)] at H;exact H
  clear H
  have H:=H1
  clear H1
  replace H:=bE.mp H
  obtain ⟨t222,A220,H⟩:=H
  replace H : (if t222 = true then (some true) else ((spec_l02On.f a0_0 a0_1 a1_0 a1_1 a3_0 a3_1).bind fun t223 => (if t223 = true then (some true) else ((spec_l02On.f a2_0 a2_1 a3_0 a3_1 a0_0 a0_1).bind fun t224 => (if t224 = true then (some true) else ((spec_l02On.f a2_0 a2_1 a3_0 a3_1 a1_0 a1_1).bind fun t225 => (some t225))))))) = some r:=H
  have A22:=Aside0.mk A220
  clear A220
  by_cases c23 : t222 = true
  ·subst c23
   have H1 : (some true) = some r:=by rw [if_pos rfl] at H;exact H
   clear H
   have H:=H1
   clear H1
   obtain rfl:=Option.some.inj H
   go_enter Try.func65,Try.ntmps65
   go_wp2_with (first | ((with_reducible refine gate_dst (N:=4) rfl ?_);refine bx (cs:=#[.int .i64 a0_0,.int .i64 a0_1]) (t:=78) ?_;intro gb217 hg w24 hbox hb;have BK217:=Aside0.mk (hbox);have GW217:=zb hg;have GE217:=zb hg;replace HB:=sb hb;clear hb hbox hg) | ((with_reducible refine gate_dst (N:=5) rfl ?_);refine bx (cs:=#[.int .i64 a1_0,.int .i64 a1_1]) (t:=78) ?_;intro gb218 hg w25 hbox hb;have BK218:=Aside0.mk (hbox);have GW218:=zb hg;have GE218:=zb hg;replace HB:=sb hb;have NB217_218:=nl BK217 hg;have NB218_217:=ng BK217 hg;replace BK217:=kb BK217 hb;clear hb hbox hg) | ((with_reducible refine gate_dst (N:=6) rfl ?_);refine bx (cs:=#[.int .i64 a2_0,.int .i64 a2_1]) (t:=78) ?_;intro gb219 hg w26 hbox hb;have BK219:=Aside0.mk (hbox);have GW219:=zb hg;have GE219:=zb hg;replace HB:=sb hb;have NB217_219:=nl BK217 hg;have NB219_217:=ng BK217 hg;replace BK217:=kb BK217 hb;have NB218_219:=nl BK218 hg;have NB219_218:=ng BK218 hg;replace BK218:=kb BK218 hb;clear hb hbox hg) | ((with_reducible refine gate_dst (N:=7) rfl ?_);refine bx (cs:=#[.int .i64 a3_0,.int .i64 a3_1]) (t:=78) ?_;intro gb220 hg w27 hbox hb;have BK220:=Aside0.mk (hbox);have GW220:=zb hg;have GE220:=zb hg;replace HB:=sb hb;have NB217_220:=nl BK217 hg;have NB220_217:=ng BK217 hg;replace BK217:=kb BK217 hb;have NB218_220:=nl BK218 hg;have NB220_218:=ng BK218 hg;replace BK218:=kb BK218 hb;have NB219_220:=nl BK219 hg;have NB220_219:=ng BK219 hg;replace BK219:=kb BK219 hb;clear hb hbox hg;have hnb28:=NB217_218.out;have hnc28:=NB218_217.out;have hnb29:=NB217_219.out;have hnc29:=NB219_217.out;have hnb30:=NB217_220.out;have hnc30:=NB220_217.out;have hcz31_0:=ck BK217 0;have hcz31_1:=ck BK217 1;have hfz31_0:=blk_frozen BK217.out 0;have hfz31_1:=blk_frozen BK217.out 1;have hnb32:=NB218_219.out;have hnc32:=NB219_218.out;have hnb33:=NB218_220.out;have hnc33:=NB220_218.out;have hcz34_0:=ck BK218 0;have hcz34_1:=ck BK218 1;have hfz34_0:=blk_frozen BK218.out 0;have hfz34_1:=blk_frozen BK218.out 1;have hnb35:=NB219_220.out;have hnc35:=NB220_219.out;have hcz36_0:=ck BK219 0;have hcz36_1:=ck BK219 1;have hfz36_0:=blk_frozen BK219.out 0;have hfz36_1:=blk_frozen BK219.out 1;have hcz37_0:=ck BK220 0;have hcz37_1:=ck BK220 1;have hfz37_0:=blk_frozen BK220.out 0;have hfz37_1:=blk_frozen BK220.out 1) | ((with_reducible refine gate_callee (f:=89) rfl ?_);refine goesL_ (some 13) rfl rfl Try.func89 (by kernel_rfl) rfl #[.agg #[.int .i64 a0_0,.int .i64 a0_1],.agg #[.int .i64 a1_0,.int .i64 a1_1],.agg #[.int .i64 a2_0,.int .i64 a2_1],.agg #[.int .i64 a3_0,.int .i64 a3_1]] rfl (by (try simp only [mT,mC,mN]);first | done | rfl | (simp only [lD,lT];rfl)) ?_;(with_reducible refine (spec_l02Crosses.calls a0_0 a0_1 a1_0 a1_1 a2_0 a2_1 a3_0 a3_1 false _ A5.out).mono ?_);rintro e w38 ⟨rfl,hb⟩;refine ⟨_,rfl,?_⟩;replace BK217:=kb BK217 hb;replace BK218:=kb BK218 hb;replace BK219:=kb BK219 hb;replace BK220:=kb BK220 hb;replace HB:=sb hb;(try clear hb);(try clear hb2);(try clear hk);(try clear hi);have hcz39_0:=ck BK217 0;have hcz39_1:=ck BK217 1;have hfz39_0:=blk_frozen BK217.out 0;have hfz39_1:=blk_frozen BK217.out 1;have hcz40_0:=ck BK218 0;have hcz40_1:=ck BK218 1;have hfz40_0:=blk_frozen BK218.out 0;have hfz40_1:=blk_frozen BK218.out 1;have hcz41_0:=ck BK219 0;have hcz41_1:=ck BK219 1;have hfz41_0:=blk_frozen BK219.out 0;have hfz41_1:=blk_frozen BK219.out 1) | (go_at_call 64;(with_reducible refine (spec_l02On.calls a0_0 a0_1 a1_0 a1_1 a2_0 a2_1 true _ A22.out).mono ?_);rintro e w42 ⟨rfl,hb⟩;replace BK217:=kb BK217 hb;replace BK218:=kb BK218 hb;replace BK219:=kb BK219 hb;replace BK220:=kb BK220 hb;replace HB:=sb hb;(try clear hb);(try clear hb2);(try clear hk);(try clear hi)))
   go_ret
   exact ⟨by first | rfl | (simp [errW_none,errW_some] <;> rfl) | (simp [*,errW_none,errW_some] <;> rfl),ib⟩
  ·replace c23:=Bool.eq_false_iff.mpr c23
   subst c23
   have H1 : ((spec_l02On.f a0_0 a0_1 a1_0 a1_1 a3_0 a3_1).bind fun t223 => (if t223 = true then (some true) else ((spec_l02On.f a2_0 a2_1 a3_0 a3_1 a0_0 a0_1).bind fun t224 => (if t224 = true then (some true) else ((spec_l02On.f a2_0 a2_1 a3_0 a3_1 a1_0 a1_1).bind fun t225 => (some t225)))))) = some r:=by rw [if_neg (show ¬ (false = true) by decide)] at H;exact H
   clear H
   have H:=H1
   clear H1
   replace H:=bE.mp H
   obtain ⟨t223,A430,H⟩:=H
   replace H : (if t223 = true then (some true) else ((spec_l02On.f a2_0 a2_1 a3_0 a3_1 a0_0 a0_1).bind fun t224 => (if t224 = true then (some true) else ((spec_l02On.f a2_0 a2_1 a3_0 a3_1 a1_0 a1_1).bind fun t225 => (some t225))))) = some r:=H
   have A43:=Aside0.mk A430
   clear A430
   by_cases c44 : t223 = true
   ·subst c44
    have H1 : (some true) = some r:=by rw [if_pos rfl] at H;exact H
    clear H
    have H:=H1
    clear H1
    obtain rfl:=Option.some.inj H
    go_enter Try.func65,Try.ntmps65
    go_wp2_with (first | ((with_reducible refine gate_dst (N:=4) rfl ?_);refine bx (cs:=#[.int .i64 a0_0,.int .i64 a0_1]) (t:=78) ?_;intro gb217 hg w45 hbox hb;have BK217:=Aside0.mk (hbox);have GW217:=zb hg;have GE217:=zb hg;replace HB:=sb hb;clear hb hbox hg) | ((with_reducible refine gate_dst (N:=5) rfl ?_);refine bx (cs:=#[.int .i64 a1_0,.int .i64 a1_1]) (t:=78) ?_;intro gb218 hg w46 hbox hb;have BK218:=Aside0.mk (hbox);have GW218:=zb hg;have GE218:=zb hg;replace HB:=sb hb;have NB217_218:=nl BK217 hg;have NB218_217:=ng BK217 hg;replace BK217:=kb BK217 hb;clear hb hbox hg) | ((with_reducible refine gate_dst (N:=6) rfl ?_);refine bx (cs:=#[.int .i64 a2_0,.int .i64 a2_1]) (t:=78) ?_;intro gb219 hg w47 hbox hb;have BK219:=Aside0.mk (hbox);have GW219:=zb hg;have GE219:=zb hg;replace HB:=sb hb;have NB217_219:=nl BK217 hg;have NB219_217:=ng BK217 hg;replace BK217:=kb BK217 hb;have NB218_219:=nl BK218 hg;have NB219_218:=ng BK218 hg;replace BK218:=kb BK218 hb;clear hb hbox hg) | ((with_reducible refine gate_dst (N:=7) rfl ?_);refine bx (cs:=#[.int .i64 a3_0,.int .i64 a3_1]) (t:=78) ?_;intro gb220 hg w48 hbox hb;have BK220:=Aside0.mk (hbox);have GW220:=zb hg;have GE220:=zb hg;replace HB:=sb hb;have NB217_220:=nl BK217 hg;have NB220_217:=ng BK217 hg;replace BK217:=kb BK217 hb;have NB218_220:=nl BK218 hg;have NB220_218:=ng BK218 hg;replace BK218:=kb BK218 hb;have NB219_220:=nl BK219 hg;have NB220_219:=ng BK219 hg;replace BK219:=kb BK219 hb;clear hb hbox hg;have hnb49:=NB217_218.out;have hnc49:=NB218_217.out;have hnb50:=NB217_219.out;have hnc50:=NB219_217.out;have hnb51:=NB217_220.out;have hnc51:=NB220_217.out;have hcz52_0:=ck BK217 0;have hcz52_1:=ck BK217 1;have hfz52_0:=blk_frozen BK217.out 0;have hfz52_1:=blk_frozen BK217.out 1;have hnb53:=NB218_219.out;have hnc53:=NB219_218.out;have hnb54:=NB218_220.out;have hnc54:=NB220_218.out;have hcz55_0:=ck BK218 0;have hcz55_1:=ck BK218 1;have hfz55_0:=blk_frozen BK218.out 0;have hfz55_1:=blk_frozen BK218.out 1;have hnb56:=NB219_220.out;have hnc56:=NB220_219.out;have hcz57_0:=ck BK219 0;have hcz57_1:=ck BK219 1;have hfz57_0:=blk_frozen BK219.out 0;have hfz57_1:=blk_frozen BK219.out 1;have hcz58_0:=ck BK220 0;have hcz58_1:=ck BK220 1;have hfz58_0:=blk_frozen BK220.out 0;have hfz58_1:=blk_frozen BK220.out 1) | ((with_reducible refine gate_callee (f:=89) rfl ?_);refine goesL_ (some 13) rfl rfl Try.func89 (by kernel_rfl) rfl #[.agg #[.int .i64 a0_0,.int .i64 a0_1],.agg #[.int .i64 a1_0,.int .i64 a1_1],.agg #[.int .i64 a2_0,.int .i64 a2_1],.agg #[.int .i64 a3_0,.int .i64 a3_1]] rfl (by (try simp only [mT,mC,mN]);first | done | rfl | (simp only [lD,lT];rfl)) ?_;(with_reducible refine (spec_l02Crosses.calls a0_0 a0_1 a1_0 a1_1 a2_0 a2_1 a3_0 a3_1 false _ A5.out).mono ?_);rintro e w59 ⟨rfl,hb⟩;refine ⟨_,rfl,?_⟩;replace BK217:=kb BK217 hb;replace BK218:=kb BK218 hb;replace BK219:=kb BK219 hb;replace BK220:=kb BK220 hb;replace HB:=sb hb;(try clear hb);(try clear hb2);(try clear hk);(try clear hi);have hcz60_0:=ck BK217 0;have hcz60_1:=ck BK217 1;have hfz60_0:=blk_frozen BK217.out 0;have hfz60_1:=blk_frozen BK217.out 1;have hcz61_0:=ck BK218 0;have hcz61_1:=ck BK218 1;have hfz61_0:=blk_frozen BK218.out 0;have hfz61_1:=blk_frozen BK218.out 1;have hcz62_0:=ck BK219 0;have hcz62_1:=ck BK219 1;have hfz62_0:=blk_frozen BK219.out 0;have hfz62_1:=blk_frozen BK219.out 1) | (go_at_call 64;(with_reducible refine (spec_l02On.calls a0_0 a0_1 a1_0 a1_1 a2_0 a2_1 false _ A22.out).mono ?_);rintro e w63 ⟨rfl,hb⟩;replace BK217:=kb BK217 hb;replace BK218:=kb BK218 hb;replace BK219:=kb BK219 hb;replace BK220:=kb BK220 hb;replace HB:=sb hb;(try clear hb);(try clear hb2);(try clear hk);(try clear hi);have hcz64_0:=ck BK217 0;have hcz64_1:=ck BK217 1;have hfz64_0:=blk_frozen BK217.out 0;have hfz64_1:=blk_frozen BK217.out 1;have hcz65_0:=ck BK218 0;have hcz65_1:=ck BK218 1;have hfz65_0:=blk_frozen BK218.out 0;have hfz65_1:=blk_frozen BK218.out 1;have hcz66_0:=ck BK220 0;have hcz66_1:=ck BK220 1;have hfz66_0:=blk_frozen BK220.out 0;have hfz66_1:=blk_frozen BK220.out 1) | (go_at_call 64;(with_reducible refine (spec_l02On.calls a0_0 a0_1 a1_0 a1_1 a3_0 a3_1 true _ A43.out).mono ?_);rintro e w67 ⟨rfl,hb⟩;replace BK217:=kb BK217 hb;replace BK218:=kb BK218 hb;replace BK219:=kb BK219 hb;replace BK220:=kb BK220 hb;replace HB:=sb hb;(try clear hb);(try clear hb2);(try clear hk);(try clear hi)))
    go_ret
    exact ⟨by first | rfl | (simp [errW_none,errW_some] <;> rfl) | (simp [*,errW_none,errW_some] <;> rfl),ib⟩
   ·replace c44:=Bool.eq_false_iff.mpr c44
    subst c44
    have H1 : ((spec_l02On.f a2_0 a2_1 a3_0 a3_1 a0_0 a0_1).bind fun t224 => (if t224 = true then (some true) else ((spec_l02On.f a2_0 a2_1 a3_0 a3_1 a1_0 a1_1).bind fun t225 => (some t225)))) = some r:=by rw [if_neg (show ¬ (false = true) by decide)] at H;exact H
    clear H
    have H:=H1
    clear H1
    replace H:=bE.mp H
    obtain ⟨t224,A680,H⟩:=H
    replace H : (if t224 = true then (some true) else ((spec_l02On.f a2_0 a2_1 a3_0 a3_1 a1_0 a1_1).bind fun t225 => (some t225))) = some r:=H
    have A68:=Aside0.mk A680
    clear A680
    by_cases c69 : t224 = true
    ·subst c69
     have H1 : (some true) = some r:=by rw [if_pos rfl] at H;exact H
     clear H
     have H:=H1
     clear H1
     obtain rfl:=Option.some.inj H
     go_enter Try.func65,Try.ntmps65
     go_wp2_with (first | ((with_reducible refine gate_dst (N:=4) rfl ?_);refine bx (cs:=#[.int .i64 a0_0,.int .i64 a0_1]) (t:=78) ?_;intro gb217 hg w70 hbox hb;have BK217:=Aside0.mk (hbox);have GW217:=zb hg;have GE217:=zb hg;replace HB:=sb hb;clear hb hbox hg) | ((with_reducible refine gate_dst (N:=5) rfl ?_);refine bx (cs:=#[.int .i64 a1_0,.int .i64 a1_1]) (t:=78) ?_;intro gb218 hg w71 hbox hb;have BK218:=Aside0.mk (hbox);have GW218:=zb hg;have GE218:=zb hg;replace HB:=sb hb;have NB217_218:=nl BK217 hg;have NB218_217:=ng BK217 hg;replace BK217:=kb BK217 hb;clear hb hbox hg) | ((with_reducible refine gate_dst (N:=6) rfl ?_);refine bx (cs:=#[.int .i64 a2_0,.int .i64 a2_1]) (t:=78) ?_;intro gb219 hg w72 hbox hb;have BK219:=Aside0.mk (hbox);have GW219:=zb hg;have GE219:=zb hg;replace HB:=sb hb;have NB217_219:=nl BK217 hg;have NB219_217:=ng BK217 hg;replace BK217:=kb BK217 hb;have NB218_219:=nl BK218 hg;have NB219_218:=ng BK218 hg;replace BK218:=kb BK218 hb;clear hb hbox hg) | ((with_reducible refine gate_dst (N:=7) rfl ?_);refine bx (cs:=#[.int .i64 a3_0,.int .i64 a3_1]) (t:=78) ?_;intro gb220 hg w73 hbox hb;have BK220:=Aside0.mk (hbox);have GW220:=zb hg;have GE220:=zb hg;replace HB:=sb hb;have NB217_220:=nl BK217 hg;have NB220_217:=ng BK217 hg;replace BK217:=kb BK217 hb;have NB218_220:=nl BK218 hg;have NB220_218:=ng BK218 hg;replace BK218:=kb BK218 hb;have NB219_220:=nl BK219 hg;have NB220_219:=ng BK219 hg;replace BK219:=kb BK219 hb;clear hb hbox hg;have hnb74:=NB217_218.out;have hnc74:=NB218_217.out;have hnb75:=NB217_219.out;have hnc75:=NB219_217.out;have hnb76:=NB217_220.out;have hnc76:=NB220_217.out;have hcz77_0:=ck BK217 0;have hcz77_1:=ck BK217 1;have hfz77_0:=blk_frozen BK217.out 0;have hfz77_1:=blk_frozen BK217.out 1;have hnb78:=NB218_219.out;have hnc78:=NB219_218.out;have hnb79:=NB218_220.out;have hnc79:=NB220_218.out;have hcz80_0:=ck BK218 0;have hcz80_1:=ck BK218 1;have hfz80_0:=blk_frozen BK218.out 0;have hfz80_1:=blk_frozen BK218.out 1;have hnb81:=NB219_220.out;have hnc81:=NB220_219.out;have hcz82_0:=ck BK219 0;have hcz82_1:=ck BK219 1;have hfz82_0:=blk_frozen BK219.out 0;have hfz82_1:=blk_frozen BK219.out 1;have hcz83_0:=ck BK220 0;have hcz83_1:=ck BK220 1;have hfz83_0:=blk_frozen BK220.out 0;have hfz83_1:=blk_frozen BK220.out 1) | ((with_reducible refine gate_callee (f:=89) rfl ?_);refine goesL_ (some 13) rfl rfl Try.func89 (by kernel_rfl) rfl #[.agg #[.int .i64 a0_0,.int .i64 a0_1],.agg #[.int .i64 a1_0,.int .i64 a1_1],.agg #[.int .i64 a2_0,.int .i64 a2_1],.agg #[.int .i64 a3_0,.int .i64 a3_1]] rfl (by (try simp only [mT,mC,mN]);first | done | rfl | (simp only [lD,lT];rfl)) ?_;(with_reducible refine (spec_l02Crosses.calls a0_0 a0_1 a1_0 a1_1 a2_0 a2_1 a3_0 a3_1 false _ A5.out).mono ?_);rintro e w84 ⟨rfl,hb⟩;refine ⟨_,rfl,?_⟩;replace BK217:=kb BK217 hb;replace BK218:=kb BK218 hb;replace BK219:=kb BK219 hb;replace BK220:=kb BK220 hb;replace HB:=sb hb;(try clear hb);(try clear hb2);(try clear hk);(try clear hi);have hcz85_0:=ck BK217 0;have hcz85_1:=ck BK217 1;have hfz85_0:=blk_frozen BK217.out 0;have hfz85_1:=blk_frozen BK217.out 1;have hcz86_0:=ck BK218 0;have hcz86_1:=ck BK218 1;have hfz86_0:=blk_frozen BK218.out 0;have hfz86_1:=blk_frozen BK218.out 1;have hcz87_0:=ck BK219 0;have hcz87_1:=ck BK219 1;have hfz87_0:=blk_frozen BK219.out 0;have hfz87_1:=blk_frozen BK219.out 1) | (go_at_call 64;(with_reducible refine (spec_l02On.calls a0_0 a0_1 a1_0 a1_1 a2_0 a2_1 false _ A22.out).mono ?_);rintro e w88 ⟨rfl,hb⟩;replace BK217:=kb BK217 hb;replace BK218:=kb BK218 hb;replace BK219:=kb BK219 hb;replace BK220:=kb BK220 hb;replace HB:=sb hb;(try clear hb);(try clear hb2);(try clear hk);(try clear hi);have hcz89_0:=ck BK217 0;have hcz89_1:=ck BK217 1;have hfz89_0:=blk_frozen BK217.out 0;have hfz89_1:=blk_frozen BK217.out 1;have hcz90_0:=ck BK218 0;have hcz90_1:=ck BK218 1;have hfz90_0:=blk_frozen BK218.out 0;have hfz90_1:=blk_frozen BK218.out 1;have hcz91_0:=ck BK220 0;have hcz91_1:=ck BK220 1;have hfz91_0:=blk_frozen BK220.out 0;have hfz91_1:=blk_frozen BK220.out 1) | (go_at_call 64;(with_reducible refine (spec_l02On.calls a0_0 a0_1 a1_0 a1_1 a3_0 a3_1 false _ A43.out).mono ?_);rintro e w92 ⟨rfl,hb⟩;replace BK217:=kb BK217 hb;replace BK218:=kb BK218 hb;replace BK219:=kb BK219 hb;replace BK220:=kb BK220 hb;replace HB:=sb hb;(try clear hb);(try clear hb2);(try clear hk);(try clear hi);have hcz93_0:=ck BK219 0;have hcz93_1:=ck BK219 1;have hfz93_0:=blk_frozen BK219.out 0;have hfz93_1:=blk_frozen BK219.out 1;have hcz94_0:=ck BK220 0;have hcz94_1:=ck BK220 1;have hfz94_0:=blk_frozen BK220.out 0;have hfz94_1:=blk_frozen BK220.out 1;have hcz95_0:=ck BK217 0;have hcz95_1:=ck BK217 1;have hfz95_0:=blk_frozen BK217.out 0;have hfz95_1:=blk_frozen BK217.out 1) | (go_at_call 64;(with_reducible refine (spec_l02On.calls a2_0 a2_1 a3_0 a3_1 a0_0 a0_1 true _ A68.out).mono ?_);rintro e w96 ⟨rfl,hb⟩;replace BK217:=kb BK217 hb;replace BK218:=kb BK218 hb;replace BK219:=kb BK219 hb;replace BK220:=kb BK220 hb;replace HB:=sb hb;(try clear hb);(try clear hb2);(try clear hk);(try clear hi)))
     go_ret
     exact ⟨by first | rfl | (simp [errW_none,errW_some] <;> rfl) | (simp [*,errW_none,errW_some] <;> rfl),ib⟩
    ·replace c69:=Bool.eq_false_iff.mpr c69
     subst c69
     have H1 : ((spec_l02On.f a2_0 a2_1 a3_0 a3_1 a1_0 a1_1).bind fun t225 => (some t225)) = some r:=by rw [if_neg (show ¬ (false = true) by decide)] at H;exact H
     clear H
     have H:=H1
     clear H1
     replace H:=bE.mp H
     obtain ⟨t225,A970,H⟩:=H
     replace H : (some t225) = some r:=H
     have A97:=Aside0.mk A970
     clear A970
     obtain rfl:=Option.some.inj H
     go_enter Try.func65,Try.ntmps65
     go_wp2_with (first | ((with_reducible refine gate_dst (N:=4) rfl ?_);refine bx (cs:=#[.int .i64 a0_0,.int .i64 a0_1]) (t:=78) ?_;intro gb217 hg w98 hbox hb;have BK217:=Aside0.mk (hbox);have GW217:=zb hg;have GE217:=zb hg;replace HB:=sb hb;clear hb hbox hg) | ((with_reducible refine gate_dst (N:=5) rfl ?_);refine bx (cs:=#[.int .i64 a1_0,.int .i64 a1_1]) (t:=78) ?_;intro gb218 hg w99 hbox hb;have BK218:=Aside0.mk (hbox);have GW218:=zb hg;have GE218:=zb hg;replace HB:=sb hb;have NB217_218:=nl BK217 hg;have NB218_217:=ng BK217 hg;replace BK217:=kb BK217 hb;clear hb hbox hg) | ((with_reducible refine gate_dst (N:=6) rfl ?_);refine bx (cs:=#[.int .i64 a2_0,.int .i64 a2_1]) (t:=78) ?_;intro gb219 hg w100 hbox hb;have BK219:=Aside0.mk (hbox);have GW219:=zb hg;have GE219:=zb hg;replace HB:=sb hb;have NB217_219:=nl BK217 hg;have NB219_217:=ng BK217 hg;replace BK217:=kb BK217 hb;have NB218_219:=nl BK218 hg;have NB219_218:=ng BK218 hg;replace BK218:=kb BK218 hb;clear hb hbox hg) | ((with_reducible refine gate_dst (N:=7) rfl ?_);refine bx (cs:=#[.int .i64 a3_0,.int .i64 a3_1]) (t:=78) ?_;intro gb220 hg w101 hbox hb;have BK220:=Aside0.mk (hbox);have GW220:=zb hg;have GE220:=zb hg;replace HB:=sb hb;have NB217_220:=nl BK217 hg;have NB220_217:=ng BK217 hg;replace BK217:=kb BK217 hb;have NB218_220:=nl BK218 hg;have NB220_218:=ng BK218 hg;replace BK218:=kb BK218 hb;have NB219_220:=nl BK219 hg;have NB220_219:=ng BK219 hg;replace BK219:=kb BK219 hb;clear hb hbox hg;have hnb102:=NB217_218.out;have hnc102:=NB218_217.out;have hnb103:=NB217_219.out;have hnc103:=NB219_217.out;have hnb104:=NB217_220.out;have hnc104:=NB220_217.out;have hcz105_0:=ck BK217 0;have hcz105_1:=ck BK217 1;have hfz105_0:=blk_frozen BK217.out 0;have hfz105_1:=blk_frozen BK217.out 1;have hnb106:=NB218_219.out;have hnc106:=NB219_218.out;have hnb107:=NB218_220.out;have hnc107:=NB220_218.out;have hcz108_0:=ck BK218 0;have hcz108_1:=ck BK218 1;have hfz108_0:=blk_frozen BK218.out 0;have hfz108_1:=blk_frozen BK218.out 1;have hnb109:=NB219_220.out;have hnc109:=NB220_219.out;have hcz110_0:=ck BK219 0;have hcz110_1:=ck BK219 1;have hfz110_0:=blk_frozen BK219.out 0;have hfz110_1:=blk_frozen BK219.out 1;have hcz111_0:=ck BK220 0;have hcz111_1:=ck BK220 1;have hfz111_0:=blk_frozen BK220.out 0;have hfz111_1:=blk_frozen BK220.out 1) | ((with_reducible refine gate_callee (f:=89) rfl ?_);refine goesL_ (some 13) rfl rfl Try.func89 (by kernel_rfl) rfl #[.agg #[.int .i64 a0_0,.int .i64 a0_1],.agg #[.int .i64 a1_0,.int .i64 a1_1],.agg #[.int .i64 a2_0,.int .i64 a2_1],.agg #[.int .i64 a3_0,.int .i64 a3_1]] rfl (by (try simp only [mT,mC,mN]);first | done | rfl | (simp only [lD,lT];rfl)) ?_;(with_reducible refine (spec_l02Crosses.calls a0_0 a0_1 a1_0 a1_1 a2_0 a2_1 a3_0 a3_1 false _ A5.out).mono ?_);rintro e w112 ⟨rfl,hb⟩;refine ⟨_,rfl,?_⟩;replace BK217:=kb BK217 hb;replace BK218:=kb BK218 hb;replace BK219:=kb BK219 hb;replace BK220:=kb BK220 hb;replace HB:=sb hb;(try clear hb);(try clear hb2);(try clear hk);(try clear hi);have hcz113_0:=ck BK217 0;have hcz113_1:=ck BK217 1;have hfz113_0:=blk_frozen BK217.out 0;have hfz113_1:=blk_frozen BK217.out 1;have hcz114_0:=ck BK218 0;have hcz114_1:=ck BK218 1;have hfz114_0:=blk_frozen BK218.out 0;have hfz114_1:=blk_frozen BK218.out 1;have hcz115_0:=ck BK219 0;have hcz115_1:=ck BK219 1;have hfz115_0:=blk_frozen BK219.out 0;have hfz115_1:=blk_frozen BK219.out 1) | (go_at_call 64;(with_reducible refine (spec_l02On.calls a0_0 a0_1 a1_0 a1_1 a2_0 a2_1 false _ A22.out).mono ?_);rintro e w116 ⟨rfl,hb⟩;replace BK217:=kb BK217 hb;replace BK218:=kb BK218 hb;replace BK219:=kb BK219 hb;replace BK220:=kb BK220 hb;replace HB:=sb hb;(try clear hb);(try clear hb2);(try clear hk);(try clear hi);have hcz117_0:=ck BK217 0;have hcz117_1:=ck BK217 1;have hfz117_0:=blk_frozen BK217.out 0;have hfz117_1:=blk_frozen BK217.out 1;have hcz118_0:=ck BK218 0;have hcz118_1:=ck BK218 1;have hfz118_0:=blk_frozen BK218.out 0;have hfz118_1:=blk_frozen BK218.out 1;have hcz119_0:=ck BK220 0;have hcz119_1:=ck BK220 1;have hfz119_0:=blk_frozen BK220.out 0;have hfz119_1:=blk_frozen BK220.out 1) | (go_at_call 64;(with_reducible refine (spec_l02On.calls a0_0 a0_1 a1_0 a1_1 a3_0 a3_1 false _ A43.out).mono ?_);rintro e w120 ⟨rfl,hb⟩;replace BK217:=kb BK217 hb;replace BK218:=kb BK218 hb;replace BK219:=kb BK219 hb;replace BK220:=kb BK220 hb;replace HB:=sb hb;(try clear hb);(try clear hb2);(try clear hk);(try clear hi);have hcz121_0:=ck BK219 0;have hcz121_1:=ck BK219 1;have hfz121_0:=blk_frozen BK219.out 0;have hfz121_1:=blk_frozen BK219.out 1;have hcz122_0:=ck BK220 0;have hcz122_1:=ck BK220 1;have hfz122_0:=blk_frozen BK220.out 0;have hfz122_1:=blk_frozen BK220.out 1;have hcz123_0:=ck BK217 0;have hcz123_1:=ck BK217 1;have hfz123_0:=blk_frozen BK217.out 0;have hfz123_1:=blk_frozen BK217.out 1) | (go_at_call 64;(with_reducible refine (spec_l02On.calls a2_0 a2_1 a3_0 a3_1 a0_0 a0_1 false _ A68.out).mono ?_);rintro e w124 ⟨rfl,hb⟩;replace BK217:=kb BK217 hb;replace BK218:=kb BK218 hb;replace BK219:=kb BK219 hb;replace BK220:=kb BK220 hb;replace HB:=sb hb;(try clear hb);(try clear hb2);(try clear hk);(try clear hi);have hcz125_0:=ck BK219 0;have hcz125_1:=ck BK219 1;have hfz125_0:=blk_frozen BK219.out 0;have hfz125_1:=blk_frozen BK219.out 1;have hcz126_0:=ck BK220 0;have hcz126_1:=ck BK220 1;have hfz126_0:=blk_frozen BK220.out 0;have hfz126_1:=blk_frozen BK220.out 1;have hcz127_0:=ck BK218 0;have hcz127_1:=ck BK218 1;have hfz127_0:=blk_frozen BK218.out 0;have hfz127_1:=blk_frozen BK218.out 1) | (go_at_call 64;(with_reducible refine (spec_l02On.calls a2_0 a2_1 a3_0 a3_1 a1_0 a1_1 t225 _ A97.out).mono ?_);rintro e w128 ⟨rfl,hb⟩;replace BK217:=kb BK217 hb;replace BK218:=kb BK218 hb;replace BK219:=kb BK219 hb;replace BK220:=kb BK220 hb;replace HB:=sb hb;(try clear hb);(try clear hb2);(try clear hk);(try clear hi)))
     go_ret
     exact ⟨by first | rfl | (simp [errW_none,errW_some] <;> rfl) | (simp [*,errW_none,errW_some] <;> rfl),ib⟩
def spec_l03Area.l0 : Nat → List (S78) → Int → Int → Option (Int)
 | 0,_,_,_ => none
 | k + 1,x0,x3,x4 => if x4 < (x0.length : Int) then (if (x0.length : Int) = 0 then (none) else (if 0 ≤ (Int.tmod (wrap64 (x4 + 1)) (x0.length : Int)) then (if (Int.tmod (wrap64 (x4 + 1)) (x0.length : Int)) < (x0.length : Int) then (if 0 ≤ x4 then (spec_l03Area.l0 k x0 (wrap64 (x3 + (wrap64 ((wrap64 (((rd_T78 x0 x4).f0) * ((rd_T78 x0 (Int.tmod (wrap64 (x4 + 1)) (x0.length : Int))).f1))) - (wrap64 (((rd_T78 x0 x4).f1) * ((rd_T78 x0 (Int.tmod (wrap64 (x4 + 1)) (x0.length : Int))).f0))))))) (wrap64 (x4 + 1))) else (none)) else (none)) else (none))) else (some x3)
def spec_l03Area.f (k : Nat) (l0 : List (S78)) : Option (Int):=spec_l03Area.l0 k l0 0 0
theorem spec_l03Area.calls (k : Nat) (A0 : Option Addr) (c0 : Nat) (l0 : List (S78)) (r : Int) (w : World) (hr0 : Kd.C k78 w A0 l0.length l0) (hc0 : l0.length ≤ c0) (h : spec_l03Area.f k l0 = some r) :
  Calls Try.prog 66 #[.slice A0 l0.length c0] w fun e w' => e = .returned (.int .i64 r) ∧ Below w.heap.size w w':=by
 have hu78:=Try.underlying78
 have HR0:=Aside0.mk hr0
 have HC0:=Aside0.mk hc0
 clear hr0 hc0
 have HB:=Aside0.mk (Below.refl w.heap.size w)
 have H : (spec_l03Area.l0 k l0 0 0) = some r:=h
 clear h
 have H':=Aside0.mk H
 clear H
 go_enter Try.func66,Try.ntmps66
 go_wp2
 repeat (go_quiet (fail);try go_wp2)
 go_loopg [3,4] k (fun kq v3 v4 w' => ∃ (x3_1 : Int) (x4_1 : Int),v3 = .int .i64 x3_1 ∧ v4 = .int .i64 x4_1 ∧ Aside0 (spec_l03Area.l0 kq l0 x3_1 x4_1 = some r) ∧ Aside0 (kq ≤ k) ∧ Aside0 (Below w.heap.size w w'))
 case atStart => exact ⟨(0),(0),(by first | rfl | (simp;done) | (simp [*];done)),(by first | rfl | (simp;done) | (simp [*];done)),H',⟨Nat.le_refl _⟩,⟨ib⟩⟩
 case round =>
  clear H'
  obtain ⟨x3_1,x4_1,rfl,rfl,HA,HK1,HB⟩:=hrel
  cases gk with
  | zero => exact absurd HA.out (by simp [spec_l03Area.l0])
  | succ k1 =>
   have H:=HA.out
   clear HA
   simp only [spec_l03Area.l0] at H
   by_cases c2 : x4_1 < (l0.length : Int)
   ·rw [if_pos c2] at H
    have c2b0 : decide (x4_1 < (l0.length : Int)) = true:=decide_eq_true c2
    clear c2
    by_cases c3 : (l0.length : Int) = 0
    ·rw [if_pos c3] at H
     exact absurd H (by simp)
    ·rw [if_neg c3] at H
     have c3b0 : ((l0.length : Int) == 0) = false:=beq_eq_false_iff_ne.mpr c3
     have c3b1 : ((l0.length : Int) != 0) = true:=bne_iff_ne.mpr c3
     have c3b2 : ¬ (l0 = []):=fun h_ => c3 (by rw [h_];rfl)
     obtain ⟨ji4,hji4⟩ : ∃ j_ : Int,(Int.tmod (wrap64 (x4_1 + 1)) (l0.length : Int)) = j_:=⟨_,rfl⟩
     replace H : (if 0 ≤ (ji4) then (if (ji4) < (l0.length : Int) then (if 0 ≤ x4_1 then (spec_l03Area.l0 k1 l0 (wrap64 (x3_1 + (wrap64 ((wrap64 (((rd_T78 l0 x4_1).f0) * ((rd_T78 l0 (ji4)).f1))) - (wrap64 (((rd_T78 l0 x4_1).f1) * ((rd_T78 l0 (ji4)).f0))))))) (wrap64 (x4_1 + 1))) else (none)) else (none)) else (none)) = some r:=by first | (rw [hji4] at H;exact H) | (simp only [hji4] at H ⊢;exact H)
     by_cases c5 : 0 ≤ (ji4)
     ·rw [if_pos c5] at H
      have c5b0 : decide (0 ≤ (ji4)) = true:=decide_eq_true c5
      clear c5
      by_cases c6 : (ji4) < (l0.length : Int)
      ·rw [if_pos c6] at H
       have c6b0 : decide ((ji4) < (l0.length : Int)) = true:=decide_eq_true c6
       clear c6
       by_cases c7 : 0 ≤ x4_1
       ·rw [if_pos c7] at H
        have c7b0 : decide (0 ≤ x4_1) = true:=decide_eq_true c7
        clear c7
        have H':=Aside0.mk H
        clear H
        have p226 : 0 ≤ ((ji4) : Int):=da
        have q226 : (ji4) < (l0.length : Int):=da
        obtain ⟨ad226,e226,hx226_0,hx226_1⟩:=at_T78 HR0.out (ji4) p226 q226
        cases e226
        replace hx226_0:=cq HB.out hx226_0
        replace hx226_1:=cq HB.out hx226_1
        replace p226:=eq_true p226
        replace q226:=eq_true q226
        go_wp2_with (first | ((with_reducible refine gate_dst (N:=5) rfl ?_);refine bx (cs:=#[.int .i64 0,.int .i64 0]) (t:=78) ?_;intro gb227 hg w8 hbox hb;have BK227:=Aside0.mk (hbox);have GW227:=zb hg;have GE227:=zb hg;replace HB:=sb hb;clear hb hbox hg;have hcz9_0:=ck BK227 0;have hcz9_1:=ck BK227 1;have hfz9_0:=blk_frozen BK227.out 0;have hfz9_1:=blk_frozen BK227.out 1;have p228 : 0 ≤ (x4_1 : Int):=da;have q228 : x4_1 < (l0.length : Int):=da;obtain ⟨ad228,e228,hx228_0,hx228_1⟩:=at_T78 HR0.out x4_1 p228 q228;obtain rfl : ad226 = ad228:=(by injection e228);have hn228_0 : ad226.block ≠ gb227:=nw hx228_0 GW227;have hn228_1 : ad226.block ≠ gb227:=nw hx228_0 GW227;replace hx228_0:=cq HB.out hx228_0;replace hx228_1:=cq HB.out hx228_1;replace hx228_0:=cf hn228_0 hx228_0 0 (.int .i64 ((rd_T78 l0 (ji4)).f0));replace hx228_1:=cf hn228_0 hx228_1 0 (.int .i64 ((rd_T78 l0 (ji4)).f0));replace hx228_0:=cf hn228_1 hx228_0 1 (.int .i64 ((rd_T78 l0 (ji4)).f1));replace hx228_1:=cf hn228_1 hx228_1 1 (.int .i64 ((rd_T78 l0 (ji4)).f1));(try have hy228_0:=fun (n_ : Nat) => (show ((((w8.drewN n_).setCell ⟨gb227,0,none⟩ (.int .i64 ((rd_T78 l0 (ji4)).f0))).setCell ⟨gb227,1,none⟩ (.int .i64 ((rd_T78 l0 (ji4)).f1)))).cell? _ = some _ from hx228_0));(try have hy228_1:=fun (n_ : Nat) => (show ((((w8.drewN n_).setCell ⟨gb227,0,none⟩ (.int .i64 ((rd_T78 l0 (ji4)).f0))).setCell ⟨gb227,1,none⟩ (.int .i64 ((rd_T78 l0 (ji4)).f1)))).cell? _ = some _ from hx228_1));clear hn228_0;clear hn228_1;replace p228:=eq_true p228;replace q228:=eq_true q228;have p229 : 0 ≤ (x4_1 : Int):=da;have q229 : x4_1 < (l0.length : Int):=da;obtain ⟨ad229,e229,hx229_0,hx229_1⟩:=at_T78 HR0.out x4_1 p229 q229;obtain rfl : ad226 = ad229:=(by injection e229);have hn229_0 : ad226.block ≠ gb227:=nw hx229_0 GW227;have hn229_1 : ad226.block ≠ gb227:=nw hx229_0 GW227;replace hx229_0:=cq HB.out hx229_0;replace hx229_1:=cq HB.out hx229_1;replace hx229_0:=cf hn229_0 hx229_0 0 (.int .i64 ((rd_T78 l0 (ji4)).f0));replace hx229_1:=cf hn229_0 hx229_1 0 (.int .i64 ((rd_T78 l0 (ji4)).f0));replace hx229_0:=cf hn229_1 hx229_0 1 (.int .i64 ((rd_T78 l0 (ji4)).f1));replace hx229_1:=cf hn229_1 hx229_1 1 (.int .i64 ((rd_T78 l0 (ji4)).f1));(try have hy229_0:=fun (n_ : Nat) => (show ((((w8.drewN n_).setCell ⟨gb227,0,none⟩ (.int .i64 ((rd_T78 l0 (ji4)).f0))).setCell ⟨gb227,1,none⟩ (.int .i64 ((rd_T78 l0 (ji4)).f1)))).cell? _ = some _ from hx229_0));(try have hy229_1:=fun (n_ : Nat) => (show ((((w8.drewN n_).setCell ⟨gb227,0,none⟩ (.int .i64 ((rd_T78 l0 (ji4)).f0))).setCell ⟨gb227,1,none⟩ (.int .i64 ((rd_T78 l0 (ji4)).f1)))).cell? _ = some _ from hx229_1));clear hn229_0;clear hn229_1;replace p229:=eq_true p229;replace q229:=eq_true q229))
        repeat (go_quiet (first | ((with_reducible refine gate_dst (N:=5) rfl ?_);refine bx (cs:=#[.int .i64 0,.int .i64 0]) (t:=78) ?_;intro gb227 hg w8 hbox hb;have BK227:=Aside0.mk (hbox);have GW227:=zb hg;have GE227:=zb hg;replace HB:=sb hb;clear hb hbox hg;have hcz9_0:=ck BK227 0;have hcz9_1:=ck BK227 1;have hfz9_0:=blk_frozen BK227.out 0;have hfz9_1:=blk_frozen BK227.out 1;have p228 : 0 ≤ (x4_1 : Int):=da;have q228 : x4_1 < (l0.length : Int):=da;obtain ⟨ad228,e228,hx228_0,hx228_1⟩:=at_T78 HR0.out x4_1 p228 q228;obtain rfl : ad226 = ad228:=(by injection e228);have hn228_0 : ad226.block ≠ gb227:=nw hx228_0 GW227;have hn228_1 : ad226.block ≠ gb227:=nw hx228_0 GW227;replace hx228_0:=cq HB.out hx228_0;replace hx228_1:=cq HB.out hx228_1;replace hx228_0:=cf hn228_0 hx228_0 0 (.int .i64 ((rd_T78 l0 (ji4)).f0));replace hx228_1:=cf hn228_0 hx228_1 0 (.int .i64 ((rd_T78 l0 (ji4)).f0));replace hx228_0:=cf hn228_1 hx228_0 1 (.int .i64 ((rd_T78 l0 (ji4)).f1));replace hx228_1:=cf hn228_1 hx228_1 1 (.int .i64 ((rd_T78 l0 (ji4)).f1));(try have hy228_0:=fun (n_ : Nat) => (show ((((w8.drewN n_).setCell ⟨gb227,0,none⟩ (.int .i64 ((rd_T78 l0 (ji4)).f0))).setCell ⟨gb227,1,none⟩ (.int .i64 ((rd_T78 l0 (ji4)).f1)))).cell? _ = some _ from hx228_0));(try have hy228_1:=fun (n_ : Nat) => (show ((((w8.drewN n_).setCell ⟨gb227,0,none⟩ (.int .i64 ((rd_T78 l0 (ji4)).f0))).setCell ⟨gb227,1,none⟩ (.int .i64 ((rd_T78 l0 (ji4)).f1)))).cell? _ = some _ from hx228_1));clear hn228_0;clear hn228_1;replace p228:=eq_true p228;replace q228:=eq_true q228;have p229 : 0 ≤ (x4_1 : Int):=da;have q229 : x4_1 < (l0.length : Int):=da;obtain ⟨ad229,e229,hx229_0,hx229_1⟩:=at_T78 HR0.out x4_1 p229 q229;obtain rfl : ad226 = ad229:=(by injection e229);have hn229_0 : ad226.block ≠ gb227:=nw hx229_0 GW227;have hn229_1 : ad226.block ≠ gb227:=nw hx229_0 GW227;replace hx229_0:=cq HB.out hx229_0;replace hx229_1:=cq HB.out hx229_1;replace hx229_0:=cf hn229_0 hx229_0 0 (.int .i64 ((rd_T78 l0 (ji4)).f0));replace hx229_1:=cf hn229_0 hx229_1 0 (.int .i64 ((rd_T78 l0 (ji4)).f0));replace hx229_0:=cf hn229_1 hx229_0 1 (.int .i64 ((rd_T78 l0 (ji4)).f1));replace hx229_1:=cf hn229_1 hx229_1 1 (.int .i64 ((rd_T78 l0 (ji4)).f1));(try have hy229_0:=fun (n_ : Nat) => (show ((((w8.drewN n_).setCell ⟨gb227,0,none⟩ (.int .i64 ((rd_T78 l0 (ji4)).f0))).setCell ⟨gb227,1,none⟩ (.int .i64 ((rd_T78 l0 (ji4)).f1)))).cell? _ = some _ from hx229_0));(try have hy229_1:=fun (n_ : Nat) => (show ((((w8.drewN n_).setCell ⟨gb227,0,none⟩ (.int .i64 ((rd_T78 l0 (ji4)).f0))).setCell ⟨gb227,1,none⟩ (.int .i64 ((rd_T78 l0 (ji4)).f1)))).cell? _ = some _ from hx229_1));clear hn229_0;clear hn229_1;replace p229:=eq_true p229;replace q229:=eq_true q229));try go_wp2_with (first | ((with_reducible refine gate_dst (N:=5) rfl ?_);refine bx (cs:=#[.int .i64 0,.int .i64 0]) (t:=78) ?_;intro gb227 hg w8 hbox hb;have BK227:=Aside0.mk (hbox);have GW227:=zb hg;have GE227:=zb hg;replace HB:=sb hb;clear hb hbox hg;have hcz9_0:=ck BK227 0;have hcz9_1:=ck BK227 1;have hfz9_0:=blk_frozen BK227.out 0;have hfz9_1:=blk_frozen BK227.out 1;have p228 : 0 ≤ (x4_1 : Int):=da;have q228 : x4_1 < (l0.length : Int):=da;obtain ⟨ad228,e228,hx228_0,hx228_1⟩:=at_T78 HR0.out x4_1 p228 q228;obtain rfl : ad226 = ad228:=(by injection e228);have hn228_0 : ad226.block ≠ gb227:=nw hx228_0 GW227;have hn228_1 : ad226.block ≠ gb227:=nw hx228_0 GW227;replace hx228_0:=cq HB.out hx228_0;replace hx228_1:=cq HB.out hx228_1;replace hx228_0:=cf hn228_0 hx228_0 0 (.int .i64 ((rd_T78 l0 (ji4)).f0));replace hx228_1:=cf hn228_0 hx228_1 0 (.int .i64 ((rd_T78 l0 (ji4)).f0));replace hx228_0:=cf hn228_1 hx228_0 1 (.int .i64 ((rd_T78 l0 (ji4)).f1));replace hx228_1:=cf hn228_1 hx228_1 1 (.int .i64 ((rd_T78 l0 (ji4)).f1));(try have hy228_0:=fun (n_ : Nat) => (show ((((w8.drewN n_).setCell ⟨gb227,0,none⟩ (.int .i64 ((rd_T78 l0 (ji4)).f0))).setCell ⟨gb227,1,none⟩ (.int .i64 ((rd_T78 l0 (ji4)).f1)))).cell? _ = some _ from hx228_0));(try have hy228_1:=fun (n_ : Nat) => (show ((((w8.drewN n_).setCell ⟨gb227,0,none⟩ (.int .i64 ((rd_T78 l0 (ji4)).f0))).setCell ⟨gb227,1,none⟩ (.int .i64 ((rd_T78 l0 (ji4)).f1)))).cell? _ = some _ from hx228_1));clear hn228_0;clear hn228_1;replace p228:=eq_true p228;replace q228:=eq_true q228;have p229 : 0 ≤ (x4_1 : Int):=da;have q229 : x4_1 < (l0.length : Int):=da;obtain ⟨ad229,e229,hx229_0,hx229_1⟩:=at_T78 HR0.out x4_1 p229 q229;obtain rfl : ad226 = ad229:=(by injection e229);have hn229_0 : ad226.block ≠ gb227:=nw hx229_0 GW227;have hn229_1 : ad226.block ≠ gb227:=nw hx229_0 GW227;replace hx229_0:=cq HB.out hx229_0;replace hx229_1:=cq HB.out hx229_1;replace hx229_0:=cf hn229_0 hx229_0 0 (.int .i64 ((rd_T78 l0 (ji4)).f0));replace hx229_1:=cf hn229_0 hx229_1 0 (.int .i64 ((rd_T78 l0 (ji4)).f0));replace hx229_0:=cf hn229_1 hx229_0 1 (.int .i64 ((rd_T78 l0 (ji4)).f1));replace hx229_1:=cf hn229_1 hx229_1 1 (.int .i64 ((rd_T78 l0 (ji4)).f1));(try have hy229_0:=fun (n_ : Nat) => (show ((((w8.drewN n_).setCell ⟨gb227,0,none⟩ (.int .i64 ((rd_T78 l0 (ji4)).f0))).setCell ⟨gb227,1,none⟩ (.int .i64 ((rd_T78 l0 (ji4)).f1)))).cell? _ = some _ from hx229_0));(try have hy229_1:=fun (n_ : Nat) => (show ((((w8.drewN n_).setCell ⟨gb227,0,none⟩ (.int .i64 ((rd_T78 l0 (ji4)).f0))).setCell ⟨gb227,1,none⟩ (.int .i64 ((rd_T78 l0 (ji4)).f1)))).cell? _ = some _ from hx229_1));clear hn229_0;clear hn229_1;replace p229:=eq_true p229;replace q229:=eq_true q229)))
        go_roundg k1
        case measure => have:=HK1.out;omega
        case rel => exact ⟨(wrap64 (x3_1 + (wrap64 ((wrap64 (((rd_T78 l0 x4_1).f0) * ((rd_T78 l0 (ji4)).f1))) - (wrap64 (((rd_T78 l0 x4_1).f1) * ((rd_T78 l0 (ji4)).f0))))))),(wrap64 (x4_1 + 1)),(by first | rfl | (simp;done) | (simp only [← hji4] <;> (first | rfl | simp)) | (simp [*];done)),(by first | rfl | (simp;done) | (simp [*];done)),H',⟨by have:=HK1.out;omega⟩,⟨ib⟩⟩
       ·rw [if_neg c7] at H
        exact absurd H (by simp)
      ·rw [if_neg c6] at H
       exact absurd H (by simp)
     ·rw [if_neg c5] at H
      exact absurd H (by simp)
   ·rw [if_neg c2] at H
    have c2b0 : decide (x4_1 < (l0.length : Int)) = false:=decide_eq_false c2
    clear c2
    obtain rfl:=Option.some.inj H
    go_wp2
    repeat (go_quiet (fail);try go_wp2)
    go_ret
    exact ⟨by first | rfl | (simp [errW_none,errW_some] <;> rfl) | (simp [*,errW_none,errW_some] <;> rfl),ib⟩
end Go.Proofs.Ytpeebobdbaemiaa.PFnExactEdgesOf
