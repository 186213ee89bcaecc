/- Contracts of functions that FnExactEdgesOf reaches, out of the lines of the kit's print. -/
import Derived.Test.YtpeebobdbaemiaaQFnExactEdgesOfx0
import Derived.Test.YtpeebobdbaemiaaQFnExactEdgesOfx13
namespace Go.Proofs.Ytpeebobdbaemiaa.PFnExactEdgesOf
set_option maxHeartbeats 8000000
set_option maxRecDepth 100000
open Go.RowKit Go.Proofs.YtpeebobdbaemiaaW.PrintWords Go.Proofs.YtpeebobdbaemiaaW.PrintLast Go.Proofs.YtpeebobdbaemiaaW.PrintMore
open Bool renaming true → tT, false → fF
open Go.World renaming block_lt_of_cell? → bL
open List renaming setIfInBounds_toArray → iT, set_cons_zero → sZ, set_cons_succ → sC, length_take → lT, length_drop → lD, map_toArray → mT, map_cons → mC, map_nil → mN
open Option renaming bind_eq_some_iff → bE
attribute [local go_sem] max2_int min2_int max_two min_two max_three min_three max_four min_four
set_option linter.unusedVariables false
set_option linter.unusedSimpArgs false
def impl_crossing.f (a0_0 : Int) (a0_1 : Int) (a1_0 : Int) (a1_1 : Int) (a2_0 : Int) (a2_1 : Int) (a3_0 : Int) (a3_1 : Int) : Option (Bool):=(impl_side.f a0_0 a0_1 a1_0 a1_1 a2_0 a2_1).bind fun t321 => ((impl_side.f a0_0 a0_1 a1_0 a1_1 a3_0 a3_1).bind fun t322 => (if (wrap64 (t321 * t322)) < 0 then ((impl_side.f a2_0 a2_1 a3_0 a3_1 a0_0 a0_1).bind fun t323 => ((impl_side.f a2_0 a2_1 a3_0 a3_1 a1_0 a1_1).bind fun t324 => (some (decide ((wrap64 (t323 * t324)) < 0))))) else (some false)))
def impl_crossing.T1 : Bool × List (List Nat × List Nat):=(true,[([],[]),([],[]),([],[]),([0,1,2],[0,1,2]),([],[]),([],[]),([],[]),([4,5,6,3],[4,5,6]),([3,7],[3,7]),([8],[8]),([9,7],[9]),([10],[10]),([10],[10]),([10],[10]),([11,12,13,10,10],[10,11,12,13]),([10],[10]),([10],[10]),([10],[10]),([15,16,17,14,10],[10,15,16,17]),([14,18,10],[10,14,18]),([19,10],[10,19]),([10,20],[10,20]),([21,18,0,1,2,3,4,5,6,7,8,9,10,11,12,13,14,15,16,17,18,19,20,21],[21])])
def impl_crossing.B1 : List Nat:=[0,0,0,7,0,0,0,127,255,511,1023,2047,2047,2047,16383,2047,2047,2047,262143,524287,1048575,2097151,4194303]
theorem impl_crossing.tab1 : rtab .any (opsOf Try.f92 1) = impl_crossing.T1:=by kernel_rfl
theorem impl_crossing.bits1 : waitsOk impl_crossing.T1.2 impl_crossing.B1 = true:=by kernel_rfl
theorem impl_crossing.calls (a0_0 : Int) (a0_1 : Int) (a1_0 : Int) (a1_1 : Int) (a2_0 : Int) (a2_1 : Int) (a3_0 : Int) (a3_1 : Int) (r : Bool) (w : World) (h : impl_crossing.f a0_0 a0_1 a1_0 a1_1 a2_0 a2_1 a3_0 a3_1 = some r) :
  Calls Try.prog 92 #[.agg #[.int .i64 a0_0,.int .i64 a0_1],.agg #[.int .i64 a1_0,.int .i64 a1_1],.agg #[.int .i64 a2_0,.int .i64 a2_1],.agg #[.int .i64 a3_0,.int .i64 a3_1]] w fun e w' => e = .returned (.bool r) ∧ Below w.heap.size w w':=by
 have hu78:=Try.underlying78
 have HB:=Aside0.mk (Below.refl w.heap.size w)
 have H : ((impl_side.f a0_0 a0_1 a1_0 a1_1 a2_0 a2_1).bind fun t321 => ((impl_side.f a0_0 a0_1 a1_0 a1_1 a3_0 a3_1).bind fun t322 => (if (wrap64 (t321 * t322)) < 0 then ((impl_side.f a2_0 a2_1 a3_0 a3_1 a0_0 a0_1).bind fun t323 => ((impl_side.f a2_0 a2_1 a3_0 a3_1 a1_0 a1_1).bind fun t324 => (some (decide ((wrap64 (t323 * t324)) < 0))))) else (some false)))) = some r:=h
 clear h
 replace H:=bE.mp H
 obtain ⟨t321,A50,H⟩:=H
 replace H : ((impl_side.f a0_0 a0_1 a1_0 a1_1 a3_0 a3_1).bind fun t322 => (if (wrap64 (t321 * t322)) < 0 then ((impl_side.f a2_0 a2_1 a3_0 a3_1 a0_0 a0_1).bind fun t323 => ((impl_side.f a2_0 a2_1 a3_0 a3_1 a1_0 a1_1).bind fun t324 => (some (decide ((wrap64 (t323 * t324)) < 0))))) else (some false))) = some r:=H
 have A5:=Aside0.mk A50
 clear A50
 replace H:=bE.mp H
 obtain ⟨t322,A60,H⟩:=H
 replace H : (if (wrap64 (t321 * t322)) < 0 then ((impl_side.f a2_0 a2_1 a3_0 a3_1 a0_0 a0_1).bind fun t323 => ((impl_side.f a2_0 a2_1 a3_0 a3_1 a1_0 a1_1).bind fun t324 => (some (decide ((wrap64 (t323 * t324)) < 0))))) else (some false)) = some r:=H
 have A6:=Aside0.mk A60
 clear A60
 by_cases c7 : (wrap64 (t321 * t322)) < 0
 ·rw [if_pos c7] at H
  have c7b0 : decide ((wrap64 (t321 * t322)) < 0) = true:=decide_eq_true c7
  clear c7
  replace H:=bE.mp H
  obtain ⟨t323,A80,H⟩:=H
  replace H : ((impl_side.f a2_0 a2_1 a3_0 a3_1 a1_0 a1_1).bind fun t324 => (some (decide ((wrap64 (t323 * t324)) < 0)))) = some r:=H
  have A8:=Aside0.mk A80
  clear A80
  replace H:=bE.mp H
  obtain ⟨t324,A90,H⟩:=H
  replace H : (some (decide ((wrap64 (t323 * t324)) < 0))) = some r:=H
  have A9:=Aside0.mk A90
  clear A90
  obtain rfl:=Option.some.inj H
  go_enter Try.func92,Try.ntmps92
  try go_wp2_with (first | ((with_reducible refine gate_dst (N:=4) rfl ?_);refine bx (cs:=#[.int .i64 a0_0,.int .i64 a0_1]) (t:=78) ?_;intro gb317 hg w10 hbox hb;have BK317:=Aside0.mk (hbox);have GW317:=zb hg;have GE317:=zb hg;replace HB:=sb hb;clear hb hbox hg) | ((with_reducible refine gate_dst (N:=5) rfl ?_);refine bx (cs:=#[.int .i64 a1_0,.int .i64 a1_1]) (t:=78) ?_;intro gb318 hg w11 hbox hb;have BK318:=Aside0.mk (hbox);have GW318:=zb hg;have GE318:=zb hg;replace HB:=sb hb;have NB317_318:=nl BK317 hg;have NB318_317:=ng BK317 hg;replace BK317:=kb BK317 hb;clear hb hbox hg) | ((with_reducible refine gate_dst (N:=6) rfl ?_);refine bx (cs:=#[.int .i64 a2_0,.int .i64 a2_1]) (t:=78) ?_;intro gb319 hg w12 hbox hb;have BK319:=Aside0.mk (hbox);have GW319:=zb hg;have GE319:=zb hg;replace HB:=sb hb;have NB317_319:=nl BK317 hg;have NB319_317:=ng BK317 hg;replace BK317:=kb BK317 hb;have NB318_319:=nl BK318 hg;have NB319_318:=ng BK318 hg;replace BK318:=kb BK318 hb;clear hb hbox hg) | ((with_reducible refine gate_dst (N:=7) rfl ?_);refine bx (cs:=#[.int .i64 a3_0,.int .i64 a3_1]) (t:=78) ?_;intro gb320 hg w13 hbox hb;have BK320:=Aside0.mk (hbox);have GW320:=zb hg;have GE320:=zb hg;replace HB:=sb hb;have NB317_320:=nl BK317 hg;have NB320_317:=ng BK317 hg;replace BK317:=kb BK317 hb;have NB318_320:=nl BK318 hg;have NB320_318:=ng BK318 hg;replace BK318:=kb BK318 hb;have NB319_320:=nl BK319 hg;have NB320_319:=ng BK319 hg;replace BK319:=kb BK319 hb;clear hb hbox hg))
  replace BK317:=Aside0.mk (blk_drew BK317.out)
  replace BK318:=Aside0.mk (blk_drew BK318.out)
  replace BK319:=Aside0.mk (blk_drew BK319.out)
  replace BK320:=Aside0.mk (blk_drew BK320.out)
  replace HB:=Aside0.mk (below_drew1 HB.out)
  refine start_ (n:=23) (S:=fun w' => w'.cell? ⟨gb317,0,none⟩ = some (.int .i64 a0_0) ∧ w'.cell? ⟨gb317,1,none⟩ = some (.int .i64 a0_1) ∧ w'.cell? ⟨gb318,0,none⟩ = some (.int .i64 a1_0) ∧ w'.cell? ⟨gb318,1,none⟩ = some (.int .i64 a1_1) ∧ w'.cell? ⟨gb319,0,none⟩ = some (.int .i64 a2_0) ∧ w'.cell? ⟨gb319,1,none⟩ = some (.int .i64 a2_1) ∧ w'.cell? ⟨gb320,0,none⟩ = some (.int .i64 a3_0) ∧ w'.cell? ⟨gb320,1,none⟩ = some (.int .i64 a3_1)) (ds:=[]) #[fF,fF,fF,fF,fF,fF,fF,fF,fF,fF,fF,fF,fF,fF,fF,fF,fF,fF,fF,fF,fF,fF,fF] (by kernel_rfl) rfl rfl ⟨(blk_cell BK317.out 0).trans rfl,(blk_cell BK317.out 1).trans rfl,(blk_cell BK318.out 0).trans rfl,(blk_cell BK318.out 1).trans rfl,(blk_cell BK319.out 0).trans rfl,(blk_cell BK319.out 1).trans rfl,(blk_cell BK320.out 0).trans rfl,(blk_cell BK320.out 1).trans rfl⟩ (fun hHeld => ?_);refine with_tabW impl_crossing.tab1 impl_crossing.bits1 (fun HT_ HW_ => ?_)
  generalize w13.drew = w14 at BK317 BK318 BK319 BK320 HB hHeld ⊢
  refine tk 0 9 HT_ HW_ hHeld ?_
  refine tk 1 10 HT_ HW_ hHeld ?_
  refine tk 2 11 HT_ HW_ hHeld ?_
  refine tk 4 13 HT_ HW_ hHeld ?_
  refine tk 5 14 HT_ HW_ hHeld ?_
  refine tk 6 15 HT_ HW_ hHeld ?_
  refine on 3 12 HT_ (fun K hK => ?_)
  refine goes_ Try.func91 (by kernel_rfl) rfl #[.agg #[.int .i64 a0_0,.int .i64 a0_1],.agg #[.int .i64 a1_0,.int .i64 a1_1],.agg #[.int .i64 a2_0,.int .i64 a2_1]] (by rfl) rfl rfl (by (try simp only [mT,mC,mN]);first | done | rfl | (simp only [lD,lT];rfl)) ?_
  with_reducible refine (impl_side.calls a0_0 a0_1 a1_0 a1_1 a2_0 a2_1 t321 _ A5.out).mono ?_
  rintro e w15 ⟨rfl,hb⟩
  refine ⟨_,rfl,?_⟩
  replace BK317:=kb BK317 hb
  replace BK318:=kb BK318 hb
  replace BK319:=kb BK319 hb
  replace BK320:=kb BK320 hb
  replace HB:=sb hb
  (try clear hb)
  (try clear hb2)
  (try clear hk)
  (try clear hi)
  refine hK.out _ _ ⟨(blk_cell BK317.out 0).trans rfl,(blk_cell BK317.out 1).trans rfl,(blk_cell BK318.out 0).trans rfl,(blk_cell BK318.out 1).trans rfl,(blk_cell BK319.out 0).trans rfl,(blk_cell BK319.out 1).trans rfl,(blk_cell BK320.out 0).trans rfl,(blk_cell BK320.out 1).trans rfl⟩ (fun hHeld => ?_)
  clear hK K
  refine norm_ (a':=?_) ?_ ?_
  rotate_left
  ·show Act.put _ (some 12) _ = _
   simp only [Act.put,iT,sZ,sC,i64_w,i32_w]
   rfl
  refine on 7 16 HT_ (fun K hK => ?_)
  refine goes_ Try.func91 (by kernel_rfl) rfl #[.agg #[.int .i64 a0_0,.int .i64 a0_1],.agg #[.int .i64 a1_0,.int .i64 a1_1],.agg #[.int .i64 a3_0,.int .i64 a3_1]] (by rfl) rfl rfl (by (try simp only [mT,mC,mN]);first | done | rfl | (simp only [lD,lT];rfl)) ?_
  with_reducible refine (impl_side.calls a0_0 a0_1 a1_0 a1_1 a3_0 a3_1 t322 _ A6.out).mono ?_
  rintro e w16 ⟨rfl,hb⟩
  refine ⟨_,rfl,?_⟩
  replace BK317:=kb BK317 hb
  replace BK318:=kb BK318 hb
  replace BK319:=kb BK319 hb
  replace BK320:=kb BK320 hb
  replace HB:=sb hb
  (try clear hb)
  (try clear hb2)
  (try clear hk)
  (try clear hi)
  refine hK.out _ _ ⟨(blk_cell BK317.out 0).trans rfl,(blk_cell BK317.out 1).trans rfl,(blk_cell BK318.out 0).trans rfl,(blk_cell BK318.out 1).trans rfl,(blk_cell BK319.out 0).trans rfl,(blk_cell BK319.out 1).trans rfl,(blk_cell BK320.out 0).trans rfl,(blk_cell BK320.out 1).trans rfl⟩ (fun hHeld => ?_)
  clear hK K
  refine norm_ (a':=?_) ?_ ?_
  rotate_left
  ·show Act.put _ (some 16) _ = _
   simp only [Act.put,iT,sZ,sC,i64_w,i32_w]
   rfl
  refine pu 8 17 HT_ ?_
  refine pu 9 18 HT_ ?_
  refine pu 10 19 HT_ ?_
  refine tk 11 20 HT_ HW_ hHeld ?_
  refine tk 12 21 HT_ HW_ hHeld ?_
  refine tk 13 22 HT_ HW_ hHeld ?_
  refine tk 15 24 HT_ HW_ hHeld ?_
  refine tk 16 25 HT_ HW_ hHeld ?_
  refine tk 17 26 HT_ HW_ hHeld ?_
  refine on 14 23 HT_ (fun K hK => ?_)
  refine goes_ Try.func91 (by kernel_rfl) rfl #[.agg #[.int .i64 a2_0,.int .i64 a2_1],.agg #[.int .i64 a3_0,.int .i64 a3_1],.agg #[.int .i64 a0_0,.int .i64 a0_1]] (by rfl) rfl rfl (by (try simp only [mT,mC,mN]);first | done | rfl | (simp only [lD,lT];rfl)) ?_
  with_reducible refine (impl_side.calls a2_0 a2_1 a3_0 a3_1 a0_0 a0_1 t323 _ A8.out).mono ?_
  rintro e w17 ⟨rfl,hb⟩
  refine ⟨_,rfl,?_⟩
  replace BK317:=kb BK317 hb
  replace BK318:=kb BK318 hb
  replace BK319:=kb BK319 hb
  replace BK320:=kb BK320 hb
  replace HB:=sb hb
  (try clear hb)
  (try clear hb2)
  (try clear hk)
  (try clear hi)
  refine hK.out _ _ ⟨(blk_cell BK317.out 0).trans rfl,(blk_cell BK317.out 1).trans rfl,(blk_cell BK318.out 0).trans rfl,(blk_cell BK318.out 1).trans rfl,(blk_cell BK319.out 0).trans rfl,(blk_cell BK319.out 1).trans rfl,(blk_cell BK320.out 0).trans rfl,(blk_cell BK320.out 1).trans rfl⟩ (fun hHeld => ?_)
  clear hK K
  refine norm_ (a':=?_) ?_ ?_
  rotate_left
  ·show Act.put _ (some 23) _ = _
   simp only [Act.put,iT,sZ,sC,i64_w,i32_w]
   rfl
  refine on 18 27 HT_ (fun K hK => ?_)
  refine goes_ Try.func91 (by kernel_rfl) rfl #[.agg #[.int .i64 a2_0,.int .i64 a2_1],.agg #[.int .i64 a3_0,.int .i64 a3_1],.agg #[.int .i64 a1_0,.int .i64 a1_1]] (by rfl) rfl rfl (by (try simp only [mT,mC,mN]);first | done | rfl | (simp only [lD,lT];rfl)) ?_
  with_reducible refine (impl_side.calls a2_0 a2_1 a3_0 a3_1 a1_0 a1_1 t324 _ A9.out).mono ?_
  rintro e w18 ⟨rfl,hb⟩
  refine ⟨_,rfl,?_⟩
  replace BK317:=kb BK317 hb
  replace BK318:=kb BK318 hb
  replace BK319:=kb BK319 hb
  replace BK320:=kb BK320 hb
  replace HB:=sb hb
  (try clear hb)
  (try clear hb2)
  (try clear hk)
  (try clear hi)
  refine hK.out _ _ ⟨(blk_cell BK317.out 0).trans rfl,(blk_cell BK317.out 1).trans rfl,(blk_cell BK318.out 0).trans rfl,(blk_cell BK318.out 1).trans rfl,(blk_cell BK319.out 0).trans rfl,(blk_cell BK319.out 1).trans rfl,(blk_cell BK320.out 0).trans rfl,(blk_cell BK320.out 1).trans rfl⟩ (fun hHeld => ?_)
  clear hK K
  refine norm_ (a':=?_) ?_ ?_
  rotate_left
  ·show Act.put _ (some 27) _ = _
   simp only [Act.put,iT,sZ,sC,i64_w,i32_w]
   rfl
  refine pu 19 28 HT_ ?_
  refine pu 20 29 HT_ ?_
  refine pu 21 30 HT_ ?_
  refine pu 22 8 HT_ ?_
  refine done_ (done_of HT_.out (by kernel_rfl)) ?_
  try go_wp2
  go_ret
  exact ⟨by first | rfl | (simp [errW_none,errW_some] <;> rfl) | (simp [*,errW_none,errW_some] <;> rfl),ib⟩
 ·rw [if_neg c7] at H
  have c7b0 : decide ((wrap64 (t321 * t322)) < 0) = false:=decide_eq_false c7
  clear c7
  obtain rfl:=Option.some.inj H
  go_enter Try.func92,Try.ntmps92
  try go_wp2_with (first | ((with_reducible refine gate_dst (N:=4) rfl ?_);refine bx (cs:=#[.int .i64 a0_0,.int .i64 a0_1]) (t:=78) ?_;intro gb317 hg w19 hbox hb;have BK317:=Aside0.mk (hbox);have GW317:=zb hg;have GE317:=zb hg;replace HB:=sb hb;clear hb hbox hg) | ((with_reducible refine gate_dst (N:=5) rfl ?_);refine bx (cs:=#[.int .i64 a1_0,.int .i64 a1_1]) (t:=78) ?_;intro gb318 hg w20 hbox hb;have BK318:=Aside0.mk (hbox);have GW318:=zb hg;have GE318:=zb hg;replace HB:=sb hb;have NB317_318:=nl BK317 hg;have NB318_317:=ng BK317 hg;replace BK317:=kb BK317 hb;clear hb hbox hg) | ((with_reducible refine gate_dst (N:=6) rfl ?_);refine bx (cs:=#[.int .i64 a2_0,.int .i64 a2_1]) (t:=78) ?_;intro gb319 hg w21 hbox hb;have BK319:=Aside0.mk (hbox);have GW319:=zb hg;have GE319:=zb hg;replace HB:=sb hb;have NB317_319:=nl BK317 hg;have NB319_317:=ng BK317 hg;replace BK317:=kb BK317 hb;have NB318_319:=nl BK318 hg;have NB319_318:=ng BK318 hg;replace BK318:=kb BK318 hb;clear hb hbox hg) | ((with_reducible refine gate_dst (N:=7) rfl ?_);refine bx (cs:=#[.int .i64 a3_0,.int .i64 a3_1]) (t:=78) ?_;intro gb320 hg w22 hbox hb;have BK320:=Aside0.mk (hbox);have GW320:=zb hg;have GE320:=zb hg;replace HB:=sb hb;have NB317_320:=nl BK317 hg;have NB320_317:=ng BK317 hg;replace BK317:=kb BK317 hb;have NB318_320:=nl BK318 hg;have NB320_318:=ng BK318 hg;replace BK318:=kb BK318 hb;have NB319_320:=nl BK319 hg;have NB320_319:=ng BK319 hg;replace BK319:=kb BK319 hb;clear hb hbox hg))
  replace BK317:=Aside0.mk (blk_drew BK317.out)
  replace BK318:=Aside0.mk (blk_drew BK318.out)
  replace BK319:=Aside0.mk (blk_drew BK319.out)
  replace BK320:=Aside0.mk (blk_drew BK320.out)
  replace HB:=Aside0.mk (below_drew1 HB.out)
  refine start_ (n:=23) (S:=fun w' => w'.cell? ⟨gb317,0,none⟩ = some (.int .i64 a0_0) ∧ w'.cell? ⟨gb317,1,none⟩ = some (.int .i64 a0_1) ∧ w'.cell? ⟨gb318,0,none⟩ = some (.int .i64 a1_0) ∧ w'.cell? ⟨gb318,1,none⟩ = some (.int .i64 a1_1) ∧ w'.cell? ⟨gb319,0,none⟩ = some (.int .i64 a2_0) ∧ w'.cell? ⟨gb319,1,none⟩ = some (.int .i64 a2_1) ∧ w'.cell? ⟨gb320,0,none⟩ = some (.int .i64 a3_0) ∧ w'.cell? ⟨gb320,1,none⟩ = some (.int .i64 a3_1)) (ds:=[]) #[fF,fF,fF,fF,fF,fF,fF,fF,fF,fF,fF,fF,fF,fF,fF,fF,fF,fF,fF,fF,fF,fF,fF] (by kernel_rfl) rfl rfl ⟨(blk_cell BK317.out 0).trans rfl,(blk_cell BK317.out 1).trans rfl,(blk_cell BK318.out 0).trans rfl,(blk_cell BK318.out 1).trans rfl,(blk_cell BK319.out 0).trans rfl,(blk_cell BK319.out 1).trans rfl,(blk_cell BK320.out 0).trans rfl,(blk_cell BK320.out 1).trans rfl⟩ (fun hHeld => ?_);refine with_tabW impl_crossing.tab1 impl_crossing.bits1 (fun HT_ HW_ => ?_)
  generalize w22.drew = w23 at BK317 BK318 BK319 BK320 HB hHeld ⊢
  refine tk 0 9 HT_ HW_ hHeld ?_
  refine tk 1 10 HT_ HW_ hHeld ?_
  refine tk 2 11 HT_ HW_ hHeld ?_
  refine tk 4 13 HT_ HW_ hHeld ?_
  refine tk 5 14 HT_ HW_ hHeld ?_
  refine tk 6 15 HT_ HW_ hHeld ?_
  refine on 3 12 HT_ (fun K hK => ?_)
  refine goes_ Try.func91 (by kernel_rfl) rfl #[.agg #[.int .i64 a0_0,.int .i64 a0_1],.agg #[.int .i64 a1_0,.int .i64 a1_1],.agg #[.int .i64 a2_0,.int .i64 a2_1]] (by rfl) rfl rfl (by (try simp only [mT,mC,mN]);first | done | rfl | (simp only [lD,lT];rfl)) ?_
  with_reducible refine (impl_side.calls a0_0 a0_1 a1_0 a1_1 a2_0 a2_1 t321 _ A5.out).mono ?_
  rintro e w24 ⟨rfl,hb⟩
  refine ⟨_,rfl,?_⟩
  replace BK317:=kb BK317 hb
  replace BK318:=kb BK318 hb
  replace BK319:=kb BK319 hb
  replace BK320:=kb BK320 hb
  replace HB:=sb hb
  (try clear hb)
  (try clear hb2)
  (try clear hk)
  (try clear hi)
  refine hK.out _ _ ⟨(blk_cell BK317.out 0).trans rfl,(blk_cell BK317.out 1).trans rfl,(blk_cell BK318.out 0).trans rfl,(blk_cell BK318.out 1).trans rfl,(blk_cell BK319.out 0).trans rfl,(blk_cell BK319.out 1).trans rfl,(blk_cell BK320.out 0).trans rfl,(blk_cell BK320.out 1).trans rfl⟩ (fun hHeld => ?_)
  clear hK K
  refine norm_ (a':=?_) ?_ ?_
  rotate_left
  ·show Act.put _ (some 12) _ = _
   simp only [Act.put,iT,sZ,sC,i64_w,i32_w]
   rfl
  refine on 7 16 HT_ (fun K hK => ?_)
  refine goes_ Try.func91 (by kernel_rfl) rfl #[.agg #[.int .i64 a0_0,.int .i64 a0_1],.agg #[.int .i64 a1_0,.int .i64 a1_1],.agg #[.int .i64 a3_0,.int .i64 a3_1]] (by rfl) rfl rfl (by (try simp only [mT,mC,mN]);first | done | rfl | (simp only [lD,lT];rfl)) ?_
  with_reducible refine (impl_side.calls a0_0 a0_1 a1_0 a1_1 a3_0 a3_1 t322 _ A6.out).mono ?_
  rintro e w25 ⟨rfl,hb⟩
  refine ⟨_,rfl,?_⟩
  replace BK317:=kb BK317 hb
  replace BK318:=kb BK318 hb
  replace BK319:=kb BK319 hb
  replace BK320:=kb BK320 hb
  replace HB:=sb hb
  (try clear hb)
  (try clear hb2)
  (try clear hk)
  (try clear hi)
  refine hK.out _ _ ⟨(blk_cell BK317.out 0).trans rfl,(blk_cell BK317.out 1).trans rfl,(blk_cell BK318.out 0).trans rfl,(blk_cell BK318.out 1).trans rfl,(blk_cell BK319.out 0).trans rfl,(blk_cell BK319.out 1).trans rfl,(blk_cell BK320.out 0).trans rfl,(blk_cell BK320.out 1).trans rfl⟩ (fun hHeld => ?_)
  clear hK K
  refine norm_ (a':=?_) ?_ ?_
  rotate_left
  ·show Act.put _ (some 16) _ = _
   simp only [Act.put,iT,sZ,sC,i64_w,i32_w]
   rfl
  refine pu 8 17 HT_ ?_
  refine pu 9 18 HT_ ?_
  refine pu 10 19 HT_ ?_
  refine pd 11 20 HT_ ?_
  refine pd 12 21 HT_ ?_
  refine pd 13 22 HT_ ?_
  refine pd 14 23 HT_ ?_
  refine pd 15 24 HT_ ?_
  refine pd 16 25 HT_ ?_
  refine pd 17 26 HT_ ?_
  refine pd 18 27 HT_ ?_
  refine pd 19 28 HT_ ?_
  refine pd 20 29 HT_ ?_
  refine pu 21 30 HT_ ?_
  refine pu 22 8 HT_ ?_
  refine done_ (done_of HT_.out (by kernel_rfl)) ?_
  try go_wp2
  go_ret
  exact ⟨by first | rfl | (simp [errW_none,errW_some] <;> rfl) | (simp [*,errW_none,errW_some] <;> rfl),ib⟩
def impl_touching.f (a0_0 : Int) (a0_1 : Int) (a1_0 : Int) (a1_1 : Int) (a2_0 : Int) (a2_1 : Int) (a3_0 : Int) (a3_1 : Int) : Option (Bool):=(impl_crossing.f a0_0 a0_1 a1_0 a1_1 a2_0 a2_1 a3_0 a3_1).bind fun t329 => (if t329 = true then (some true) else ((impl_on.f a0_0 a0_1 a1_0 a1_1 a2_0 a2_1).bind fun t330 => (if t330 = true then (some true) else ((impl_on.f a0_0 a0_1 a1_0 a1_1 a3_0 a3_1).bind fun t331 => (if t331 = true then (some true) else ((impl_on.f a2_0 a2_1 a3_0 a3_1 a0_0 a0_1).bind fun t332 => (if t332 = true then (some true) else ((impl_on.f a2_0 a2_1 a3_0 a3_1 a1_0 a1_1).bind fun t333 => (some t333)))))))))
theorem impl_touching.calls (a0_0 : Int) (a0_1 : Int) (a1_0 : Int) (a1_1 : Int) (a2_0 : Int) (a2_1 : Int) (a3_0 : Int) (a3_1 : Int) (r : Bool) (w : World) (h : impl_touching.f a0_0 a0_1 a1_0 a1_1 a2_0 a2_1 a3_0 a3_1 = some r) :
  Calls Try.prog 73 #[.agg #[.int .i64 a0_0,.int .i64 a0_1],.agg #[.int .i64 a1_0,.int .i64 a1_1],.agg #[.int .i64 a2_0,.int .i64 a2_1],.agg #[.int .i64 a3_0,.int .i64 a3_1]] w fun e w' => e = .returned (.bool r) ∧ Below w.heap.size w w':=by
 have hu78:=Try.underlying78
 have HB:=Aside0.mk (Below.refl w.heap.size w)
 have H : ((impl_crossing.f a0_0 a0_1 a1_0 a1_1 a2_0 a2_1 a3_0 a3_1).bind fun t329 => (if t329 = true then (some true) else ((impl_on.f a0_0 a0_1 a1_0 a1_1 a2_0 a2_1).bind fun t330 => (if t330 = true then (some true) else ((impl_on.f a0_0 a0_1 a1_0 a1_1 a3_0 a3_1).bind fun t331 => (if t331 = true then (some true) else ((impl_on.f a2_0 a2_1 a3_0 a3_1 a0_0 a0_1).bind fun t332 => (if t332 = true then (some true) else ((impl_on.f a2_0 a2_1 a3_0 a3_1 a1_0 a1_1).bind fun t333 => (some t333)))))))))) = some r:=h
 clear h
 replace H:=bE.mp H
 obtain ⟨t329,A50,H⟩:=H
 replace H : (if t329 = true then (some true) else ((impl_on.f a0_0 a0_1 a1_0 a1_1 a2_0 a2_1).bind fun t330 => (if t330 = true then (some true) else ((impl_on.f a0_0 a0_1 a1_0 a1_1 a3_0 a3_1).bind fun t331 => (if t331 = true then (some true) else ((impl_on.f a2_0 a2_1 a3_0 a3_1 a0_0 a0_1).bind fun t332 => (if t332 = true then (some true) else ((impl_on.f a2_0 a2_1 a3_0 a3_1 a1_0 a1_1).bind fun t333 => (some t333))))))))) = some r:=H
 have A5:=Aside0.mk A50
 clear A50
 by_cases c6 : t329 = true
 ·subst c6
  have H1 : (some true) = some r:=by rw [if_pos rfl] at H;exact H
  clear H
  have H:=H1
  clear H1
  obtain rfl:=Option.some.inj H
  go_enter Try.func73,Try.ntmps73
  go_wp2_with (first | ((with_reducible refine gate_dst (N:=4) rfl ?_);refine bx (cs:=#[.int .i64 a0_0,.int .i64 a0_1]) (t:=78) ?_;intro gb325 hg w7 hbox hb;have BK325:=Aside0.mk (hbox);have GW325:=zb hg;have GE325:=zb hg;replace HB:=sb hb;clear hb hbox hg) | ((with_reducible refine gate_dst (N:=5) rfl ?_);refine bx (cs:=#[.int .i64 a1_0,.int .i64 a1_1]) (t:=78) ?_;intro gb326 hg w8 hbox hb;have BK326:=Aside0.mk (hbox);have GW326:=zb hg;have GE326:=zb hg;replace HB:=sb hb;have NB325_326:=nl BK325 hg;have NB326_325:=ng BK325 hg;replace BK325:=kb BK325 hb;clear hb hbox hg) | ((with_reducible refine gate_dst (N:=6) rfl ?_);refine bx (cs:=#[.int .i64 a2_0,.int .i64 a2_1]) (t:=78) ?_;intro gb327 hg w9 hbox hb;have BK327:=Aside0.mk (hbox);have GW327:=zb hg;have GE327:=zb hg;replace HB:=sb hb;have NB325_327:=nl BK325 hg;have NB327_325:=ng BK325 hg;replace BK325:=kb BK325 hb;have NB326_327:=nl BK326 hg;have NB327_326:=ng BK326 hg;replace BK326:=kb BK326 hb;clear hb hbox hg) | ((with_reducible refine gate_dst (N:=7) rfl ?_);refine bx (cs:=#[.int .i64 a3_0,.int .i64 a3_1]) (t:=78) ?_;intro gb328 hg w10 hbox hb;have BK328:=Aside0.mk (hbox);have GW328:=zb hg;have GE328:=zb hg;replace HB:=sb hb;have NB325_328:=nl BK325 hg;have NB328_325:=ng BK325 hg;replace BK325:=kb BK325 hb;have NB326_328:=nl BK326 hg;have NB328_326:=ng BK326 hg;replace BK326:=kb BK326 hb;have NB327_328:=nl BK327 hg;have NB328_327:=ng BK327 hg;replace BK327:=kb BK327 hb;clear hb hbox hg;have hnb11:=NB325_326.out;have hnc11:=NB326_325.out;have hnb12:=NB325_327.out;have hnc12:=NB327_325.out;have hnb13:=NB325_328.out;have hnc13:=NB328_325.out;have hcz14_0:=ck BK325 0;have hcz14_1:=ck BK325 1;have hfz14_0:=blk_frozen BK325.out 0;have hfz14_1:=blk_frozen BK325.out 1;have hnb15:=NB326_327.out;have hnc15:=NB327_326.out;have hnb16:=NB326_328.out;have hnc16:=NB328_326.out;have hcz17_0:=ck BK326 0;have hcz17_1:=ck BK326 1;have hfz17_0:=blk_frozen BK326.out 0;have hfz17_1:=blk_frozen BK326.out 1;have hnb18:=NB327_328.out;have hnc18:=NB328_327.out;have hcz19_0:=ck BK327 0;have hcz19_1:=ck BK327 1;have hfz19_0:=blk_frozen BK327.out 0;have hfz19_1:=blk_frozen BK327.out 1;have hcz20_0:=ck BK328 0;have hcz20_1:=ck BK328 1;have hfz20_0:=blk_frozen BK328.out 0;have hfz20_1:=blk_frozen BK328.out 1) | ((with_reducible refine gate_callee (f:=92) rfl ?_);refine goesL_ (some 13) rfl rfl Try.func92 (by kernel_rfl) rfl #[.agg #[.int .i64 a0_0,.int .i64 a0_1],.agg #[.int .i64 a1_0,.int .i64 a1_1],.agg #[.int .i64 a2_0,.int .i64 a2_1],.agg #[.int .i64 a3_0,.int .i64 a3_1]] rfl (by (try simp only [mT,mC,mN]);first | done | rfl | (simp only [lD,lT];rfl)) ?_;(with_reducible refine (impl_crossing.calls a0_0 a0_1 a1_0 a1_1 a2_0 a2_1 a3_0 a3_1 true _ A5.out).mono ?_);rintro e w21 ⟨rfl,hb⟩;refine ⟨_,rfl,?_⟩;replace BK325:=kb BK325 hb;replace BK326:=kb BK326 hb;replace BK327:=kb BK327 hb;replace BK328:=kb BK328 hb;replace HB:=sb hb;(try clear hb);(try clear hb2);(try clear hk);(try clear hi)))
  go_ret
  exact ⟨by first | rfl | (simp [errW_none,errW_some] <;> rfl) | (simp [*,errW_none,errW_some] <;> rfl),ib⟩
 ·replace c6:=Bool.eq_false_iff.mpr c6
  subst c6
  have H1 : ((impl_on.f a0_0 a0_1 a1_0 a1_1 a2_0 a2_1).bind fun t330 => (if t330 = true then (some true) else ((impl_on.f a0_0 a0_1 a1_0 a1_1 a3_0 a3_1).bind fun t331 => (if t331 = true then (some true) else ((impl_on.f a2_0 a2_1 a3_0 a3_1 a0_0 a0_1).bind fun t332 => (if t332 = true then (some true) else ((impl_on.f a2_0 a2_1 a3_0 a3_1 a1_0 a1_1).bind fun t333 => (some t333)))))))) = some r:=by rw [if_neg (show ¬ (false = true) by decide)] at H;exact H
  clear H
  have H:=H1
  clear H1
  replace H:=bE.mp H
  obtain ⟨t330,A220,H⟩:=H
  replace H : (if t330 = true then (some true) else ((impl_on.f a0_0 a0_1 a1_0 a1_1 a3_0 a3_1).bind fun t331 => (if t331 = true then (some true) else ((impl_on.f a2_0 a2_1 a3_0 a3_1 a0_0 a0_1).bind fun t332 => (if t332 = true then (some true) else ((impl_on.f a2_0 a2_1 a3_0 a3_1 a1_0 a1_1).bind fun t333 => (some t333))))))) = some r:=H
  have A22:=Aside0.mk A220
  clear A220
  by_cases c23 : t330 = true
  ·subst c23
   have H1 : (some true) = some r:=by rw [if_pos rfl] at H;exact H
   clear H
   have H:=H1
   clear H1
   obtain rfl:=Option.some.inj H
   go_enter Try.func73,Try.ntmps73
   go_wp2_with (first | ((with_reducible refine gate_dst (N:=4) rfl ?_);refine bx (cs:=#[.int .i64 a0_0,.int .i64 a0_1]) (t:=78) ?_;intro gb325 hg w24 hbox hb;have BK325:=Aside0.mk (hbox);have GW325:=zb hg;have GE325:=zb hg;replace HB:=sb hb;clear hb hbox hg) | ((with_reducible refine gate_dst (N:=5) rfl ?_);refine bx (cs:=#[.int .i64 a1_0,.int .i64 a1_1]) (t:=78) ?_;intro gb326 hg w25 hbox hb;have BK326:=Aside0.mk (hbox);have GW326:=zb hg;have GE326:=zb hg;replace HB:=sb hb;have NB325_326:=nl BK325 hg;have NB326_325:=ng BK325 hg;replace BK325:=kb BK325 hb;clear hb hbox hg) | ((with_reducible refine gate_dst (N:=6) rfl ?_);refine bx (cs:=#[.int .i64 a2_0,.int .i64 a2_1]) (t:=78) ?_;intro gb327 hg w26 hbox hb;have BK327:=Aside0.mk (hbox);have GW327:=zb hg;have GE327:=zb hg;replace HB:=sb hb;have NB325_327:=nl BK325 hg;have NB327_325:=ng BK325 hg;replace BK325:=kb BK325 hb;have NB326_327:=nl BK326 hg;have NB327_326:=ng BK326 hg;replace BK326:=kb BK326 hb;clear hb hbox hg) | ((with_reducible refine gate_dst (N:=7) rfl ?_);refine bx (cs:=#[.int .i64 a3_0,.int .i64 a3_1]) (t:=78) ?_;intro gb328 hg w27 hbox hb;have BK328:=Aside0.mk (hbox);have GW328:=zb hg;have GE328:=zb hg;replace HB:=sb hb;have NB325_328:=nl BK325 hg;have NB328_325:=ng BK325 hg;replace BK325:=kb BK325 hb;have NB326_328:=nl BK326 hg;have NB328_326:=ng BK326 hg;replace BK326:=kb BK326 hb;have NB327_328:=nl BK327 hg;have NB328_327:=ng BK327 hg;replace BK327:=kb BK327 hb;clear hb hbox hg;have hnb28:=NB325_326.out;have hnc28:=NB326_325.out;have hnb29:=NB325_327.out;have hnc29:=NB327_325.out;have hnb30:=NB325_328.out;have hnc30:=NB328_325.out;have hcz31_0:=ck BK325 0;have hcz31_1:=ck BK325 1;have hfz31_0:=blk_frozen BK325.out 0;have hfz31_1:=blk_frozen BK325.out 1;have hnb32:=NB326_327.out;have hnc32:=NB327_326.out;have hnb33:=NB326_328.out;have hnc33:=NB328_326.out;have hcz34_0:=ck BK326 0;have hcz34_1:=ck BK326 1;have hfz34_0:=blk_frozen BK326.out 0;have hfz34_1:=blk_frozen BK326.out 1;have hnb35:=NB327_328.out;have hnc35:=NB328_327.out;have hcz36_0:=ck BK327 0;have hcz36_1:=ck BK327 1;have hfz36_0:=blk_frozen BK327.out 0;have hfz36_1:=blk_frozen BK327.out 1;have hcz37_0:=ck BK328 0;have hcz37_1:=ck BK328 1;have hfz37_0:=blk_frozen BK328.out 0;have hfz37_1:=blk_frozen BK328.out 1) | ((with_reducible refine gate_callee (f:=92) rfl ?_);refine goesL_ (some 13) rfl rfl Try.func92 (by kernel_rfl) rfl #[.agg #[.int .i64 a0_0,.int .i64 a0_1],.agg #[.int .i64 a1_0,.int .i64 a1_1],.agg #[.int .i64 a2_0,.int .i64 a2_1],.agg #[.int .i64 a3_0,.int .i64 a3_1]] rfl (by (try simp only [mT,mC,mN]);first | done | rfl | (simp only [lD,lT];rfl)) ?_;(with_reducible refine (impl_crossing.calls a0_0 a0_1 a1_0 a1_1 a2_0 a2_1 a3_0 a3_1 false _ A5.out).mono ?_);rintro e w38 ⟨rfl,hb⟩;refine ⟨_,rfl,?_⟩;replace BK325:=kb BK325 hb;replace BK326:=kb BK326 hb;replace BK327:=kb BK327 hb;replace BK328:=kb BK328 hb;replace HB:=sb hb;(try clear hb);(try clear hb2);(try clear hk);(try clear hi);have hcz39_0:=ck BK325 0;have hcz39_1:=ck BK325 1;have hfz39_0:=blk_frozen BK325.out 0;have hfz39_1:=blk_frozen BK325.out 1;have hcz40_0:=ck BK326 0;have hcz40_1:=ck BK326 1;have hfz40_0:=blk_frozen BK326.out 0;have hfz40_1:=blk_frozen BK326.out 1;have hcz41_0:=ck BK327 0;have hcz41_1:=ck BK327 1;have hfz41_0:=blk_frozen BK327.out 0;have hfz41_1:=blk_frozen BK327.out 1) | (go_at_call 72;(with_reducible refine (impl_on.calls a0_0 a0_1 a1_0 a1_1 a2_0 a2_1 true _ A22.out).mono ?_);rintro e w42 ⟨rfl,hb⟩;replace BK325:=kb BK325 hb;replace BK326:=kb BK326 hb;replace BK327:=kb BK327 hb;replace BK328:=kb BK328 hb;replace HB:=sb hb;(try clear hb);(try clear hb2);(try clear hk);(try clear hi)))
   go_ret
   exact ⟨by first | rfl | (simp [errW_none,errW_some] <;> rfl) | (simp [*,errW_none,errW_some] <;> rfl),ib⟩
  ·replace c23:=Bool.eq_false_iff.mpr c23
   subst c23
   have H1 : ((impl_on.f a0_0 a0_1 a1_0 a1_1 a3_0 a3_1).bind fun t331 => (if t331 = true then (some true) else ((impl_on.f a2_0 a2_1 a3_0 a3_1 a0_0 a0_1).bind fun t332 => (if t332 = true then (some true) else ((impl_on.f a2_0 a2_1 a3_0 a3_1 a1_0 a1_1).bind fun t333 => (some t333)))))) = some r:=by rw [if_neg (show ¬ (false = true) by decide)] at H;exact H
   clear H
   have H:=H1
   clear H1
   replace H:=bE.mp H
   obtain ⟨t331,A430,H⟩:=H
   replace H : (if t331 = true then (some true) else ((impl_on.f a2_0 a2_1 a3_0 a3_1 a0_0 a0_1).bind fun t332 => (if t332 = true then (some true) else ((impl_on.f a2_0 a2_1 a3_0 a3_1 a1_0 a1_1).bind fun t333 => (some t333))))) = some r:=H
   have A43:=Aside0.mk A430
   clear A430
   by_cases c44 : t331 = true
   ·subst c44
    have H1 : (some true) = some r:=by rw [if_pos rfl] at H;exact H
    clear H
    have H:=H1
    clear H1
    obtain rfl:=Option.some.inj H
    go_enter Try.func73,Try.ntmps73
    go_wp2_with (first | ((with_reducible refine gate_dst (N:=4) rfl ?_);refine bx (cs:=#[.int .i64 a0_0,.int .i64 a0_1]) (t:=78) ?_;intro gb325 hg w45 hbox hb;have BK325:=Aside0.mk (hbox);have GW325:=zb hg;have GE325:=zb hg;replace HB:=sb hb;clear hb hbox hg) | ((with_reducible refine gate_dst (N:=5) rfl ?_);refine bx (cs:=#[.int .i64 a1_0,.int .i64 a1_1]) (t:=78) ?_;intro gb326 hg w46 hbox hb;have BK326:=Aside0.mk (hbox);have GW326:=zb hg;have GE326:=zb hg;replace HB:=sb hb;have NB325_326:=nl BK325 hg;have NB326_325:=ng BK325 hg;replace BK325:=kb BK325 hb;clear hb hbox hg) | ((with_reducible refine gate_dst (N:=6) rfl ?_);refine bx (cs:=#[.int .i64 a2_0,.int .i64 a2_1]) (t:=78) ?_;intro gb327 hg w47 hbox hb;have BK327:=Aside0.mk (hbox);have GW327:=zb hg;have GE327:=zb hg;replace HB:=sb hb;have NB325_327:=nl BK325 hg;have NB327_325:=ng BK325 hg;replace BK325:=kb BK325 hb;have NB326_327:=nl BK326 hg;have NB327_326:=ng BK326 hg;replace BK326:=kb BK326 hb;clear hb hbox hg) | ((with_reducible refine gate_dst (N:=7) rfl ?_);refine bx (cs:=#[.int .i64 a3_0,.int .i64 a3_1]) (t:=78) ?_;intro gb328 hg w48 hbox hb;have BK328:=Aside0.mk (hbox);have GW328:=zb hg;have GE328:=zb hg;replace HB:=sb hb;have NB325_328:=nl BK325 hg;have NB328_325:=ng BK325 hg;replace BK325:=kb BK325 hb;have NB326_328:=nl BK326 hg;have NB328_326:=ng BK326 hg;replace BK326:=kb BK326 hb;have NB327_328:=nl BK327 hg;have NB328_327:=ng BK327 hg;replace BK327:=kb BK327 hb;clear hb hbox hg;have hnb49:=NB325_326.out;have hnc49:=NB326_325.out;have hnb50:=NB325_327.out;have hnc50:=NB327_325.out;have hnb51:=NB325_328.out;have hnc51:=NB328_325.out;have hcz52_0:=ck BK325 0;have hcz52_1:=ck BK325 1;have hfz52_0:=blk_frozen BK325.out 0;have hfz52_1:=blk_frozen BK325.out 1;have hnb53:=NB326_327.out;have hnc53:=NB327_326.out;have hnb54:=NB326_328.out;have hnc54:=NB328_326.out;have hcz55_0:=ck BK326 0;have hcz55_1:=ck BK326 1;have hfz55_0:=blk_frozen BK326.out 0;have hfz55_1:=blk_frozen BK326.out 1;have hnb56:=NB327_328.out;have hnc56:=NB328_327.out;have hcz57_0:=ck BK327 0;have hcz57_1:=ck BK327 1;have hfz57_0:=blk_frozen BK327.out 0;have hfz57_1:=blk_frozen BK327.out 1;have hcz58_0:=ck BK328 0;have hcz58_1:=ck BK328 1;have hfz58_0:=blk_frozen BK328.out 0;have hfz58_1:=blk_frozen BK328.out 1) | ((with_reducible refine gate_callee (f:=92) rfl ?_);refine goesL_ (some 13) rfl rfl Try.func92 (by kernel_rfl) rfl #[.agg #[.int .i64 a0_0,.int .i64 a0_1],.agg #[.int .i64 a1_0,.int .i64 a1_1],.agg #[.int .i64 a2_0,.int .i64 a2_1],.agg #[.int .i64 a3_0,.int .i64 a3_1]] rfl (by (try simp only [mT,mC,mN]);first | done | rfl | (simp only [lD,lT];rfl)) ?_;(with_reducible refine (impl_crossing.calls a0_0 a0_1 a1_0 a1_1 a2_0 a2_1 a3_0 a3_1 false _ A5.out).mono ?_);rintro e w59 ⟨rfl,hb⟩;refine ⟨_,rfl,?_⟩;replace BK325:=kb BK325 hb;replace BK326:=kb BK326 hb;replace BK327:=kb BK327 hb;replace BK328:=kb BK328 hb;replace HB:=sb hb;(try clear hb);(try clear hb2);(try clear hk);(try clear hi);have hcz60_0:=ck BK325 0;have hcz60_1:=ck BK325 1;have hfz60_0:=blk_frozen BK325.out 0;have hfz60_1:=blk_frozen BK325.out 1;have hcz61_0:=ck BK326 0;have hcz61_1:=ck BK326 1;have hfz61_0:=blk_frozen BK326.out 0;have hfz61_1:=blk_frozen BK326.out 1;have hcz62_0:=ck BK327 0;have hcz62_1:=ck BK327 1;have hfz62_0:=blk_frozen BK327.out 0;have hfz62_1:=blk_frozen BK327.out 1) | (go_at_call 72;(with_reducible refine (impl_on.calls a0_0 a0_1 a1_0 a1_1 a2_0 a2_1 false _ A22.out).mono ?_);rintro e w63 ⟨rfl,hb⟩;replace BK325:=kb BK325 hb;replace BK326:=kb BK326 hb;replace BK327:=kb BK327 hb;replace BK328:=kb BK328 hb;replace HB:=sb hb;(try clear hb);(try clear hb2);(try clear hk);(try clear hi);have hcz64_0:=ck BK325 0;have hcz64_1:=ck BK325 1;have hfz64_0:=blk_frozen BK325.out 0;have hfz64_1:=blk_frozen BK325.out 1;have hcz65_0:=ck BK326 0;have hcz65_1:=ck BK326 1;have hfz65_0:=blk_frozen BK326.out 0;have hfz65_1:=blk_frozen BK326.out 1;have hcz66_0:=ck BK328 0;have hcz66_1:=ck BK328 1;have hfz66_0:=blk_frozen BK328.out 0;have hfz66_1:=blk_frozen BK328.out 1) | (go_at_call 72;(with_reducible refine (impl_on.calls a0_0 a0_1 a1_0 a1_1 a3_0 a3_1 true _ A43.out).mono ?_);rintro e w67 ⟨rfl,hb⟩;replace BK325:=kb BK325 hb;replace BK326:=kb BK326 hb;replace BK327:=kb BK327 hb;replace BK328:=kb BK328 hb;replace HB:=sb hb;(try clear hb);(try clear hb2);(try clear hk);(try clear hi)))
    go_ret
    exact ⟨by first | rfl | (simp [errW_none,errW_some] <;> rfl) | (simp [*,errW_none,errW_some] <;> rfl),ib⟩
   ·replace c44:=Bool.eq_false_iff.mpr c44
    subst c44
    have H1 : ((impl_on.f a2_0 a2_1 a3_0 a3_1 a0_0 a0_1).bind fun t332 => (if t332 = true then (some true) else ((impl_on.f a2_0 a2_1 a3_0 a3_1 a1_0 a1_1).bind fun t333 => (some t333)))) = some r:=by rw [if_neg (show ¬ (false = true) by decide)] at H;exact H
    clear H
    have H:=H1
    clear H1
    replace H:=bE.mp H
    obtain ⟨t332,A680,H⟩:=H
    replace H : (if t332 = true then (some true) else ((impl_on.f a2_0 a2_1 a3_0 a3_1 a1_0 a1_1).bind fun t333 => (some t333))) = some r:=H
    have A68:=Aside0.mk A680
    clear A680
    by_cases c69 : t332 = true
    ·subst c69
     have H1 : (some true) = some r:=by rw [if_pos rfl] at H;exact H
     clear H
     have H:=H1
     clear H1
     obtain rfl:=Option.some.inj H
     go_enter Try.func73,Try.ntmps73
     go_wp2_with (first | ((with_reducible refine gate_dst (N:=4) rfl ?_);refine bx (cs:=#[.int .i64 a0_0,.int .i64 a0_1]) (t:=78) ?_;intro gb325 hg w70 hbox hb;have BK325:=Aside0.mk (hbox);have GW325:=zb hg;have GE325:=zb hg;replace HB:=sb hb;clear hb hbox hg) | ((with_reducible refine gate_dst (N:=5) rfl ?_);refine bx (cs:=#[.int .i64 a1_0,.int .i64 a1_1]) (t:=78) ?_;intro gb326 hg w71 hbox hb;have BK326:=Aside0.mk (hbox);have GW326:=zb hg;have GE326:=zb hg;replace HB:=sb hb;have NB325_326:=nl BK325 hg;have NB326_325:=ng BK325 hg;replace BK325:=kb BK325 hb;clear hb hbox hg) | ((with_reducible refine gate_dst (N:=6) rfl ?_);refine bx (cs:=#[.int .i64 a2_0,.int .i64 a2_1]) (t:=78) ?_;intro gb327 hg w72 hbox hb;have BK327:=Aside0.mk (hbox);have GW327:=zb hg;have GE327:=zb hg;replace HB:=sb hb;have NB325_327:=nl BK325 hg;have NB327_325:=ng BK325 hg;replace BK325:=kb BK325 hb;have NB326_327:=nl BK326 hg;have NB327_326:=ng BK326 hg;replace BK326:=kb BK326 hb;clear hb hbox hg) | ((with_reducible refine gate_dst (N:=7) rfl ?_);refine bx (cs:=#[.int .i64 a3_0,.int .i64 a3_1]) (t:=78) ?_;intro gb328 hg w73 hbox hb;have BK328:=Aside0.mk (hbox);have GW328:=zb hg;have GE328:=zb hg;replace HB:=sb hb;have NB325_328:=nl BK325 hg;have NB328_325:=ng BK325 hg;replace BK325:=kb BK325 hb;have NB326_328:=nl BK326 hg;have NB328_326:=ng BK326 hg;replace BK326:=kb BK326 hb;have NB327_328:=nl BK327 hg;have NB328_327:=ng BK327 hg;replace BK327:=kb BK327 hb;clear hb hbox hg;have hnb74:=NB325_326.out;have hnc74:=NB326_325.out;have hnb75:=NB325_327.out;have hnc75:=NB327_325.out;have hnb76:=NB325_328.out;have hnc76:=NB328_325.out;have hcz77_0:=ck BK325 0;have hcz77_1:=ck BK325 1;have hfz77_0:=blk_frozen BK325.out 0;have hfz77_1:=blk_frozen BK325.out 1;have hnb78:=NB326_327.out;have hnc78:=NB327_326.out;have hnb79:=NB326_328.out;have hnc79:=NB328_326.out;have hcz80_0:=ck BK326 0;have hcz80_1:=ck BK326 1;have hfz80_0:=blk_frozen BK326.out 0;have hfz80_1:=blk_frozen BK326.out 1;have hnb81:=NB327_328.out;have hnc81:=NB328_327.out;have hcz82_0:=ck BK327 0;have hcz82_1:=ck BK327 1;have hfz82_0:=blk_frozen BK327.out 0;have hfz82_1:=blk_frozen BK327.out 1;have hcz83_0:=ck BK328 0;have hcz83_1:=ck BK328 1;have hfz83_0:=blk_frozen BK328.out 0;have hfz83_1:=blk_frozen BK328.out 1) | ((with_reducible refine gate_callee (f:=92) rfl ?_);refine goesL_ (some 13) rfl rfl Try.func92 (by kernel_rfl) rfl #[.agg #[.int .i64 a0_0,.int .i64 a0_1],.agg #[.int .i64 a1_0,.int .i64 a1_1],.agg #[.int .i64 a2_0,.int .i64 a2_1],.agg #[.int .i64 a3_0,.int .i64 a3_1]] rfl (by (try simp only [mT,mC,mN]);first | done | rfl | (simp only [lD,lT];rfl)) ?_;(with_reducible refine (impl_crossing.calls a0_0 a0_1 a1_0 a1_1 a2_0 a2_1 a3_0 a3_1 false _ A5.out).mono ?_);rintro e w84 ⟨rfl,hb⟩;refine ⟨_,rfl,?_⟩;replace BK325:=kb BK325 hb;replace BK326:=kb BK326 hb;replace BK327:=kb BK327 hb;replace BK328:=kb BK328 hb;replace HB:=sb hb;(try clear hb);(try clear hb2);(try clear hk);(try clear hi);have hcz85_0:=ck BK325 0;have hcz85_1:=ck BK325 1;have hfz85_0:=blk_frozen BK325.out 0;have hfz85_1:=blk_frozen BK325.out 1;have hcz86_0:=ck BK326 0;have hcz86_1:=ck BK326 1;have hfz86_0:=blk_frozen BK326.out 0;have hfz86_1:=blk_frozen BK326.out 1;have hcz87_0:=ck BK327 0;have hcz87_1:=ck BK327 1;have hfz87_0:=blk_frozen BK327.out 0;have hfz87_1:=blk_frozen BK327.out 1) | (go_at_call 72;(with_reducible refine (impl_on.calls a0_0 a0_1 a1_0 a1_1 a2_0 a2_1 false _ A22.out).mono ?_);rintro e w88 ⟨rfl,hb⟩;replace BK325:=kb BK325 hb;replace BK326:=kb BK326 hb;replace BK327:=kb BK327 hb;replace BK328:=kb BK328 hb;replace HB:=sb hb;(try clear hb);(try clear hb2);(try clear hk);(try clear hi);have hcz89_0:=ck BK325 0;have hcz89_1:=ck BK325 1;have hfz89_0:=blk_frozen BK325.out 0;have hfz89_1:=blk_frozen BK325.out 1;have hcz90_0:=ck BK326 0;have hcz90_1:=ck BK326 1;have hfz90_0:=blk_frozen BK326.out 0;have hfz90_1:=blk_frozen BK326.out 1;have hcz91_0:=ck BK328 0;have hcz91_1:=ck BK328 1;have hfz91_0:=blk_frozen BK328.out 0;have hfz91_1:=blk_frozen BK328.out 1) | (go_at_call 72;(with_reducible refine (impl_on.calls a0_0 a0_1 a1_0 a1_1 a3_0 a3_1 false _ A43.out).mono ?_);rintro e w92 ⟨rfl,hb⟩;replace BK325:=kb BK325 hb;replace BK326:=kb BK326 hb;replace BK327:=kb BK327 hb;replace BK328:=kb BK328 hb;replace HB:=sb hb;(try clear hb);(try clear hb2);(try clear hk);(try clear hi);have hcz93_0:=ck BK327 0;have hcz93_1:=ck BK327 1;have hfz93_0:=blk_frozen BK327.out 0;have hfz93_1:=blk_frozen BK327.out 1;have hcz94_0:=ck BK328 0;have hcz94_1:=ck BK328 1;have hfz94_0:=blk_frozen BK328.out 0;have hfz94_1:=blk_frozen BK328.out 1;have hcz95_0:=ck BK325 0;have hcz95_1:=ck BK325 1;have hfz95_0:=blk_frozen BK325.out 0;have hfz95_1:=blk_frozen BK325.out 1) | (go_at_call 72;(with_reducible refine (impl_on.calls a2_0 a2_1 a3_0 a3_1 a0_0 a0_1 true _ A68.out).mono ?_);rintro e w96 ⟨rfl,hb⟩;replace BK325:=kb BK325 hb;replace BK326:=kb BK326 hb;replace BK327:=kb BK327 hb;replace BK328:=kb BK328 hb;replace HB:=sb hb;(try clear hb);(try clear hb2);(try clear hk);(try clear hi)))
     go_ret
     exact ⟨by first | rfl | (simp [errW_none,errW_some] <;> rfl) | (simp [*,errW_none,errW_some] <;> rfl),ib⟩
    ·replace c69:=Bool.eq_false_iff.mpr c69
     subst c69
     have H1 : ((impl_on.f a2_0 a2_1 a3_0 a3_1 a1_0 a1_1).bind fun t333 => (some t333)) = some r:=by rw [if_neg (show ¬ (false = true) by decide)] at H;exact H
     clear H
     have H:=H1
     clear H1
     replace H:=bE.mp H
     obtain ⟨t333,A970,H⟩:=H
     replace H : (some t333) = some r:=H
     have A97:=Aside0.mk A970
     clear A970
     obtain rfl:=Option.some.inj H
     go_enter Try.func73,Try.ntmps73
     go_wp2_with (first | ((with_reducible refine gate_dst (N:=4) rfl ?_);refine bx (cs:=#[.int .i64 a0_0,.int .i64 a0_1]) (t:=78) ?_;intro gb325 hg w98 hbox hb;have BK325:=Aside0.mk (hbox);have GW325:=zb hg;have GE325:=zb hg;replace HB:=sb hb;clear hb hbox hg) | ((with_reducible refine gate_dst (N:=5) rfl ?_);refine bx (cs:=#[.int .i64 a1_0,.int .i64 a1_1]) (t:=78) ?_;intro gb326 hg w99 hbox hb;have BK326:=Aside0.mk (hbox);have GW326:=zb hg;have GE326:=zb hg;replace HB:=sb hb;have NB325_326:=nl BK325 hg;have NB326_325:=ng BK325 hg;replace BK325:=kb BK325 hb;clear hb hbox hg) | ((with_reducible refine gate_dst (N:=6) rfl ?_);refine bx (cs:=#[.int .i64 a2_0,.int .i64 a2_1]) (t:=78) ?_;intro gb327 hg w100 hbox hb;have BK327:=Aside0.mk (hbox);have GW327:=zb hg;have GE327:=zb hg;replace HB:=sb hb;have NB325_327:=nl BK325 hg;have NB327_325:=ng BK325 hg;replace BK325:=kb BK325 hb;have NB326_327:=nl BK326 hg;have NB327_326:=ng BK326 hg;replace BK326:=kb BK326 hb;clear hb hbox hg) | ((with_reducible refine gate_dst (N:=7) rfl ?_);refine bx (cs:=#[.int .i64 a3_0,.int .i64 a3_1]) (t:=78) ?_;intro gb328 hg w101 hbox hb;have BK328:=Aside0.mk (hbox);have GW328:=zb hg;have GE328:=zb hg;replace HB:=sb hb;have NB325_328:=nl BK325 hg;have NB328_325:=ng BK325 hg;replace BK325:=kb BK325 hb;have NB326_328:=nl BK326 hg;have NB328_326:=ng BK326 hg;replace BK326:=kb BK326 hb;have NB327_328:=nl BK327 hg;have NB328_327:=ng BK327 hg;replace BK327:=kb BK327 hb;clear hb hbox hg;have hnb102:=NB325_326.out;have hnc102:=NB326_325.out;have hnb103:=NB325_327.out;have hnc103:=NB327_325.out;have hnb104:=NB325_328.out;have hnc104:=NB328_325.out;have hcz105_0:=ck BK325 0;have hcz105_1:=ck BK325 1;have hfz105_0:=blk_frozen BK325.out 0;have hfz105_1:=blk_frozen BK325.out 1;have hnb106:=NB326_327.out;have hnc106:=NB327_326.out;have hnb107:=NB326_328.out;have hnc107:=NB328_326.out;have hcz108_0:=ck BK326 0;have hcz108_1:=ck BK326 1;have hfz108_0:=blk_frozen BK326.out 0;have hfz108_1:=blk_frozen BK326.out 1;have hnb109:=NB327_328.out;have hnc109:=NB328_327.out;have hcz110_0:=ck BK327 0;have hcz110_1:=ck BK327 1;have hfz110_0:=blk_frozen BK327.out 0;have hfz110_1:=blk_frozen BK327.out 1;have hcz111_0:=ck BK328 0;have hcz111_1:=ck BK328 1;have hfz111_0:=blk_frozen BK328.out 0;have hfz111_1:=blk_frozen BK328.out 1) | ((with_reducible refine gate_callee (f:=92) rfl ?_);refine goesL_ (some 13) rfl rfl Try.func92 (by kernel_rfl) rfl #[.agg #[.int .i64 a0_0,.int .i64 a0_1],.agg #[.int .i64 a1_0,.int .i64 a1_1],.agg #[.int .i64 a2_0,.int .i64 a2_1],.agg #[.int .i64 a3_0,.int .i64 a3_1]] rfl (by (try simp only [mT,mC,mN]);first | done | rfl | (simp only [lD,lT];rfl)) ?_;(with_reducible refine (impl_crossing.calls a0_0 a0_1 a1_0 a1_1 a2_0 a2_1 a3_0 a3_1 false _ A5.out).mono ?_);rintro e w112 ⟨rfl,hb⟩;refine ⟨_,rfl,?_⟩;replace BK325:=kb BK325 hb;replace BK326:=kb BK326 hb;replace BK327:=kb BK327 hb;replace BK328:=kb BK328 hb;replace HB:=sb hb;(try clear hb);(try clear hb2);(try clear hk);(try clear hi);have hcz113_0:=ck BK325 0;have hcz113_1:=ck BK325 1;have hfz113_0:=blk_frozen BK325.out 0;have hfz113_1:=blk_frozen BK325.out 1;have hcz114_0:=ck BK326 0;have hcz114_1:=ck BK326 1;have hfz114_0:=blk_frozen BK326.out 0;have hfz114_1:=blk_frozen BK326.out 1;have hcz115_0:=ck BK327 0;have hcz115_1:=ck BK327 1;have hfz115_0:=blk_frozen BK327.out 0;have hfz115_1:=blk_frozen BK327.out 1) | (go_at_call 72;(with_reducible refine (impl_on.calls a0_0 a0_1 a1_0 a1_1 a2_0 a2_1 false _ A22.out).mono ?_);rintro e w116 ⟨rfl,hb⟩;replace BK325:=kb BK325 hb;replace BK326:=kb BK326 hb;replace BK327:=kb BK327 hb;replace BK328:=kb BK328 hb;replace HB:=sb hb;(try clear hb);(try clear hb2);(try clear hk);(try clear hi);have hcz117_0:=ck BK325 0;have hcz117_1:=ck BK325 1;have hfz117_0:=blk_frozen BK325.out 0;have hfz117_1:=blk_frozen BK325.out 1;have hcz118_0:=ck BK326 0;have hcz118_1:=ck BK326 1;have hfz118_0:=blk_frozen BK326.out 0;have hfz118_1:=blk_frozen BK326.out 1;have hcz119_0:=ck BK328 0;have hcz119_1:=ck BK328 1;have hfz119_0:=blk_frozen BK328.out 0;have hfz119_1:=blk_frozen BK328.out 1) | (go_at_call 72;(with_reducible refine (impl_on.calls a0_0 a0_1 a1_0 a1_1 a3_0 a3_1 false _ A43.out).mono ?_);rintro e w120 ⟨rfl,hb⟩;replace BK325:=kb BK325 hb;replace BK326:=kb BK326 hb;replace BK327:=kb BK327 hb;replace BK328:=kb BK328 hb;replace HB:=sb hb;(try clear hb);(try clear hb2);(try clear hk);(try clear hi);have hcz121_0:=ck BK327 0;have hcz121_1:=ck BK327 1;have hfz121_0:=blk_frozen BK327.out 0;have hfz121_1:=blk_frozen BK327.out 1;have hcz122_0:=ck BK328 0;have hcz122_1:=ck BK328 1;have hfz122_0:=blk_frozen BK328.out 0;have hfz122_1:=blk_frozen BK328.out 1;have hcz123_0:=ck BK325 0;have hcz123_1:=ck BK325 1;have hfz123_0:=blk_frozen BK325.out 0;have hfz123_1:=blk_frozen BK325.out 1) | (go_at_call 72;(with_reducible refine (impl_on.calls a2_0 a2_1 a3_0 a3_1 a0_0 a0_1 false _ A68.out).mono ?_);rintro e w124 ⟨rfl,hb⟩;replace BK325:=kb BK325 hb;replace BK326:=kb BK326 hb;replace BK327:=kb BK327 hb;replace BK328:=kb BK328 hb;replace HB:=sb hb;(try clear hb);(try clear hb2);(try clear hk);(try clear hi);have hcz125_0:=ck BK327 0;have hcz125_1:=ck BK327 1;have hfz125_0:=blk_frozen BK327.out 0;have hfz125_1:=blk_frozen BK327.out 1;have hcz126_0:=ck BK328 0;have hcz126_1:=ck BK328 1;have hfz126_0:=blk_frozen BK328.out 0;have hfz126_1:=blk_frozen BK328.out 1;have hcz127_0:=ck BK326 0;have hcz127_1:=ck BK326 1;have hfz127_0:=blk_frozen BK326.out 0;have hfz127_1:=blk_frozen BK326.out 1) | (go_at_call 72;(with_reducible refine (impl_on.calls a2_0 a2_1 a3_0 a3_1 a1_0 a1_1 t333 _ A97.out).mono ?_);rintro e w128 ⟨rfl,hb⟩;replace BK325:=kb BK325 hb;replace BK326:=kb BK326 hb;replace BK327:=kb BK327 hb;replace BK328:=kb BK328 hb;replace HB:=sb hb;(try clear hb);(try clear hb2);(try clear hk);(try clear hi)))
     go_ret
     exact ⟨by first | rfl | (simp [errW_none,errW_some] <;> rfl) | (simp [*,errW_none,errW_some] <;> rfl),ib⟩
def impl_doubled.l0 : Nat → List (S78) → Int → List (S78) → Int → Int → Option (Int)
 | 0,_,_,_,_,_ => none
 | k + 1,x0,x3,x7,x8,x9 => if x9 < x8 then (if 0 ≤ x9 then (if x9 < (x7.length : Int) then (if (x0.length : Int) = 0 then (none) else (if 0 ≤ (Int.tmod (wrap64 (x9 + 1)) (x0.length : Int)) then (if (Int.tmod (wrap64 (x9 + 1)) (x0.length : Int)) < (x0.length : Int) then (impl_doubled.l0 k x0 (wrap64 (x3 + (wrap64 ((wrap64 (((rd_T78 x7 x9).f0) * ((rd_T78 x0 (Int.tmod (wrap64 (x9 + 1)) (x0.length : Int))).f1))) - (wrap64 (((rd_T78 x7 x9).f1) * ((rd_T78 x0 (Int.tmod (wrap64 (x9 + 1)) (x0.length : Int))).f0))))))) x7 x8 (wrap64 (x9 + 1))) else (none)) else (none))) else (none)) else (none)) else (some x3)
def impl_doubled.f (k : Nat) (l0 : List (S78)) : Option (Int):=impl_doubled.l0 k l0 0 l0 (l0.length : Int) 0
theorem impl_doubled.calls (k : Nat) (A0 : Option Addr) (c0 : Nat) (l0 : List (S78)) (r : Int) (w : World) (hr0 : Kd.C k78 w A0 l0.length l0) (hc0 : l0.length ≤ c0) (h : impl_doubled.f k l0 = some r) :
  Calls Try.prog 74 #[.slice A0 l0.length c0] w fun e w' => e = .returned (.int .i64 r) ∧ Below w.heap.size w w':=by
 have hu78:=Try.underlying78
 have HR0:=Aside0.mk hr0
 have HC0:=Aside0.mk hc0
 clear hr0 hc0
 have HB:=Aside0.mk (Below.refl w.heap.size w)
 have H : (impl_doubled.l0 k l0 0 l0 (l0.length : Int) 0) = some r:=h
 clear h
 have H':=Aside0.mk H
 clear H
 go_enter Try.func74,Try.ntmps74
 go_wp2
 go_loopg [3,9] k (fun kq v3 v9 w' => ∃ (x3_1 : Int) (x9_1 : Int),v3 = .int .i64 x3_1 ∧ v9 = .int .i64 x9_1 ∧ Aside0 (impl_doubled.l0 kq l0 x3_1 l0 (l0.length : Int) x9_1 = some r) ∧ Aside0 (kq ≤ k) ∧ Aside0 (Below w.heap.size w w'))
 case atStart => exact ⟨(0),(0),(by first | rfl | (simp;done) | (simp [*];done)),(by first | rfl | (simp;done) | (simp [*];done)),H',⟨Nat.le_refl _⟩,⟨ib⟩⟩
 case round =>
  clear H'
  obtain ⟨x3_1,x9_1,rfl,rfl,HA,HK1,HB⟩:=hrel
  cases gk with
  | zero => exact absurd HA.out (by simp [impl_doubled.l0])
  | succ k1 =>
   have H:=HA.out
   clear HA
   simp only [impl_doubled.l0] at H
   by_cases c2 : x9_1 < (l0.length : Int)
   ·rw [if_pos c2] at H
    have c2b0 : decide (x9_1 < (l0.length : Int)) = true:=decide_eq_true c2
    clear c2
    by_cases c3 : 0 ≤ x9_1
    ·rw [if_pos c3] at H
     have c3b0 : decide (0 ≤ x9_1) = true:=decide_eq_true c3
     clear c3
     by_cases c4 : x9_1 < (l0.length : Int)
     ·rw [if_pos c4] at H
      have c4b0 : decide (x9_1 < (l0.length : Int)) = true:=decide_eq_true c4
      clear c4
      by_cases c5 : (l0.length : Int) = 0
      ·rw [if_pos c5] at H
       exact absurd H (by simp)
      ·rw [if_neg c5] at H
       have c5b0 : ((l0.length : Int) == 0) = false:=beq_eq_false_iff_ne.mpr c5
       have c5b1 : ((l0.length : Int) != 0) = true:=bne_iff_ne.mpr c5
       have c5b2 : ¬ (l0 = []):=fun h_ => c5 (by rw [h_];rfl)
       obtain ⟨ji6,hji6⟩ : ∃ j_ : Int,(Int.tmod (wrap64 (x9_1 + 1)) (l0.length : Int)) = j_:=⟨_,rfl⟩
       replace H : (if 0 ≤ (ji6) then (if (ji6) < (l0.length : Int) then (impl_doubled.l0 k1 l0 (wrap64 (x3_1 + (wrap64 ((wrap64 (((rd_T78 l0 x9_1).f0) * ((rd_T78 l0 (ji6)).f1))) - (wrap64 (((rd_T78 l0 x9_1).f1) * ((rd_T78 l0 (ji6)).f0))))))) l0 (l0.length : Int) (wrap64 (x9_1 + 1))) else (none)) else (none)) = some r:=by first | (rw [hji6] at H;exact H) | (simp only [hji6] at H ⊢;exact H)
       by_cases c7 : 0 ≤ (ji6)
       ·rw [if_pos c7] at H
        have c7b0 : decide (0 ≤ (ji6)) = true:=decide_eq_true c7
        clear c7
        by_cases c8 : (ji6) < (l0.length : Int)
        ·rw [if_pos c8] at H
         have c8b0 : decide ((ji6) < (l0.length : Int)) = true:=decide_eq_true c8
         clear c8
         have H':=Aside0.mk H
         clear H
         have p334 : 0 ≤ (x9_1 : Int):=da
         have q334 : x9_1 < (l0.length : Int):=da
         obtain ⟨ad334,e334,hx334_0,hx334_1⟩:=at_T78 HR0.out x9_1 p334 q334
         cases e334
         replace hx334_0:=cq HB.out hx334_0
         replace hx334_1:=cq HB.out hx334_1
         replace p334:=eq_true p334
         replace q334:=eq_true q334
         go_wp2_with (first | ((with_reducible refine gate_dst (N:=5) rfl ?_);refine bx (cs:=#[.int .i64 0,.int .i64 0]) (t:=78) ?_;intro gb335 hg w9 hbox hb;have BK335:=Aside0.mk (hbox);have GW335:=zb hg;have GE335:=zb hg;replace HB:=sb hb;clear hb hbox hg;have hcz10_0:=ck BK335 0;have hcz10_1:=ck BK335 1;have hfz10_0:=blk_frozen BK335.out 0;have hfz10_1:=blk_frozen BK335.out 1;have p336 : 0 ≤ ((ji6) : Int):=da;have q336 : (ji6) < (l0.length : Int):=da;obtain ⟨ad336,e336,hx336_0,hx336_1⟩:=at_T78 HR0.out (ji6) p336 q336;obtain rfl : ad334 = ad336:=(by injection e336);have hn336_0 : ad334.block ≠ gb335:=nw hx336_0 GW335;have hn336_1 : ad334.block ≠ gb335:=nw hx336_0 GW335;replace hx336_0:=cq HB.out hx336_0;replace hx336_1:=cq HB.out hx336_1;replace hx336_0:=cf hn336_0 hx336_0 0 (.int .i64 ((rd_T78 l0 x9_1).f0));replace hx336_1:=cf hn336_0 hx336_1 0 (.int .i64 ((rd_T78 l0 x9_1).f0));replace hx336_0:=cf hn336_1 hx336_0 1 (.int .i64 ((rd_T78 l0 x9_1).f1));replace hx336_1:=cf hn336_1 hx336_1 1 (.int .i64 ((rd_T78 l0 x9_1).f1));clear hn336_0;clear hn336_1;replace p336:=eq_true p336;replace q336:=eq_true q336) | ((with_reducible refine gate_dst (N:=6) rfl ?_);refine bx (cs:=#[.int .i64 0,.int .i64 0]) (t:=78) ?_;intro gb337 hg w11 hbox hb;have z0_:=mz hb (g:=gb335) (o:=.cells #[.int .i64 ((rd_T78 l0 x9_1).f0),.int .i64 ((rd_T78 l0 x9_1).f1)] 78 (0,0)) (by refine bP (cs:=#[.int .i64 ((rd_T78 l0 x9_1).f0),.int .i64 0]) 1 ?_;refine bP (cs:=#[.int .i64 0,.int .i64 0]) 0 ?_;exact bk BK335);have n0_:=kc z0_ hb;have n1_:=sb hb;have n2_:=Aside0.mk (hbox);have n3_:=zb hg;have n4_:=zb hg;have n5_:=nm z0_ hg;have n6_:=nn z0_ hg;clear BK335;clear HB;have BK335:=n0_;have HB:=n1_;have BK337:=n2_;have GW337:=n3_;have GE337:=n4_;have NB335_337:=n5_;have NB337_335:=n6_;clear z0_ n0_ n1_ n2_ n3_ n4_ n5_ n6_;clear hb hbox hg;have hnb12:=NB337_335.out;have hnc12:=NB335_337.out;have hcz13_0:=ck BK337 0;have hcz13_1:=ck BK337 1;have hfz13_0:=blk_frozen BK337.out 0;have hfz13_1:=blk_frozen BK337.out 1;have hcz14_0:=ck BK335 0;have hcz14_1:=ck BK335 1;have hfz14_0:=blk_frozen BK335.out 0;have hfz14_1:=blk_frozen BK335.out 1))
         go_roundg k1
         case measure => have:=HK1.out;omega
         case rel => exact ⟨(wrap64 (x3_1 + (wrap64 ((wrap64 (((rd_T78 l0 x9_1).f0) * ((rd_T78 l0 (ji6)).f1))) - (wrap64 (((rd_T78 l0 x9_1).f1) * ((rd_T78 l0 (ji6)).f0))))))),(wrap64 (x9_1 + 1)),(by first | rfl | (simp;done) | (simp only [← hji6] <;> (first | rfl | simp)) | (simp [*];done)),(by first | rfl | (simp;done) | (simp [*];done)),H',⟨by have:=HK1.out;omega⟩,⟨ib⟩⟩
        ·rw [if_neg c8] at H
         exact absurd H (by simp)
       ·rw [if_neg c7] at H
        exact absurd H (by simp)
     ·first | (exfalso;have z_:=of_decide_eq_true c2b0;omega) | (rw [if_neg c4] at H;exact absurd H (by simp))
    ·rw [if_neg c3] at H
     exact absurd H (by simp)
   ·rw [if_neg c2] at H
    have c2b0 : decide (x9_1 < (l0.length : Int)) = false:=decide_eq_false c2
    clear c2
    obtain rfl:=Option.some.inj H
    go_wp2
    go_ret
    exact ⟨by first | rfl | (simp [errW_none,errW_some] <;> rfl) | (simp [*,errW_none,errW_some] <;> rfl),ib⟩
end Go.Proofs.Ytpeebobdbaemiaa.PFnExactEdgesOf
