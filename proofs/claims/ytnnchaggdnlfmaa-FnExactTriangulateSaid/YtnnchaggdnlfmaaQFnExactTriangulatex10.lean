/- Contracts of functions that FnExactTriangulate reaches, out of the lines of the kit's print. -/
import Derived.Test.YtnnchaggdnlfmaaQFnExactTriangulatex0
import Derived.Test.YtnnchaggdnlfmaaQFnExactTriangulatex9
namespace Go.Proofs.Ytnnchaggdnlfmaa.PFnExactTriangulate
set_option maxHeartbeats 8000000
set_option maxRecDepth 100000
open Go.RowKit Go.Proofs.YtnnchaggdnlfmaaW.PrintWords Go.Proofs.YtnnchaggdnlfmaaW.PrintLast Go.Proofs.YtnnchaggdnlfmaaW.PrintMore
open Bool renaming true → tT, false → fF
open Go.World renaming block_lt_of_cell? → bL
open List renaming setIfInBounds_toArray → iT, set_cons_zero → sZ, set_cons_succ → sC, length_take → lT, length_drop → lD, map_toArray → mT, map_cons → mC, map_nil → mN
open Option renaming bind_eq_some_iff → bE
attribute [local go_sem] max2_int min2_int max_two min_two max_three min_three max_four min_four
set_option linter.unusedVariables false
set_option linter.unusedSimpArgs false
def impl_crossing.f (a0_0 : Int) (a0_1 : Int) (a1_0 : Int) (a1_1 : Int) (a2_0 : Int) (a2_1 : Int) (a3_0 : Int) (a3_1 : Int) : Option (Bool):=(impl_side.f a0_0 a0_1 a1_0 a1_1 a2_0 a2_1).bind fun t283 => ((impl_side.f a0_0 a0_1 a1_0 a1_1 a3_0 a3_1).bind fun t284 => (if (wrap64 (t283 * t284)) < 0 then ((impl_side.f a2_0 a2_1 a3_0 a3_1 a0_0 a0_1).bind fun t285 => ((impl_side.f a2_0 a2_1 a3_0 a3_1 a1_0 a1_1).bind fun t286 => (some (decide ((wrap64 (t285 * t286)) < 0))))) else (some false)))
def impl_crossing.T1 : Bool × List (List Nat × List Nat):=(true,[([],[]),([],[]),([],[]),([0,1,2],[0,1,2]),([],[]),([],[]),([],[]),([4,5,6,3],[4,5,6]),([3,7],[3,7]),([8],[8]),([9,7],[9]),([10],[10]),([10],[10]),([10],[10]),([11,12,13,10,10],[10,11,12,13]),([10],[10]),([10],[10]),([10],[10]),([15,16,17,14,10],[10,15,16,17]),([14,18,10],[10,14,18]),([19,10],[10,19]),([10,20],[10,20]),([21,18,0,1,2,3,4,5,6,7,8,9,10,11,12,13,14,15,16,17,18,19,20,21],[21])])
def impl_crossing.B1 : List Nat:=[0,0,0,7,0,0,0,127,255,511,1023,2047,2047,2047,16383,2047,2047,2047,262143,524287,1048575,2097151,4194303]
theorem impl_crossing.tab1 : rtab .any (opsOf Try.f148 1) = impl_crossing.T1:=by kernel_rfl
theorem impl_crossing.bits1 : waitsOk impl_crossing.T1.2 impl_crossing.B1 = true:=by kernel_rfl
theorem impl_crossing.calls (a0_0 : Int) (a0_1 : Int) (a1_0 : Int) (a1_1 : Int) (a2_0 : Int) (a2_1 : Int) (a3_0 : Int) (a3_1 : Int) (r : Bool) (w : World) (h : impl_crossing.f a0_0 a0_1 a1_0 a1_1 a2_0 a2_1 a3_0 a3_1 = some r) :
  Calls Try.prog 148 #[.agg #[.int .i64 a0_0,.int .i64 a0_1],.agg #[.int .i64 a1_0,.int .i64 a1_1],.agg #[.int .i64 a2_0,.int .i64 a2_1],.agg #[.int .i64 a3_0,.int .i64 a3_1]] w fun e w' => e = .returned (.bool r) ∧ Below w.heap.size w w':=by
 have hu73:=Try.underlying73
 have HB:=Aside0.mk (Below.refl w.heap.size w)
 have H : ((impl_side.f a0_0 a0_1 a1_0 a1_1 a2_0 a2_1).bind fun t283 => ((impl_side.f a0_0 a0_1 a1_0 a1_1 a3_0 a3_1).bind fun t284 => (if (wrap64 (t283 * t284)) < 0 then ((impl_side.f a2_0 a2_1 a3_0 a3_1 a0_0 a0_1).bind fun t285 => ((impl_side.f a2_0 a2_1 a3_0 a3_1 a1_0 a1_1).bind fun t286 => (some (decide ((wrap64 (t285 * t286)) < 0))))) else (some false)))) = some r:=h
 clear h
 replace H:=bE.mp H
 obtain ⟨t283,A50,H⟩:=H
 replace H : ((impl_side.f a0_0 a0_1 a1_0 a1_1 a3_0 a3_1).bind fun t284 => (if (wrap64 (t283 * t284)) < 0 then ((impl_side.f a2_0 a2_1 a3_0 a3_1 a0_0 a0_1).bind fun t285 => ((impl_side.f a2_0 a2_1 a3_0 a3_1 a1_0 a1_1).bind fun t286 => (some (decide ((wrap64 (t285 * t286)) < 0))))) else (some false))) = some r:=H
 have A5:=Aside0.mk A50
 clear A50
 replace H:=bE.mp H
 obtain ⟨t284,A60,H⟩:=H
 replace H : (if (wrap64 (t283 * t284)) < 0 then ((impl_side.f a2_0 a2_1 a3_0 a3_1 a0_0 a0_1).bind fun t285 => ((impl_side.f a2_0 a2_1 a3_0 a3_1 a1_0 a1_1).bind fun t286 => (some (decide ((wrap64 (t285 * t286)) < 0))))) else (some false)) = some r:=H
 have A6:=Aside0.mk A60
 clear A60
 by_cases c7 : (wrap64 (t283 * t284)) < 0
 ·rw [if_pos c7] at H
  have c7b0 : decide ((wrap64 (t283 * t284)) < 0) = true:=decide_eq_true c7
  clear c7
  replace H:=bE.mp H
  obtain ⟨t285,A80,H⟩:=H
  replace H : ((impl_side.f a2_0 a2_1 a3_0 a3_1 a1_0 a1_1).bind fun t286 => (some (decide ((wrap64 (t285 * t286)) < 0)))) = some r:=H
  have A8:=Aside0.mk A80
  clear A80
  replace H:=bE.mp H
  obtain ⟨t286,A90,H⟩:=H
  replace H : (some (decide ((wrap64 (t285 * t286)) < 0))) = some r:=H
  have A9:=Aside0.mk A90
  clear A90
  obtain rfl:=Option.some.inj H
  go_enter Try.func148,Try.ntmps148
  try go_wp2_with (first | ((with_reducible refine gate_dst (N:=4) rfl ?_);refine bx (cs:=#[.int .i64 a0_0,.int .i64 a0_1]) (t:=73) ?_;intro gb279 hg w10 hbox hb;have BK279:=Aside0.mk (hbox);have GW279:=zb hg;have GE279:=zb hg;replace HB:=sb hb;clear hb hbox hg) | ((with_reducible refine gate_dst (N:=5) rfl ?_);refine bx (cs:=#[.int .i64 a1_0,.int .i64 a1_1]) (t:=73) ?_;intro gb280 hg w11 hbox hb;have BK280:=Aside0.mk (hbox);have GW280:=zb hg;have GE280:=zb hg;replace HB:=sb hb;have NB279_280:=nl BK279 hg;have NB280_279:=ng BK279 hg;replace BK279:=kb BK279 hb;clear hb hbox hg) | ((with_reducible refine gate_dst (N:=6) rfl ?_);refine bx (cs:=#[.int .i64 a2_0,.int .i64 a2_1]) (t:=73) ?_;intro gb281 hg w12 hbox hb;have BK281:=Aside0.mk (hbox);have GW281:=zb hg;have GE281:=zb hg;replace HB:=sb hb;have NB279_281:=nl BK279 hg;have NB281_279:=ng BK279 hg;replace BK279:=kb BK279 hb;have NB280_281:=nl BK280 hg;have NB281_280:=ng BK280 hg;replace BK280:=kb BK280 hb;clear hb hbox hg) | ((with_reducible refine gate_dst (N:=7) rfl ?_);refine bx (cs:=#[.int .i64 a3_0,.int .i64 a3_1]) (t:=73) ?_;intro gb282 hg w13 hbox hb;have BK282:=Aside0.mk (hbox);have GW282:=zb hg;have GE282:=zb hg;replace HB:=sb hb;have NB279_282:=nl BK279 hg;have NB282_279:=ng BK279 hg;replace BK279:=kb BK279 hb;have NB280_282:=nl BK280 hg;have NB282_280:=ng BK280 hg;replace BK280:=kb BK280 hb;have NB281_282:=nl BK281 hg;have NB282_281:=ng BK281 hg;replace BK281:=kb BK281 hb;clear hb hbox hg))
  replace BK279:=Aside0.mk (blk_drew BK279.out)
  replace BK280:=Aside0.mk (blk_drew BK280.out)
  replace BK281:=Aside0.mk (blk_drew BK281.out)
  replace BK282:=Aside0.mk (blk_drew BK282.out)
  replace HB:=Aside0.mk (below_drew1 HB.out)
  refine start_ (n:=23) (S:=fun w' => w'.cell? ⟨gb279,0,none⟩ = some (.int .i64 a0_0) ∧ w'.cell? ⟨gb279,1,none⟩ = some (.int .i64 a0_1) ∧ w'.cell? ⟨gb280,0,none⟩ = some (.int .i64 a1_0) ∧ w'.cell? ⟨gb280,1,none⟩ = some (.int .i64 a1_1) ∧ w'.cell? ⟨gb281,0,none⟩ = some (.int .i64 a2_0) ∧ w'.cell? ⟨gb281,1,none⟩ = some (.int .i64 a2_1) ∧ w'.cell? ⟨gb282,0,none⟩ = some (.int .i64 a3_0) ∧ w'.cell? ⟨gb282,1,none⟩ = some (.int .i64 a3_1)) (ds:=[]) #[fF,fF,fF,fF,fF,fF,fF,fF,fF,fF,fF,fF,fF,fF,fF,fF,fF,fF,fF,fF,fF,fF,fF] (by kernel_rfl) rfl rfl ⟨(blk_cell BK279.out 0).trans rfl,(blk_cell BK279.out 1).trans rfl,(blk_cell BK280.out 0).trans rfl,(blk_cell BK280.out 1).trans rfl,(blk_cell BK281.out 0).trans rfl,(blk_cell BK281.out 1).trans rfl,(blk_cell BK282.out 0).trans rfl,(blk_cell BK282.out 1).trans rfl⟩ (fun hHeld => ?_);refine with_tabW impl_crossing.tab1 impl_crossing.bits1 (fun HT_ HW_ => ?_)
  generalize w13.drew = w14 at BK279 BK280 BK281 BK282 HB hHeld ⊢
  refine tk 0 9 HT_ HW_ hHeld ?_
  refine tk 1 10 HT_ HW_ hHeld ?_
  refine tk 2 11 HT_ HW_ hHeld ?_
  refine tk 4 13 HT_ HW_ hHeld ?_
  refine tk 5 14 HT_ HW_ hHeld ?_
  refine tk 6 15 HT_ HW_ hHeld ?_
  refine on 3 12 HT_ (fun K hK => ?_)
  refine goes_ Try.func147 (by kernel_rfl) rfl #[.agg #[.int .i64 a0_0,.int .i64 a0_1],.agg #[.int .i64 a1_0,.int .i64 a1_1],.agg #[.int .i64 a2_0,.int .i64 a2_1]] (by rfl) rfl rfl (by (try simp only [mT,mC,mN]);first | done | rfl | (simp only [lD,lT];rfl)) ?_
  with_reducible refine (impl_side.calls a0_0 a0_1 a1_0 a1_1 a2_0 a2_1 t283 _ A5.out).mono ?_
  rintro e w15 ⟨rfl,hb⟩
  refine ⟨_,rfl,?_⟩
  replace BK279:=kb BK279 hb
  replace BK280:=kb BK280 hb
  replace BK281:=kb BK281 hb
  replace BK282:=kb BK282 hb
  replace HB:=sb hb
  (try clear hb)
  (try clear hb2)
  (try clear hk)
  (try clear hi)
  refine hK.out _ _ ⟨(blk_cell BK279.out 0).trans rfl,(blk_cell BK279.out 1).trans rfl,(blk_cell BK280.out 0).trans rfl,(blk_cell BK280.out 1).trans rfl,(blk_cell BK281.out 0).trans rfl,(blk_cell BK281.out 1).trans rfl,(blk_cell BK282.out 0).trans rfl,(blk_cell BK282.out 1).trans rfl⟩ (fun hHeld => ?_)
  clear hK K
  refine norm_ (a':=?_) ?_ ?_
  rotate_left
  ·show Act.put _ (some 12) _ = _
   simp only [Act.put,iT,sZ,sC,i64_w,i32_w]
   rfl
  refine on 7 16 HT_ (fun K hK => ?_)
  refine goes_ Try.func147 (by kernel_rfl) rfl #[.agg #[.int .i64 a0_0,.int .i64 a0_1],.agg #[.int .i64 a1_0,.int .i64 a1_1],.agg #[.int .i64 a3_0,.int .i64 a3_1]] (by rfl) rfl rfl (by (try simp only [mT,mC,mN]);first | done | rfl | (simp only [lD,lT];rfl)) ?_
  with_reducible refine (impl_side.calls a0_0 a0_1 a1_0 a1_1 a3_0 a3_1 t284 _ A6.out).mono ?_
  rintro e w16 ⟨rfl,hb⟩
  refine ⟨_,rfl,?_⟩
  replace BK279:=kb BK279 hb
  replace BK280:=kb BK280 hb
  replace BK281:=kb BK281 hb
  replace BK282:=kb BK282 hb
  replace HB:=sb hb
  (try clear hb)
  (try clear hb2)
  (try clear hk)
  (try clear hi)
  refine hK.out _ _ ⟨(blk_cell BK279.out 0).trans rfl,(blk_cell BK279.out 1).trans rfl,(blk_cell BK280.out 0).trans rfl,(blk_cell BK280.out 1).trans rfl,(blk_cell BK281.out 0).trans rfl,(blk_cell BK281.out 1).trans rfl,(blk_cell BK282.out 0).trans rfl,(blk_cell BK282.out 1).trans rfl⟩ (fun hHeld => ?_)
  clear hK K
  refine norm_ (a':=?_) ?_ ?_
  rotate_left
  ·show Act.put _ (some 16) _ = _
   simp only [Act.put,iT,sZ,sC,i64_w,i32_w]
   rfl
  refine pu 8 17 HT_ ?_
  refine pu 9 18 HT_ ?_
  refine pu 10 19 HT_ ?_
  refine tk 11 20 HT_ HW_ hHeld ?_
  refine tk 12 21 HT_ HW_ hHeld ?_
  refine tk 13 22 HT_ HW_ hHeld ?_
  refine tk 15 24 HT_ HW_ hHeld ?_
  refine tk 16 25 HT_ HW_ hHeld ?_
  refine tk 17 26 HT_ HW_ hHeld ?_
  refine on 14 23 HT_ (fun K hK => ?_)
  refine goes_ Try.func147 (by kernel_rfl) rfl #[.agg #[.int .i64 a2_0,.int .i64 a2_1],.agg #[.int .i64 a3_0,.int .i64 a3_1],.agg #[.int .i64 a0_0,.int .i64 a0_1]] (by rfl) rfl rfl (by (try simp only [mT,mC,mN]);first | done | rfl | (simp only [lD,lT];rfl)) ?_
  with_reducible refine (impl_side.calls a2_0 a2_1 a3_0 a3_1 a0_0 a0_1 t285 _ A8.out).mono ?_
  rintro e w17 ⟨rfl,hb⟩
  refine ⟨_,rfl,?_⟩
  replace BK279:=kb BK279 hb
  replace BK280:=kb BK280 hb
  replace BK281:=kb BK281 hb
  replace BK282:=kb BK282 hb
  replace HB:=sb hb
  (try clear hb)
  (try clear hb2)
  (try clear hk)
  (try clear hi)
  refine hK.out _ _ ⟨(blk_cell BK279.out 0).trans rfl,(blk_cell BK279.out 1).trans rfl,(blk_cell BK280.out 0).trans rfl,(blk_cell BK280.out 1).trans rfl,(blk_cell BK281.out 0).trans rfl,(blk_cell BK281.out 1).trans rfl,(blk_cell BK282.out 0).trans rfl,(blk_cell BK282.out 1).trans rfl⟩ (fun hHeld => ?_)
  clear hK K
  refine norm_ (a':=?_) ?_ ?_
  rotate_left
  ·show Act.put _ (some 23) _ = _
   simp only [Act.put,iT,sZ,sC,i64_w,i32_w]
   rfl
  refine on 18 27 HT_ (fun K hK => ?_)
  refine goes_ Try.func147 (by kernel_rfl) rfl #[.agg #[.int .i64 a2_0,.int .i64 a2_1],.agg #[.int .i64 a3_0,.int .i64 a3_1],.agg #[.int .i64 a1_0,.int .i64 a1_1]] (by rfl) rfl rfl (by (try simp only [mT,mC,mN]);first | done | rfl | (simp only [lD,lT];rfl)) ?_
  with_reducible refine (impl_side.calls a2_0 a2_1 a3_0 a3_1 a1_0 a1_1 t286 _ A9.out).mono ?_
  rintro e w18 ⟨rfl,hb⟩
  refine ⟨_,rfl,?_⟩
  replace BK279:=kb BK279 hb
  replace BK280:=kb BK280 hb
  replace BK281:=kb BK281 hb
  replace BK282:=kb BK282 hb
  replace HB:=sb hb
  (try clear hb)
  (try clear hb2)
  (try clear hk)
  (try clear hi)
  refine hK.out _ _ ⟨(blk_cell BK279.out 0).trans rfl,(blk_cell BK279.out 1).trans rfl,(blk_cell BK280.out 0).trans rfl,(blk_cell BK280.out 1).trans rfl,(blk_cell BK281.out 0).trans rfl,(blk_cell BK281.out 1).trans rfl,(blk_cell BK282.out 0).trans rfl,(blk_cell BK282.out 1).trans rfl⟩ (fun hHeld => ?_)
  clear hK K
  refine norm_ (a':=?_) ?_ ?_
  rotate_left
  ·show Act.put _ (some 27) _ = _
   simp only [Act.put,iT,sZ,sC,i64_w,i32_w]
   rfl
  refine pu 19 28 HT_ ?_
  refine pu 20 29 HT_ ?_
  refine pu 21 30 HT_ ?_
  refine pu 22 8 HT_ ?_
  refine done_ (done_of HT_.out (by kernel_rfl)) ?_
  try go_wp2
  go_ret
  exact ⟨by first | rfl | (simp [errW_none,errW_some] <;> rfl) | (simp [*,errW_none,errW_some] <;> rfl),ib⟩
 ·rw [if_neg c7] at H
  have c7b0 : decide ((wrap64 (t283 * t284)) < 0) = false:=decide_eq_false c7
  clear c7
  obtain rfl:=Option.some.inj H
  go_enter Try.func148,Try.ntmps148
  try go_wp2_with (first | ((with_reducible refine gate_dst (N:=4) rfl ?_);refine bx (cs:=#[.int .i64 a0_0,.int .i64 a0_1]) (t:=73) ?_;intro gb279 hg w19 hbox hb;have BK279:=Aside0.mk (hbox);have GW279:=zb hg;have GE279:=zb hg;replace HB:=sb hb;clear hb hbox hg) | ((with_reducible refine gate_dst (N:=5) rfl ?_);refine bx (cs:=#[.int .i64 a1_0,.int .i64 a1_1]) (t:=73) ?_;intro gb280 hg w20 hbox hb;have BK280:=Aside0.mk (hbox);have GW280:=zb hg;have GE280:=zb hg;replace HB:=sb hb;have NB279_280:=nl BK279 hg;have NB280_279:=ng BK279 hg;replace BK279:=kb BK279 hb;clear hb hbox hg) | ((with_reducible refine gate_dst (N:=6) rfl ?_);refine bx (cs:=#[.int .i64 a2_0,.int .i64 a2_1]) (t:=73) ?_;intro gb281 hg w21 hbox hb;have BK281:=Aside0.mk (hbox);have GW281:=zb hg;have GE281:=zb hg;replace HB:=sb hb;have NB279_281:=nl BK279 hg;have NB281_279:=ng BK279 hg;replace BK279:=kb BK279 hb;have NB280_281:=nl BK280 hg;have NB281_280:=ng BK280 hg;replace BK280:=kb BK280 hb;clear hb hbox hg) | ((with_reducible refine gate_dst (N:=7) rfl ?_);refine bx (cs:=#[.int .i64 a3_0,.int .i64 a3_1]) (t:=73) ?_;intro gb282 hg w22 hbox hb;have BK282:=Aside0.mk (hbox);have GW282:=zb hg;have GE282:=zb hg;replace HB:=sb hb;have NB279_282:=nl BK279 hg;have NB282_279:=ng BK279 hg;replace BK279:=kb BK279 hb;have NB280_282:=nl BK280 hg;have NB282_280:=ng BK280 hg;replace BK280:=kb BK280 hb;have NB281_282:=nl BK281 hg;have NB282_281:=ng BK281 hg;replace BK281:=kb BK281 hb;clear hb hbox hg))
  replace BK279:=Aside0.mk (blk_drew BK279.out)
  replace BK280:=Aside0.mk (blk_drew BK280.out)
  replace BK281:=Aside0.mk (blk_drew BK281.out)
  replace BK282:=Aside0.mk (blk_drew BK282.out)
  replace HB:=Aside0.mk (below_drew1 HB.out)
  refine start_ (n:=23) (S:=fun w' => w'.cell? ⟨gb279,0,none⟩ = some (.int .i64 a0_0) ∧ w'.cell? ⟨gb279,1,none⟩ = some (.int .i64 a0_1) ∧ w'.cell? ⟨gb280,0,none⟩ = some (.int .i64 a1_0) ∧ w'.cell? ⟨gb280,1,none⟩ = some (.int .i64 a1_1) ∧ w'.cell? ⟨gb281,0,none⟩ = some (.int .i64 a2_0) ∧ w'.cell? ⟨gb281,1,none⟩ = some (.int .i64 a2_1) ∧ w'.cell? ⟨gb282,0,none⟩ = some (.int .i64 a3_0) ∧ w'.cell? ⟨gb282,1,none⟩ = some (.int .i64 a3_1)) (ds:=[]) #[fF,fF,fF,fF,fF,fF,fF,fF,fF,fF,fF,fF,fF,fF,fF,fF,fF,fF,fF,fF,fF,fF,fF] (by kernel_rfl) rfl rfl ⟨(blk_cell BK279.out 0).trans rfl,(blk_cell BK279.out 1).trans rfl,(blk_cell BK280.out 0).trans rfl,(blk_cell BK280.out 1).trans rfl,(blk_cell BK281.out 0).trans rfl,(blk_cell BK281.out 1).trans rfl,(blk_cell BK282.out 0).trans rfl,(blk_cell BK282.out 1).trans rfl⟩ (fun hHeld => ?_);refine with_tabW impl_crossing.tab1 impl_crossing.bits1 (fun HT_ HW_ => ?_)
  generalize w22.drew = w23 at BK279 BK280 BK281 BK282 HB hHeld ⊢
  refine tk 0 9 HT_ HW_ hHeld ?_
  refine tk 1 10 HT_ HW_ hHeld ?_
  refine tk 2 11 HT_ HW_ hHeld ?_
  refine tk 4 13 HT_ HW_ hHeld ?_
  refine tk 5 14 HT_ HW_ hHeld ?_
  refine tk 6 15 HT_ HW_ hHeld ?_
  refine on 3 12 HT_ (fun K hK => ?_)
  refine goes_ Try.func147 (by kernel_rfl) rfl #[.agg #[.int .i64 a0_0,.int .i64 a0_1],.agg #[.int .i64 a1_0,.int .i64 a1_1],.agg #[.int .i64 a2_0,.int .i64 a2_1]] (by rfl) rfl rfl (by (try simp only [mT,mC,mN]);first | done | rfl | (simp only [lD,lT];rfl)) ?_
  with_reducible refine (impl_side.calls a0_0 a0_1 a1_0 a1_1 a2_0 a2_1 t283 _ A5.out).mono ?_
  rintro e w24 ⟨rfl,hb⟩
  refine ⟨_,rfl,?_⟩
  replace BK279:=kb BK279 hb
  replace BK280:=kb BK280 hb
  replace BK281:=kb BK281 hb
  replace BK282:=kb BK282 hb
  replace HB:=sb hb
  (try clear hb)
  (try clear hb2)
  (try clear hk)
  (try clear hi)
  refine hK.out _ _ ⟨(blk_cell BK279.out 0).trans rfl,(blk_cell BK279.out 1).trans rfl,(blk_cell BK280.out 0).trans rfl,(blk_cell BK280.out 1).trans rfl,(blk_cell BK281.out 0).trans rfl,(blk_cell BK281.out 1).trans rfl,(blk_cell BK282.out 0).trans rfl,(blk_cell BK282.out 1).trans rfl⟩ (fun hHeld => ?_)
  clear hK K
  refine norm_ (a':=?_) ?_ ?_
  rotate_left
  ·show Act.put _ (some 12) _ = _
   simp only [Act.put,iT,sZ,sC,i64_w,i32_w]
   rfl
  refine on 7 16 HT_ (fun K hK => ?_)
  refine goes_ Try.func147 (by kernel_rfl) rfl #[.agg #[.int .i64 a0_0,.int .i64 a0_1],.agg #[.int .i64 a1_0,.int .i64 a1_1],.agg #[.int .i64 a3_0,.int .i64 a3_1]] (by rfl) rfl rfl (by (try simp only [mT,mC,mN]);first | done | rfl | (simp only [lD,lT];rfl)) ?_
  with_reducible refine (impl_side.calls a0_0 a0_1 a1_0 a1_1 a3_0 a3_1 t284 _ A6.out).mono ?_
  rintro e w25 ⟨rfl,hb⟩
  refine ⟨_,rfl,?_⟩
  replace BK279:=kb BK279 hb
  replace BK280:=kb BK280 hb
  replace BK281:=kb BK281 hb
  replace BK282:=kb BK282 hb
  replace HB:=sb hb
  (try clear hb)
  (try clear hb2)
  (try clear hk)
  (try clear hi)
  refine hK.out _ _ ⟨(blk_cell BK279.out 0).trans rfl,(blk_cell BK279.out 1).trans rfl,(blk_cell BK280.out 0).trans rfl,(blk_cell BK280.out 1).trans rfl,(blk_cell BK281.out 0).trans rfl,(blk_cell BK281.out 1).trans rfl,(blk_cell BK282.out 0).trans rfl,(blk_cell BK282.out 1).trans rfl⟩ (fun hHeld => ?_)
  clear hK K
  refine norm_ (a':=?_) ?_ ?_
  rotate_left
  ·show Act.put _ (some 16) _ = _
   simp only [Act.put,iT,sZ,sC,i64_w,i32_w]
   rfl
  refine pu 8 17 HT_ ?_
  refine pu 9 18 HT_ ?_
  refine pu 10 19 HT_ ?_
  refine pd 11 20 HT_ ?_
  refine pd 12 21 HT_ ?_
  refine pd 13 22 HT_ ?_
  refine pd 14 23 HT_ ?_
  refine pd 15 24 HT_ ?_
  refine pd 16 25 HT_ ?_
  refine pd 17 26 HT_ ?_
  refine pd 18 27 HT_ ?_
  refine pd 19 28 HT_ ?_
  refine pd 20 29 HT_ ?_
  refine pu 21 30 HT_ ?_
  refine pu 22 8 HT_ ?_
  refine done_ (done_of HT_.out (by kernel_rfl)) ?_
  try go_wp2
  go_ret
  exact ⟨by first | rfl | (simp [errW_none,errW_some] <;> rfl) | (simp [*,errW_none,errW_some] <;> rfl),ib⟩
def impl_touching.f (a0_0 : Int) (a0_1 : Int) (a1_0 : Int) (a1_1 : Int) (a2_0 : Int) (a2_1 : Int) (a3_0 : Int) (a3_1 : Int) : Option (Bool):=(impl_crossing.f a0_0 a0_1 a1_0 a1_1 a2_0 a2_1 a3_0 a3_1).bind fun t291 => (if t291 = true then (some true) else ((impl_on.f a0_0 a0_1 a1_0 a1_1 a2_0 a2_1).bind fun t292 => (if t292 = true then (some true) else ((impl_on.f a0_0 a0_1 a1_0 a1_1 a3_0 a3_1).bind fun t293 => (if t293 = true then (some true) else ((impl_on.f a2_0 a2_1 a3_0 a3_1 a0_0 a0_1).bind fun t294 => (if t294 = true then (some true) else ((impl_on.f a2_0 a2_1 a3_0 a3_1 a1_0 a1_1).bind fun t295 => (some t295)))))))))
theorem impl_touching.calls (a0_0 : Int) (a0_1 : Int) (a1_0 : Int) (a1_1 : Int) (a2_0 : Int) (a2_1 : Int) (a3_0 : Int) (a3_1 : Int) (r : Bool) (w : World) (h : impl_touching.f a0_0 a0_1 a1_0 a1_1 a2_0 a2_1 a3_0 a3_1 = some r) :
  Calls Try.prog 106 #[.agg #[.int .i64 a0_0,.int .i64 a0_1],.agg #[.int .i64 a1_0,.int .i64 a1_1],.agg #[.int .i64 a2_0,.int .i64 a2_1],.agg #[.int .i64 a3_0,.int .i64 a3_1]] w fun e w' => e = .returned (.bool r) ∧ Below w.heap.size w w':=by
 have hu73:=Try.underlying73
 have HB:=Aside0.mk (Below.refl w.heap.size w)
 have H : ((impl_crossing.f a0_0 a0_1 a1_0 a1_1 a2_0 a2_1 a3_0 a3_1).bind fun t291 => (if t291 = true then (some true) else ((impl_on.f a0_0 a0_1 a1_0 a1_1 a2_0 a2_1).bind fun t292 => (if t292 = true then (some true) else ((impl_on.f a0_0 a0_1 a1_0 a1_1 a3_0 a3_1).bind fun t293 => (if t293 = true then (some true) else ((impl_on.f a2_0 a2_1 a3_0 a3_1 a0_0 a0_1).bind fun t294 => (if t294 = true then (some true) else ((impl_on.f a2_0 a2_1 a3_0 a3_1 a1_0 a1_1).bind fun t295 => (some t295)))))))))) = some r:=h
 clear h
 replace H:=bE.mp H
 obtain ⟨t291,A50,H⟩:=H
 replace H : (if t291 = true then (some true) else ((impl_on.f a0_0 a0_1 a1_0 a1_1 a2_0 a2_1).bind fun t292 => (if t292 = true then (some true) else ((impl_on.f a0_0 a0_1 a1_0 a1_1 a3_0 a3_1).bind fun t293 => (if t293 = true then (some true) else ((impl_on.f a2_0 a2_1 a3_0 a3_1 a0_0 a0_1).bind fun t294 => (if t294 = true then (some true) else ((impl_on.f a2_0 a2_1 a3_0 a3_1 a1_0 a1_1).bind fun t295 => (some t295))))))))) = some r:=H
 have A5:=Aside0.mk A50
 clear A50
 by_cases c6 : t291 = true
 ·subst c6
  have H1 : (some true) = some r:=by rw [if_pos rfl] at H;exact H
  clear H
  have H:=H1
  clear H1
  obtain rfl:=Option.some.inj H
  go_enter Try.func106,Try.ntmps106
  go_wp2_with (first | ((with_reducible refine gate_dst (N:=4) rfl ?_);refine bx (cs:=#[.int .i64 a0_0,.int .i64 a0_1]) (t:=73) ?_;intro gb287 hg w7 hbox hb;have BK287:=Aside0.mk (hbox);have GW287:=zb hg;have GE287:=zb hg;replace HB:=sb hb;clear hb hbox hg) | ((with_reducible refine gate_dst (N:=5) rfl ?_);refine bx (cs:=#[.int .i64 a1_0,.int .i64 a1_1]) (t:=73) ?_;intro gb288 hg w8 hbox hb;have BK288:=Aside0.mk (hbox);have GW288:=zb hg;have GE288:=zb hg;replace HB:=sb hb;have NB287_288:=nl BK287 hg;have NB288_287:=ng BK287 hg;replace BK287:=kb BK287 hb;clear hb hbox hg) | ((with_reducible refine gate_dst (N:=6) rfl ?_);refine bx (cs:=#[.int .i64 a2_0,.int .i64 a2_1]) (t:=73) ?_;intro gb289 hg w9 hbox hb;have BK289:=Aside0.mk (hbox);have GW289:=zb hg;have GE289:=zb hg;replace HB:=sb hb;have NB287_289:=nl BK287 hg;have NB289_287:=ng BK287 hg;replace BK287:=kb BK287 hb;have NB288_289:=nl BK288 hg;have NB289_288:=ng BK288 hg;replace BK288:=kb BK288 hb;clear hb hbox hg) | ((with_reducible refine gate_dst (N:=7) rfl ?_);refine bx (cs:=#[.int .i64 a3_0,.int .i64 a3_1]) (t:=73) ?_;intro gb290 hg w10 hbox hb;have BK290:=Aside0.mk (hbox);have GW290:=zb hg;have GE290:=zb hg;replace HB:=sb hb;have NB287_290:=nl BK287 hg;have NB290_287:=ng BK287 hg;replace BK287:=kb BK287 hb;have NB288_290:=nl BK288 hg;have NB290_288:=ng BK288 hg;replace BK288:=kb BK288 hb;have NB289_290:=nl BK289 hg;have NB290_289:=ng BK289 hg;replace BK289:=kb BK289 hb;clear hb hbox hg;have hnb11:=NB287_288.out;have hnc11:=NB288_287.out;have hnb12:=NB287_289.out;have hnc12:=NB289_287.out;have hnb13:=NB287_290.out;have hnc13:=NB290_287.out;have hcz14_0:=ck BK287 0;have hcz14_1:=ck BK287 1;have hfz14_0:=blk_frozen BK287.out 0;have hfz14_1:=blk_frozen BK287.out 1;have hnb15:=NB288_289.out;have hnc15:=NB289_288.out;have hnb16:=NB288_290.out;have hnc16:=NB290_288.out;have hcz17_0:=ck BK288 0;have hcz17_1:=ck BK288 1;have hfz17_0:=blk_frozen BK288.out 0;have hfz17_1:=blk_frozen BK288.out 1;have hnb18:=NB289_290.out;have hnc18:=NB290_289.out;have hcz19_0:=ck BK289 0;have hcz19_1:=ck BK289 1;have hfz19_0:=blk_frozen BK289.out 0;have hfz19_1:=blk_frozen BK289.out 1;have hcz20_0:=ck BK290 0;have hcz20_1:=ck BK290 1;have hfz20_0:=blk_frozen BK290.out 0;have hfz20_1:=blk_frozen BK290.out 1) | ((with_reducible refine gate_callee (f:=148) rfl ?_);refine goesL_ (some 13) rfl rfl Try.func148 (by kernel_rfl) rfl #[.agg #[.int .i64 a0_0,.int .i64 a0_1],.agg #[.int .i64 a1_0,.int .i64 a1_1],.agg #[.int .i64 a2_0,.int .i64 a2_1],.agg #[.int .i64 a3_0,.int .i64 a3_1]] rfl (by (try simp only [mT,mC,mN]);first | done | rfl | (simp only [lD,lT];rfl)) ?_;(with_reducible refine (impl_crossing.calls a0_0 a0_1 a1_0 a1_1 a2_0 a2_1 a3_0 a3_1 true _ A5.out).mono ?_);rintro e w21 ⟨rfl,hb⟩;refine ⟨_,rfl,?_⟩;replace BK287:=kb BK287 hb;replace BK288:=kb BK288 hb;replace BK289:=kb BK289 hb;replace BK290:=kb BK290 hb;replace HB:=sb hb;(try clear hb);(try clear hb2);(try clear hk);(try clear hi)))
  go_ret
  exact ⟨by first | rfl | (simp [errW_none,errW_some] <;> rfl) | (simp [*,errW_none,errW_some] <;> rfl),ib⟩
 ·replace c6:=Bool.eq_false_iff.mpr c6
  subst c6
  have H1 : ((impl_on.f a0_0 a0_1 a1_0 a1_1 a2_0 a2_1).bind fun t292 => (if t292 = true then (some true) else ((impl_on.f a0_0 a0_1 a1_0 a1_1 a3_0 a3_1).bind fun t293 => (if t293 = true then (some true) else ((impl_on.f a2_0 a2_1 a3_0 a3_1 a0_0 a0_1).bind fun t294 => (if t294 = true then (some true) else ((impl_on.f a2_0 a2_1 a3_0 a3_1 a1_0 a1_1).bind fun t295 => (some t295)))))))) = some r:=by rw [if_neg (show ¬ (false = true) by decide)] at H;exact H
  clear H
  have H:=H1
  clear H1
  replace H:=bE.mp H
  obtain ⟨t292,A220,H⟩:=H
  replace H : (if t292 = true then (some true) else ((impl_on.f a0_0 a0_1 a1_0 a1_1 a3_0 a3_1).bind fun t293 => (if t293 = true then (some true) else ((impl_on.f a2_0 a2_1 a3_0 a3_1 a0_0 a0_1).bind fun t294 => (if t294 = true then (some true) else ((impl_on.f a2_0 a2_1 a3_0 a3_1 a1_0 a1_1).bind fun t295 => (some t295))))))) = some r:=H
  have A22:=Aside0.mk A220
  clear A220
  by_cases c23 : t292 = true
  ·subst c23
   have H1 : (some true) = some r:=by rw [if_pos rfl] at H;exact H
   clear H
   have H:=H1
   clear H1
   obtain rfl:=Option.some.inj H
   go_enter Try.func106,Try.ntmps106
   go_wp2_with (first | ((with_reducible refine gate_dst (N:=4) rfl ?_);refine bx (cs:=#[.int .i64 a0_0,.int .i64 a0_1]) (t:=73) ?_;intro gb287 hg w24 hbox hb;have BK287:=Aside0.mk (hbox);have GW287:=zb hg;have GE287:=zb hg;replace HB:=sb hb;clear hb hbox hg) | ((with_reducible refine gate_dst (N:=5) rfl ?_);refine bx (cs:=#[.int .i64 a1_0,.int .i64 a1_1]) (t:=73) ?_;intro gb288 hg w25 hbox hb;have BK288:=Aside0.mk (hbox);have GW288:=zb hg;have GE288:=zb hg;replace HB:=sb hb;have NB287_288:=nl BK287 hg;have NB288_287:=ng BK287 hg;replace BK287:=kb BK287 hb;clear hb hbox hg) | ((with_reducible refine gate_dst (N:=6) rfl ?_);refine bx (cs:=#[.int .i64 a2_0,.int .i64 a2_1]) (t:=73) ?_;intro gb289 hg w26 hbox hb;have BK289:=Aside0.mk (hbox);have GW289:=zb hg;have GE289:=zb hg;replace HB:=sb hb;have NB287_289:=nl BK287 hg;have NB289_287:=ng BK287 hg;replace BK287:=kb BK287 hb;have NB288_289:=nl BK288 hg;have NB289_288:=ng BK288 hg;replace BK288:=kb BK288 hb;clear hb hbox hg) | ((with_reducible refine gate_dst (N:=7) rfl ?_);refine bx (cs:=#[.int .i64 a3_0,.int .i64 a3_1]) (t:=73) ?_;intro gb290 hg w27 hbox hb;have BK290:=Aside0.mk (hbox);have GW290:=zb hg;have GE290:=zb hg;replace HB:=sb hb;have NB287_290:=nl BK287 hg;have NB290_287:=ng BK287 hg;replace BK287:=kb BK287 hb;have NB288_290:=nl BK288 hg;have NB290_288:=ng BK288 hg;replace BK288:=kb BK288 hb;have NB289_290:=nl BK289 hg;have NB290_289:=ng BK289 hg;replace BK289:=kb BK289 hb;clear hb hbox hg;have hnb28:=NB287_288.out;have hnc28:=NB288_287.out;have hnb29:=NB287_289.out;have hnc29:=NB289_287.out;have hnb30:=NB287_290.out;have hnc30:=NB290_287.out;have hcz31_0:=ck BK287 0;have hcz31_1:=ck BK287 1;have hfz31_0:=blk_frozen BK287.out 0;have hfz31_1:=blk_frozen BK287.out 1;have hnb32:=NB288_289.out;have hnc32:=NB289_288.out;have hnb33:=NB288_290.out;have hnc33:=NB290_288.out;have hcz34_0:=ck BK288 0;have hcz34_1:=ck BK288 1;have hfz34_0:=blk_frozen BK288.out 0;have hfz34_1:=blk_frozen BK288.out 1;have hnb35:=NB289_290.out;have hnc35:=NB290_289.out;have hcz36_0:=ck BK289 0;have hcz36_1:=ck BK289 1;have hfz36_0:=blk_frozen BK289.out 0;have hfz36_1:=blk_frozen BK289.out 1;have hcz37_0:=ck BK290 0;have hcz37_1:=ck BK290 1;have hfz37_0:=blk_frozen BK290.out 0;have hfz37_1:=blk_frozen BK290.out 1) | ((with_reducible refine gate_callee (f:=148) rfl ?_);refine goesL_ (some 13) rfl rfl Try.func148 (by kernel_rfl) rfl #[.agg #[.int .i64 a0_0,.int .i64 a0_1],.agg #[.int .i64 a1_0,.int .i64 a1_1],.agg #[.int .i64 a2_0,.int .i64 a2_1],.agg #[.int .i64 a3_0,.int .i64 a3_1]] rfl (by (try simp only [mT,mC,mN]);first | done | rfl | (simp only [lD,lT];rfl)) ?_;(with_reducible refine (impl_crossing.calls a0_0 a0_1 a1_0 a1_1 a2_0 a2_1 a3_0 a3_1 false _ A5.out).mono ?_);rintro e w38 ⟨rfl,hb⟩;refine ⟨_,rfl,?_⟩;replace BK287:=kb BK287 hb;replace BK288:=kb BK288 hb;replace BK289:=kb BK289 hb;replace BK290:=kb BK290 hb;replace HB:=sb hb;(try clear hb);(try clear hb2);(try clear hk);(try clear hi);have hcz39_0:=ck BK287 0;have hcz39_1:=ck BK287 1;have hfz39_0:=blk_frozen BK287.out 0;have hfz39_1:=blk_frozen BK287.out 1;have hcz40_0:=ck BK288 0;have hcz40_1:=ck BK288 1;have hfz40_0:=blk_frozen BK288.out 0;have hfz40_1:=blk_frozen BK288.out 1;have hcz41_0:=ck BK289 0;have hcz41_1:=ck BK289 1;have hfz41_0:=blk_frozen BK289.out 0;have hfz41_1:=blk_frozen BK289.out 1) | (go_at_call 105;(with_reducible refine (impl_on.calls a0_0 a0_1 a1_0 a1_1 a2_0 a2_1 true _ A22.out).mono ?_);rintro e w42 ⟨rfl,hb⟩;replace BK287:=kb BK287 hb;replace BK288:=kb BK288 hb;replace BK289:=kb BK289 hb;replace BK290:=kb BK290 hb;replace HB:=sb hb;(try clear hb);(try clear hb2);(try clear hk);(try clear hi)))
   go_ret
   exact ⟨by first | rfl | (simp [errW_none,errW_some] <;> rfl) | (simp [*,errW_none,errW_some] <;> rfl),ib⟩
  ·replace c23:=Bool.eq_false_iff.mpr c23
   subst c23
   have H1 : ((impl_on.f a0_0 a0_1 a1_0 a1_1 a3_0 a3_1).bind fun t293 => (if t293 = true then (some true) else ((impl_on.f a2_0 a2_1 a3_0 a3_1 a0_0 a0_1).bind fun t294 => (if t294 = true then (some true) else ((impl_on.f a2_0 a2_1 a3_0 a3_1 a1_0 a1_1).bind fun t295 => (some t295)))))) = some r:=by rw [if_neg (show ¬ (false = true) by decide)] at H;exact H
   clear H
   have H:=H1
   clear H1
   replace H:=bE.mp H
   obtain ⟨t293,A430,H⟩:=H
   replace H : (if t293 = true then (some true) else ((impl_on.f a2_0 a2_1 a3_0 a3_1 a0_0 a0_1).bind fun t294 => (if t294 = true then (some true) else ((impl_on.f a2_0 a2_1 a3_0 a3_1 a1_0 a1_1).bind fun t295 => (some t295))))) = some r:=H
   have A43:=Aside0.mk A430
   clear A430
   by_cases c44 : t293 = true
   ·subst c44
    have H1 : (some true) = some r:=by rw [if_pos rfl] at H;exact H
    clear H
    have H:=H1
    clear H1
    obtain rfl:=Option.some.inj H
    go_enter Try.func106,Try.ntmps106
    go_wp2_with (first | ((with_reducible refine gate_dst (N:=4) rfl ?_);refine bx (cs:=#[.int .i64 a0_0,.int .i64 a0_1]) (t:=73) ?_;intro gb287 hg w45 hbox hb;have BK287:=Aside0.mk (hbox);have GW287:=zb hg;have GE287:=zb hg;replace HB:=sb hb;clear hb hbox hg) | ((with_reducible refine gate_dst (N:=5) rfl ?_);refine bx (cs:=#[.int .i64 a1_0,.int .i64 a1_1]) (t:=73) ?_;intro gb288 hg w46 hbox hb;have BK288:=Aside0.mk (hbox);have GW288:=zb hg;have GE288:=zb hg;replace HB:=sb hb;have NB287_288:=nl BK287 hg;have NB288_287:=ng BK287 hg;replace BK287:=kb BK287 hb;clear hb hbox hg) | ((with_reducible refine gate_dst (N:=6) rfl ?_);refine bx (cs:=#[.int .i64 a2_0,.int .i64 a2_1]) (t:=73) ?_;intro gb289 hg w47 hbox hb;have BK289:=Aside0.mk (hbox);have GW289:=zb hg;have GE289:=zb hg;replace HB:=sb hb;have NB287_289:=nl BK287 hg;have NB289_287:=ng BK287 hg;replace BK287:=kb BK287 hb;have NB288_289:=nl BK288 hg;have NB289_288:=ng BK288 hg;replace BK288:=kb BK288 hb;clear hb hbox hg) | ((with_reducible refine gate_dst (N:=7) rfl ?_);refine bx (cs:=#[.int .i64 a3_0,.int .i64 a3_1]) (t:=73) ?_;intro gb290 hg w48 hbox hb;have BK290:=Aside0.mk (hbox);have GW290:=zb hg;have GE290:=zb hg;replace HB:=sb hb;have NB287_290:=nl BK287 hg;have NB290_287:=ng BK287 hg;replace BK287:=kb BK287 hb;have NB288_290:=nl BK288 hg;have NB290_288:=ng BK288 hg;replace BK288:=kb BK288 hb;have NB289_290:=nl BK289 hg;have NB290_289:=ng BK289 hg;replace BK289:=kb BK289 hb;clear hb hbox hg;have hnb49:=NB287_288.out;have hnc49:=NB288_287.out;have hnb50:=NB287_289.out;have hnc50:=NB289_287.out;have hnb51:=NB287_290.out;have hnc51:=NB290_287.out;have hcz52_0:=ck BK287 0;have hcz52_1:=ck BK287 1;have hfz52_0:=blk_frozen BK287.out 0;have hfz52_1:=blk_frozen BK287.out 1;have hnb53:=NB288_289.out;have hnc53:=NB289_288.out;have hnb54:=NB288_290.out;have hnc54:=NB290_288.out;have hcz55_0:=ck BK288 0;have hcz55_1:=ck BK288 1;have hfz55_0:=blk_frozen BK288.out 0;have hfz55_1:=blk_frozen BK288.out 1;have hnb56:=NB289_290.out;have hnc56:=NB290_289.out;have hcz57_0:=ck BK289 0;have hcz57_1:=ck BK289 1;have hfz57_0:=blk_frozen BK289.out 0;have hfz57_1:=blk_frozen BK289.out 1;have hcz58_0:=ck BK290 0;have hcz58_1:=ck BK290 1;have hfz58_0:=blk_frozen BK290.out 0;have hfz58_1:=blk_frozen BK290.out 1) | ((with_reducible refine gate_callee (f:=148) rfl ?_);refine goesL_ (some 13) rfl rfl Try.func148 (by kernel_rfl) rfl #[.agg #[.int .i64 a0_0,.int .i64 a0_1],.agg #[.int .i64 a1_0,.int .i64 a1_1],.agg #[.int .i64 a2_0,.int .i64 a2_1],.agg #[.int .i64 a3_0,.int .i64 a3_1]] rfl (by (try simp only [mT,mC,mN]);first | done | rfl | (simp only [lD,lT];rfl)) ?_;(with_reducible refine (impl_crossing.calls a0_0 a0_1 a1_0 a1_1 a2_0 a2_1 a3_0 a3_1 false _ A5.out).mono ?_);rintro e w59 ⟨rfl,hb⟩;refine ⟨_,rfl,?_⟩;replace BK287:=kb BK287 hb;replace BK288:=kb BK288 hb;replace BK289:=kb BK289 hb;replace BK290:=kb BK290 hb;replace HB:=sb hb;(try clear hb);(try clear hb2);(try clear hk);(try clear hi);have hcz60_0:=ck BK287 0;have hcz60_1:=ck BK287 1;have hfz60_0:=blk_frozen BK287.out 0;have hfz60_1:=blk_frozen BK287.out 1;have hcz61_0:=ck BK288 0;have hcz61_1:=ck BK288 1;have hfz61_0:=blk_frozen BK288.out 0;have hfz61_1:=blk_frozen BK288.out 1;have hcz62_0:=ck BK289 0;have hcz62_1:=ck BK289 1;have hfz62_0:=blk_frozen BK289.out 0;have hfz62_1:=blk_frozen BK289.out 1) | (go_at_call 105;(with_reducible refine (impl_on.calls a0_0 a0_1 a1_0 a1_1 a2_0 a2_1 false _ A22.out).mono ?_);rintro e w63 ⟨rfl,hb⟩;replace BK287:=kb BK287 hb;replace BK288:=kb BK288 hb;replace BK289:=kb BK289 hb;replace BK290:=kb BK290 hb;replace HB:=sb hb;(try clear hb);(try clear hb2);(try clear hk);(try clear hi);have hcz64_0:=ck BK287 0;have hcz64_1:=ck BK287 1;have hfz64_0:=blk_frozen BK287.out 0;have hfz64_1:=blk_frozen BK287.out 1;have hcz65_0:=ck BK288 0;have hcz65_1:=ck BK288 1;have hfz65_0:=blk_frozen BK288.out 0;have hfz65_1:=blk_frozen BK288.out 1;have hcz66_0:=ck BK290 0;have hcz66_1:=ck BK290 1;have hfz66_0:=blk_frozen BK290.out 0;have hfz66_1:=blk_frozen BK290.out 1) | (go_at_call 105;(with_reducible refine (impl_on.calls a0_0 a0_1 a1_0 a1_1 a3_0 a3_1 true _ A43.out).mono ?_);rintro e w67 ⟨rfl,hb⟩;replace BK287:=kb BK287 hb;replace BK288:=kb BK288 hb;replace BK289:=kb BK289 hb;replace BK290:=kb BK290 hb;replace HB:=sb hb;(try clear hb);(try clear hb2);(try clear hk);(try clear hi)))
    go_ret
    exact ⟨by first | rfl | (simp [errW_none,errW_some] <;> rfl) | (simp [*,errW_none,errW_some] <;> rfl),ib⟩
   ·replace c44:=Bool.eq_false_iff.mpr c44
    subst c44
    have H1 : ((impl_on.f a2_0 a2_1 a3_0 a3_1 a0_0 a0_1).bind fun t294 => (if t294 = true then (some true) else ((impl_on.f a2_0 a2_1 a3_0 a3_1 a1_0 a1_1).bind fun t295 => (some t295)))) = some r:=by rw [if_neg (show ¬ (false = true) by decide)] at H;exact H
    clear H
    have H:=H1
    clear H1
    replace H:=bE.mp H
    obtain ⟨t294,A680,H⟩:=H
    replace H : (if t294 = true then (some true) else ((impl_on.f a2_0 a2_1 a3_0 a3_1 a1_0 a1_1).bind fun t295 => (some t295))) = some r:=H
    have A68:=Aside0.mk A680
    clear A680
    by_cases c69 : t294 = true
    ·subst c69
     have H1 : (some true) = some r:=by rw [if_pos rfl] at H;exact H
     clear H
     have H:=H1
     clear H1
     obtain rfl:=Option.some.inj H
     go_enter Try.func106,Try.ntmps106
     go_wp2_with (first | ((with_reducible refine gate_dst (N:=4) rfl ?_);refine bx (cs:=#[.int .i64 a0_0,.int .i64 a0_1]) (t:=73) ?_;intro gb287 hg w70 hbox hb;have BK287:=Aside0.mk (hbox);have GW287:=zb hg;have GE287:=zb hg;replace HB:=sb hb;clear hb hbox hg) | ((with_reducible refine gate_dst (N:=5) rfl ?_);refine bx (cs:=#[.int .i64 a1_0,.int .i64 a1_1]) (t:=73) ?_;intro gb288 hg w71 hbox hb;have BK288:=Aside0.mk (hbox);have GW288:=zb hg;have GE288:=zb hg;replace HB:=sb hb;have NB287_288:=nl BK287 hg;have NB288_287:=ng BK287 hg;replace BK287:=kb BK287 hb;clear hb hbox hg) | ((with_reducible refine gate_dst (N:=6) rfl ?_);refine bx (cs:=#[.int .i64 a2_0,.int .i64 a2_1]) (t:=73) ?_;intro gb289 hg w72 hbox hb;have BK289:=Aside0.mk (hbox);have GW289:=zb hg;have GE289:=zb hg;replace HB:=sb hb;have NB287_289:=nl BK287 hg;have NB289_287:=ng BK287 hg;replace BK287:=kb BK287 hb;have NB288_289:=nl BK288 hg;have NB289_288:=ng BK288 hg;replace BK288:=kb BK288 hb;clear hb hbox hg) | ((with_reducible refine gate_dst (N:=7) rfl ?_);refine bx (cs:=#[.int .i64 a3_0,.int .i64 a3_1]) (t:=73) ?_;intro gb290 hg w73 hbox hb;have BK290:=Aside0.mk (hbox);have GW290:=zb hg;have GE290:=zb hg;replace HB:=sb hb;have NB287_290:=nl BK287 hg;have NB290_287:=ng BK287 hg;replace BK287:=kb BK287 hb;have NB288_290:=nl BK288 hg;have NB290_288:=ng BK288 hg;replace BK288:=kb BK288 hb;have NB289_290:=nl BK289 hg;have NB290_289:=ng BK289 hg;replace BK289:=kb BK289 hb;clear hb hbox hg;have hnb74:=NB287_288.out;have hnc74:=NB288_287.out;have hnb75:=NB287_289.out;have hnc75:=NB289_287.out;have hnb76:=NB287_290.out;have hnc76:=NB290_287.out;have hcz77_0:=ck BK287 0;have hcz77_1:=ck BK287 1;have hfz77_0:=blk_frozen BK287.out 0;have hfz77_1:=blk_frozen BK287.out 1;have hnb78:=NB288_289.out;have hnc78:=NB289_288.out;have hnb79:=NB288_290.out;have hnc79:=NB290_288.out;have hcz80_0:=ck BK288 0;have hcz80_1:=ck BK288 1;have hfz80_0:=blk_frozen BK288.out 0;have hfz80_1:=blk_frozen BK288.out 1;have hnb81:=NB289_290.out;have hnc81:=NB290_289.out;have hcz82_0:=ck BK289 0;have hcz82_1:=ck BK289 1;have hfz82_0:=blk_frozen BK289.out 0;have hfz82_1:=blk_frozen BK289.out 1;have hcz83_0:=ck BK290 0;have hcz83_1:=ck BK290 1;have hfz83_0:=blk_frozen BK290.out 0;have hfz83_1:=blk_frozen BK290.out 1) | ((with_reducible refine gate_callee (f:=148) rfl ?_);refine goesL_ (some 13) rfl rfl Try.func148 (by kernel_rfl) rfl #[.agg #[.int .i64 a0_0,.int .i64 a0_1],.agg #[.int .i64 a1_0,.int .i64 a1_1],.agg #[.int .i64 a2_0,.int .i64 a2_1],.agg #[.int .i64 a3_0,.int .i64 a3_1]] rfl (by (try simp only [mT,mC,mN]);first | done | rfl | (simp only [lD,lT];rfl)) ?_;(with_reducible refine (impl_crossing.calls a0_0 a0_1 a1_0 a1_1 a2_0 a2_1 a3_0 a3_1 false _ A5.out).mono ?_);rintro e w84 ⟨rfl,hb⟩;refine ⟨_,rfl,?_⟩;replace BK287:=kb BK287 hb;replace BK288:=kb BK288 hb;replace BK289:=kb BK289 hb;replace BK290:=kb BK290 hb;replace HB:=sb hb;(try clear hb);(try clear hb2);(try clear hk);(try clear hi);have hcz85_0:=ck BK287 0;have hcz85_1:=ck BK287 1;have hfz85_0:=blk_frozen BK287.out 0;have hfz85_1:=blk_frozen BK287.out 1;have hcz86_0:=ck BK288 0;have hcz86_1:=ck BK288 1;have hfz86_0:=blk_frozen BK288.out 0;have hfz86_1:=blk_frozen BK288.out 1;have hcz87_0:=ck BK289 0;have hcz87_1:=ck BK289 1;have hfz87_0:=blk_frozen BK289.out 0;have hfz87_1:=blk_frozen BK289.out 1) | (go_at_call 105;(with_reducible refine (impl_on.calls a0_0 a0_1 a1_0 a1_1 a2_0 a2_1 false _ A22.out).mono ?_);rintro e w88 ⟨rfl,hb⟩;replace BK287:=kb BK287 hb;replace BK288:=kb BK288 hb;replace BK289:=kb BK289 hb;replace BK290:=kb BK290 hb;replace HB:=sb hb;(try clear hb);(try clear hb2);(try clear hk);(try clear hi);have hcz89_0:=ck BK287 0;have hcz89_1:=ck BK287 1;have hfz89_0:=blk_frozen BK287.out 0;have hfz89_1:=blk_frozen BK287.out 1;have hcz90_0:=ck BK288 0;have hcz90_1:=ck BK288 1;have hfz90_0:=blk_frozen BK288.out 0;have hfz90_1:=blk_frozen BK288.out 1;have hcz91_0:=ck BK290 0;have hcz91_1:=ck BK290 1;have hfz91_0:=blk_frozen BK290.out 0;have hfz91_1:=blk_frozen BK290.out 1) | (go_at_call 105;(with_reducible refine (impl_on.calls a0_0 a0_1 a1_0 a1_1 a3_0 a3_1 false _ A43.out).mono ?_);rintro e w92 ⟨rfl,hb⟩;replace BK287:=kb BK287 hb;replace BK288:=kb BK288 hb;replace BK289:=kb BK289 hb;replace BK290:=kb BK290 hb;replace HB:=sb hb;(try clear hb);(try clear hb2);(try clear hk);(try clear hi);have hcz93_0:=ck BK289 0;have hcz93_1:=ck BK289 1;have hfz93_0:=blk_frozen BK289.out 0;have hfz93_1:=blk_frozen BK289.out 1;have hcz94_0:=ck BK290 0;have hcz94_1:=ck BK290 1;have hfz94_0:=blk_frozen BK290.out 0;have hfz94_1:=blk_frozen BK290.out 1;have hcz95_0:=ck BK287 0;have hcz95_1:=ck BK287 1;have hfz95_0:=blk_frozen BK287.out 0;have hfz95_1:=blk_frozen BK287.out 1) | (go_at_call 105;(with_reducible refine (impl_on.calls a2_0 a2_1 a3_0 a3_1 a0_0 a0_1 true _ A68.out).mono ?_);rintro e w96 ⟨rfl,hb⟩;replace BK287:=kb BK287 hb;replace BK288:=kb BK288 hb;replace BK289:=kb BK289 hb;replace BK290:=kb BK290 hb;replace HB:=sb hb;(try clear hb);(try clear hb2);(try clear hk);(try clear hi)))
     go_ret
     exact ⟨by first | rfl | (simp [errW_none,errW_some] <;> rfl) | (simp [*,errW_none,errW_some] <;> rfl),ib⟩
    ·replace c69:=Bool.eq_false_iff.mpr c69
     subst c69
     have H1 : ((impl_on.f a2_0 a2_1 a3_0 a3_1 a1_0 a1_1).bind fun t295 => (some t295)) = some r:=by rw [if_neg (show ¬ (false = true) by decide)] at H;exact H
     clear H
     have H:=H1
     clear H1
     replace H:=bE.mp H
     obtain ⟨t295,A970,H⟩:=H
     replace H : (some t295) = some r:=H
     have A97:=Aside0.mk A970
     clear A970
     obtain rfl:=Option.some.inj H
     go_enter Try.func106,Try.ntmps106
     go_wp2_with (first | ((with_reducible refine gate_dst (N:=4) rfl ?_);refine bx (cs:=#[.int .i64 a0_0,.int .i64 a0_1]) (t:=73) ?_;intro gb287 hg w98 hbox hb;have BK287:=Aside0.mk (hbox);have GW287:=zb hg;have GE287:=zb hg;replace HB:=sb hb;clear hb hbox hg) | ((with_reducible refine gate_dst (N:=5) rfl ?_);refine bx (cs:=#[.int .i64 a1_0,.int .i64 a1_1]) (t:=73) ?_;intro gb288 hg w99 hbox hb;have BK288:=Aside0.mk (hbox);have GW288:=zb hg;have GE288:=zb hg;replace HB:=sb hb;have NB287_288:=nl BK287 hg;have NB288_287:=ng BK287 hg;replace BK287:=kb BK287 hb;clear hb hbox hg) | ((with_reducible refine gate_dst (N:=6) rfl ?_);refine bx (cs:=#[.int .i64 a2_0,.int .i64 a2_1]) (t:=73) ?_;intro gb289 hg w100 hbox hb;have BK289:=Aside0.mk (hbox);have GW289:=zb hg;have GE289:=zb hg;replace HB:=sb hb;have NB287_289:=nl BK287 hg;have NB289_287:=ng BK287 hg;replace BK287:=kb BK287 hb;have NB288_289:=nl BK288 hg;have NB289_288:=ng BK288 hg;replace BK288:=kb BK288 hb;clear hb hbox hg) | ((with_reducible refine gate_dst (N:=7) rfl ?_);refine bx (cs:=#[.int .i64 a3_0,.int .i64 a3_1]) (t:=73) ?_;intro gb290 hg w101 hbox hb;have BK290:=Aside0.mk (hbox);have GW290:=zb hg;have GE290:=zb hg;replace HB:=sb hb;have NB287_290:=nl BK287 hg;have NB290_287:=ng BK287 hg;replace BK287:=kb BK287 hb;have NB288_290:=nl BK288 hg;have NB290_288:=ng BK288 hg;replace BK288:=kb BK288 hb;have NB289_290:=nl BK289 hg;have NB290_289:=ng BK289 hg;replace BK289:=kb BK289 hb;clear hb hbox hg;have hnb102:=NB287_288.out;have hnc102:=NB288_287.out;have hnb103:=NB287_289.out;have hnc103:=NB289_287.out;have hnb104:=NB287_290.out;have hnc104:=NB290_287.out;have hcz105_0:=ck BK287 0;have hcz105_1:=ck BK287 1;have hfz105_0:=blk_frozen BK287.out 0;have hfz105_1:=blk_frozen BK287.out 1;have hnb106:=NB288_289.out;have hnc106:=NB289_288.out;have hnb107:=NB288_290.out;have hnc107:=NB290_288.out;have hcz108_0:=ck BK288 0;have hcz108_1:=ck BK288 1;have hfz108_0:=blk_frozen BK288.out 0;have hfz108_1:=blk_frozen BK288.out 1;have hnb109:=NB289_290.out;have hnc109:=NB290_289.out;have hcz110_0:=ck BK289 0;have hcz110_1:=ck BK289 1;have hfz110_0:=blk_frozen BK289.out 0;have hfz110_1:=blk_frozen BK289.out 1;have hcz111_0:=ck BK290 0;have hcz111_1:=ck BK290 1;have hfz111_0:=blk_frozen BK290.out 0;have hfz111_1:=blk_frozen BK290.out 1) | ((with_reducible refine gate_callee (f:=148) rfl ?_);refine goesL_ (some 13) rfl rfl Try.func148 (by kernel_rfl) rfl #[.agg #[.int .i64 a0_0,.int .i64 a0_1],.agg #[.int .i64 a1_0,.int .i64 a1_1],.agg #[.int .i64 a2_0,.int .i64 a2_1],.agg #[.int .i64 a3_0,.int .i64 a3_1]] rfl (by (try simp only [mT,mC,mN]);first | done | rfl | (simp only [lD,lT];rfl)) ?_;(with_reducible refine (impl_crossing.calls a0_0 a0_1 a1_0 a1_1 a2_0 a2_1 a3_0 a3_1 false _ A5.out).mono ?_);rintro e w112 ⟨rfl,hb⟩;refine ⟨_,rfl,?_⟩;replace BK287:=kb BK287 hb;replace BK288:=kb BK288 hb;replace BK289:=kb BK289 hb;replace BK290:=kb BK290 hb;replace HB:=sb hb;(try clear hb);(try clear hb2);(try clear hk);(try clear hi);have hcz113_0:=ck BK287 0;have hcz113_1:=ck BK287 1;have hfz113_0:=blk_frozen BK287.out 0;have hfz113_1:=blk_frozen BK287.out 1;have hcz114_0:=ck BK288 0;have hcz114_1:=ck BK288 1;have hfz114_0:=blk_frozen BK288.out 0;have hfz114_1:=blk_frozen BK288.out 1;have hcz115_0:=ck BK289 0;have hcz115_1:=ck BK289 1;have hfz115_0:=blk_frozen BK289.out 0;have hfz115_1:=blk_frozen BK289.out 1) | (go_at_call 105;(with_reducible refine (impl_on.calls a0_0 a0_1 a1_0 a1_1 a2_0 a2_1 false _ A22.out).mono ?_);rintro e w116 ⟨rfl,hb⟩;replace BK287:=kb BK287 hb;replace BK288:=kb BK288 hb;replace BK289:=kb BK289 hb;replace BK290:=kb BK290 hb;replace HB:=sb hb;(try clear hb);(try clear hb2);(try clear hk);(try clear hi);have hcz117_0:=ck BK287 0;have hcz117_1:=ck BK287 1;have hfz117_0:=blk_frozen BK287.out 0;have hfz117_1:=blk_frozen BK287.out 1;have hcz118_0:=ck BK288 0;have hcz118_1:=ck BK288 1;have hfz118_0:=blk_frozen BK288.out 0;have hfz118_1:=blk_frozen BK288.out 1;have hcz119_0:=ck BK290 0;have hcz119_1:=ck BK290 1;have hfz119_0:=blk_frozen BK290.out 0;have hfz119_1:=blk_frozen BK290.out 1) | (go_at_call 105;(with_reducible refine (impl_on.calls a0_0 a0_1 a1_0 a1_1 a3_0 a3_1 false _ A43.out).mono ?_);rintro e w120 ⟨rfl,hb⟩;replace BK287:=kb BK287 hb;replace BK288:=kb BK288 hb;replace BK289:=kb BK289 hb;replace BK290:=kb BK290 hb;replace HB:=sb hb;(try clear hb);(try clear hb2);(try clear hk);(try clear hi);have hcz121_0:=ck BK289 0;have hcz121_1:=ck BK289 1;have hfz121_0:=blk_frozen BK289.out 0;have hfz121_1:=blk_frozen BK289.out 1;have hcz122_0:=ck BK290 0;have hcz122_1:=ck BK290 1;have hfz122_0:=blk_frozen BK290.out 0;have hfz122_1:=blk_frozen BK290.out 1;have hcz123_0:=ck BK287 0;have hcz123_1:=ck BK287 1;have hfz123_0:=blk_frozen BK287.out 0;have hfz123_1:=blk_frozen BK287.out 1) | (go_at_call 105;(with_reducible refine (impl_on.calls a2_0 a2_1 a3_0 a3_1 a0_0 a0_1 false _ A68.out).mono ?_);rintro e w124 ⟨rfl,hb⟩;replace BK287:=kb BK287 hb;replace BK288:=kb BK288 hb;replace BK289:=kb BK289 hb;replace BK290:=kb BK290 hb;replace HB:=sb hb;(try clear hb);(try clear hb2);(try clear hk);(try clear hi);have hcz125_0:=ck BK289 0;have hcz125_1:=ck BK289 1;have hfz125_0:=blk_frozen BK289.out 0;have hfz125_1:=blk_frozen BK289.out 1;have hcz126_0:=ck BK290 0;have hcz126_1:=ck BK290 1;have hfz126_0:=blk_frozen BK290.out 0;have hfz126_1:=blk_frozen BK290.out 1;have hcz127_0:=ck BK288 0;have hcz127_1:=ck BK288 1;have hfz127_0:=blk_frozen BK288.out 0;have hfz127_1:=blk_frozen BK288.out 1) | (go_at_call 105;(with_reducible refine (impl_on.calls a2_0 a2_1 a3_0 a3_1 a1_0 a1_1 t295 _ A97.out).mono ?_);rintro e w128 ⟨rfl,hb⟩;replace BK287:=kb BK287 hb;replace BK288:=kb BK288 hb;replace BK289:=kb BK289 hb;replace BK290:=kb BK290 hb;replace HB:=sb hb;(try clear hb);(try clear hb2);(try clear hk);(try clear hi)))
     go_ret
     exact ⟨by first | rfl | (simp [errW_none,errW_some] <;> rfl) | (simp [*,errW_none,errW_some] <;> rfl),ib⟩
def impl_doubled.l0 : Nat → List (S73) → Int → List (S73) → Int → Int → Option (Int)
 | 0,_,_,_,_,_ => none
 | k + 1,x0,x3,x7,x8,x9 => if x9 < x8 then (if 0 ≤ x9 then (if x9 < (x7.length : Int) then (if (x0.length : Int) = 0 then (none) else (if 0 ≤ (Int.tmod (wrap64 (x9 + 1)) (x0.length : Int)) then (if (Int.tmod (wrap64 (x9 + 1)) (x0.length : Int)) < (x0.length : Int) then (impl_doubled.l0 k x0 (wrap64 (x3 + (wrap64 ((wrap64 (((rd_T73 x7 x9).f0) * ((rd_T73 x0 (Int.tmod (wrap64 (x9 + 1)) (x0.length : Int))).f1))) - (wrap64 (((rd_T73 x7 x9).f1) * ((rd_T73 x0 (Int.tmod (wrap64 (x9 + 1)) (x0.length : Int))).f0))))))) x7 x8 (wrap64 (x9 + 1))) else (none)) else (none))) else (none)) else (none)) else (some x3)
def impl_doubled.f (k : Nat) (l0 : List (S73)) : Option (Int):=impl_doubled.l0 k l0 0 l0 (l0.length : Int) 0
theorem impl_doubled.calls (k : Nat) (A0 : Option Addr) (c0 : Nat) (l0 : List (S73)) (r : Int) (w : World) (hr0 : Kd.C k73 w A0 l0.length l0) (hc0 : l0.length ≤ c0) (h : impl_doubled.f k l0 = some r) :
  Calls Try.prog 107 #[.slice A0 l0.length c0] w fun e w' => e = .returned (.int .i64 r) ∧ Below w.heap.size w w':=by
 have hu73:=Try.underlying73
 have HR0:=Aside0.mk hr0
 have HC0:=Aside0.mk hc0
 clear hr0 hc0
 have HB:=Aside0.mk (Below.refl w.heap.size w)
 have H : (impl_doubled.l0 k l0 0 l0 (l0.length : Int) 0) = some r:=h
 clear h
 have H':=Aside0.mk H
 clear H
 go_enter Try.func107,Try.ntmps107
 go_wp2
 go_loopg [3,9] k (fun kq v3 v9 w' => ∃ (x3_1 : Int) (x9_1 : Int),v3 = .int .i64 x3_1 ∧ v9 = .int .i64 x9_1 ∧ Aside0 (impl_doubled.l0 kq l0 x3_1 l0 (l0.length : Int) x9_1 = some r) ∧ Aside0 (kq ≤ k) ∧ Aside0 (Below w.heap.size w w'))
 case atStart => exact ⟨(0),(0),(by first | rfl | (simp;done) | (simp [*];done)),(by first | rfl | (simp;done) | (simp [*];done)),H',⟨Nat.le_refl _⟩,⟨ib⟩⟩
 case round =>
  clear H'
  try clear c1
  obtain ⟨x3_1,x9_1,rfl,rfl,HA,HK1,HB⟩:=hrel
  cases gk with
  | zero => exact absurd HA.out (by simp [impl_doubled.l0])
  | succ k1 =>
   have H:=HA.out
   clear HA
   simp only [impl_doubled.l0] at H
   by_cases c2 : x9_1 < (l0.length : Int)
   ·rw [if_pos c2] at H
    have c2b0 : decide (x9_1 < (l0.length : Int)) = true:=decide_eq_true c2
    clear c2
    by_cases c3 : 0 ≤ x9_1
    ·rw [if_pos c3] at H
     have c3b0 : decide (0 ≤ x9_1) = true:=decide_eq_true c3
     clear c3
     by_cases c4 : x9_1 < (l0.length : Int)
     ·rw [if_pos c4] at H
      have c4b0 : decide (x9_1 < (l0.length : Int)) = true:=decide_eq_true c4
      clear c4
      by_cases c5 : (l0.length : Int) = 0
      ·rw [if_pos c5] at H
       exact absurd H (by simp)
      ·rw [if_neg c5] at H
       have c5b0 : ((l0.length : Int) == 0) = false:=beq_eq_false_iff_ne.mpr c5
       have c5b1 : ((l0.length : Int) != 0) = true:=bne_iff_ne.mpr c5
       have c5b2 : ¬ (l0 = []):=fun h_ => c5 (by rw [h_];rfl)
       obtain ⟨ji6,hji6⟩ : ∃ j_ : Int,(Int.tmod (wrap64 (x9_1 + 1)) (l0.length : Int)) = j_:=⟨_,rfl⟩
       replace H : (if 0 ≤ (ji6) then (if (ji6) < (l0.length : Int) then (impl_doubled.l0 k1 l0 (wrap64 (x3_1 + (wrap64 ((wrap64 (((rd_T73 l0 x9_1).f0) * ((rd_T73 l0 (ji6)).f1))) - (wrap64 (((rd_T73 l0 x9_1).f1) * ((rd_T73 l0 (ji6)).f0))))))) l0 (l0.length : Int) (wrap64 (x9_1 + 1))) else (none)) else (none)) = some r:=by first | (rw [hji6] at H;exact H) | (simp only [hji6] at H ⊢;exact H)
       by_cases c7 : 0 ≤ (ji6)
       ·rw [if_pos c7] at H
        have c7b0 : decide (0 ≤ (ji6)) = true:=decide_eq_true c7
        clear c7
        by_cases c8 : (ji6) < (l0.length : Int)
        ·rw [if_pos c8] at H
         have c8b0 : decide ((ji6) < (l0.length : Int)) = true:=decide_eq_true c8
         clear c8
         have H':=Aside0.mk H
         clear H
         have p296 : 0 ≤ (x9_1 : Int):=da
         have q296 : x9_1 < (l0.length : Int):=da
         obtain ⟨ad296,e296,hx296_0,hx296_1⟩:=at_T73 HR0.out x9_1 p296 q296
         cases e296
         replace hx296_0:=cq HB.out hx296_0
         replace hx296_1:=cq HB.out hx296_1
         replace p296:=eq_true p296
         replace q296:=eq_true q296
         go_wp2_with (first | ((with_reducible refine gate_dst (N:=5) rfl ?_);refine bx (cs:=#[.int .i64 0,.int .i64 0]) (t:=73) ?_;intro gb297 hg w9 hbox hb;have BK297:=Aside0.mk (hbox);have GW297:=zb hg;have GE297:=zb hg;replace HB:=sb hb;clear hb hbox hg;have hcz10_0:=ck BK297 0;have hcz10_1:=ck BK297 1;have hfz10_0:=blk_frozen BK297.out 0;have hfz10_1:=blk_frozen BK297.out 1;have p298 : 0 ≤ ((ji6) : Int):=da;have q298 : (ji6) < (l0.length : Int):=da;obtain ⟨ad298,e298,hx298_0,hx298_1⟩:=at_T73 HR0.out (ji6) p298 q298;obtain rfl : ad296 = ad298:=(by injection e298);have hn298_0 : ad296.block ≠ gb297:=nw hx298_0 GW297;have hn298_1 : ad296.block ≠ gb297:=nw hx298_0 GW297;replace hx298_0:=cq HB.out hx298_0;replace hx298_1:=cq HB.out hx298_1;replace hx298_0:=cf hn298_0 hx298_0 0 (.int .i64 ((rd_T73 l0 x9_1).f0));replace hx298_1:=cf hn298_0 hx298_1 0 (.int .i64 ((rd_T73 l0 x9_1).f0));replace hx298_0:=cf hn298_1 hx298_0 1 (.int .i64 ((rd_T73 l0 x9_1).f1));replace hx298_1:=cf hn298_1 hx298_1 1 (.int .i64 ((rd_T73 l0 x9_1).f1));clear hn298_0;clear hn298_1;replace p298:=eq_true p298;replace q298:=eq_true q298) | ((with_reducible refine gate_dst (N:=6) rfl ?_);refine bx (cs:=#[.int .i64 0,.int .i64 0]) (t:=73) ?_;intro gb299 hg w11 hbox hb;have z0_:=mz hb (g:=gb297) (o:=.cells #[.int .i64 ((rd_T73 l0 x9_1).f0),.int .i64 ((rd_T73 l0 x9_1).f1)] 73 (0,0)) (by refine bP (cs:=#[.int .i64 ((rd_T73 l0 x9_1).f0),.int .i64 0]) 1 ?_;refine bP (cs:=#[.int .i64 0,.int .i64 0]) 0 ?_;exact bk BK297);have n0_:=kc z0_ hb;have n1_:=sb hb;have n2_:=Aside0.mk (hbox);have n3_:=zb hg;have n4_:=zb hg;have n5_:=nm z0_ hg;have n6_:=nn z0_ hg;clear BK297;clear HB;have BK297:=n0_;have HB:=n1_;have BK299:=n2_;have GW299:=n3_;have GE299:=n4_;have NB297_299:=n5_;have NB299_297:=n6_;clear z0_ n0_ n1_ n2_ n3_ n4_ n5_ n6_;clear hb hbox hg;have hnb12:=NB299_297.out;have hnc12:=NB297_299.out;have hcz13_0:=ck BK299 0;have hcz13_1:=ck BK299 1;have hfz13_0:=blk_frozen BK299.out 0;have hfz13_1:=blk_frozen BK299.out 1;have hcz14_0:=ck BK297 0;have hcz14_1:=ck BK297 1;have hfz14_0:=blk_frozen BK297.out 0;have hfz14_1:=blk_frozen BK297.out 1))
         go_roundg k1
         case measure => have:=HK1.out;omega
         case rel => exact ⟨(wrap64 (x3_1 + (wrap64 ((wrap64 (((rd_T73 l0 x9_1).f0) * ((rd_T73 l0 (ji6)).f1))) - (wrap64 (((rd_T73 l0 x9_1).f1) * ((rd_T73 l0 (ji6)).f0))))))),(wrap64 (x9_1 + 1)),(by first | rfl | (simp;done) | (simp only [← hji6] <;> (first | rfl | simp)) | (simp [*];done)),(by first | rfl | (simp;done) | (simp [*];done)),H',⟨by have:=HK1.out;omega⟩,⟨ib⟩⟩
        ·rw [if_neg c8] at H
         exact absurd H (by simp)
       ·rw [if_neg c7] at H
        exact absurd H (by simp)
     ·first | (exfalso;have z_:=of_decide_eq_true c2b0;omega) | (rw [if_neg c4] at H;exact absurd H (by simp))
    ·rw [if_neg c3] at H
     exact absurd H (by simp)
   ·rw [if_neg c2] at H
    have c2b0 : decide (x9_1 < (l0.length : Int)) = false:=decide_eq_false c2
    clear c2
    obtain rfl:=Option.some.inj H
    go_wp2
    go_ret
    exact ⟨by first | rfl | (simp [errW_none,errW_some] <;> rfl) | (simp [*,errW_none,errW_some] <;> rfl),ib⟩
end Go.Proofs.Ytnnchaggdnlfmaa.PFnExactTriangulate
