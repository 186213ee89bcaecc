/- Contracts of functions that FnExactEdgesOf reaches, out of the lines of the kit's print. -/
import Derived.Test.YtpeebobdbaemiaaQFnExactEdgesOfx0
import Derived.Test.YtpeebobdbaemiaaQFnExactEdgesOfx6
import Derived.Test.YtpeebobdbaemiaaQFnExactEdgesOfx7
namespace Go.Proofs.Ytpeebobdbaemiaa.PFnExactEdgesOf
open Go.RowKit Go.Proofs.YtpeebobdbaemiaaW.PrintWords Go.Proofs.YtpeebobdbaemiaaW.PrintLast Go.Proofs.YtpeebobdbaemiaaW.PrintMore
open Bool renaming true → tT, false → fF
open Go.World renaming block_lt_of_cell? → bL
open List renaming setIfInBounds_toArray → iT, set_cons_zero → sZ, set_cons_succ → sC, length_take → lT, length_drop → lD, map_toArray → mT, map_cons → mC, map_nil → mN
open Option renaming bind_eq_some_iff → bE
attribute [local go_sem] max2_int min2_int max_two min_two max_three min_three max_four min_four
set_option linter.unusedVariables false
set_option linter.unusedSimpArgs false
def spec_l02On.f (a0_0 : Int) (a0_1 : Int) (a1_0 : Int) (a1_1 : Int) (a2_0 : Int) (a2_1 : Int) : Option (Bool):=(spec_l02Side.f a0_0 a0_1 a1_0 a1_1 a2_0 a2_1).bind fun t202 => (if t202 = 0 then ((spec_l00Min.f a0_0 a1_0).bind fun t203 => ((spec_l00Max.f a0_0 a1_0).bind fun t204 => ((spec_l00In.f a2_0 t203 t204).bind fun t205 => (if t205 = true then ((spec_l00Min.f a0_1 a1_1).bind fun t206 => ((spec_l00Max.f a0_1 a1_1).bind fun t207 => ((spec_l00In.f a2_1 t206 t207).bind fun t208 => (some t208)))) else (some false))))) else (some false))
def spec_l02On.T1 : Bool × List (List Nat × List Nat):=(true,[([],[]),([],[]),([],[]),([0,1,2],[0,1,2]),([3],[3]),([4,3],[4]),([5],[5]),([6,5],[5,6]),([5],[5]),([8,5],[5,8]),([5],[5]),([10,5],[5,10]),([9,11,5,5],[5,9,11]),([5],[5]),([13,5],[5,13]),([5],[5]),([15,5],[5,15]),([14,16,12,5],[5,14,16]),([7,12,17,17,5],[5,7,12,17]),([5,18],[5,18]),([19,18],[19]),([20],[20]),([21,20],[20,21]),([20],[20]),([23,20],[20,23]),([20],[20]),([25,20],[20,25]),([24,26,20,20],[20,24,26]),([20],[20]),([28,20],[20,28]),([20],[20]),([30,20],[20,30]),([29,31,27,20],[20,29,31]),([22,27,32,32,20],[20,22,27,32]),([20,33],[20,33]),([34,33,0,1,2,3,4,5,6,7,8,9,10,11,12,13,14,15,16,17,18,19,20,21,22,23,24,25,26,27,28,29,30,31,32,33,34],[34])])
def spec_l02On.B1 : List Nat:=[0,0,0,7,15,31,63,127,63,319,63,1087,3903,63,8255,63,32831,130879,262143,524287,1048575,2097151,4194303,2097151,10485759,2097151,35651583,127926271,2097151,270532607,2097151,1075838975,4288675839,8589934591,17179869183,34359738367]
theorem spec_l02On.tab1 : rtab .any (opsOf Try.f64 1) = spec_l02On.T1:=by kernel_rfl
theorem spec_l02On.bits1 : waitsOk spec_l02On.T1.2 spec_l02On.B1 = true:=by kernel_rfl
set_option maxHeartbeats 8000000 in
set_option maxRecDepth 100000 in
theorem spec_l02On.calls (a0_0 : Int) (a0_1 : Int) (a1_0 : Int) (a1_1 : Int) (a2_0 : Int) (a2_1 : Int) (r : Bool) (w : World) (h : spec_l02On.f a0_0 a0_1 a1_0 a1_1 a2_0 a2_1 = some r) :
  Calls Try.prog 64 #[.agg #[.int .i64 a0_0,.int .i64 a0_1],.agg #[.int .i64 a1_0,.int .i64 a1_1],.agg #[.int .i64 a2_0,.int .i64 a2_1]] w fun e w' => e = .returned (.bool r) ∧ Below w.heap.size w w':=by
 have hu78:=Try.underlying78
 have HB:=Aside0.mk (Below.refl w.heap.size w)
 have H : ((spec_l02Side.f a0_0 a0_1 a1_0 a1_1 a2_0 a2_1).bind fun t202 => (if t202 = 0 then ((spec_l00Min.f a0_0 a1_0).bind fun t203 => ((spec_l00Max.f a0_0 a1_0).bind fun t204 => ((spec_l00In.f a2_0 t203 t204).bind fun t205 => (if t205 = true then ((spec_l00Min.f a0_1 a1_1).bind fun t206 => ((spec_l00Max.f a0_1 a1_1).bind fun t207 => ((spec_l00In.f a2_1 t206 t207).bind fun t208 => (some t208)))) else (some false))))) else (some false))) = some r:=h
 clear h
 replace H:=bE.mp H
 obtain ⟨t202,A40,H⟩:=H
 replace H : (if t202 = 0 then ((spec_l00Min.f a0_0 a1_0).bind fun t203 => ((spec_l00Max.f a0_0 a1_0).bind fun t204 => ((spec_l00In.f a2_0 t203 t204).bind fun t205 => (if t205 = true then ((spec_l00Min.f a0_1 a1_1).bind fun t206 => ((spec_l00Max.f a0_1 a1_1).bind fun t207 => ((spec_l00In.f a2_1 t206 t207).bind fun t208 => (some t208)))) else (some false))))) else (some false)) = some r:=H
 have A4:=Aside0.mk A40
 clear A40
 by_cases c5 : t202 = 0
 ·rw [if_pos c5] at H
  have c5b0 : (t202 == 0) = true:=beq_iff_eq.mpr c5
  have c5b1 : (t202 != 0) = false:=bne_eq_false_iff_eq.mpr c5
  clear c5
  replace H:=bE.mp H
  obtain ⟨t203,A60,H⟩:=H
  replace H : ((spec_l00Max.f a0_0 a1_0).bind fun t204 => ((spec_l00In.f a2_0 t203 t204).bind fun t205 => (if t205 = true then ((spec_l00Min.f a0_1 a1_1).bind fun t206 => ((spec_l00Max.f a0_1 a1_1).bind fun t207 => ((spec_l00In.f a2_1 t206 t207).bind fun t208 => (some t208)))) else (some false)))) = some r:=H
  have A6:=Aside0.mk A60
  clear A60
  replace H:=bE.mp H
  obtain ⟨t204,A70,H⟩:=H
  replace H : ((spec_l00In.f a2_0 t203 t204).bind fun t205 => (if t205 = true then ((spec_l00Min.f a0_1 a1_1).bind fun t206 => ((spec_l00Max.f a0_1 a1_1).bind fun t207 => ((spec_l00In.f a2_1 t206 t207).bind fun t208 => (some t208)))) else (some false))) = some r:=H
  have A7:=Aside0.mk A70
  clear A70
  replace H:=bE.mp H
  obtain ⟨t205,A80,H⟩:=H
  replace H : (if t205 = true then ((spec_l00Min.f a0_1 a1_1).bind fun t206 => ((spec_l00Max.f a0_1 a1_1).bind fun t207 => ((spec_l00In.f a2_1 t206 t207).bind fun t208 => (some t208)))) else (some false)) = some r:=H
  have A8:=Aside0.mk A80
  clear A80
  by_cases c9 : t205 = true
  ·subst c9
   have H1 : ((spec_l00Min.f a0_1 a1_1).bind fun t206 => ((spec_l00Max.f a0_1 a1_1).bind fun t207 => ((spec_l00In.f a2_1 t206 t207).bind fun t208 => (some t208)))) = some r:=by rw [if_pos rfl] at H;exact H
   clear H
   have H:=H1
   clear H1
   replace H:=bE.mp H
   obtain ⟨t206,A100,H⟩:=H
   replace H : ((spec_l00Max.f a0_1 a1_1).bind fun t207 => ((spec_l00In.f a2_1 t206 t207).bind fun t208 => (some t208))) = some r:=H
   have A10:=Aside0.mk A100
   clear A100
   replace H:=bE.mp H
   obtain ⟨t207,A110,H⟩:=H
   replace H : ((spec_l00In.f a2_1 t206 t207).bind fun t208 => (some t208)) = some r:=H
   have A11:=Aside0.mk A110
   clear A110
   replace H:=bE.mp H
   obtain ⟨t208,A120,H⟩:=H
   replace H : (some t208) = some r:=H
   have A12:=Aside0.mk A120
   clear A120
   obtain rfl:=Option.some.inj H
   go_enter Try.func64,Try.ntmps64
   try go_wp2_with (first | ((with_reducible refine gate_dst (N:=3) rfl ?_);refine bx (cs:=#[.int .i64 a0_0,.int .i64 a0_1]) (t:=78) ?_;intro gb199 hg w13 hbox hb;have BK199:=Aside0.mk (hbox);have GW199:=zb hg;have GE199:=zb hg;replace HB:=sb hb;clear hb hbox hg) | ((with_reducible refine gate_dst (N:=4) rfl ?_);refine bx (cs:=#[.int .i64 a1_0,.int .i64 a1_1]) (t:=78) ?_;intro gb200 hg w14 hbox hb;have BK200:=Aside0.mk (hbox);have GW200:=zb hg;have GE200:=zb hg;replace HB:=sb hb;have NB199_200:=nl BK199 hg;have NB200_199:=ng BK199 hg;replace BK199:=kb BK199 hb;clear hb hbox hg) | ((with_reducible refine gate_dst (N:=5) rfl ?_);refine bx (cs:=#[.int .i64 a2_0,.int .i64 a2_1]) (t:=78) ?_;intro gb201 hg w15 hbox hb;have BK201:=Aside0.mk (hbox);have GW201:=zb hg;have GE201:=zb hg;replace HB:=sb hb;have NB199_201:=nl BK199 hg;have NB201_199:=ng BK199 hg;replace BK199:=kb BK199 hb;have NB200_201:=nl BK200 hg;have NB201_200:=ng BK200 hg;replace BK200:=kb BK200 hb;clear hb hbox hg))
   replace BK199:=Aside0.mk (blk_drew BK199.out)
   replace BK200:=Aside0.mk (blk_drew BK200.out)
   replace BK201:=Aside0.mk (blk_drew BK201.out)
   replace HB:=Aside0.mk (below_drew1 HB.out)
   refine start_ (n:=36) (S:=fun w' => w'.cell? ⟨gb199,0,none⟩ = some (.int .i64 a0_0) ∧ w'.cell? ⟨gb199,1,none⟩ = some (.int .i64 a0_1) ∧ w'.cell? ⟨gb200,0,none⟩ = some (.int .i64 a1_0) ∧ w'.cell? ⟨gb200,1,none⟩ = some (.int .i64 a1_1) ∧ w'.cell? ⟨gb201,0,none⟩ = some (.int .i64 a2_0) ∧ w'.cell? ⟨gb201,1,none⟩ = some (.int .i64 a2_1)) (ds:=[]) #[fF,fF,fF,fF,fF,fF,fF,fF,fF,fF,fF,fF,fF,fF,fF,fF,fF,fF,fF,fF,fF,fF,fF,fF,fF,fF,fF,fF,fF,fF,fF,fF,fF,fF,fF,fF] (by kernel_rfl) rfl rfl ⟨(blk_cell BK199.out 0).trans rfl,(blk_cell BK199.out 1).trans rfl,(blk_cell BK200.out 0).trans rfl,(blk_cell BK200.out 1).trans rfl,(blk_cell BK201.out 0).trans rfl,(blk_cell BK201.out 1).trans rfl⟩ (fun hHeld => ?_);refine with_tabW spec_l02On.tab1 spec_l02On.bits1 (fun HT_ HW_ => ?_)
   generalize w15.drew = w16 at BK199 BK200 BK201 HB hHeld ⊢
   refine tk 0 7 HT_ HW_ hHeld ?_
   refine tk 1 8 HT_ HW_ hHeld ?_
   refine tk 2 9 HT_ HW_ hHeld ?_
   refine on 3 10 HT_ (fun K hK => ?_)
   refine goes_ Try.func86 (by kernel_rfl) rfl #[.agg #[.int .i64 a0_0,.int .i64 a0_1],.agg #[.int .i64 a1_0,.int .i64 a1_1],.agg #[.int .i64 a2_0,.int .i64 a2_1]] (by rfl) rfl rfl (by (try simp only [mT,mC,mN]);first | done | rfl | (simp only [lD,lT];rfl)) ?_
   with_reducible refine (spec_l02Side.calls a0_0 a0_1 a1_0 a1_1 a2_0 a2_1 t202 _ A4.out).mono ?_
   rintro e w17 ⟨rfl,hb⟩
   refine ⟨_,rfl,?_⟩
   replace BK199:=kb BK199 hb
   replace BK200:=kb BK200 hb
   replace BK201:=kb BK201 hb
   replace HB:=sb hb
   (try clear hb)
   (try clear hb2)
   (try clear hk)
   (try clear hi)
   refine hK.out _ _ ⟨(blk_cell BK199.out 0).trans rfl,(blk_cell BK199.out 1).trans rfl,(blk_cell BK200.out 0).trans rfl,(blk_cell BK200.out 1).trans rfl,(blk_cell BK201.out 0).trans rfl,(blk_cell BK201.out 1).trans rfl⟩ (fun hHeld => ?_)
   clear hK K
   refine norm_ (a':=?_) ?_ ?_
   rotate_left
   ·show Act.put _ (some 10) _ = _
    simp only [Act.put,iT,sZ,sC,i64_w,i32_w]
    rfl
   refine pu 4 11 HT_ ?_
   refine pu 5 12 HT_ ?_
   refine pu 6 13 HT_ ?_
   refine pu 8 15 HT_ ?_
   refine pu 10 17 HT_ ?_
   refine pu 13 20 HT_ ?_
   refine pu 15 22 HT_ ?_
   refine tk 7 14 HT_ HW_ hHeld ?_
   refine tk 9 16 HT_ HW_ hHeld ?_
   refine tk 11 18 HT_ HW_ hHeld ?_
   refine tk 14 21 HT_ HW_ hHeld ?_
   refine tk 16 23 HT_ HW_ hHeld ?_
   refine on 12 19 HT_ (fun K hK => ?_)
   refine goes_ Try.func87 (by kernel_rfl) rfl #[.int .i64 a0_0,.int .i64 a1_0] (by rfl) rfl rfl (by (try simp only [mT,mC,mN]);first | done | rfl | (simp only [lD,lT];rfl)) ?_
   with_reducible refine (spec_l00Min.calls a0_0 a1_0 t203 _ A6.out).mono ?_
   rintro e w' ⟨rfl,⟨nd,rfl⟩⟩
   refine ⟨_,rfl,?_⟩
   refine hK.out _ _ ⟨(blk_cell BK199.out 0).trans rfl,(blk_cell BK199.out 1).trans rfl,(blk_cell BK200.out 0).trans rfl,(blk_cell BK200.out 1).trans rfl,(blk_cell BK201.out 0).trans rfl,(blk_cell BK201.out 1).trans rfl⟩ (fun hHeld => ?_)
   clear hK K
   refine norm_ (a':=?_) ?_ ?_
   rotate_left
   ·show Act.put _ (some 19) _ = _
    simp only [Act.put,iT,sZ,sC,i64_w,i32_w]
    rfl
   refine on 17 24 HT_ (fun K hK => ?_)
   refine goes_ Try.func88 (by kernel_rfl) rfl #[.int .i64 a0_0,.int .i64 a1_0] (by rfl) rfl rfl (by (try simp only [mT,mC,mN]);first | done | rfl | (simp only [lD,lT];rfl)) ?_
   with_reducible refine (spec_l00Max.calls a0_0 a1_0 t204 _ A7.out).mono ?_
   rintro e w' ⟨rfl,⟨nd,rfl⟩⟩
   refine ⟨_,rfl,?_⟩
   refine hK.out _ _ ⟨(blk_cell BK199.out 0).trans rfl,(blk_cell BK199.out 1).trans rfl,(blk_cell BK200.out 0).trans rfl,(blk_cell BK200.out 1).trans rfl,(blk_cell BK201.out 0).trans rfl,(blk_cell BK201.out 1).trans rfl⟩ (fun hHeld => ?_)
   clear hK K
   refine norm_ (a':=?_) ?_ ?_
   rotate_left
   ·show Act.put _ (some 24) _ = _
    simp only [Act.put,iT,sZ,sC,i64_w,i32_w]
    rfl
   refine on 18 25 HT_ (fun K hK => ?_)
   refine goes_ Try.func38 (by kernel_rfl) rfl #[.int .i64 a2_0,.int .i64 t203,.int .i64 t204] (by rfl) rfl rfl (by (try simp only [mT,mC,mN]);first | done | rfl | (simp only [lD,lT];rfl)) ?_
   with_reducible refine (spec_l00In.calls a2_0 t203 t204 true _ A8.out).mono ?_
   rintro e w' ⟨rfl,⟨nd,rfl⟩⟩
   refine ⟨_,rfl,?_⟩
   refine hK.out _ _ ⟨(blk_cell BK199.out 0).trans rfl,(blk_cell BK199.out 1).trans rfl,(blk_cell BK200.out 0).trans rfl,(blk_cell BK200.out 1).trans rfl,(blk_cell BK201.out 0).trans rfl,(blk_cell BK201.out 1).trans rfl⟩ (fun hHeld => ?_)
   clear hK K
   refine norm_ (a':=?_) ?_ ?_
   rotate_left
   ·show Act.put _ (some 25) _ = _
    simp only [Act.put,iT,sZ,sC,i64_w,i32_w]
    rfl
   refine pu 19 26 HT_ ?_
   refine pu 20 27 HT_ ?_
   refine pu 21 28 HT_ ?_
   refine pu 23 30 HT_ ?_
   refine pu 25 32 HT_ ?_
   refine pu 28 35 HT_ ?_
   refine pu 30 37 HT_ ?_
   refine tk 22 29 HT_ HW_ hHeld ?_
   refine tk 24 31 HT_ HW_ hHeld ?_
   refine tk 26 33 HT_ HW_ hHeld ?_
   refine tk 29 36 HT_ HW_ hHeld ?_
   refine tk 31 38 HT_ HW_ hHeld ?_
   refine on 27 34 HT_ (fun K hK => ?_)
   refine goes_ Try.func87 (by kernel_rfl) rfl #[.int .i64 a0_1,.int .i64 a1_1] (by rfl) rfl rfl (by (try simp only [mT,mC,mN]);first | done | rfl | (simp only [lD,lT];rfl)) ?_
   with_reducible refine (spec_l00Min.calls a0_1 a1_1 t206 _ A10.out).mono ?_
   rintro e w' ⟨rfl,⟨nd,rfl⟩⟩
   refine ⟨_,rfl,?_⟩
   refine hK.out _ _ ⟨(blk_cell BK199.out 0).trans rfl,(blk_cell BK199.out 1).trans rfl,(blk_cell BK200.out 0).trans rfl,(blk_cell BK200.out 1).trans rfl,(blk_cell BK201.out 0).trans rfl,(blk_cell BK201.out 1).trans rfl⟩ (fun hHeld => ?_)
   clear hK K
   refine norm_ (a':=?_) ?_ ?_
   rotate_left
   ·show Act.put _ (some 34) _ = _
    simp only [Act.put,iT,sZ,sC,i64_w,i32_w]
    rfl
   refine on 32 39 HT_ (fun K hK => ?_)
   refine goes_ Try.func88 (by kernel_rfl) rfl #[.int .i64 a0_1,.int .i64 a1_1] (by rfl) rfl rfl (by (try simp only [mT,mC,mN]);first | done | rfl | (simp only [lD,lT];rfl)) ?_
   with_reducible refine (spec_l00Max.calls a0_1 a1_1 t207 _ A11.out).mono ?_
   rintro e w' ⟨rfl,⟨nd,rfl⟩⟩
   refine ⟨_,rfl,?_⟩
   refine hK.out _ _ ⟨(blk_cell BK199.out 0).trans rfl,(blk_cell BK199.out 1).trans rfl,(blk_cell BK200.out 0).trans rfl,(blk_cell BK200.out 1).trans rfl,(blk_cell BK201.out 0).trans rfl,(blk_cell BK201.out 1).trans rfl⟩ (fun hHeld => ?_)
   clear hK K
   refine norm_ (a':=?_) ?_ ?_
   rotate_left
   ·show Act.put _ (some 39) _ = _
    simp only [Act.put,iT,sZ,sC,i64_w,i32_w]
    rfl
   refine on 33 40 HT_ (fun K hK => ?_)
   refine goes_ Try.func38 (by kernel_rfl) rfl #[.int .i64 a2_1,.int .i64 t206,.int .i64 t207] (by rfl) rfl rfl (by (try simp only [mT,mC,mN]);first | done | rfl | (simp only [lD,lT];rfl)) ?_
   with_reducible refine (spec_l00In.calls a2_1 t206 t207 t208 _ A12.out).mono ?_
   rintro e w' ⟨rfl,⟨nd,rfl⟩⟩
   refine ⟨_,rfl,?_⟩
   refine hK.out _ _ ⟨(blk_cell BK199.out 0).trans rfl,(blk_cell BK199.out 1).trans rfl,(blk_cell BK200.out 0).trans rfl,(blk_cell BK200.out 1).trans rfl,(blk_cell BK201.out 0).trans rfl,(blk_cell BK201.out 1).trans rfl⟩ (fun hHeld => ?_)
   clear hK K
   refine norm_ (a':=?_) ?_ ?_
   rotate_left
   ·show Act.put _ (some 40) _ = _
    simp only [Act.put,iT,sZ,sC,i64_w,i32_w]
    rfl
   refine pu 34 41 HT_ ?_
   refine pu 35 6 HT_ ?_
   refine done_ (done_of HT_.out (by kernel_rfl)) ?_
   try go_wp2
   go_ret
   exact ⟨by first | rfl | (simp [errW_none,errW_some] <;> rfl) | (simp [*,errW_none,errW_some] <;> rfl),ib⟩
  ·replace c9:=Bool.eq_false_iff.mpr c9
   subst c9
   have H1 : (some false) = some r:=by rw [if_neg (show ¬ (false = true) by decide)] at H;exact H
   clear H
   have H:=H1
   clear H1
   obtain rfl:=Option.some.inj H
   go_enter Try.func64,Try.ntmps64
   try go_wp2_with (first | ((with_reducible refine gate_dst (N:=3) rfl ?_);refine bx (cs:=#[.int .i64 a0_0,.int .i64 a0_1]) (t:=78) ?_;intro gb199 hg w18 hbox hb;have BK199:=Aside0.mk (hbox);have GW199:=zb hg;have GE199:=zb hg;replace HB:=sb hb;clear hb hbox hg) | ((with_reducible refine gate_dst (N:=4) rfl ?_);refine bx (cs:=#[.int .i64 a1_0,.int .i64 a1_1]) (t:=78) ?_;intro gb200 hg w19 hbox hb;have BK200:=Aside0.mk (hbox);have GW200:=zb hg;have GE200:=zb hg;replace HB:=sb hb;have NB199_200:=nl BK199 hg;have NB200_199:=ng BK199 hg;replace BK199:=kb BK199 hb;clear hb hbox hg) | ((with_reducible refine gate_dst (N:=5) rfl ?_);refine bx (cs:=#[.int .i64 a2_0,.int .i64 a2_1]) (t:=78) ?_;intro gb201 hg w20 hbox hb;have BK201:=Aside0.mk (hbox);have GW201:=zb hg;have GE201:=zb hg;replace HB:=sb hb;have NB199_201:=nl BK199 hg;have NB201_199:=ng BK199 hg;replace BK199:=kb BK199 hb;have NB200_201:=nl BK200 hg;have NB201_200:=ng BK200 hg;replace BK200:=kb BK200 hb;clear hb hbox hg))
   replace BK199:=Aside0.mk (blk_drew BK199.out)
   replace BK200:=Aside0.mk (blk_drew BK200.out)
   replace BK201:=Aside0.mk (blk_drew BK201.out)
   replace HB:=Aside0.mk (below_drew1 HB.out)
   refine start_ (n:=36) (S:=fun w' => w'.cell? ⟨gb199,0,none⟩ = some (.int .i64 a0_0) ∧ w'.cell? ⟨gb199,1,none⟩ = some (.int .i64 a0_1) ∧ w'.cell? ⟨gb200,0,none⟩ = some (.int .i64 a1_0) ∧ w'.cell? ⟨gb200,1,none⟩ = some (.int .i64 a1_1) ∧ w'.cell? ⟨gb201,0,none⟩ = some (.int .i64 a2_0) ∧ w'.cell? ⟨gb201,1,none⟩ = some (.int .i64 a2_1)) (ds:=[]) #[fF,fF,fF,fF,fF,fF,fF,fF,fF,fF,fF,fF,fF,fF,fF,fF,fF,fF,fF,fF,fF,fF,fF,fF,fF,fF,fF,fF,fF,fF,fF,fF,fF,fF,fF,fF] (by kernel_rfl) rfl rfl ⟨(blk_cell BK199.out 0).trans rfl,(blk_cell BK199.out 1).trans rfl,(blk_cell BK200.out 0).trans rfl,(blk_cell BK200.out 1).trans rfl,(blk_cell BK201.out 0).trans rfl,(blk_cell BK201.out 1).trans rfl⟩ (fun hHeld => ?_);refine with_tabW spec_l02On.tab1 spec_l02On.bits1 (fun HT_ HW_ => ?_)
   generalize w20.drew = w21 at BK199 BK200 BK201 HB hHeld ⊢
   refine tk 0 7 HT_ HW_ hHeld ?_
   refine tk 1 8 HT_ HW_ hHeld ?_
   refine tk 2 9 HT_ HW_ hHeld ?_
   refine on 3 10 HT_ (fun K hK => ?_)
   refine goes_ Try.func86 (by kernel_rfl) rfl #[.agg #[.int .i64 a0_0,.int .i64 a0_1],.agg #[.int .i64 a1_0,.int .i64 a1_1],.agg #[.int .i64 a2_0,.int .i64 a2_1]] (by rfl) rfl rfl (by (try simp only [mT,mC,mN]);first | done | rfl | (simp only [lD,lT];rfl)) ?_
   with_reducible refine (spec_l02Side.calls a0_0 a0_1 a1_0 a1_1 a2_0 a2_1 t202 _ A4.out).mono ?_
   rintro e w22 ⟨rfl,hb⟩
   refine ⟨_,rfl,?_⟩
   replace BK199:=kb BK199 hb
   replace BK200:=kb BK200 hb
   replace BK201:=kb BK201 hb
   replace HB:=sb hb
   (try clear hb)
   (try clear hb2)
   (try clear hk)
   (try clear hi)
   refine hK.out _ _ ⟨(blk_cell BK199.out 0).trans rfl,(blk_cell BK199.out 1).trans rfl,(blk_cell BK200.out 0).trans rfl,(blk_cell BK200.out 1).trans rfl,(blk_cell BK201.out 0).trans rfl,(blk_cell BK201.out 1).trans rfl⟩ (fun hHeld => ?_)
   clear hK K
   refine norm_ (a':=?_) ?_ ?_
   rotate_left
   ·show Act.put _ (some 10) _ = _
    simp only [Act.put,iT,sZ,sC,i64_w,i32_w]
    rfl
   refine pu 4 11 HT_ ?_
   refine pu 5 12 HT_ ?_
   refine pu 6 13 HT_ ?_
   refine pu 8 15 HT_ ?_
   refine pu 10 17 HT_ ?_
   refine pu 13 20 HT_ ?_
   refine pu 15 22 HT_ ?_
   refine tk 7 14 HT_ HW_ hHeld ?_
   refine tk 9 16 HT_ HW_ hHeld ?_
   refine tk 11 18 HT_ HW_ hHeld ?_
   refine tk 14 21 HT_ HW_ hHeld ?_
   refine tk 16 23 HT_ HW_ hHeld ?_
   refine on 12 19 HT_ (fun K hK => ?_)
   refine goes_ Try.func87 (by kernel_rfl) rfl #[.int .i64 a0_0,.int .i64 a1_0] (by rfl) rfl rfl (by (try simp only [mT,mC,mN]);first | done | rfl | (simp only [lD,lT];rfl)) ?_
   with_reducible refine (spec_l00Min.calls a0_0 a1_0 t203 _ A6.out).mono ?_
   rintro e w' ⟨rfl,⟨nd,rfl⟩⟩
   refine ⟨_,rfl,?_⟩
   refine hK.out _ _ ⟨(blk_cell BK199.out 0).trans rfl,(blk_cell BK199.out 1).trans rfl,(blk_cell BK200.out 0).trans rfl,(blk_cell BK200.out 1).trans rfl,(blk_cell BK201.out 0).trans rfl,(blk_cell BK201.out 1).trans rfl⟩ (fun hHeld => ?_)
   clear hK K
   refine norm_ (a':=?_) ?_ ?_
   rotate_left
   ·show Act.put _ (some 19) _ = _
    simp only [Act.put,iT,sZ,sC,i64_w,i32_w]
    rfl
   refine on 17 24 HT_ (fun K hK => ?_)
   refine goes_ Try.func88 (by kernel_rfl) rfl #[.int .i64 a0_0,.int .i64 a1_0] (by rfl) rfl rfl (by (try simp only [mT,mC,mN]);first | done | rfl | (simp only [lD,lT];rfl)) ?_
   with_reducible refine (spec_l00Max.calls a0_0 a1_0 t204 _ A7.out).mono ?_
   rintro e w' ⟨rfl,⟨nd,rfl⟩⟩
   refine ⟨_,rfl,?_⟩
   refine hK.out _ _ ⟨(blk_cell BK199.out 0).trans rfl,(blk_cell BK199.out 1).trans rfl,(blk_cell BK200.out 0).trans rfl,(blk_cell BK200.out 1).trans rfl,(blk_cell BK201.out 0).trans rfl,(blk_cell BK201.out 1).trans rfl⟩ (fun hHeld => ?_)
   clear hK K
   refine norm_ (a':=?_) ?_ ?_
   rotate_left
   ·show Act.put _ (some 24) _ = _
    simp only [Act.put,iT,sZ,sC,i64_w,i32_w]
    rfl
   refine on 18 25 HT_ (fun K hK => ?_)
   refine goes_ Try.func38 (by kernel_rfl) rfl #[.int .i64 a2_0,.int .i64 t203,.int .i64 t204] (by rfl) rfl rfl (by (try simp only [mT,mC,mN]);first | done | rfl | (simp only [lD,lT];rfl)) ?_
   with_reducible refine (spec_l00In.calls a2_0 t203 t204 false _ A8.out).mono ?_
   rintro e w' ⟨rfl,⟨nd,rfl⟩⟩
   refine ⟨_,rfl,?_⟩
   refine hK.out _ _ ⟨(blk_cell BK199.out 0).trans rfl,(blk_cell BK199.out 1).trans rfl,(blk_cell BK200.out 0).trans rfl,(blk_cell BK200.out 1).trans rfl,(blk_cell BK201.out 0).trans rfl,(blk_cell BK201.out 1).trans rfl⟩ (fun hHeld => ?_)
   clear hK K
   refine norm_ (a':=?_) ?_ ?_
   rotate_left
   ·show Act.put _ (some 25) _ = _
    simp only [Act.put,iT,sZ,sC,i64_w,i32_w]
    rfl
   refine pu 19 26 HT_ ?_
   refine pu 20 27 HT_ ?_
   refine pd 21 28 HT_ ?_
   refine pd 22 29 HT_ ?_
   refine pd 23 30 HT_ ?_
   refine pd 24 31 HT_ ?_
   refine pd 25 32 HT_ ?_
   refine pd 26 33 HT_ ?_
   refine pd 27 34 HT_ ?_
   refine pd 28 35 HT_ ?_
   refine pd 29 36 HT_ ?_
   refine pd 30 37 HT_ ?_
   refine pd 31 38 HT_ ?_
   refine pd 32 39 HT_ ?_
   refine pd 33 40 HT_ ?_
   refine pu 34 41 HT_ ?_
   refine pu 35 6 HT_ ?_
   refine done_ (done_of HT_.out (by kernel_rfl)) ?_
   try go_wp2
   go_ret
   exact ⟨by first | rfl | (simp [errW_none,errW_some] <;> rfl) | (simp [*,errW_none,errW_some] <;> rfl),ib⟩
 ·rw [if_neg c5] at H
  have c5b0 : (t202 == 0) = false:=beq_eq_false_iff_ne.mpr c5
  have c5b1 : (t202 != 0) = true:=bne_iff_ne.mpr c5
  obtain rfl:=Option.some.inj H
  go_enter Try.func64,Try.ntmps64
  try go_wp2_with (first | ((with_reducible refine gate_dst (N:=3) rfl ?_);refine bx (cs:=#[.int .i64 a0_0,.int .i64 a0_1]) (t:=78) ?_;intro gb199 hg w23 hbox hb;have BK199:=Aside0.mk (hbox);have GW199:=zb hg;have GE199:=zb hg;replace HB:=sb hb;clear hb hbox hg) | ((with_reducible refine gate_dst (N:=4) rfl ?_);refine bx (cs:=#[.int .i64 a1_0,.int .i64 a1_1]) (t:=78) ?_;intro gb200 hg w24 hbox hb;have BK200:=Aside0.mk (hbox);have GW200:=zb hg;have GE200:=zb hg;replace HB:=sb hb;have NB199_200:=nl BK199 hg;have NB200_199:=ng BK199 hg;replace BK199:=kb BK199 hb;clear hb hbox hg) | ((with_reducible refine gate_dst (N:=5) rfl ?_);refine bx (cs:=#[.int .i64 a2_0,.int .i64 a2_1]) (t:=78) ?_;intro gb201 hg w25 hbox hb;have BK201:=Aside0.mk (hbox);have GW201:=zb hg;have GE201:=zb hg;replace HB:=sb hb;have NB199_201:=nl BK199 hg;have NB201_199:=ng BK199 hg;replace BK199:=kb BK199 hb;have NB200_201:=nl BK200 hg;have NB201_200:=ng BK200 hg;replace BK200:=kb BK200 hb;clear hb hbox hg))
  replace BK199:=Aside0.mk (blk_drew BK199.out)
  replace BK200:=Aside0.mk (blk_drew BK200.out)
  replace BK201:=Aside0.mk (blk_drew BK201.out)
  replace HB:=Aside0.mk (below_drew1 HB.out)
  refine start_ (n:=36) (S:=fun w' => w'.cell? ⟨gb199,0,none⟩ = some (.int .i64 a0_0) ∧ w'.cell? ⟨gb199,1,none⟩ = some (.int .i64 a0_1) ∧ w'.cell? ⟨gb200,0,none⟩ = some (.int .i64 a1_0) ∧ w'.cell? ⟨gb200,1,none⟩ = some (.int .i64 a1_1) ∧ w'.cell? ⟨gb201,0,none⟩ = some (.int .i64 a2_0) ∧ w'.cell? ⟨gb201,1,none⟩ = some (.int .i64 a2_1)) (ds:=[]) #[fF,fF,fF,fF,fF,fF,fF,fF,fF,fF,fF,fF,fF,fF,fF,fF,fF,fF,fF,fF,fF,fF,fF,fF,fF,fF,fF,fF,fF,fF,fF,fF,fF,fF,fF,fF] (by kernel_rfl) rfl rfl ⟨(blk_cell BK199.out 0).trans rfl,(blk_cell BK199.out 1).trans rfl,(blk_cell BK200.out 0).trans rfl,(blk_cell BK200.out 1).trans rfl,(blk_cell BK201.out 0).trans rfl,(blk_cell BK201.out 1).trans rfl⟩ (fun hHeld => ?_);refine with_tabW spec_l02On.tab1 spec_l02On.bits1 (fun HT_ HW_ => ?_)
  generalize w25.drew = w26 at BK199 BK200 BK201 HB hHeld ⊢
  refine tk 0 7 HT_ HW_ hHeld ?_
  refine tk 1 8 HT_ HW_ hHeld ?_
  refine tk 2 9 HT_ HW_ hHeld ?_
  refine on 3 10 HT_ (fun K hK => ?_)
  refine goes_ Try.func86 (by kernel_rfl) rfl #[.agg #[.int .i64 a0_0,.int .i64 a0_1],.agg #[.int .i64 a1_0,.int .i64 a1_1],.agg #[.int .i64 a2_0,.int .i64 a2_1]] (by rfl) rfl rfl (by (try simp only [mT,mC,mN]);first | done | rfl | (simp only [lD,lT];rfl)) ?_
  with_reducible refine (spec_l02Side.calls a0_0 a0_1 a1_0 a1_1 a2_0 a2_1 t202 _ A4.out).mono ?_
  rintro e w27 ⟨rfl,hb⟩
  refine ⟨_,rfl,?_⟩
  replace BK199:=kb BK199 hb
  replace BK200:=kb BK200 hb
  replace BK201:=kb BK201 hb
  replace HB:=sb hb
  (try clear hb)
  (try clear hb2)
  (try clear hk)
  (try clear hi)
  refine hK.out _ _ ⟨(blk_cell BK199.out 0).trans rfl,(blk_cell BK199.out 1).trans rfl,(blk_cell BK200.out 0).trans rfl,(blk_cell BK200.out 1).trans rfl,(blk_cell BK201.out 0).trans rfl,(blk_cell BK201.out 1).trans rfl⟩ (fun hHeld => ?_)
  clear hK K
  refine norm_ (a':=?_) ?_ ?_
  rotate_left
  ·show Act.put _ (some 10) _ = _
   simp only [Act.put,iT,sZ,sC,i64_w,i32_w]
   rfl
  refine pu 4 11 HT_ ?_
  refine pu 5 12 HT_ ?_
  refine pd 6 13 HT_ ?_
  refine pd 7 14 HT_ ?_
  refine pd 8 15 HT_ ?_
  refine pd 9 16 HT_ ?_
  refine pd 10 17 HT_ ?_
  refine pd 11 18 HT_ ?_
  refine pd 12 19 HT_ ?_
  refine pd 13 20 HT_ ?_
  refine pd 14 21 HT_ ?_
  refine pd 15 22 HT_ ?_
  refine pd 16 23 HT_ ?_
  refine pd 17 24 HT_ ?_
  refine pd 18 25 HT_ ?_
  refine pu 19 26 HT_ ?_
  refine pu 20 27 HT_ ?_
  refine pd 21 28 HT_ ?_
  refine pd 22 29 HT_ ?_
  refine pd 23 30 HT_ ?_
  refine pd 24 31 HT_ ?_
  refine pd 25 32 HT_ ?_
  refine pd 26 33 HT_ ?_
  refine pd 27 34 HT_ ?_
  refine pd 28 35 HT_ ?_
  refine pd 29 36 HT_ ?_
  refine pd 30 37 HT_ ?_
  refine pd 31 38 HT_ ?_
  refine pd 32 39 HT_ ?_
  refine pd 33 40 HT_ ?_
  refine pu 34 41 HT_ ?_
  refine pu 35 6 HT_ ?_
  refine done_ (done_of HT_.out (by kernel_rfl)) ?_
  try go_wp2
  go_ret
  exact ⟨by first | rfl | (simp [errW_none,errW_some] <;> rfl) | (simp [*,errW_none,errW_some] <;> rfl),ib⟩
end Go.Proofs.Ytpeebobdbaemiaa.PFnExactEdgesOf
