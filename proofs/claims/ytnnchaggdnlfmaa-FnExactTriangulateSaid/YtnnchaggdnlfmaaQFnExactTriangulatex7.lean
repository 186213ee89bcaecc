/- Contracts of functions that FnExactTriangulate reaches, out of the lines of the kit's print. -/
import Derived.Test.YtnnchaggdnlfmaaQFnExactTriangulatex0
import Derived.Test.YtnnchaggdnlfmaaQFnExactTriangulatex2
import Derived.Test.YtnnchaggdnlfmaaQFnExactTriangulatex6
namespace Go.Proofs.Ytnnchaggdnlfmaa.PFnExactTriangulate
open Go.RowKit Go.Proofs.YtnnchaggdnlfmaaW.PrintWords Go.Proofs.YtnnchaggdnlfmaaW.PrintLast Go.Proofs.YtnnchaggdnlfmaaW.PrintMore
open Bool renaming true → tT, false → fF
open Go.World renaming block_lt_of_cell? → bL
open List renaming length_take → lT, length_drop → lD, map_toArray → mT, map_cons → mC, map_nil → mN
attribute [local go_sem] max2_int min2_int max_two min_two max_three min_three max_four min_four
set_option linter.unusedVariables false
set_option linter.unusedSimpArgs false
def spec_l04Ear.l0 : Nat → List (S73) → Int → Int → Int → Int → Int → Int → Int → Int → Int → Option (Bool)
 | 0,_,_,_,_,_,_,_,_,_,_ => none
 | k + 1,x0,x1,x5,x9,x182000,x182001,x184000,x184001,x186000,x186001 => if x9 < x5 then (if x9 = x1 then (spec_l04Ear.l0 k x0 x1 x5 (wrap64 (x9 + 1)) x182000 x182001 x184000 x184001 x186000 x186001) else (if x5 = 0 then (none) else (if x9 = (Int.tmod (wrap64 ((wrap64 (x1 + x5)) - 1)) x5) then (spec_l04Ear.l0 k x0 x1 x5 (wrap64 (x9 + 1)) x182000 x182001 x184000 x184001 x186000 x186001) else (if x9 = (Int.tmod (wrap64 (x1 + 1)) x5) then (spec_l04Ear.l0 k x0 x1 x5 (wrap64 (x9 + 1)) x182000 x182001 x184000 x184001 x186000 x186001) else (if 0 ≤ x9 then (if x9 < (x0.length : Int) then ((spec_l04In.f x182000 x182001 x184000 x184001 x186000 x186001 ((rd_T73 x0 x9).f0) ((rd_T73 x0 x9).f1)).bind fun t188 => (if t188 = true then (some false) else (spec_l04Ear.l0 k x0 x1 x5 (wrap64 (x9 + 1)) x182000 x182001 x184000 x184001 x186000 x186001))) else (none)) else (none)))))) else (some true)
def spec_l04Ear.f (k : Nat) (l0 : List (S73)) (a1 : Int) : Option (Bool):=if (l0.length : Int) = 0 then (none) else (if 0 ≤ (Int.tmod (wrap64 ((wrap64 (a1 + (l0.length : Int))) - 1)) (l0.length : Int)) then (if (Int.tmod (wrap64 ((wrap64 (a1 + (l0.length : Int))) - 1)) (l0.length : Int)) < (l0.length : Int) then (if 0 ≤ a1 then (if a1 < (l0.length : Int) then (if 0 ≤ (Int.tmod (wrap64 (a1 + 1)) (l0.length : Int)) then (if (Int.tmod (wrap64 (a1 + 1)) (l0.length : Int)) < (l0.length : Int) then ((spec_l02Side.f ((rd_T73 l0 (Int.tmod (wrap64 ((wrap64 (a1 + (l0.length : Int))) - 1)) (l0.length : Int))).f0) ((rd_T73 l0 (Int.tmod (wrap64 ((wrap64 (a1 + (l0.length : Int))) - 1)) (l0.length : Int))).f1) ((rd_T73 l0 a1).f0) ((rd_T73 l0 a1).f1) ((rd_T73 l0 (Int.tmod (wrap64 (a1 + 1)) (l0.length : Int))).f0) ((rd_T73 l0 (Int.tmod (wrap64 (a1 + 1)) (l0.length : Int))).f1)).bind fun t186 => (if t186 = 1 then (spec_l04Ear.l0 k l0 a1 (l0.length : Int) 0 ((rd_T73 l0 (Int.tmod (wrap64 ((wrap64 (a1 + (l0.length : Int))) - 1)) (l0.length : Int))).f0) ((rd_T73 l0 (Int.tmod (wrap64 ((wrap64 (a1 + (l0.length : Int))) - 1)) (l0.length : Int))).f1) ((rd_T73 l0 a1).f0) ((rd_T73 l0 a1).f1) ((rd_T73 l0 (Int.tmod (wrap64 (a1 + 1)) (l0.length : Int))).f0) ((rd_T73 l0 (Int.tmod (wrap64 (a1 + 1)) (l0.length : Int))).f1)) else (some false))) else (none)) else (none)) else (none)) else (none)) else (none)) else (none))
def spec_l04Ear.T10 : Bool × List (List Nat × List Nat):=(true,[([],[]),([],[]),([0,1],[0,1]),([2],[2]),([3],[3]),([3],[3]),([3],[3]),([5,6,3],[3,5,6]),([7,3],[3,7]),([3],[3]),([8,9,3],[3,8,9]),([4,10,3],[3,4,10]),([3,11],[3,11]),([12,3],[12]),([13],[13]),([13],[13]),([15,13],[13,15]),([13],[13]),([16,17,13],[13,16,17]),([14,18,13],[13,14,18]),([13,19],[13,19]),([20,13],[20]),([21],[21]),([21],[21]),([21],[21]),([21],[21]),([21],[21]),([25,26,21],[21,25,26]),([27,21],[21,27]),([22,23,24,28,21,21],[21,22,23,24,28]),([21,29],[21,29])])
def spec_l04Ear.B10 : List Nat:=[0,0,3,7,15,15,15,111,239,15,1007,2047,4095,8191,16383,16383,49151,16383,245759,524287,1048575,2097151,4194303,4194303,4194303,4194303,4194303,104857599,239075327,536870911,1073741823]
theorem spec_l04Ear.tab10 : rtab .any (opsOf Try.f109 10) = spec_l04Ear.T10:=by kernel_rfl
theorem spec_l04Ear.bits10 : waitsOk spec_l04Ear.T10.2 spec_l04Ear.B10 = true:=by kernel_rfl
set_option maxHeartbeats 8000000 in
set_option maxRecDepth 100000 in
theorem spec_l04Ear.calls (k : Nat) (A0 : Option Addr) (c0 : Nat) (l0 : List (S73)) (a1 : Int) (r : Bool) (w : World) (hr0 : Kd.C k73 w A0 l0.length l0) (hc0 : l0.length ≤ c0) (h : spec_l04Ear.f k l0 a1 = some r) :
  Calls Try.prog 109 #[.slice A0 l0.length c0,.int .i64 a1] w fun e w' => e = .returned (.bool r) ∧ Below w.heap.size w w':=by
 have hu73:=Try.underlying73
 have HR0:=Aside0.mk hr0
 have HC0:=Aside0.mk hc0
 clear hr0 hc0
 have HB:=Aside0.mk (Below.refl w.heap.size w)
 have H : (if (l0.length : Int) = 0 then (none) else (if 0 ≤ (Int.tmod (wrap64 ((wrap64 (a1 + (l0.length : Int))) - 1)) (l0.length : Int)) then (if (Int.tmod (wrap64 ((wrap64 (a1 + (l0.length : Int))) - 1)) (l0.length : Int)) < (l0.length : Int) then (if 0 ≤ a1 then (if a1 < (l0.length : Int) then (if 0 ≤ (Int.tmod (wrap64 (a1 + 1)) (l0.length : Int)) then (if (Int.tmod (wrap64 (a1 + 1)) (l0.length : Int)) < (l0.length : Int) then ((spec_l02Side.f ((rd_T73 l0 (Int.tmod (wrap64 ((wrap64 (a1 + (l0.length : Int))) - 1)) (l0.length : Int))).f0) ((rd_T73 l0 (Int.tmod (wrap64 ((wrap64 (a1 + (l0.length : Int))) - 1)) (l0.length : Int))).f1) ((rd_T73 l0 a1).f0) ((rd_T73 l0 a1).f1) ((rd_T73 l0 (Int.tmod (wrap64 (a1 + 1)) (l0.length : Int))).f0) ((rd_T73 l0 (Int.tmod (wrap64 (a1 + 1)) (l0.length : Int))).f1)).bind fun t186 => (if t186 = 1 then (spec_l04Ear.l0 k l0 a1 (l0.length : Int) 0 ((rd_T73 l0 (Int.tmod (wrap64 ((wrap64 (a1 + (l0.length : Int))) - 1)) (l0.length : Int))).f0) ((rd_T73 l0 (Int.tmod (wrap64 ((wrap64 (a1 + (l0.length : Int))) - 1)) (l0.length : Int))).f1) ((rd_T73 l0 a1).f0) ((rd_T73 l0 a1).f1) ((rd_T73 l0 (Int.tmod (wrap64 (a1 + 1)) (l0.length : Int))).f0) ((rd_T73 l0 (Int.tmod (wrap64 (a1 + 1)) (l0.length : Int))).f1)) else (some false))) else (none)) else (none)) else (none)) else (none)) else (none)) else (none))) = some r:=h
 clear h
 by_cases c3 : (l0.length : Int) = 0
 ·rw [if_pos c3] at H
  exact absurd H (by simp)
 ·rw [if_neg c3] at H
  have c3b0 : ((l0.length : Int) == 0) = false:=beq_eq_false_iff_ne.mpr c3
  have c3b1 : ((l0.length : Int) != 0) = true:=bne_iff_ne.mpr c3
  have c3b2 : ¬ (l0 = []):=fun h_ => c3 (by rw [h_];rfl)
  obtain ⟨ji4,hji4⟩ : ∃ j_ : Int,(Int.tmod (wrap64 ((wrap64 (a1 + (l0.length : Int))) - 1)) (l0.length : Int)) = j_:=⟨_,rfl⟩
  replace H : (if 0 ≤ (ji4) then (if (ji4) < (l0.length : Int) then (if 0 ≤ a1 then (if a1 < (l0.length : Int) then (if 0 ≤ (Int.tmod (wrap64 (a1 + 1)) (l0.length : Int)) then (if (Int.tmod (wrap64 (a1 + 1)) (l0.length : Int)) < (l0.length : Int) then ((spec_l02Side.f ((rd_T73 l0 (ji4)).f0) ((rd_T73 l0 (ji4)).f1) ((rd_T73 l0 a1).f0) ((rd_T73 l0 a1).f1) ((rd_T73 l0 (Int.tmod (wrap64 (a1 + 1)) (l0.length : Int))).f0) ((rd_T73 l0 (Int.tmod (wrap64 (a1 + 1)) (l0.length : Int))).f1)).bind fun t186 => (if t186 = 1 then (spec_l04Ear.l0 k l0 a1 (l0.length : Int) 0 ((rd_T73 l0 (ji4)).f0) ((rd_T73 l0 (ji4)).f1) ((rd_T73 l0 a1).f0) ((rd_T73 l0 a1).f1) ((rd_T73 l0 (Int.tmod (wrap64 (a1 + 1)) (l0.length : Int))).f0) ((rd_T73 l0 (Int.tmod (wrap64 (a1 + 1)) (l0.length : Int))).f1)) else (some false))) else (none)) else (none)) else (none)) else (none)) else (none)) else (none)) = some r:=by first | (rw [hji4] at H;exact H) | (simp only [hji4] at H ⊢;exact H)
  by_cases c5 : 0 ≤ (ji4)
  ·rw [if_pos c5] at H
   have c5b0 : decide (0 ≤ (ji4)) = true:=decide_eq_true c5
   clear c5
   by_cases c6 : (ji4) < (l0.length : Int)
   ·rw [if_pos c6] at H
    have c6b0 : decide ((ji4) < (l0.length : Int)) = true:=decide_eq_true c6
    clear c6
    by_cases c7 : 0 ≤ a1
    ·rw [if_pos c7] at H
     have c7b0 : decide (0 ≤ a1) = true:=decide_eq_true c7
     clear c7
     by_cases c8 : a1 < (l0.length : Int)
     ·rw [if_pos c8] at H
      have c8b0 : decide (a1 < (l0.length : Int)) = true:=decide_eq_true c8
      clear c8
      obtain ⟨ji9,hji9⟩ : ∃ j_ : Int,(Int.tmod (wrap64 (a1 + 1)) (l0.length : Int)) = j_:=⟨_,rfl⟩
      replace H : (if 0 ≤ (ji9) then (if (ji9) < (l0.length : Int) then ((spec_l02Side.f ((rd_T73 l0 (ji4)).f0) ((rd_T73 l0 (ji4)).f1) ((rd_T73 l0 a1).f0) ((rd_T73 l0 a1).f1) ((rd_T73 l0 (ji9)).f0) ((rd_T73 l0 (ji9)).f1)).bind fun t186 => (if t186 = 1 then (spec_l04Ear.l0 k l0 a1 (l0.length : Int) 0 ((rd_T73 l0 (ji4)).f0) ((rd_T73 l0 (ji4)).f1) ((rd_T73 l0 a1).f0) ((rd_T73 l0 a1).f1) ((rd_T73 l0 (ji9)).f0) ((rd_T73 l0 (ji9)).f1)) else (some false))) else (none)) else (none)) = some r:=by first | (rw [hji9] at H;exact H) | (simp only [hji9] at H ⊢;exact H)
      by_cases c10 : 0 ≤ (ji9)
      ·rw [if_pos c10] at H
       have c10b0 : decide (0 ≤ (ji9)) = true:=decide_eq_true c10
       clear c10
       by_cases c11 : (ji9) < (l0.length : Int)
       ·rw [if_pos c11] at H
        have c11b0 : decide ((ji9) < (l0.length : Int)) = true:=decide_eq_true c11
        clear c11
        replace H:=Option.bind_eq_some_iff.mp H
        obtain ⟨t186,A120,H⟩:=H
        replace H : (if t186 = 1 then (spec_l04Ear.l0 k l0 a1 (l0.length : Int) 0 ((rd_T73 l0 (ji4)).f0) ((rd_T73 l0 (ji4)).f1) ((rd_T73 l0 a1).f0) ((rd_T73 l0 a1).f1) ((rd_T73 l0 (ji9)).f0) ((rd_T73 l0 (ji9)).f1)) else (some false)) = some r:=H
        have A12:=Aside0.mk A120
        clear A120
        by_cases c13 : t186 = 1
        ·rw [if_pos c13] at H
         have c13b0 : (t186 == 1) = true:=beq_iff_eq.mpr c13
         have c13b1 : (t186 != 1) = false:=bne_eq_false_iff_eq.mpr c13
         clear c13
         have H':=Aside0.mk H
         clear H
         have p180 : 0 ≤ ((ji4) : Int):=da
         have q180 : (ji4) < (l0.length : Int):=da
         obtain ⟨ad180,e180,hx180_0,hx180_1⟩:=at_T73 HR0.out (ji4) p180 q180
         cases e180
         replace p180:=eq_true p180
         replace q180:=eq_true q180
         go_enter Try.func109,Try.ntmps109
         go_wp2_with (first | ((with_reducible refine gate_dst (N:=6) rfl ?_);refine bx (cs:=#[.int .i64 0,.int .i64 0]) (t:=73) ?_;intro gb181 hg w14 hbox hb;have BK181:=Aside0.mk (hbox);have GW181:=zb hg;have GE181:=zb hg;replace HB:=sb hb;clear hb hbox hg;have hcz15_0:=ck BK181 0;have hcz15_1:=ck BK181 1;have hfz15_0:=blk_frozen BK181.out 0;have hfz15_1:=blk_frozen BK181.out 1;have p182 : 0 ≤ (a1 : Int):=da;have q182 : a1 < (l0.length : Int):=da;obtain ⟨ad182,e182,hx182_0,hx182_1⟩:=at_T73 HR0.out a1 p182 q182;obtain rfl : ad180 = ad182:=(by injection e182);have hn182_0 : ad180.block ≠ gb181:=nw hx182_0 GW181;have hn182_1 : ad180.block ≠ gb181:=nw hx182_0 GW181;replace hx182_0:=cq HB.out hx182_0;replace hx182_1:=cq HB.out hx182_1;replace hx182_0:=cf hn182_0 hx182_0 0 (.int .i64 ((rd_T73 l0 (ji4)).f0));replace hx182_1:=cf hn182_0 hx182_1 0 (.int .i64 ((rd_T73 l0 (ji4)).f0));replace hx182_0:=cf hn182_1 hx182_0 1 (.int .i64 ((rd_T73 l0 (ji4)).f1));replace hx182_1:=cf hn182_1 hx182_1 1 (.int .i64 ((rd_T73 l0 (ji4)).f1));clear hn182_0;clear hn182_1;replace p182:=eq_true p182;replace q182:=eq_true q182) | ((with_reducible refine gate_dst (N:=7) rfl ?_);refine bx (cs:=#[.int .i64 0,.int .i64 0]) (t:=73) ?_;intro gb183 hg w16 hbox hb;have z0_:=mz hb (g:=gb181) (o:=.cells #[.int .i64 ((rd_T73 l0 (ji4)).f0),.int .i64 ((rd_T73 l0 (ji4)).f1)] 73 (0,0)) (by refine bP (cs:=#[.int .i64 ((rd_T73 l0 (ji4)).f0),.int .i64 0]) 1 ?_;refine bP (cs:=#[.int .i64 0,.int .i64 0]) 0 ?_;exact bk BK181);have n0_:=kc z0_ hb;have n1_:=sb hb;have n2_:=Aside0.mk (hbox);have n3_:=zb hg;have n4_:=zb hg;have n5_:=nm z0_ hg;have n6_:=nn z0_ hg;clear BK181;clear HB;have BK181:=n0_;have HB:=n1_;have BK183:=n2_;have GW183:=n3_;have GE183:=n4_;have NB181_183:=n5_;have NB183_181:=n6_;clear z0_ n0_ n1_ n2_ n3_ n4_ n5_ n6_;clear hb hbox hg;have hnb17:=NB183_181.out;have hnc17:=NB181_183.out;have hcz18_0:=ck BK183 0;have hcz18_1:=ck BK183 1;have hfz18_0:=blk_frozen BK183.out 0;have hfz18_1:=blk_frozen BK183.out 1;have p184 : 0 ≤ ((ji9) : Int):=da;have q184 : (ji9) < (l0.length : Int):=da;obtain ⟨ad184,e184,hx184_0,hx184_1⟩:=at_T73 HR0.out (ji9) p184 q184;obtain rfl : ad180 = ad184:=(by injection e184);have hn184_0 : ad180.block ≠ gb183:=nw hx184_0 GW183;have hn184_1 : ad180.block ≠ gb183:=nw hx184_0 GW183;replace hx184_0:=cq HB.out hx184_0;replace hx184_1:=cq HB.out hx184_1;replace hx184_0:=cf hn184_0 hx184_0 0 (.int .i64 ((rd_T73 l0 a1).f0));replace hx184_1:=cf hn184_0 hx184_1 0 (.int .i64 ((rd_T73 l0 a1).f0));replace hx184_0:=cf hn184_1 hx184_0 1 (.int .i64 ((rd_T73 l0 a1).f1));replace hx184_1:=cf hn184_1 hx184_1 1 (.int .i64 ((rd_T73 l0 a1).f1));clear hn184_0;clear hn184_1;replace p184:=eq_true p184;replace q184:=eq_true q184) | ((with_reducible refine gate_dst (N:=8) rfl ?_);refine bx (cs:=#[.int .i64 0,.int .i64 0]) (t:=73) ?_;intro gb185 hg w19 hbox hb;have z0_:=mz hb (g:=gb181) (o:=.cells #[.int .i64 ((rd_T73 l0 (ji4)).f0),.int .i64 ((rd_T73 l0 (ji4)).f1)] 73 (0,0)) (by refine bF NB181_183.out ?_;refine bF NB181_183.out ?_;exact bk BK181);have n0_:=kc z0_ hb;have z1_:=mz hb (g:=gb183) (o:=.cells #[.int .i64 ((rd_T73 l0 a1).f0),.int .i64 ((rd_T73 l0 a1).f1)] 73 (0,0)) (by refine bP (cs:=#[.int .i64 ((rd_T73 l0 a1).f0),.int .i64 0]) 1 ?_;refine bP (cs:=#[.int .i64 0,.int .i64 0]) 0 ?_;exact bk BK183);have n1_:=kc z1_ hb;have n2_:=sb hb;have n3_:=Aside0.mk (hbox);have n4_:=zb hg;have n5_:=zb hg;have n6_:=nm z0_ hg;have n7_:=nn z0_ hg;have n8_:=nm z1_ hg;have n9_:=nn z1_ hg;clear BK181;clear BK183;clear HB;have BK181:=n0_;have BK183:=n1_;have HB:=n2_;have BK185:=n3_;have GW185:=n4_;have GE185:=n5_;have NB181_185:=n6_;have NB185_181:=n7_;have NB183_185:=n8_;have NB185_183:=n9_;clear z0_ z1_ n0_ n1_ n2_ n3_ n4_ n5_ n6_ n7_ n8_ n9_;clear hb hbox hg;have hnb20:=NB185_181.out;have hnc20:=NB181_185.out;have hnb21:=NB185_183.out;have hnc21:=NB183_185.out;have hcz22_0:=ck BK185 0;have hcz22_1:=ck BK185 1;have hfz22_0:=blk_frozen BK185.out 0;have hfz22_1:=blk_frozen BK185.out 1;have hcz23_0:=ck BK181 0;have hcz23_1:=ck BK181 1;have hfz23_0:=blk_frozen BK181.out 0;have hfz23_1:=blk_frozen BK181.out 1;have hcz24_0:=ck BK183 0;have hcz24_1:=ck BK183 1;have hfz24_0:=blk_frozen BK183.out 0;have hfz24_1:=blk_frozen BK183.out 1) | ((with_reducible refine gate_callee (f:=103) rfl ?_);refine goesL_ (some 35) rfl rfl Try.func103 (by kernel_rfl) rfl #[.agg #[.int .i64 ((rd_T73 l0 (ji4)).f0),.int .i64 ((rd_T73 l0 (ji4)).f1)],.agg #[.int .i64 ((rd_T73 l0 a1).f0),.int .i64 ((rd_T73 l0 a1).f1)],.agg #[.int .i64 ((rd_T73 l0 (ji9)).f0),.int .i64 ((rd_T73 l0 (ji9)).f1)]] rfl (by (try simp only [mT,mC,mN]);first | done | (simp only [hji4,hji9];rfl) | rfl | (simp only [lD,lT];rfl)) ?_;(with_reducible refine (spec_l02Side.calls ((rd_T73 l0 (ji4)).f0) ((rd_T73 l0 (ji4)).f1) ((rd_T73 l0 a1).f0) ((rd_T73 l0 a1).f1) ((rd_T73 l0 (ji9)).f0) ((rd_T73 l0 (ji9)).f1) t186 _ A12.out).mono ?_);rintro e w25 ⟨rfl,hb⟩;refine ⟨_,rfl,?_⟩;replace BK181:=Aside0.mk (blk_below (g:=gb181) (o:=.cells #[.int .i64 ((rd_T73 l0 (ji4)).f0),.int .i64 ((rd_T73 l0 (ji4)).f1)] 73 (0,0)) (by refine bF NB181_185.out ?_;refine bF NB181_185.out ?_;exact bk BK181) hb);replace BK183:=Aside0.mk (blk_below (g:=gb183) (o:=.cells #[.int .i64 ((rd_T73 l0 a1).f0),.int .i64 ((rd_T73 l0 a1).f1)] 73 (0,0)) (by refine bF NB183_185.out ?_;refine bF NB183_185.out ?_;exact bk BK183) hb);replace BK185:=Aside0.mk (blk_below (g:=gb185) (o:=.cells #[.int .i64 ((rd_T73 l0 (ji9)).f0),.int .i64 ((rd_T73 l0 (ji9)).f1)] 73 (0,0)) (by refine bP (cs:=#[.int .i64 ((rd_T73 l0 (ji9)).f0),.int .i64 0]) 1 ?_;refine bP (cs:=#[.int .i64 0,.int .i64 0]) 0 ?_;exact bk BK185) hb);replace HB:=sb hb;(try clear hb);(try clear hb2);(try clear hk);(try clear hi)))
         go_loopg [9] k (fun kq v9 w' => ∃ (x9_1 : Int),v9 = .int .i64 x9_1 ∧ Aside0 (spec_l04Ear.l0 kq l0 a1 (l0.length : Int) x9_1 ((rd_T73 l0 (ji4)).f0) ((rd_T73 l0 (ji4)).f1) ((rd_T73 l0 a1).f0) ((rd_T73 l0 a1).f1) ((rd_T73 l0 (ji9)).f0) ((rd_T73 l0 (ji9)).f1) = some r) ∧ Aside0 (kq ≤ k) ∧ Aside0 (w'.heap[gb181]? = some (.cells #[.int .i64 ((rd_T73 l0 (ji4)).f0),.int .i64 ((rd_T73 l0 (ji4)).f1)] 73 (0,0))) ∧ Aside0 (w'.heap[gb183]? = some (.cells #[.int .i64 ((rd_T73 l0 a1).f0),.int .i64 ((rd_T73 l0 a1).f1)] 73 (0,0))) ∧ Aside0 (w'.heap[gb185]? = some (.cells #[.int .i64 ((rd_T73 l0 (ji9)).f0),.int .i64 ((rd_T73 l0 (ji9)).f1)] 73 (0,0))) ∧ Aside0 (Below w.heap.size w w'))
         case atStart => exact ⟨(0),(by first | rfl | (simp;done) | (simp [*];done)),H',⟨Nat.le_refl _⟩,⟨by exact bk BK181⟩,⟨by exact bk BK183⟩,⟨by exact bk BK185⟩,⟨ib⟩⟩
         case round =>
          clear H'
          try clear c1
          try clear p1
          try clear q1
          try clear hx1
          try clear c2
          try clear p2
          try clear c3
          try clear c3b0
          try clear c3b1
          try clear c3b2
          try clear c5
          try clear c5b0
          try clear c6
          try clear c6b0
          try clear p6
          try clear c7
          try clear c7b0
          try clear c8
          try clear c8b0
          try clear c10
          try clear c10b0
          try clear c11
          try clear c11b0
          try clear c13
          try clear c13b0
          try clear c13b1
          try clear c17
          try clear p18
          try clear q18
          try clear hx18
          try clear c20
          try clear c21
          try clear hcz15_0
          try clear hcz15_1
          try clear hcz18_0
          try clear hcz18_1
          try clear hcz22_0
          try clear hcz22_1
          try clear hcz23_0
          try clear hcz23_1
          try clear hcz24_0
          try clear hcz24_1
          try clear hfz15_0
          try clear hfz15_1
          try clear hfz18_0
          try clear hfz18_1
          try clear hfz22_0
          try clear hfz22_1
          try clear hfz23_0
          try clear hfz23_1
          try clear hfz24_0
          try clear hfz24_1
          try clear hx180_0
          try clear hx180_1
          try clear hx182_0
          try clear hx182_1
          try clear hx184_0
          try clear hx184_1
          try clear p180
          try clear p182
          try clear p184
          try clear q180
          try clear q182
          try clear q184
          obtain ⟨x9_1,rfl,HA,HK1,BK181,BK183,BK185,HB⟩:=hrel
          cases gk with
          | zero => exact absurd HA.out (by simp [spec_l04Ear.l0])
          | succ k1 =>
           have H:=HA.out
           clear HA
           simp only [spec_l04Ear.l0] at H
           by_cases c26 : x9_1 < (l0.length : Int)
           ·rw [if_pos c26] at H
            have c26b0 : decide (x9_1 < (l0.length : Int)) = true:=decide_eq_true c26
            clear c26
            by_cases c27 : x9_1 = a1
            ·rw [if_pos c27] at H
             have c27b0 : (x9_1 == a1) = true:=beq_iff_eq.mpr c27
             have c27b1 : (x9_1 != a1) = false:=bne_eq_false_iff_eq.mpr c27
             clear c27
             have H':=Aside0.mk H
             clear H
             try go_wp2
             replace BK181:=Aside0.mk (blk_drew BK181.out)
             replace BK183:=Aside0.mk (blk_drew BK183.out)
             replace BK185:=Aside0.mk (blk_drew BK185.out)
             replace HB:=Aside0.mk (below_drew1 HB.out)
             refine start_ (n:=31) (S:=fun w' => True) (ds:=[]) #[fF,fF,fF,fF,fF,fF,fF,fF,fF,fF,fF,fF,fF,fF,fF,fF,fF,fF,fF,fF,fF,fF,fF,fF,fF,fF,fF,fF,fF,fF,fF] (by kernel_rfl) rfl rfl trivial (fun hHeld => ?_);refine with_tabW spec_l04Ear.tab10 spec_l04Ear.bits10 (fun HT_ HW_ => ?_)
             generalize wr.drew = w28 at BK181 BK183 BK185 HB hHeld ⊢
             refine pu 0 42 HT_ ?_
             refine pu 1 43 HT_ ?_
             refine pu 2 44 HT_ ?_
             refine pu 3 45 HT_ ?_
             refine pd 4 46 HT_ ?_
             refine pd 5 47 HT_ ?_
             refine pd 6 48 HT_ ?_
             refine pd 7 49 HT_ ?_
             refine pd 8 50 HT_ ?_
             refine pd 9 51 HT_ ?_
             refine pd 10 52 HT_ ?_
             refine pd 11 53 HT_ ?_
             refine pu 12 54 HT_ ?_
             refine pu 13 55 HT_ ?_
             refine pd 14 56 HT_ ?_
             refine pd 15 57 HT_ ?_
             refine pd 16 58 HT_ ?_
             refine pd 17 59 HT_ ?_
             refine pd 18 60 HT_ ?_
             refine pd 19 61 HT_ ?_
             refine pu 20 62 HT_ ?_
             refine pu 21 63 HT_ ?_
             refine pd 22 64 HT_ ?_
             refine pd 23 65 HT_ ?_
             refine pd 24 66 HT_ ?_
             refine pd 25 67 HT_ ?_
             refine pd 26 68 HT_ ?_
             refine pd 27 69 HT_ ?_
             refine pd 28 70 HT_ ?_
             refine pd 29 71 HT_ ?_
             refine pu 30 72 HT_ ?_
             refine done_ (done_of HT_.out (by kernel_rfl)) ?_
             try go_wp2
             go_roundg k1
             case measure => have:=HK1.out;omega
             case rel => exact ⟨(wrap64 (x9_1 + 1)),(by first | rfl | (simp;done) | (simp [*];done)),H',⟨by have:=HK1.out;omega⟩,⟨by exact bk BK181⟩,⟨by exact bk BK183⟩,⟨by exact bk BK185⟩,⟨ib⟩⟩
            ·rw [if_neg c27] at H
             have c27b0 : (x9_1 == a1) = false:=beq_eq_false_iff_ne.mpr c27
             have c27b1 : (x9_1 != a1) = true:=bne_iff_ne.mpr c27
             by_cases c29 : (l0.length : Int) = 0
             ·rw [if_pos c29] at H
              exact absurd H (by simp)
             ·rw [if_neg c29] at H
              have c29b0 : ((l0.length : Int) == 0) = false:=beq_eq_false_iff_ne.mpr c29
              have c29b1 : ((l0.length : Int) != 0) = true:=bne_iff_ne.mpr c29
              have c29b2 : ¬ (l0 = []):=fun h_ => c29 (by rw [h_];rfl)
              by_cases c30 : x9_1 = (Int.tmod (wrap64 ((wrap64 (a1 + (l0.length : Int))) - 1)) (l0.length : Int))
              ·rw [if_pos c30] at H
               have c30b0 : (x9_1 == (Int.tmod (wrap64 ((wrap64 (a1 + (l0.length : Int))) - 1)) (l0.length : Int))) = true:=beq_iff_eq.mpr c30
               rw [hji4] at c30b0
               have c30b1 : (x9_1 != (Int.tmod (wrap64 ((wrap64 (a1 + (l0.length : Int))) - 1)) (l0.length : Int))) = false:=bne_eq_false_iff_eq.mpr c30
               rw [hji4] at c30b1
               clear c30
               have H':=Aside0.mk H
               clear H
               try go_wp2
               replace BK181:=Aside0.mk (blk_drew BK181.out)
               replace BK183:=Aside0.mk (blk_drew BK183.out)
               replace BK185:=Aside0.mk (blk_drew BK185.out)
               replace HB:=Aside0.mk (below_drew1 HB.out)
               refine start_ (n:=31) (S:=fun w' => True) (ds:=[]) #[fF,fF,fF,fF,fF,fF,fF,fF,fF,fF,fF,fF,fF,fF,fF,fF,fF,fF,fF,fF,fF,fF,fF,fF,fF,fF,fF,fF,fF,fF,fF] (by kernel_rfl) rfl rfl trivial (fun hHeld => ?_);refine with_tabW spec_l04Ear.tab10 spec_l04Ear.bits10 (fun HT_ HW_ => ?_)
               generalize wr.drew = w31 at BK181 BK183 BK185 HB hHeld ⊢
               refine pu 0 42 HT_ ?_
               refine pu 1 43 HT_ ?_
               refine pu 2 44 HT_ ?_
               refine pu 3 45 HT_ ?_
               refine pu 4 46 HT_ ?_
               refine pu 5 47 HT_ ?_
               refine pu 6 48 HT_ ?_
               refine pu 7 49 HT_ ?_
               refine pu 8 50 HT_ ?_
               refine pu 9 51 HT_ ?_
               refine pu 10 52 HT_ ?_
               refine pu 11 53 HT_ ?_
               refine pu 12 54 HT_ ?_
               refine pu 13 55 HT_ ?_
               refine pd 14 56 HT_ ?_
               refine pd 15 57 HT_ ?_
               refine pd 16 58 HT_ ?_
               refine pd 17 59 HT_ ?_
               refine pd 18 60 HT_ ?_
               refine pd 19 61 HT_ ?_
               refine pu 20 62 HT_ ?_
               refine pu 21 63 HT_ ?_
               refine pd 22 64 HT_ ?_
               refine pd 23 65 HT_ ?_
               refine pd 24 66 HT_ ?_
               refine pd 25 67 HT_ ?_
               refine pd 26 68 HT_ ?_
               refine pd 27 69 HT_ ?_
               refine pd 28 70 HT_ ?_
               refine pd 29 71 HT_ ?_
               refine pu 30 72 HT_ ?_
               refine done_ (done_of HT_.out (by kernel_rfl)) ?_
               try go_wp2
               go_roundg k1
               case measure => have:=HK1.out;omega
               case rel => exact ⟨(wrap64 (x9_1 + 1)),(by first | rfl | (simp;done) | (simp [*];done)),H',⟨by have:=HK1.out;omega⟩,⟨by exact bk BK181⟩,⟨by exact bk BK183⟩,⟨by exact bk BK185⟩,⟨ib⟩⟩
              ·rw [if_neg c30] at H
               have c30b0 : (x9_1 == (Int.tmod (wrap64 ((wrap64 (a1 + (l0.length : Int))) - 1)) (l0.length : Int))) = false:=beq_eq_false_iff_ne.mpr c30
               rw [hji4] at c30b0
               have c30b1 : (x9_1 != (Int.tmod (wrap64 ((wrap64 (a1 + (l0.length : Int))) - 1)) (l0.length : Int))) = true:=bne_iff_ne.mpr c30
               rw [hji4] at c30b1
               by_cases c32 : x9_1 = (Int.tmod (wrap64 (a1 + 1)) (l0.length : Int))
               ·rw [if_pos c32] at H
                have c32b0 : (x9_1 == (Int.tmod (wrap64 (a1 + 1)) (l0.length : Int))) = true:=beq_iff_eq.mpr c32
                rw [hji9] at c32b0
                have c32b1 : (x9_1 != (Int.tmod (wrap64 (a1 + 1)) (l0.length : Int))) = false:=bne_eq_false_iff_eq.mpr c32
                rw [hji9] at c32b1
                clear c32
                have H':=Aside0.mk H
                clear H
                try go_wp2
                replace BK181:=Aside0.mk (blk_drew BK181.out)
                replace BK183:=Aside0.mk (blk_drew BK183.out)
                replace BK185:=Aside0.mk (blk_drew BK185.out)
                replace HB:=Aside0.mk (below_drew1 HB.out)
                refine start_ (n:=31) (S:=fun w' => True) (ds:=[]) #[fF,fF,fF,fF,fF,fF,fF,fF,fF,fF,fF,fF,fF,fF,fF,fF,fF,fF,fF,fF,fF,fF,fF,fF,fF,fF,fF,fF,fF,fF,fF] (by kernel_rfl) rfl rfl trivial (fun hHeld => ?_);refine with_tabW spec_l04Ear.tab10 spec_l04Ear.bits10 (fun HT_ HW_ => ?_)
                generalize wr.drew = w33 at BK181 BK183 BK185 HB hHeld ⊢
                refine pu 0 42 HT_ ?_
                refine pu 1 43 HT_ ?_
                refine pu 2 44 HT_ ?_
                refine pu 3 45 HT_ ?_
                refine pu 4 46 HT_ ?_
                refine pu 5 47 HT_ ?_
                refine pu 6 48 HT_ ?_
                refine pu 7 49 HT_ ?_
                refine pu 8 50 HT_ ?_
                refine pu 9 51 HT_ ?_
                refine pu 10 52 HT_ ?_
                refine pu 11 53 HT_ ?_
                refine pu 12 54 HT_ ?_
                refine pu 13 55 HT_ ?_
                refine pu 14 56 HT_ ?_
                refine pu 15 57 HT_ ?_
                refine pu 16 58 HT_ ?_
                refine pu 17 59 HT_ ?_
                refine pu 18 60 HT_ ?_
                refine pu 19 61 HT_ ?_
                refine pu 20 62 HT_ ?_
                refine pu 21 63 HT_ ?_
                refine pd 22 64 HT_ ?_
                refine pd 23 65 HT_ ?_
                refine pd 24 66 HT_ ?_
                refine pd 25 67 HT_ ?_
                refine pd 26 68 HT_ ?_
                refine pd 27 69 HT_ ?_
                refine pd 28 70 HT_ ?_
                refine pd 29 71 HT_ ?_
                refine pu 30 72 HT_ ?_
                refine done_ (done_of HT_.out (by kernel_rfl)) ?_
                try go_wp2
                go_roundg k1
                case measure => have:=HK1.out;omega
                case rel => exact ⟨(wrap64 (x9_1 + 1)),(by first | rfl | (simp;done) | (simp [*];done)),H',⟨by have:=HK1.out;omega⟩,⟨by exact bk BK181⟩,⟨by exact bk BK183⟩,⟨by exact bk BK185⟩,⟨ib⟩⟩
               ·rw [if_neg c32] at H
                have c32b0 : (x9_1 == (Int.tmod (wrap64 (a1 + 1)) (l0.length : Int))) = false:=beq_eq_false_iff_ne.mpr c32
                rw [hji9] at c32b0
                have c32b1 : (x9_1 != (Int.tmod (wrap64 (a1 + 1)) (l0.length : Int))) = true:=bne_iff_ne.mpr c32
                rw [hji9] at c32b1
                by_cases c34 : 0 ≤ x9_1
                ·rw [if_pos c34] at H
                 have c34b0 : decide (0 ≤ x9_1) = true:=decide_eq_true c34
                 clear c34
                 by_cases c35 : x9_1 < (l0.length : Int)
                 ·rw [if_pos c35] at H
                  have c35b0 : decide (x9_1 < (l0.length : Int)) = true:=decide_eq_true c35
                  clear c35
                  replace H:=Option.bind_eq_some_iff.mp H
                  obtain ⟨t188,A360,H⟩:=H
                  replace H : (if t188 = true then (some false) else (spec_l04Ear.l0 k1 l0 a1 (l0.length : Int) (wrap64 (x9_1 + 1)) ((rd_T73 l0 (ji4)).f0) ((rd_T73 l0 (ji4)).f1) ((rd_T73 l0 a1).f0) ((rd_T73 l0 a1).f1) ((rd_T73 l0 (ji9)).f0) ((rd_T73 l0 (ji9)).f1))) = some r:=H
                  have A36:=Aside0.mk A360
                  clear A360
                  by_cases c37 : t188 = true
                  ·subst c37
                   have H1 : (some false) = some r:=by rw [if_pos rfl] at H;exact H
                   clear H
                   have H:=H1
                   clear H1
                   obtain rfl:=Option.some.inj H
                   try go_wp2
                   replace BK181:=Aside0.mk (blk_drew BK181.out)
                   replace BK183:=Aside0.mk (blk_drew BK183.out)
                   replace BK185:=Aside0.mk (blk_drew BK185.out)
                   replace HB:=Aside0.mk (below_drew1 HB.out)
                   have p187 : 0 ≤ (x9_1 : Int):=da
                   have q187 : x9_1 < (l0.length : Int):=da
                   obtain ⟨ad187,e187,hx187_0,hx187_1⟩:=at_T73 HR0.out x9_1 p187 q187
                   have hw187_1:=hx187_1
                   have hw187_0:=hx187_0
                   obtain rfl : ad180 = ad187:=(by injection e187)
                   replace hx187_0:=cq HB.out hx187_0
                   replace hx187_1:=cq HB.out hx187_1
                   replace p187:=eq_true p187
                   replace q187:=eq_true q187
                   refine start_ (n:=31) (S:=fun w' => w'.cell? ⟨gb181,0,none⟩ = some (.int .i64 ((rd_T73 l0 (ji4)).f0)) ∧ w'.cell? ⟨gb181,1,none⟩ = some (.int .i64 ((rd_T73 l0 (ji4)).f1)) ∧ w'.cell? ⟨gb183,0,none⟩ = some (.int .i64 ((rd_T73 l0 a1).f0)) ∧ w'.cell? ⟨gb183,1,none⟩ = some (.int .i64 ((rd_T73 l0 a1).f1)) ∧ w'.cell? ⟨gb185,0,none⟩ = some (.int .i64 ((rd_T73 l0 (ji9)).f0)) ∧ w'.cell? ⟨gb185,1,none⟩ = some (.int .i64 ((rd_T73 l0 (ji9)).f1)) ∧ w'.cell? (ad180.add ((x9_1).toNat * 2)) = some (.int .i64 ((rd_T73 l0 x9_1).f0)) ∧ w'.cell? ⟨(ad180.add ((x9_1).toNat * 2)).block,(ad180.add ((x9_1).toNat * 2)).off + 1,none⟩ = some (.int .i64 ((rd_T73 l0 x9_1).f1))) (ds:=[]) #[fF,fF,fF,fF,fF,fF,fF,fF,fF,fF,fF,fF,fF,fF,fF,fF,fF,fF,fF,fF,fF,fF,fF,fF,fF,fF,fF,fF,fF,fF,fF] (by kernel_rfl) rfl rfl ⟨(blk_cell BK181.out 0).trans rfl,(blk_cell BK181.out 1).trans rfl,(blk_cell BK183.out 0).trans rfl,(blk_cell BK183.out 1).trans rfl,(blk_cell BK185.out 0).trans rfl,(blk_cell BK185.out 1).trans rfl,cq HB.out hw187_0,cq HB.out hw187_1⟩ (fun hHeld => ?_);refine with_tabW spec_l04Ear.tab10 spec_l04Ear.bits10 (fun HT_ HW_ => ?_)
                   generalize wr.drew = w38 at BK181 BK183 BK185 HB hx187_0 hx187_1 hHeld ⊢
                   refine pu 0 42 HT_ ?_
                   refine pu 1 43 HT_ ?_
                   refine pu 2 44 HT_ ?_
                   refine pu 3 45 HT_ ?_
                   refine pu 4 46 HT_ ?_
                   refine pu 5 47 HT_ ?_
                   refine pu 6 48 HT_ ?_
                   refine pu 7 49 HT_ ?_
                   refine pu 8 50 HT_ ?_
                   refine pu 9 51 HT_ ?_
                   refine pu 10 52 HT_ ?_
                   refine pu 11 53 HT_ ?_
                   refine pu 12 54 HT_ ?_
                   refine pu 13 55 HT_ ?_
                   refine pu 14 56 HT_ ?_
                   refine pu 15 57 HT_ ?_
                   refine pu 16 58 HT_ ?_
                   refine pu 17 59 HT_ ?_
                   refine pu 18 60 HT_ ?_
                   refine pu 19 61 HT_ ?_
                   refine pu 20 62 HT_ ?_
                   refine pu 21 63 HT_ ?_
                   refine pu 25 67 HT_ ?_
                   refine pu 26 68 HT_ ?_
                   refine pu 27 69 HT_ ?_
                   refine tk 22 64 HT_ HW_ hHeld ?_
                   refine tk 23 65 HT_ HW_ hHeld ?_
                   refine tk 24 66 HT_ HW_ hHeld ?_
                   refine tk 28 70 HT_ HW_ hHeld ?_
                   refine on 29 71 HT_ (fun K hK => ?_)
                   refine goes_ Try.func149 (by kernel_rfl) rfl #[.agg #[.int .i64 ((rd_T73 l0 (ji4)).f0),.int .i64 ((rd_T73 l0 (ji4)).f1)],.agg #[.int .i64 ((rd_T73 l0 a1).f0),.int .i64 ((rd_T73 l0 a1).f1)],.agg #[.int .i64 ((rd_T73 l0 (ji9)).f0),.int .i64 ((rd_T73 l0 (ji9)).f1)],.agg #[.int .i64 ((rd_T73 l0 x9_1).f0),.int .i64 ((rd_T73 l0 x9_1).f1)]] (by rfl) rfl rfl (by (try simp only [mT,mC,mN]);first | done | (simp only [hji4,hji9];rfl) | rfl | (simp only [lD,lT];rfl)) ?_
                   with_reducible refine (spec_l04In.calls ((rd_T73 l0 (ji4)).f0) ((rd_T73 l0 (ji4)).f1) ((rd_T73 l0 a1).f0) ((rd_T73 l0 a1).f1) ((rd_T73 l0 (ji9)).f0) ((rd_T73 l0 (ji9)).f1) ((rd_T73 l0 x9_1).f0) ((rd_T73 l0 x9_1).f1) true _ A36.out).mono ?_
                   rintro e w39 ⟨rfl,hb⟩
                   refine ⟨_,rfl,?_⟩
                   replace BK181:=kb BK181 hb
                   replace BK183:=kb BK183 hb
                   replace BK185:=kb BK185 hb
                   replace HB:=sb hb
                   (try clear hb)
                   (try clear hb2)
                   (try clear hk)
                   (try clear hi)
                   refine hK.out _ _ ⟨(blk_cell BK181.out 0).trans rfl,(blk_cell BK181.out 1).trans rfl,(blk_cell BK183.out 0).trans rfl,(blk_cell BK183.out 1).trans rfl,(blk_cell BK185.out 0).trans rfl,(blk_cell BK185.out 1).trans rfl,cq HB.out hw187_0,cq HB.out hw187_1⟩ (fun hHeld => ?_)
                   clear hK K
                   refine norm_ (a':=?_) ?_ ?_
                   rotate_left
                   ·show Act.put _ (some 71) _ = _
                    simp only [Act.put,List.setIfInBounds_toArray,List.set_cons_zero,List.set_cons_succ,i64_w,i32_w]
                    rfl
                   refine pu 30 72 HT_ ?_
                   refine done_ (done_of HT_.out (by kernel_rfl)) ?_
                   try go_wp2
                   go_ret
                   exact ⟨by first | rfl | (simp [errW_none,errW_some] <;> rfl) | (simp only [← hji4,← hji9];first | rfl | (simp [errW_none,errW_some] <;> rfl)) | (simp [*,errW_none,errW_some] <;> rfl),ib⟩
                  ·replace c37:=Bool.eq_false_iff.mpr c37
                   subst c37
                   have H1 : (spec_l04Ear.l0 k1 l0 a1 (l0.length : Int) (wrap64 (x9_1 + 1)) ((rd_T73 l0 (ji4)).f0) ((rd_T73 l0 (ji4)).f1) ((rd_T73 l0 a1).f0) ((rd_T73 l0 a1).f1) ((rd_T73 l0 (ji9)).f0) ((rd_T73 l0 (ji9)).f1)) = some r:=by rw [if_neg (show ¬ (false = true) by decide)] at H;exact H
                   clear H
                   have H:=H1
                   clear H1
                   have H':=Aside0.mk H
                   clear H
                   try go_wp2
                   replace BK181:=Aside0.mk (blk_drew BK181.out)
                   replace BK183:=Aside0.mk (blk_drew BK183.out)
                   replace BK185:=Aside0.mk (blk_drew BK185.out)
                   replace HB:=Aside0.mk (below_drew1 HB.out)
                   have p187 : 0 ≤ (x9_1 : Int):=da
                   have q187 : x9_1 < (l0.length : Int):=da
                   obtain ⟨ad187,e187,hx187_0,hx187_1⟩:=at_T73 HR0.out x9_1 p187 q187
                   have hw187_1:=hx187_1
                   have hw187_0:=hx187_0
                   obtain rfl : ad180 = ad187:=(by injection e187)
                   replace hx187_0:=cq HB.out hx187_0
                   replace hx187_1:=cq HB.out hx187_1
                   replace p187:=eq_true p187
                   replace q187:=eq_true q187
                   refine start_ (n:=31) (S:=fun w' => w'.cell? ⟨gb181,0,none⟩ = some (.int .i64 ((rd_T73 l0 (ji4)).f0)) ∧ w'.cell? ⟨gb181,1,none⟩ = some (.int .i64 ((rd_T73 l0 (ji4)).f1)) ∧ w'.cell? ⟨gb183,0,none⟩ = some (.int .i64 ((rd_T73 l0 a1).f0)) ∧ w'.cell? ⟨gb183,1,none⟩ = some (.int .i64 ((rd_T73 l0 a1).f1)) ∧ w'.cell? ⟨gb185,0,none⟩ = some (.int .i64 ((rd_T73 l0 (ji9)).f0)) ∧ w'.cell? ⟨gb185,1,none⟩ = some (.int .i64 ((rd_T73 l0 (ji9)).f1)) ∧ w'.cell? (ad180.add ((x9_1).toNat * 2)) = some (.int .i64 ((rd_T73 l0 x9_1).f0)) ∧ w'.cell? ⟨(ad180.add ((x9_1).toNat * 2)).block,(ad180.add ((x9_1).toNat * 2)).off + 1,none⟩ = some (.int .i64 ((rd_T73 l0 x9_1).f1))) (ds:=[]) #[fF,fF,fF,fF,fF,fF,fF,fF,fF,fF,fF,fF,fF,fF,fF,fF,fF,fF,fF,fF,fF,fF,fF,fF,fF,fF,fF,fF,fF,fF,fF] (by kernel_rfl) rfl rfl ⟨(blk_cell BK181.out 0).trans rfl,(blk_cell BK181.out 1).trans rfl,(blk_cell BK183.out 0).trans rfl,(blk_cell BK183.out 1).trans rfl,(blk_cell BK185.out 0).trans rfl,(blk_cell BK185.out 1).trans rfl,cq HB.out hw187_0,cq HB.out hw187_1⟩ (fun hHeld => ?_);refine with_tabW spec_l04Ear.tab10 spec_l04Ear.bits10 (fun HT_ HW_ => ?_)
                   generalize wr.drew = w40 at BK181 BK183 BK185 HB hx187_0 hx187_1 hHeld ⊢
                   refine pu 0 42 HT_ ?_
                   refine pu 1 43 HT_ ?_
                   refine pu 2 44 HT_ ?_
                   refine pu 3 45 HT_ ?_
                   refine pu 4 46 HT_ ?_
                   refine pu 5 47 HT_ ?_
                   refine pu 6 48 HT_ ?_
                   refine pu 7 49 HT_ ?_
                   refine pu 8 50 HT_ ?_
                   refine pu 9 51 HT_ ?_
                   refine pu 10 52 HT_ ?_
                   refine pu 11 53 HT_ ?_
                   refine pu 12 54 HT_ ?_
                   refine pu 13 55 HT_ ?_
                   refine pu 14 56 HT_ ?_
                   refine pu 15 57 HT_ ?_
                   refine pu 16 58 HT_ ?_
                   refine pu 17 59 HT_ ?_
                   refine pu 18 60 HT_ ?_
                   refine pu 19 61 HT_ ?_
                   refine pu 20 62 HT_ ?_
                   refine pu 21 63 HT_ ?_
                   refine pu 25 67 HT_ ?_
                   refine pu 26 68 HT_ ?_
                   refine pu 27 69 HT_ ?_
                   refine tk 22 64 HT_ HW_ hHeld ?_
                   refine tk 23 65 HT_ HW_ hHeld ?_
                   refine tk 24 66 HT_ HW_ hHeld ?_
                   refine tk 28 70 HT_ HW_ hHeld ?_
                   refine on 29 71 HT_ (fun K hK => ?_)
                   refine goes_ Try.func149 (by kernel_rfl) rfl #[.agg #[.int .i64 ((rd_T73 l0 (ji4)).f0),.int .i64 ((rd_T73 l0 (ji4)).f1)],.agg #[.int .i64 ((rd_T73 l0 a1).f0),.int .i64 ((rd_T73 l0 a1).f1)],.agg #[.int .i64 ((rd_T73 l0 (ji9)).f0),.int .i64 ((rd_T73 l0 (ji9)).f1)],.agg #[.int .i64 ((rd_T73 l0 x9_1).f0),.int .i64 ((rd_T73 l0 x9_1).f1)]] (by rfl) rfl rfl (by (try simp only [mT,mC,mN]);first | done | (simp only [hji4,hji9];rfl) | rfl | (simp only [lD,lT];rfl)) ?_
                   with_reducible refine (spec_l04In.calls ((rd_T73 l0 (ji4)).f0) ((rd_T73 l0 (ji4)).f1) ((rd_T73 l0 a1).f0) ((rd_T73 l0 a1).f1) ((rd_T73 l0 (ji9)).f0) ((rd_T73 l0 (ji9)).f1) ((rd_T73 l0 x9_1).f0) ((rd_T73 l0 x9_1).f1) false _ A36.out).mono ?_
                   rintro e w41 ⟨rfl,hb⟩
                   refine ⟨_,rfl,?_⟩
                   replace BK181:=kb BK181 hb
                   replace BK183:=kb BK183 hb
                   replace BK185:=kb BK185 hb
                   replace HB:=sb hb
                   (try clear hb)
                   (try clear hb2)
                   (try clear hk)
                   (try clear hi)
                   refine hK.out _ _ ⟨(blk_cell BK181.out 0).trans rfl,(blk_cell BK181.out 1).trans rfl,(blk_cell BK183.out 0).trans rfl,(blk_cell BK183.out 1).trans rfl,(blk_cell BK185.out 0).trans rfl,(blk_cell BK185.out 1).trans rfl,cq HB.out hw187_0,cq HB.out hw187_1⟩ (fun hHeld => ?_)
                   clear hK K
                   refine norm_ (a':=?_) ?_ ?_
                   rotate_left
                   ·show Act.put _ (some 71) _ = _
                    simp only [Act.put,List.setIfInBounds_toArray,List.set_cons_zero,List.set_cons_succ,i64_w,i32_w]
                    rfl
                   refine pu 30 72 HT_ ?_
                   refine done_ (done_of HT_.out (by kernel_rfl)) ?_
                   try go_wp2
                   go_roundg k1
                   case measure => have:=HK1.out;omega
                   case rel => exact ⟨(wrap64 (x9_1 + 1)),(by first | rfl | (simp;done) | (simp [*];done)),H',⟨by have:=HK1.out;omega⟩,⟨by exact bk BK181⟩,⟨by exact bk BK183⟩,⟨by exact bk BK185⟩,⟨ib⟩⟩
                 ·first | (exfalso;have z_:=of_decide_eq_true c26b0;omega) | (rw [if_neg c35] at H;exact absurd H (by simp))
                ·rw [if_neg c34] at H
                 exact absurd H (by simp)
           ·rw [if_neg c26] at H
            have c26b0 : decide (x9_1 < (l0.length : Int)) = false:=decide_eq_false c26
            clear c26
            obtain rfl:=Option.some.inj H
            go_wp2
            go_ret
            exact ⟨by first | rfl | (simp [errW_none,errW_some] <;> rfl) | (simp only [← hji4,← hji9];first | rfl | (simp [errW_none,errW_some] <;> rfl)) | (simp [*,errW_none,errW_some] <;> rfl),ib⟩
        ·rw [if_neg c13] at H
         have c13b0 : (t186 == 1) = false:=beq_eq_false_iff_ne.mpr c13
         have c13b1 : (t186 != 1) = true:=bne_iff_ne.mpr c13
         obtain rfl:=Option.some.inj H
         have p180 : 0 ≤ ((ji4) : Int):=da
         have q180 : (ji4) < (l0.length : Int):=da
         obtain ⟨ad180,e180,hx180_0,hx180_1⟩:=at_T73 HR0.out (ji4) p180 q180
         cases e180
         replace p180:=eq_true p180
         replace q180:=eq_true q180
         go_enter Try.func109,Try.ntmps109
         go_wp2_with (first | ((with_reducible refine gate_dst (N:=6) rfl ?_);refine bx (cs:=#[.int .i64 0,.int .i64 0]) (t:=73) ?_;intro gb181 hg w42 hbox hb;have BK181:=Aside0.mk (hbox);have GW181:=zb hg;have GE181:=zb hg;replace HB:=sb hb;clear hb hbox hg;have hcz43_0:=ck BK181 0;have hcz43_1:=ck BK181 1;have hfz43_0:=blk_frozen BK181.out 0;have hfz43_1:=blk_frozen BK181.out 1;have p182 : 0 ≤ (a1 : Int):=da;have q182 : a1 < (l0.length : Int):=da;obtain ⟨ad182,e182,hx182_0,hx182_1⟩:=at_T73 HR0.out a1 p182 q182;obtain rfl : ad180 = ad182:=(by injection e182);have hn182_0 : ad180.block ≠ gb181:=nw hx182_0 GW181;have hn182_1 : ad180.block ≠ gb181:=nw hx182_0 GW181;replace hx182_0:=cq HB.out hx182_0;replace hx182_1:=cq HB.out hx182_1;replace hx182_0:=cf hn182_0 hx182_0 0 (.int .i64 ((rd_T73 l0 (ji4)).f0));replace hx182_1:=cf hn182_0 hx182_1 0 (.int .i64 ((rd_T73 l0 (ji4)).f0));replace hx182_0:=cf hn182_1 hx182_0 1 (.int .i64 ((rd_T73 l0 (ji4)).f1));replace hx182_1:=cf hn182_1 hx182_1 1 (.int .i64 ((rd_T73 l0 (ji4)).f1));clear hn182_0;clear hn182_1;replace p182:=eq_true p182;replace q182:=eq_true q182) | ((with_reducible refine gate_dst (N:=7) rfl ?_);refine bx (cs:=#[.int .i64 0,.int .i64 0]) (t:=73) ?_;intro gb183 hg w44 hbox hb;have z0_:=mz hb (g:=gb181) (o:=.cells #[.int .i64 ((rd_T73 l0 (ji4)).f0),.int .i64 ((rd_T73 l0 (ji4)).f1)] 73 (0,0)) (by refine bP (cs:=#[.int .i64 ((rd_T73 l0 (ji4)).f0),.int .i64 0]) 1 ?_;refine bP (cs:=#[.int .i64 0,.int .i64 0]) 0 ?_;exact bk BK181);have n0_:=kc z0_ hb;have n1_:=sb hb;have n2_:=Aside0.mk (hbox);have n3_:=zb hg;have n4_:=zb hg;have n5_:=nm z0_ hg;have n6_:=nn z0_ hg;clear BK181;clear HB;have BK181:=n0_;have HB:=n1_;have BK183:=n2_;have GW183:=n3_;have GE183:=n4_;have NB181_183:=n5_;have NB183_181:=n6_;clear z0_ n0_ n1_ n2_ n3_ n4_ n5_ n6_;clear hb hbox hg;have hnb45:=NB183_181.out;have hnc45:=NB181_183.out;have hcz46_0:=ck BK183 0;have hcz46_1:=ck BK183 1;have hfz46_0:=blk_frozen BK183.out 0;have hfz46_1:=blk_frozen BK183.out 1;have p184 : 0 ≤ ((ji9) : Int):=da;have q184 : (ji9) < (l0.length : Int):=da;obtain ⟨ad184,e184,hx184_0,hx184_1⟩:=at_T73 HR0.out (ji9) p184 q184;obtain rfl : ad180 = ad184:=(by injection e184);have hn184_0 : ad180.block ≠ gb183:=nw hx184_0 GW183;have hn184_1 : ad180.block ≠ gb183:=nw hx184_0 GW183;replace hx184_0:=cq HB.out hx184_0;replace hx184_1:=cq HB.out hx184_1;replace hx184_0:=cf hn184_0 hx184_0 0 (.int .i64 ((rd_T73 l0 a1).f0));replace hx184_1:=cf hn184_0 hx184_1 0 (.int .i64 ((rd_T73 l0 a1).f0));replace hx184_0:=cf hn184_1 hx184_0 1 (.int .i64 ((rd_T73 l0 a1).f1));replace hx184_1:=cf hn184_1 hx184_1 1 (.int .i64 ((rd_T73 l0 a1).f1));clear hn184_0;clear hn184_1;replace p184:=eq_true p184;replace q184:=eq_true q184) | ((with_reducible refine gate_dst (N:=8) rfl ?_);refine bx (cs:=#[.int .i64 0,.int .i64 0]) (t:=73) ?_;intro gb185 hg w47 hbox hb;have z0_:=mz hb (g:=gb181) (o:=.cells #[.int .i64 ((rd_T73 l0 (ji4)).f0),.int .i64 ((rd_T73 l0 (ji4)).f1)] 73 (0,0)) (by refine bF NB181_183.out ?_;refine bF NB181_183.out ?_;exact bk BK181);have n0_:=kc z0_ hb;have z1_:=mz hb (g:=gb183) (o:=.cells #[.int .i64 ((rd_T73 l0 a1).f0),.int .i64 ((rd_T73 l0 a1).f1)] 73 (0,0)) (by refine bP (cs:=#[.int .i64 ((rd_T73 l0 a1).f0),.int .i64 0]) 1 ?_;refine bP (cs:=#[.int .i64 0,.int .i64 0]) 0 ?_;exact bk BK183);have n1_:=kc z1_ hb;have n2_:=sb hb;have n3_:=Aside0.mk (hbox);have n4_:=zb hg;have n5_:=zb hg;have n6_:=nm z0_ hg;have n7_:=nn z0_ hg;have n8_:=nm z1_ hg;have n9_:=nn z1_ hg;clear BK181;clear BK183;clear HB;have BK181:=n0_;have BK183:=n1_;have HB:=n2_;have BK185:=n3_;have GW185:=n4_;have GE185:=n5_;have NB181_185:=n6_;have NB185_181:=n7_;have NB183_185:=n8_;have NB185_183:=n9_;clear z0_ z1_ n0_ n1_ n2_ n3_ n4_ n5_ n6_ n7_ n8_ n9_;clear hb hbox hg;have hnb48:=NB185_181.out;have hnc48:=NB181_185.out;have hnb49:=NB185_183.out;have hnc49:=NB183_185.out;have hcz50_0:=ck BK185 0;have hcz50_1:=ck BK185 1;have hfz50_0:=blk_frozen BK185.out 0;have hfz50_1:=blk_frozen BK185.out 1;have hcz51_0:=ck BK181 0;have hcz51_1:=ck BK181 1;have hfz51_0:=blk_frozen BK181.out 0;have hfz51_1:=blk_frozen BK181.out 1;have hcz52_0:=ck BK183 0;have hcz52_1:=ck BK183 1;have hfz52_0:=blk_frozen BK183.out 0;have hfz52_1:=blk_frozen BK183.out 1) | ((with_reducible refine gate_callee (f:=103) rfl ?_);refine goesL_ (some 35) rfl rfl Try.func103 (by kernel_rfl) rfl #[.agg #[.int .i64 ((rd_T73 l0 (ji4)).f0),.int .i64 ((rd_T73 l0 (ji4)).f1)],.agg #[.int .i64 ((rd_T73 l0 a1).f0),.int .i64 ((rd_T73 l0 a1).f1)],.agg #[.int .i64 ((rd_T73 l0 (ji9)).f0),.int .i64 ((rd_T73 l0 (ji9)).f1)]] rfl (by (try simp only [mT,mC,mN]);first | done | (simp only [hji4,hji9];rfl) | rfl | (simp only [lD,lT];rfl)) ?_;(with_reducible refine (spec_l02Side.calls ((rd_T73 l0 (ji4)).f0) ((rd_T73 l0 (ji4)).f1) ((rd_T73 l0 a1).f0) ((rd_T73 l0 a1).f1) ((rd_T73 l0 (ji9)).f0) ((rd_T73 l0 (ji9)).f1) t186 _ A12.out).mono ?_);rintro e w53 ⟨rfl,hb⟩;refine ⟨_,rfl,?_⟩;replace BK181:=Aside0.mk (blk_below (g:=gb181) (o:=.cells #[.int .i64 ((rd_T73 l0 (ji4)).f0),.int .i64 ((rd_T73 l0 (ji4)).f1)] 73 (0,0)) (by refine bF NB181_185.out ?_;refine bF NB181_185.out ?_;exact bk BK181) hb);replace BK183:=Aside0.mk (blk_below (g:=gb183) (o:=.cells #[.int .i64 ((rd_T73 l0 a1).f0),.int .i64 ((rd_T73 l0 a1).f1)] 73 (0,0)) (by refine bF NB183_185.out ?_;refine bF NB183_185.out ?_;exact bk BK183) hb);replace BK185:=Aside0.mk (blk_below (g:=gb185) (o:=.cells #[.int .i64 ((rd_T73 l0 (ji9)).f0),.int .i64 ((rd_T73 l0 (ji9)).f1)] 73 (0,0)) (by refine bP (cs:=#[.int .i64 ((rd_T73 l0 (ji9)).f0),.int .i64 0]) 1 ?_;refine bP (cs:=#[.int .i64 0,.int .i64 0]) 0 ?_;exact bk BK185) hb);replace HB:=sb hb;(try clear hb);(try clear hb2);(try clear hk);(try clear hi)))
         go_ret
         exact ⟨by first | rfl | (simp [errW_none,errW_some] <;> rfl) | (simp only [← hji4,← hji9];first | rfl | (simp [errW_none,errW_some] <;> rfl)) | (simp [*,errW_none,errW_some] <;> rfl),ib⟩
       ·rw [if_neg c11] at H
        exact absurd H (by simp)
      ·rw [if_neg c10] at H
       exact absurd H (by simp)
     ·rw [if_neg c8] at H
      exact absurd H (by simp)
    ·rw [if_neg c7] at H
     exact absurd H (by simp)
   ·rw [if_neg c6] at H
    exact absurd H (by simp)
  ·rw [if_neg c5] at H
   exact absurd H (by simp)
end Go.Proofs.Ytnnchaggdnlfmaa.PFnExactTriangulate
