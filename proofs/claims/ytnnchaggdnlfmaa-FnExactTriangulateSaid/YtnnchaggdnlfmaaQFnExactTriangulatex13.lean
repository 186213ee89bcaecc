/- Contracts of functions that FnExactTriangulate reaches, out of the lines of the kit's print. -/
import Derived.Test.YtnnchaggdnlfmaaQFnExactTriangulatex0
import Derived.Test.YtnnchaggdnlfmaaQFnExactTriangulatex9
import Derived.Test.YtnnchaggdnlfmaaQFnExactTriangulatex12
namespace Go.Proofs.Ytnnchaggdnlfmaa.PFnExactTriangulate
open Go.RowKit Go.Proofs.YtnnchaggdnlfmaaW.PrintWords Go.Proofs.YtnnchaggdnlfmaaW.PrintLast Go.Proofs.YtnnchaggdnlfmaaW.PrintMore
open Bool renaming true → tT, false → fF
open Go.World renaming block_lt_of_cell? → bL
open List renaming setIfInBounds_toArray → iT, set_cons_zero → sZ, set_cons_succ → sC
attribute [local go_sem] max2_int min2_int max_two min_two max_three min_three max_four min_four
set_option linter.unusedVariables false
set_option linter.unusedSimpArgs false
def impl_ear.l0 : Nat → Int → Int → List (S73) → Int → Int → Int → Int → Int → Int → Int → Int → Option (Bool)
 | 0,_,_,_,_,_,_,_,_,_,_,_ => none
 | k + 1,x1,x5,x38,x39,x40,x324000,x324001,x325000,x325001,x326000,x326001 => if x40 < x39 then (if 0 ≤ x40 then (if x40 < (x38.length : Int) then (if x40 = x1 then (impl_ear.l0 k x1 x5 x38 x39 (wrap64 (x40 + 1)) x324000 x324001 x325000 x325001 x326000 x326001) else (if x5 = 0 then (none) else (if x40 = (Int.tmod (wrap64 ((wrap64 (x1 + x5)) - 1)) x5) then (impl_ear.l0 k x1 x5 x38 x39 (wrap64 (x40 + 1)) x324000 x324001 x325000 x325001 x326000 x326001) else (if x40 = (Int.tmod (wrap64 (x1 + 1)) x5) then (impl_ear.l0 k x1 x5 x38 x39 (wrap64 (x40 + 1)) x324000 x324001 x325000 x325001 x326000 x326001) else ((impl_inTriangle.f x324000 x324001 x325000 x325001 x326000 x326001 ((rd_T73 x38 x40).f0) ((rd_T73 x38 x40).f1)).bind fun t329 => (if t329 = true then (some false) else (impl_ear.l0 k x1 x5 x38 x39 (wrap64 (x40 + 1)) x324000 x324001 x325000 x325001 x326000 x326001))))))) else (none)) else (none)) else (some true)
def impl_ear.f (k : Nat) (l0 : List (S73)) (a1 : Int) : Option (Bool):=if (l0.length : Int) = 0 then (none) else (if 0 ≤ (Int.tmod (wrap64 ((wrap64 (a1 + (l0.length : Int))) - 1)) (l0.length : Int)) then (if (Int.tmod (wrap64 ((wrap64 (a1 + (l0.length : Int))) - 1)) (l0.length : Int)) < (l0.length : Int) then (if 0 ≤ a1 then (if a1 < (l0.length : Int) then (if 0 ≤ (Int.tmod (wrap64 (a1 + 1)) (l0.length : Int)) then (if (Int.tmod (wrap64 (a1 + 1)) (l0.length : Int)) < (l0.length : Int) then ((impl_side.f ((rd_T73 l0 (Int.tmod (wrap64 ((wrap64 (a1 + (l0.length : Int))) - 1)) (l0.length : Int))).f0) ((rd_T73 l0 (Int.tmod (wrap64 ((wrap64 (a1 + (l0.length : Int))) - 1)) (l0.length : Int))).f1) ((rd_T73 l0 a1).f0) ((rd_T73 l0 a1).f1) ((rd_T73 l0 (Int.tmod (wrap64 (a1 + 1)) (l0.length : Int))).f0) ((rd_T73 l0 (Int.tmod (wrap64 (a1 + 1)) (l0.length : Int))).f1)).bind fun t326 => (if t326 = 1 then (impl_ear.l0 k a1 (l0.length : Int) l0 (l0.length : Int) 0 ((rd_T73 l0 (Int.tmod (wrap64 ((wrap64 (a1 + (l0.length : Int))) - 1)) (l0.length : Int))).f0) ((rd_T73 l0 (Int.tmod (wrap64 ((wrap64 (a1 + (l0.length : Int))) - 1)) (l0.length : Int))).f1) ((rd_T73 l0 a1).f0) ((rd_T73 l0 a1).f1) ((rd_T73 l0 (Int.tmod (wrap64 (a1 + 1)) (l0.length : Int))).f0) ((rd_T73 l0 (Int.tmod (wrap64 (a1 + 1)) (l0.length : Int))).f1)) else (some false))) else (none)) else (none)) else (none)) else (none)) else (none)) else (none))
def impl_ear.T2 : Bool × List (List Nat × List Nat):=(true,[([],[]),([],[]),([],[]),([1,2],[1,2]),([3],[3]),([],[]),([4,5],[4,5]),([0,6],[0,6]),([7],[7]),([],[]),([],[]),([9,10],[9,10]),([11],[11]),([],[]),([],[]),([14],[14]),([],[]),([15,16],[15,16]),([13,17],[13,17]),([18],[18]),([],[]),([],[]),([],[]),([20,8,0,1,2,3,4,5,6,7,8,20,21,22],[8,20]),([21,12,23,0,1,2,3,4,5,6,7,8,9,10,11,12,20,21,22,23],[12,21]),([22,19,24,0,1,2,3,4,5,6,7,8,9,10,11,12,13,14,15,16,17,18,19,20,21,22,23,24],[19,22])])
def impl_ear.B2 : List Nat:=[0,0,0,6,14,0,62,127,255,0,0,1536,3584,0,0,16384,0,114688,253952,516096,0,0,0,7340543,15736831,33554431]
theorem impl_ear.tab2 : rtab .any (opsOf Try.f111 2) = impl_ear.T2:=by kernel_rfl
theorem impl_ear.bits2 : waitsOk impl_ear.T2.2 impl_ear.B2 = true:=by kernel_rfl
set_option maxHeartbeats 8000000 in
set_option maxRecDepth 100000 in
theorem impl_ear.calls (k : Nat) (A0 : Option Addr) (c0 : Nat) (l0 : List (S73)) (a1 : Int) (r : Bool) (w : World) (hr0 : Kd.C k73 w A0 l0.length l0) (hc0 : l0.length ≤ c0) (h : impl_ear.f k l0 a1 = some r) :
  Calls Try.prog 111 #[.slice A0 l0.length c0,.int .i64 a1] w fun e w' => e = .returned (.bool r) ∧ Below w.heap.size w w':=by
 have hu73:=Try.underlying73
 have HR0:=Aside0.mk hr0
 have HC0:=Aside0.mk hc0
 clear hr0 hc0
 have HB:=Aside0.mk (Below.refl w.heap.size w)
 have H : (if (l0.length : Int) = 0 then (none) else (if 0 ≤ (Int.tmod (wrap64 ((wrap64 (a1 + (l0.length : Int))) - 1)) (l0.length : Int)) then (if (Int.tmod (wrap64 ((wrap64 (a1 + (l0.length : Int))) - 1)) (l0.length : Int)) < (l0.length : Int) then (if 0 ≤ a1 then (if a1 < (l0.length : Int) then (if 0 ≤ (Int.tmod (wrap64 (a1 + 1)) (l0.length : Int)) then (if (Int.tmod (wrap64 (a1 + 1)) (l0.length : Int)) < (l0.length : Int) then ((impl_side.f ((rd_T73 l0 (Int.tmod (wrap64 ((wrap64 (a1 + (l0.length : Int))) - 1)) (l0.length : Int))).f0) ((rd_T73 l0 (Int.tmod (wrap64 ((wrap64 (a1 + (l0.length : Int))) - 1)) (l0.length : Int))).f1) ((rd_T73 l0 a1).f0) ((rd_T73 l0 a1).f1) ((rd_T73 l0 (Int.tmod (wrap64 (a1 + 1)) (l0.length : Int))).f0) ((rd_T73 l0 (Int.tmod (wrap64 (a1 + 1)) (l0.length : Int))).f1)).bind fun t326 => (if t326 = 1 then (impl_ear.l0 k a1 (l0.length : Int) l0 (l0.length : Int) 0 ((rd_T73 l0 (Int.tmod (wrap64 ((wrap64 (a1 + (l0.length : Int))) - 1)) (l0.length : Int))).f0) ((rd_T73 l0 (Int.tmod (wrap64 ((wrap64 (a1 + (l0.length : Int))) - 1)) (l0.length : Int))).f1) ((rd_T73 l0 a1).f0) ((rd_T73 l0 a1).f1) ((rd_T73 l0 (Int.tmod (wrap64 (a1 + 1)) (l0.length : Int))).f0) ((rd_T73 l0 (Int.tmod (wrap64 (a1 + 1)) (l0.length : Int))).f1)) else (some false))) else (none)) else (none)) else (none)) else (none)) else (none)) else (none))) = some r:=h
 clear h
 by_cases c3 : (l0.length : Int) = 0
 ·rw [if_pos c3] at H
  exact absurd H (by simp)
 ·rw [if_neg c3] at H
  have c3b0 : ((l0.length : Int) == 0) = false:=beq_eq_false_iff_ne.mpr c3
  have c3b1 : ((l0.length : Int) != 0) = true:=bne_iff_ne.mpr c3
  have c3b2 : ¬ (l0 = []):=fun h_ => c3 (by rw [h_];rfl)
  obtain ⟨ji4,hji4⟩ : ∃ j_ : Int,(Int.tmod (wrap64 ((wrap64 (a1 + (l0.length : Int))) - 1)) (l0.length : Int)) = j_:=⟨_,rfl⟩
  replace H : (if 0 ≤ (ji4) then (if (ji4) < (l0.length : Int) then (if 0 ≤ a1 then (if a1 < (l0.length : Int) then (if 0 ≤ (Int.tmod (wrap64 (a1 + 1)) (l0.length : Int)) then (if (Int.tmod (wrap64 (a1 + 1)) (l0.length : Int)) < (l0.length : Int) then ((impl_side.f ((rd_T73 l0 (ji4)).f0) ((rd_T73 l0 (ji4)).f1) ((rd_T73 l0 a1).f0) ((rd_T73 l0 a1).f1) ((rd_T73 l0 (Int.tmod (wrap64 (a1 + 1)) (l0.length : Int))).f0) ((rd_T73 l0 (Int.tmod (wrap64 (a1 + 1)) (l0.length : Int))).f1)).bind fun t326 => (if t326 = 1 then (impl_ear.l0 k a1 (l0.length : Int) l0 (l0.length : Int) 0 ((rd_T73 l0 (ji4)).f0) ((rd_T73 l0 (ji4)).f1) ((rd_T73 l0 a1).f0) ((rd_T73 l0 a1).f1) ((rd_T73 l0 (Int.tmod (wrap64 (a1 + 1)) (l0.length : Int))).f0) ((rd_T73 l0 (Int.tmod (wrap64 (a1 + 1)) (l0.length : Int))).f1)) else (some false))) else (none)) else (none)) else (none)) else (none)) else (none)) else (none)) = some r:=by first | (rw [hji4] at H;exact H) | (simp only [hji4] at H ⊢;exact H)
  by_cases c5 : 0 ≤ (ji4)
  ·rw [if_pos c5] at H
   have c5b0 : decide (0 ≤ (ji4)) = true:=decide_eq_true c5
   clear c5
   by_cases c6 : (ji4) < (l0.length : Int)
   ·rw [if_pos c6] at H
    have c6b0 : decide ((ji4) < (l0.length : Int)) = true:=decide_eq_true c6
    clear c6
    by_cases c7 : 0 ≤ a1
    ·rw [if_pos c7] at H
     have c7b0 : decide (0 ≤ a1) = true:=decide_eq_true c7
     clear c7
     by_cases c8 : a1 < (l0.length : Int)
     ·rw [if_pos c8] at H
      have c8b0 : decide (a1 < (l0.length : Int)) = true:=decide_eq_true c8
      clear c8
      obtain ⟨ji9,hji9⟩ : ∃ j_ : Int,(Int.tmod (wrap64 (a1 + 1)) (l0.length : Int)) = j_:=⟨_,rfl⟩
      replace H : (if 0 ≤ (ji9) then (if (ji9) < (l0.length : Int) then ((impl_side.f ((rd_T73 l0 (ji4)).f0) ((rd_T73 l0 (ji4)).f1) ((rd_T73 l0 a1).f0) ((rd_T73 l0 a1).f1) ((rd_T73 l0 (ji9)).f0) ((rd_T73 l0 (ji9)).f1)).bind fun t326 => (if t326 = 1 then (impl_ear.l0 k a1 (l0.length : Int) l0 (l0.length : Int) 0 ((rd_T73 l0 (ji4)).f0) ((rd_T73 l0 (ji4)).f1) ((rd_T73 l0 a1).f0) ((rd_T73 l0 a1).f1) ((rd_T73 l0 (ji9)).f0) ((rd_T73 l0 (ji9)).f1)) else (some false))) else (none)) else (none)) = some r:=by first | (rw [hji9] at H;exact H) | (simp only [hji9] at H ⊢;exact H)
      by_cases c10 : 0 ≤ (ji9)
      ·rw [if_pos c10] at H
       have c10b0 : decide (0 ≤ (ji9)) = true:=decide_eq_true c10
       clear c10
       by_cases c11 : (ji9) < (l0.length : Int)
       ·rw [if_pos c11] at H
        have c11b0 : decide ((ji9) < (l0.length : Int)) = true:=decide_eq_true c11
        clear c11
        replace H:=Option.bind_eq_some_iff.mp H
        obtain ⟨t326,A120,H⟩:=H
        replace H : (if t326 = 1 then (impl_ear.l0 k a1 (l0.length : Int) l0 (l0.length : Int) 0 ((rd_T73 l0 (ji4)).f0) ((rd_T73 l0 (ji4)).f1) ((rd_T73 l0 a1).f0) ((rd_T73 l0 a1).f1) ((rd_T73 l0 (ji9)).f0) ((rd_T73 l0 (ji9)).f1)) else (some false)) = some r:=H
        have A12:=Aside0.mk A120
        clear A120
        by_cases c13 : t326 = 1
        ·rw [if_pos c13] at H
         have c13b0 : (t326 == 1) = true:=beq_iff_eq.mpr c13
         have c13b1 : (t326 != 1) = false:=bne_eq_false_iff_eq.mpr c13
         clear c13
         have H':=Aside0.mk H
         clear H
         go_enter Try.func111,Try.ntmps111
         try go_wp2
         replace HB:=Aside0.mk (below_drew1 HB.out)
         have p320 : 0 ≤ ((ji4) : Int):=da
         have q320 : (ji4) < (l0.length : Int):=da
         obtain ⟨ad320,e320,hx320_0,hx320_1⟩:=at_T73 HR0.out (ji4) p320 q320
         have hw320_1:=hx320_1
         have hw320_0:=hx320_0
         cases e320
         replace hx320_0:=cq HB.out hx320_0
         replace hx320_1:=cq HB.out hx320_1
         replace p320:=eq_true p320
         replace q320:=eq_true q320
         have p321 : 0 ≤ (a1 : Int):=da
         have q321 : a1 < (l0.length : Int):=da
         obtain ⟨ad321,e321,hx321_0,hx321_1⟩:=at_T73 HR0.out a1 p321 q321
         have hw321_1:=hx321_1
         have hw321_0:=hx321_0
         obtain rfl : ad320 = ad321:=(by injection e321)
         replace hx321_0:=cq HB.out hx321_0
         replace hx321_1:=cq HB.out hx321_1
         replace p321:=eq_true p321
         replace q321:=eq_true q321
         have p322 : 0 ≤ ((ji9) : Int):=da
         have q322 : (ji9) < (l0.length : Int):=da
         obtain ⟨ad322,e322,hx322_0,hx322_1⟩:=at_T73 HR0.out (ji9) p322 q322
         have hw322_1:=hx322_1
         have hw322_0:=hx322_0
         obtain rfl : ad320 = ad322:=(by injection e322)
         replace hx322_0:=cq HB.out hx322_0
         replace hx322_1:=cq HB.out hx322_1
         replace p322:=eq_true p322
         replace q322:=eq_true q322
         refine start_ (n:=26) (S:=fun w' => w'.cell? (ad320.add (((ji4)).toNat * 2)) = some (.int .i64 ((rd_T73 l0 (ji4)).f0)) ∧ w'.cell? ⟨(ad320.add (((ji4)).toNat * 2)).block,(ad320.add (((ji4)).toNat * 2)).off + 1,none⟩ = some (.int .i64 ((rd_T73 l0 (ji4)).f1)) ∧ w'.cell? (ad320.add ((a1).toNat * 2)) = some (.int .i64 ((rd_T73 l0 a1).f0)) ∧ w'.cell? ⟨(ad320.add ((a1).toNat * 2)).block,(ad320.add ((a1).toNat * 2)).off + 1,none⟩ = some (.int .i64 ((rd_T73 l0 a1).f1)) ∧ w'.cell? (ad320.add (((ji9)).toNat * 2)) = some (.int .i64 ((rd_T73 l0 (ji9)).f0)) ∧ w'.cell? ⟨(ad320.add (((ji9)).toNat * 2)).block,(ad320.add (((ji9)).toNat * 2)).off + 1,none⟩ = some (.int .i64 ((rd_T73 l0 (ji9)).f1))) (ds:=[]) #[fF,fF,fF,fF,fF,fF,fF,fF,fF,fF,fF,fF,fF,fF,fF,fF,fF,fF,fF,fF,fF,fF,fF,fF,fF,fF] (by kernel_rfl) rfl rfl ⟨cq HB.out hw320_0,cq HB.out hw320_1,cq HB.out hw321_0,cq HB.out hw321_1,cq HB.out hw322_0,cq HB.out hw322_1⟩ (fun hHeld => ?_);refine with_tabW impl_ear.tab2 impl_ear.bits2 (fun HT_ HW_ => ?_)
         generalize w.drew = w14 at HB hx320_0 hx320_1 hx321_0 hx321_1 hx322_0 hx322_1 hHeld ⊢
         refine pu 0 13 HT_ ?_
         refine pu 1 14 HT_ ?_
         refine pu 2 15 HT_ ?_
         refine pu 3 16 HT_ ?_
         refine pu 4 17 HT_ ?_
         refine pu 5 18 HT_ ?_
         refine pu 6 19 HT_ ?_
         refine pu 7 20 HT_ ?_
         refine pu 9 22 HT_ ?_
         refine pu 10 23 HT_ ?_
         refine pu 11 24 HT_ ?_
         refine pu 13 26 HT_ ?_
         refine pu 14 27 HT_ ?_
         refine pu 15 28 HT_ ?_
         refine pu 16 29 HT_ ?_
         refine pu 17 30 HT_ ?_
         refine pu 18 31 HT_ ?_
         refine tk 8 21 HT_ HW_ hHeld ?_
         refine tk 12 25 HT_ HW_ hHeld ?_
         refine tk 19 32 HT_ HW_ hHeld ?_
         refine join_ (σ:=Nat × Nat × Nat) 3 #[tT,tT,tT,tT,tT,tT,tT,tT,tT,tT,tT,tT,tT,tT,tT,tT,tT,tT,tT,tT,tT,tT,tT,fF,fF,fF] (fun s_ => [(6,.pointer (some ⟨s_.1,0,none⟩)),(7,.pointer (some ⟨s_.2.1,0,none⟩)),(8,.pointer (some ⟨s_.2.2,0,none⟩))]) (fun s_ w' => (w'.cell? (ad320.add (((ji4)).toNat * 2)) = some (.int .i64 ((rd_T73 l0 (ji4)).f0)) ∧ w'.cell? ⟨(ad320.add (((ji4)).toNat * 2)).block,(ad320.add (((ji4)).toNat * 2)).off + 1,none⟩ = some (.int .i64 ((rd_T73 l0 (ji4)).f1)) ∧ w'.cell? (ad320.add ((a1).toNat * 2)) = some (.int .i64 ((rd_T73 l0 a1).f0)) ∧ w'.cell? ⟨(ad320.add ((a1).toNat * 2)).block,(ad320.add ((a1).toNat * 2)).off + 1,none⟩ = some (.int .i64 ((rd_T73 l0 a1).f1)) ∧ w'.cell? (ad320.add (((ji9)).toNat * 2)) = some (.int .i64 ((rd_T73 l0 (ji9)).f0)) ∧ w'.cell? ⟨(ad320.add (((ji9)).toNat * 2)).block,(ad320.add (((ji9)).toNat * 2)).off + 1,none⟩ = some (.int .i64 ((rd_T73 l0 (ji9)).f1))) ∧ (w'.heap[s_.1]? = some (.cells #[.int .i64 0,.int .i64 0] 73 (0,0))) ∧ (w'.heap[s_.2.1]? = some (.cells #[.int .i64 0,.int .i64 0] 73 (0,0))) ∧ (w'.heap[s_.2.2]? = some (.cells #[.int .i64 0,.int .i64 0] 73 (0,0))) ∧ (w.heap.size ≤ s_.1) ∧ (w.heap.size ≤ s_.1) ∧ (s_.2.1 ≠ s_.1) ∧ (s_.1 ≠ s_.2.1) ∧ (s_.2.2 ≠ s_.1) ∧ (s_.1 ≠ s_.2.2) ∧ (w.heap.size ≤ s_.2.1) ∧ (w.heap.size ≤ s_.2.1) ∧ (s_.2.2 ≠ s_.2.1) ∧ (s_.2.1 ≠ s_.2.2) ∧ (w.heap.size ≤ s_.2.2) ∧ (w.heap.size ≤ s_.2.2) ∧ (Below w.heap.size w w')) ?_ ?_
         rotate_left
         ·intro hJ20_21_22
          refine join_ (σ:=Nat × Nat) 4 #[tT,tT,tT,tT,tT,tT,tT,tT,tT,tT,tT,tT,tT,tT,tT,tT,tT,tT,tT,tT,tT,tT,fF,fF,fF,fF] (fun s_ => [(6,.pointer (some ⟨s_.1,0,none⟩)),(7,.pointer (some ⟨s_.2,0,none⟩))]) (fun s_ w' => (w'.cell? (ad320.add (((ji4)).toNat * 2)) = some (.int .i64 ((rd_T73 l0 (ji4)).f0)) ∧ w'.cell? ⟨(ad320.add (((ji4)).toNat * 2)).block,(ad320.add (((ji4)).toNat * 2)).off + 1,none⟩ = some (.int .i64 ((rd_T73 l0 (ji4)).f1)) ∧ w'.cell? (ad320.add ((a1).toNat * 2)) = some (.int .i64 ((rd_T73 l0 a1).f0)) ∧ w'.cell? ⟨(ad320.add ((a1).toNat * 2)).block,(ad320.add ((a1).toNat * 2)).off + 1,none⟩ = some (.int .i64 ((rd_T73 l0 a1).f1)) ∧ w'.cell? (ad320.add (((ji9)).toNat * 2)) = some (.int .i64 ((rd_T73 l0 (ji9)).f0)) ∧ w'.cell? ⟨(ad320.add (((ji9)).toNat * 2)).block,(ad320.add (((ji9)).toNat * 2)).off + 1,none⟩ = some (.int .i64 ((rd_T73 l0 (ji9)).f1))) ∧ (w'.heap[s_.1]? = some (.cells #[.int .i64 0,.int .i64 0] 73 (0,0))) ∧ (w'.heap[s_.2]? = some (.cells #[.int .i64 0,.int .i64 0] 73 (0,0))) ∧ (w.heap.size ≤ s_.1) ∧ (w.heap.size ≤ s_.1) ∧ (s_.2 ≠ s_.1) ∧ (s_.1 ≠ s_.2) ∧ (w.heap.size ≤ s_.2) ∧ (w.heap.size ≤ s_.2) ∧ (Below w.heap.size w w')) ?_ ?_
          rotate_left
          ·intro hJ20_21
           refine join_ (σ:=Nat × Nat) 4 #[tT,tT,tT,tT,tT,tT,tT,tT,tT,tT,tT,tT,tT,tT,tT,tT,tT,tT,tT,tT,tT,fF,tT,fF,fF,fF] (fun s_ => [(6,.pointer (some ⟨s_.1,0,none⟩)),(8,.pointer (some ⟨s_.2,0,none⟩))]) (fun s_ w' => (w'.cell? (ad320.add (((ji4)).toNat * 2)) = some (.int .i64 ((rd_T73 l0 (ji4)).f0)) ∧ w'.cell? ⟨(ad320.add (((ji4)).toNat * 2)).block,(ad320.add (((ji4)).toNat * 2)).off + 1,none⟩ = some (.int .i64 ((rd_T73 l0 (ji4)).f1)) ∧ w'.cell? (ad320.add ((a1).toNat * 2)) = some (.int .i64 ((rd_T73 l0 a1).f0)) ∧ w'.cell? ⟨(ad320.add ((a1).toNat * 2)).block,(ad320.add ((a1).toNat * 2)).off + 1,none⟩ = some (.int .i64 ((rd_T73 l0 a1).f1)) ∧ w'.cell? (ad320.add (((ji9)).toNat * 2)) = some (.int .i64 ((rd_T73 l0 (ji9)).f0)) ∧ w'.cell? ⟨(ad320.add (((ji9)).toNat * 2)).block,(ad320.add (((ji9)).toNat * 2)).off + 1,none⟩ = some (.int .i64 ((rd_T73 l0 (ji9)).f1))) ∧ (w'.heap[s_.1]? = some (.cells #[.int .i64 0,.int .i64 0] 73 (0,0))) ∧ (w'.heap[s_.2]? = some (.cells #[.int .i64 0,.int .i64 0] 73 (0,0))) ∧ (w.heap.size ≤ s_.1) ∧ (w.heap.size ≤ s_.1) ∧ (s_.2 ≠ s_.1) ∧ (s_.1 ≠ s_.2) ∧ (w.heap.size ≤ s_.2) ∧ (w.heap.size ≤ s_.2) ∧ (Below w.heap.size w w')) ?_ ?_
           rotate_left
           ·intro hJ20_22
            refine join_ (σ:=Nat × Nat) 4 #[tT,tT,tT,tT,tT,tT,tT,tT,tT,tT,tT,tT,tT,tT,tT,tT,tT,tT,tT,tT,fF,tT,tT,fF,fF,fF] (fun s_ => [(7,.pointer (some ⟨s_.1,0,none⟩)),(8,.pointer (some ⟨s_.2,0,none⟩))]) (fun s_ w' => (w'.cell? (ad320.add (((ji4)).toNat * 2)) = some (.int .i64 ((rd_T73 l0 (ji4)).f0)) ∧ w'.cell? ⟨(ad320.add (((ji4)).toNat * 2)).block,(ad320.add (((ji4)).toNat * 2)).off + 1,none⟩ = some (.int .i64 ((rd_T73 l0 (ji4)).f1)) ∧ w'.cell? (ad320.add ((a1).toNat * 2)) = some (.int .i64 ((rd_T73 l0 a1).f0)) ∧ w'.cell? ⟨(ad320.add ((a1).toNat * 2)).block,(ad320.add ((a1).toNat * 2)).off + 1,none⟩ = some (.int .i64 ((rd_T73 l0 a1).f1)) ∧ w'.cell? (ad320.add (((ji9)).toNat * 2)) = some (.int .i64 ((rd_T73 l0 (ji9)).f0)) ∧ w'.cell? ⟨(ad320.add (((ji9)).toNat * 2)).block,(ad320.add (((ji9)).toNat * 2)).off + 1,none⟩ = some (.int .i64 ((rd_T73 l0 (ji9)).f1))) ∧ (w'.heap[s_.1]? = some (.cells #[.int .i64 0,.int .i64 0] 73 (0,0))) ∧ (w'.heap[s_.2]? = some (.cells #[.int .i64 0,.int .i64 0] 73 (0,0))) ∧ (w.heap.size ≤ s_.1) ∧ (w.heap.size ≤ s_.1) ∧ (s_.2 ≠ s_.1) ∧ (s_.1 ≠ s_.2) ∧ (w.heap.size ≤ s_.2) ∧ (w.heap.size ≤ s_.2) ∧ (Below w.heap.size w w')) ?_ ?_
            rotate_left
            ·intro hJ21_22
             refine join_ (σ:=Nat) 5 #[tT,tT,tT,tT,tT,tT,tT,tT,tT,tT,tT,tT,tT,tT,tT,tT,tT,tT,tT,tT,tT,fF,fF,fF,fF,fF] (fun s_ => [(6,.pointer (some ⟨s_,0,none⟩))]) (fun s_ w' => (w'.cell? (ad320.add (((ji4)).toNat * 2)) = some (.int .i64 ((rd_T73 l0 (ji4)).f0)) ∧ w'.cell? ⟨(ad320.add (((ji4)).toNat * 2)).block,(ad320.add (((ji4)).toNat * 2)).off + 1,none⟩ = some (.int .i64 ((rd_T73 l0 (ji4)).f1)) ∧ w'.cell? (ad320.add ((a1).toNat * 2)) = some (.int .i64 ((rd_T73 l0 a1).f0)) ∧ w'.cell? ⟨(ad320.add ((a1).toNat * 2)).block,(ad320.add ((a1).toNat * 2)).off + 1,none⟩ = some (.int .i64 ((rd_T73 l0 a1).f1)) ∧ w'.cell? (ad320.add (((ji9)).toNat * 2)) = some (.int .i64 ((rd_T73 l0 (ji9)).f0)) ∧ w'.cell? ⟨(ad320.add (((ji9)).toNat * 2)).block,(ad320.add (((ji9)).toNat * 2)).off + 1,none⟩ = some (.int .i64 ((rd_T73 l0 (ji9)).f1))) ∧ (w'.heap[s_]? = some (.cells #[.int .i64 0,.int .i64 0] 73 (0,0))) ∧ (w.heap.size ≤ s_) ∧ (w.heap.size ≤ s_) ∧ (Below w.heap.size w w')) ?_ ?_
             rotate_left
             ·intro hJ20
              refine join_ (σ:=Nat) 5 #[tT,tT,tT,tT,tT,tT,tT,tT,tT,tT,tT,tT,tT,tT,tT,tT,tT,tT,tT,tT,fF,tT,fF,fF,fF,fF] (fun s_ => [(7,.pointer (some ⟨s_,0,none⟩))]) (fun s_ w' => (w'.cell? (ad320.add (((ji4)).toNat * 2)) = some (.int .i64 ((rd_T73 l0 (ji4)).f0)) ∧ w'.cell? ⟨(ad320.add (((ji4)).toNat * 2)).block,(ad320.add (((ji4)).toNat * 2)).off + 1,none⟩ = some (.int .i64 ((rd_T73 l0 (ji4)).f1)) ∧ w'.cell? (ad320.add ((a1).toNat * 2)) = some (.int .i64 ((rd_T73 l0 a1).f0)) ∧ w'.cell? ⟨(ad320.add ((a1).toNat * 2)).block,(ad320.add ((a1).toNat * 2)).off + 1,none⟩ = some (.int .i64 ((rd_T73 l0 a1).f1)) ∧ w'.cell? (ad320.add (((ji9)).toNat * 2)) = some (.int .i64 ((rd_T73 l0 (ji9)).f0)) ∧ w'.cell? ⟨(ad320.add (((ji9)).toNat * 2)).block,(ad320.add (((ji9)).toNat * 2)).off + 1,none⟩ = some (.int .i64 ((rd_T73 l0 (ji9)).f1))) ∧ (w'.heap[s_]? = some (.cells #[.int .i64 0,.int .i64 0] 73 (0,0))) ∧ (w.heap.size ≤ s_) ∧ (w.heap.size ≤ s_) ∧ (Below w.heap.size w w')) ?_ ?_
              rotate_left
              ·intro hJ21
               refine join_ (σ:=Nat) 5 #[tT,tT,tT,tT,tT,tT,tT,tT,tT,tT,tT,tT,tT,tT,tT,tT,tT,tT,tT,tT,fF,fF,tT,fF,fF,fF] (fun s_ => [(8,.pointer (some ⟨s_,0,none⟩))]) (fun s_ w' => (w'.cell? (ad320.add (((ji4)).toNat * 2)) = some (.int .i64 ((rd_T73 l0 (ji4)).f0)) ∧ w'.cell? ⟨(ad320.add (((ji4)).toNat * 2)).block,(ad320.add (((ji4)).toNat * 2)).off + 1,none⟩ = some (.int .i64 ((rd_T73 l0 (ji4)).f1)) ∧ w'.cell? (ad320.add ((a1).toNat * 2)) = some (.int .i64 ((rd_T73 l0 a1).f0)) ∧ w'.cell? ⟨(ad320.add ((a1).toNat * 2)).block,(ad320.add ((a1).toNat * 2)).off + 1,none⟩ = some (.int .i64 ((rd_T73 l0 a1).f1)) ∧ w'.cell? (ad320.add (((ji9)).toNat * 2)) = some (.int .i64 ((rd_T73 l0 (ji9)).f0)) ∧ w'.cell? ⟨(ad320.add (((ji9)).toNat * 2)).block,(ad320.add (((ji9)).toNat * 2)).off + 1,none⟩ = some (.int .i64 ((rd_T73 l0 (ji9)).f1))) ∧ (w'.heap[s_]? = some (.cells #[.int .i64 0,.int .i64 0] 73 (0,0))) ∧ (w.heap.size ≤ s_) ∧ (w.heap.size ≤ s_) ∧ (Below w.heap.size w w')) ?_ ?_
               rotate_left
               ·intro hJ22
                refine three_ (i:=20) (j:=21) (k:=22) (Ni:=some 6) (Nj:=some 7) (Nk:=some 8) #[tT,tT,tT,tT,tT,tT,tT,tT,tT,tT,tT,tT,tT,tT,tT,tT,tT,tT,tT,tT,tT,fF,fF,fF,fF,fF] #[tT,tT,tT,tT,tT,tT,tT,tT,tT,tT,tT,tT,tT,tT,tT,tT,tT,tT,tT,tT,fF,tT,fF,fF,fF,fF] #[tT,tT,tT,tT,tT,tT,tT,tT,tT,tT,tT,tT,tT,tT,tT,tT,tT,tT,tT,tT,fF,fF,tT,fF,fF,fF] rfl rfl rfl rfl rfl rfl (three_of HT_.out (by kernel_rfl)) (by decide) (by decide) (by decide) (fun K hK => ?_) (fun K hK => ?_) (fun K hK => ?_)
                ·skip
                 refine box_step ?hg (N:=6) ?hd (cs:=#[.int .i64 0,.int .i64 0]) (t:=73) ?hr ?_;(case hd => rfl);(case hg => rfl);(case hr => first | (go_simp;done) | (go_simp;rfl))
                 intro gb323 hg w15 hbox hb
                 have BK323:=Aside0.mk (hbox)
                 have GW323:=zb hg
                 have GE323:=zb hg
                 replace HB:=sb hb
                 clear hb hbox hg
                 refine hK.out _ _ ⟨cq HB.out hw320_0,cq HB.out hw320_1,cq HB.out hw321_0,cq HB.out hw321_1,cq HB.out hw322_0,cq HB.out hw322_1⟩ (fun hHeld => ?_)
                 clear hK K
                 refine norm_ (a':=?_) ?_ ?_
                 rotate_left
                 ·show Act.put _ (some 6) _ = _
                  simp only [Act.put,iT,sZ,sC,i64_w,i32_w]
                  rfl
                 exact norm_ (by first | (simp only [putAll,Act.put,iT,sZ,sC];done) | (simp only [putAll,Act.put,iT,sZ,sC];rfl)) (hJ20 (gb323) _ ⟨hHeld,(bk BK323),GW323.out,GE323.out,ib⟩)
                ·skip
                 refine box_step ?hg (N:=7) ?hd (cs:=#[.int .i64 0,.int .i64 0]) (t:=73) ?hr ?_;(case hd => rfl);(case hg => rfl);(case hr => first | (go_simp;done) | (go_simp;rfl))
                 intro gb324 hg w15 hbox hb
                 have BK324:=Aside0.mk (hbox)
                 have GW324:=zb hg
                 have GE324:=zb hg
                 replace HB:=sb hb
                 clear hb hbox hg
                 refine hK.out _ _ ⟨cq HB.out hw320_0,cq HB.out hw320_1,cq HB.out hw321_0,cq HB.out hw321_1,cq HB.out hw322_0,cq HB.out hw322_1⟩ (fun hHeld => ?_)
                 clear hK K
                 refine norm_ (a':=?_) ?_ ?_
                 rotate_left
                 ·show Act.put _ (some 7) _ = _
                  simp only [Act.put,iT,sZ,sC,i64_w,i32_w]
                  rfl
                 exact norm_ (by first | (simp only [putAll,Act.put,iT,sZ,sC];done) | (simp only [putAll,Act.put,iT,sZ,sC];rfl)) (hJ21 (gb324) _ ⟨hHeld,(bk BK324),GW324.out,GE324.out,ib⟩)
                ·skip
                 refine box_step ?hg (N:=8) ?hd (cs:=#[.int .i64 0,.int .i64 0]) (t:=73) ?hr ?_;(case hd => rfl);(case hg => rfl);(case hr => first | (go_simp;done) | (go_simp;rfl))
                 intro gb325 hg w15 hbox hb
                 have BK325:=Aside0.mk (hbox)
                 have GW325:=zb hg
                 have GE325:=zb hg
                 replace HB:=sb hb
                 clear hb hbox hg
                 refine hK.out _ _ ⟨cq HB.out hw320_0,cq HB.out hw320_1,cq HB.out hw321_0,cq HB.out hw321_1,cq HB.out hw322_0,cq HB.out hw322_1⟩ (fun hHeld => ?_)
                 clear hK K
                 refine norm_ (a':=?_) ?_ ?_
                 rotate_left
                 ·show Act.put _ (some 8) _ = _
                  simp only [Act.put,iT,sZ,sC,i64_w,i32_w]
                  rfl
                 exact norm_ (by first | (simp only [putAll,Act.put,iT,sZ,sC];done) | (simp only [putAll,Act.put,iT,sZ,sC];rfl)) (hJ22 (gb325) _ ⟨hHeld,(bk BK325),GW325.out,GE325.out,ib⟩)
               ·skip
                rintro gb325 w16 ⟨hS_,h0_,h1_,h2_,h3_⟩
                have n0_ : Aside0 (w16.heap[gb325]? = some (.cells #[.int .i64 0,.int .i64 0] 73 (0,0))):=⟨h0_⟩
                have n1_ : Aside0 (w.heap.size ≤ gb325):=⟨h1_⟩
                have n2_ : Aside0 (w.heap.size ≤ gb325):=⟨h2_⟩
                have n3_ : Aside0 (Below w.heap.size w w16):=⟨h3_⟩
                clear HB
                clear h0_ h1_ h2_ h3_
                have BK325:=n0_
                have GW325:=n1_
                have GE325:=n2_
                have HB:=n3_
                clear n0_ n1_ n2_ n3_
                have hHeld : w16.cell? (ad320.add (((ji4)).toNat * 2)) = some (.int .i64 ((rd_T73 l0 (ji4)).f0)) ∧ w16.cell? ⟨(ad320.add (((ji4)).toNat * 2)).block,(ad320.add (((ji4)).toNat * 2)).off + 1,none⟩ = some (.int .i64 ((rd_T73 l0 (ji4)).f1)) ∧ w16.cell? (ad320.add ((a1).toNat * 2)) = some (.int .i64 ((rd_T73 l0 a1).f0)) ∧ w16.cell? ⟨(ad320.add ((a1).toNat * 2)).block,(ad320.add ((a1).toNat * 2)).off + 1,none⟩ = some (.int .i64 ((rd_T73 l0 a1).f1)) ∧ w16.cell? (ad320.add (((ji9)).toNat * 2)) = some (.int .i64 ((rd_T73 l0 (ji9)).f0)) ∧ w16.cell? ⟨(ad320.add (((ji9)).toNat * 2)).block,(ad320.add (((ji9)).toNat * 2)).off + 1,none⟩ = some (.int .i64 ((rd_T73 l0 (ji9)).f1)):=hS_
                refine norm_ (a':=?_) ?_ ?_
                rotate_left
                ·simp only [putAll,Act.put,iT,sZ,sC]
                 rfl
                refine two_ (i:=20) (j:=21) (Ni:=some 6) (Nj:=some 7) #[tT,tT,tT,tT,tT,tT,tT,tT,tT,tT,tT,tT,tT,tT,tT,tT,tT,tT,tT,tT,tT,fF,tT,fF,fF,fF] #[tT,tT,tT,tT,tT,tT,tT,tT,tT,tT,tT,tT,tT,tT,tT,tT,tT,tT,tT,tT,fF,tT,tT,fF,fF,fF] rfl rfl rfl rfl (two_of HT_.out (by kernel_rfl)) (by decide) (by decide) (fun K hK => ?_) (fun K hK => ?_)
                ·skip
                 refine box_step ?hg (N:=6) ?hd (cs:=#[.int .i64 0,.int .i64 0]) (t:=73) ?hr ?_;(case hd => rfl);(case hg => rfl);(case hr => first | (go_simp;done) | (go_simp;rfl))
                 intro gb323 hg w17 hbox hb
                 have BK323:=Aside0.mk (hbox)
                 have GW323:=zb hg
                 have GE323:=zb hg
                 replace HB:=sb hb
                 have NB325_323:=nl BK325 hg
                 have NB323_325:=ng BK325 hg
                 replace BK325:=kb BK325 hb
                 clear hb hbox hg
                 refine hK.out _ _ ⟨cq HB.out hw320_0,cq HB.out hw320_1,cq HB.out hw321_0,cq HB.out hw321_1,cq HB.out hw322_0,cq HB.out hw322_1⟩ (fun hHeld => ?_)
                 clear hK K
                 refine norm_ (a':=?_) ?_ ?_
                 rotate_left
                 ·show Act.put _ (some 6) _ = _
                  simp only [Act.put,iT,sZ,sC,i64_w,i32_w]
                  rfl
                 exact norm_ (by first | (simp only [putAll,Act.put,iT,sZ,sC];done) | (simp only [putAll,Act.put,iT,sZ,sC];rfl)) (hJ20_22 (gb323,gb325) _ ⟨hHeld,(bk BK323),(bk BK325),GW323.out,GE323.out,NB325_323.out,NB323_325.out,GW325.out,GE325.out,ib⟩)
                ·skip
                 refine box_step ?hg (N:=7) ?hd (cs:=#[.int .i64 0,.int .i64 0]) (t:=73) ?hr ?_;(case hd => rfl);(case hg => rfl);(case hr => first | (go_simp;done) | (go_simp;rfl))
                 intro gb324 hg w17 hbox hb
                 have BK324:=Aside0.mk (hbox)
                 have GW324:=zb hg
                 have GE324:=zb hg
                 replace HB:=sb hb
                 have NB325_324:=nl BK325 hg
                 have NB324_325:=ng BK325 hg
                 replace BK325:=kb BK325 hb
                 clear hb hbox hg
                 refine hK.out _ _ ⟨cq HB.out hw320_0,cq HB.out hw320_1,cq HB.out hw321_0,cq HB.out hw321_1,cq HB.out hw322_0,cq HB.out hw322_1⟩ (fun hHeld => ?_)
                 clear hK K
                 refine norm_ (a':=?_) ?_ ?_
                 rotate_left
                 ·show Act.put _ (some 7) _ = _
                  simp only [Act.put,iT,sZ,sC,i64_w,i32_w]
                  rfl
                 exact norm_ (by first | (simp only [putAll,Act.put,iT,sZ,sC];done) | (simp only [putAll,Act.put,iT,sZ,sC];rfl)) (hJ21_22 (gb324,gb325) _ ⟨hHeld,(bk BK324),(bk BK325),GW324.out,GE324.out,NB325_324.out,NB324_325.out,GW325.out,GE325.out,ib⟩)
              ·skip
               rintro gb324 w16 ⟨hS_,h0_,h1_,h2_,h3_⟩
               have n0_ : Aside0 (w16.heap[gb324]? = some (.cells #[.int .i64 0,.int .i64 0] 73 (0,0))):=⟨h0_⟩
               have n1_ : Aside0 (w.heap.size ≤ gb324):=⟨h1_⟩
               have n2_ : Aside0 (w.heap.size ≤ gb324):=⟨h2_⟩
               have n3_ : Aside0 (Below w.heap.size w w16):=⟨h3_⟩
               clear HB
               clear h0_ h1_ h2_ h3_
               have BK324:=n0_
               have GW324:=n1_
               have GE324:=n2_
               have HB:=n3_
               clear n0_ n1_ n2_ n3_
               have hHeld : w16.cell? (ad320.add (((ji4)).toNat * 2)) = some (.int .i64 ((rd_T73 l0 (ji4)).f0)) ∧ w16.cell? ⟨(ad320.add (((ji4)).toNat * 2)).block,(ad320.add (((ji4)).toNat * 2)).off + 1,none⟩ = some (.int .i64 ((rd_T73 l0 (ji4)).f1)) ∧ w16.cell? (ad320.add ((a1).toNat * 2)) = some (.int .i64 ((rd_T73 l0 a1).f0)) ∧ w16.cell? ⟨(ad320.add ((a1).toNat * 2)).block,(ad320.add ((a1).toNat * 2)).off + 1,none⟩ = some (.int .i64 ((rd_T73 l0 a1).f1)) ∧ w16.cell? (ad320.add (((ji9)).toNat * 2)) = some (.int .i64 ((rd_T73 l0 (ji9)).f0)) ∧ w16.cell? ⟨(ad320.add (((ji9)).toNat * 2)).block,(ad320.add (((ji9)).toNat * 2)).off + 1,none⟩ = some (.int .i64 ((rd_T73 l0 (ji9)).f1)):=hS_
               refine norm_ (a':=?_) ?_ ?_
               rotate_left
               ·simp only [putAll,Act.put,iT,sZ,sC]
                rfl
               refine two_ (i:=20) (j:=22) (Ni:=some 6) (Nj:=some 8) #[tT,tT,tT,tT,tT,tT,tT,tT,tT,tT,tT,tT,tT,tT,tT,tT,tT,tT,tT,tT,tT,tT,fF,fF,fF,fF] #[tT,tT,tT,tT,tT,tT,tT,tT,tT,tT,tT,tT,tT,tT,tT,tT,tT,tT,tT,tT,fF,tT,tT,fF,fF,fF] rfl rfl rfl rfl (two_of HT_.out (by kernel_rfl)) (by decide) (by decide) (fun K hK => ?_) (fun K hK => ?_)
               ·skip
                refine box_step ?hg (N:=6) ?hd (cs:=#[.int .i64 0,.int .i64 0]) (t:=73) ?hr ?_;(case hd => rfl);(case hg => rfl);(case hr => first | (go_simp;done) | (go_simp;rfl))
                intro gb323 hg w17 hbox hb
                have BK323:=Aside0.mk (hbox)
                have GW323:=zb hg
                have GE323:=zb hg
                replace HB:=sb hb
                have NB324_323:=nl BK324 hg
                have NB323_324:=ng BK324 hg
                replace BK324:=kb BK324 hb
                clear hb hbox hg
                refine hK.out _ _ ⟨cq HB.out hw320_0,cq HB.out hw320_1,cq HB.out hw321_0,cq HB.out hw321_1,cq HB.out hw322_0,cq HB.out hw322_1⟩ (fun hHeld => ?_)
                clear hK K
                refine norm_ (a':=?_) ?_ ?_
                rotate_left
                ·show Act.put _ (some 6) _ = _
                 simp only [Act.put,iT,sZ,sC,i64_w,i32_w]
                 rfl
                exact norm_ (by first | (simp only [putAll,Act.put,iT,sZ,sC];done) | (simp only [putAll,Act.put,iT,sZ,sC];rfl)) (hJ20_21 (gb323,gb324) _ ⟨hHeld,(bk BK323),(bk BK324),GW323.out,GE323.out,NB324_323.out,NB323_324.out,GW324.out,GE324.out,ib⟩)
               ·skip
                refine box_step ?hg (N:=8) ?hd (cs:=#[.int .i64 0,.int .i64 0]) (t:=73) ?hr ?_;(case hd => rfl);(case hg => rfl);(case hr => first | (go_simp;done) | (go_simp;rfl))
                intro gb325 hg w17 hbox hb
                have BK325:=Aside0.mk (hbox)
                have GW325:=zb hg
                have GE325:=zb hg
                replace HB:=sb hb
                have NB324_325:=nl BK324 hg
                have NB325_324:=ng BK324 hg
                replace BK324:=kb BK324 hb
                clear hb hbox hg
                refine hK.out _ _ ⟨cq HB.out hw320_0,cq HB.out hw320_1,cq HB.out hw321_0,cq HB.out hw321_1,cq HB.out hw322_0,cq HB.out hw322_1⟩ (fun hHeld => ?_)
                clear hK K
                refine norm_ (a':=?_) ?_ ?_
                rotate_left
                ·show Act.put _ (some 8) _ = _
                 simp only [Act.put,iT,sZ,sC,i64_w,i32_w]
                 rfl
                exact norm_ (by first | (simp only [putAll,Act.put,iT,sZ,sC];done) | (simp only [putAll,Act.put,iT,sZ,sC];rfl)) (hJ21_22 (gb324,gb325) _ ⟨hHeld,(bk BK324),(bk BK325),GW324.out,GE324.out,NB325_324.out,NB324_325.out,GW325.out,GE325.out,ib⟩)
             ·skip
              rintro gb323 w16 ⟨hS_,h0_,h1_,h2_,h3_⟩
              have n0_ : Aside0 (w16.heap[gb323]? = some (.cells #[.int .i64 0,.int .i64 0] 73 (0,0))):=⟨h0_⟩
              have n1_ : Aside0 (w.heap.size ≤ gb323):=⟨h1_⟩
              have n2_ : Aside0 (w.heap.size ≤ gb323):=⟨h2_⟩
              have n3_ : Aside0 (Below w.heap.size w w16):=⟨h3_⟩
              clear HB
              clear h0_ h1_ h2_ h3_
              have BK323:=n0_
              have GW323:=n1_
              have GE323:=n2_
              have HB:=n3_
              clear n0_ n1_ n2_ n3_
              have hHeld : w16.cell? (ad320.add (((ji4)).toNat * 2)) = some (.int .i64 ((rd_T73 l0 (ji4)).f0)) ∧ w16.cell? ⟨(ad320.add (((ji4)).toNat * 2)).block,(ad320.add (((ji4)).toNat * 2)).off + 1,none⟩ = some (.int .i64 ((rd_T73 l0 (ji4)).f1)) ∧ w16.cell? (ad320.add ((a1).toNat * 2)) = some (.int .i64 ((rd_T73 l0 a1).f0)) ∧ w16.cell? ⟨(ad320.add ((a1).toNat * 2)).block,(ad320.add ((a1).toNat * 2)).off + 1,none⟩ = some (.int .i64 ((rd_T73 l0 a1).f1)) ∧ w16.cell? (ad320.add (((ji9)).toNat * 2)) = some (.int .i64 ((rd_T73 l0 (ji9)).f0)) ∧ w16.cell? ⟨(ad320.add (((ji9)).toNat * 2)).block,(ad320.add (((ji9)).toNat * 2)).off + 1,none⟩ = some (.int .i64 ((rd_T73 l0 (ji9)).f1)):=hS_
              refine norm_ (a':=?_) ?_ ?_
              rotate_left
              ·simp only [putAll,Act.put,iT,sZ,sC]
               rfl
              refine two_ (i:=21) (j:=22) (Ni:=some 7) (Nj:=some 8) #[tT,tT,tT,tT,tT,tT,tT,tT,tT,tT,tT,tT,tT,tT,tT,tT,tT,tT,tT,tT,tT,tT,fF,fF,fF,fF] #[tT,tT,tT,tT,tT,tT,tT,tT,tT,tT,tT,tT,tT,tT,tT,tT,tT,tT,tT,tT,tT,fF,tT,fF,fF,fF] rfl rfl rfl rfl (two_of HT_.out (by kernel_rfl)) (by decide) (by decide) (fun K hK => ?_) (fun K hK => ?_)
              ·skip
               refine box_step ?hg (N:=7) ?hd (cs:=#[.int .i64 0,.int .i64 0]) (t:=73) ?hr ?_;(case hd => rfl);(case hg => rfl);(case hr => first | (go_simp;done) | (go_simp;rfl))
               intro gb324 hg w17 hbox hb
               have BK324:=Aside0.mk (hbox)
               have GW324:=zb hg
               have GE324:=zb hg
               replace HB:=sb hb
               have NB323_324:=nl BK323 hg
               have NB324_323:=ng BK323 hg
               replace BK323:=kb BK323 hb
               clear hb hbox hg
               refine hK.out _ _ ⟨cq HB.out hw320_0,cq HB.out hw320_1,cq HB.out hw321_0,cq HB.out hw321_1,cq HB.out hw322_0,cq HB.out hw322_1⟩ (fun hHeld => ?_)
               clear hK K
               refine norm_ (a':=?_) ?_ ?_
               rotate_left
               ·show Act.put _ (some 7) _ = _
                simp only [Act.put,iT,sZ,sC,i64_w,i32_w]
                rfl
               exact norm_ (by first | (simp only [putAll,Act.put,iT,sZ,sC];done) | (simp only [putAll,Act.put,iT,sZ,sC];rfl)) (hJ20_21 (gb323,gb324) _ ⟨hHeld,(bk BK323),(bk BK324),GW323.out,GE323.out,NB324_323.out,NB323_324.out,GW324.out,GE324.out,ib⟩)
              ·skip
               refine box_step ?hg (N:=8) ?hd (cs:=#[.int .i64 0,.int .i64 0]) (t:=73) ?hr ?_;(case hd => rfl);(case hg => rfl);(case hr => first | (go_simp;done) | (go_simp;rfl))
               intro gb325 hg w17 hbox hb
               have BK325:=Aside0.mk (hbox)
               have GW325:=zb hg
               have GE325:=zb hg
               replace HB:=sb hb
               have NB323_325:=nl BK323 hg
               have NB325_323:=ng BK323 hg
               replace BK323:=kb BK323 hb
               clear hb hbox hg
               refine hK.out _ _ ⟨cq HB.out hw320_0,cq HB.out hw320_1,cq HB.out hw321_0,cq HB.out hw321_1,cq HB.out hw322_0,cq HB.out hw322_1⟩ (fun hHeld => ?_)
               clear hK K
               refine norm_ (a':=?_) ?_ ?_
               rotate_left
               ·show Act.put _ (some 8) _ = _
                simp only [Act.put,iT,sZ,sC,i64_w,i32_w]
                rfl
               exact norm_ (by first | (simp only [putAll,Act.put,iT,sZ,sC];done) | (simp only [putAll,Act.put,iT,sZ,sC];rfl)) (hJ20_22 (gb323,gb325) _ ⟨hHeld,(bk BK323),(bk BK325),GW323.out,GE323.out,NB325_323.out,NB323_325.out,GW325.out,GE325.out,ib⟩)
            ·skip
             rintro ⟨gb324,gb325⟩ w17 ⟨hS_,h0_,h1_,h2_,h3_,h4_,h5_,h6_,h7_,h8_⟩
             have n0_ : Aside0 (w17.heap[gb324]? = some (.cells #[.int .i64 0,.int .i64 0] 73 (0,0))):=⟨h0_⟩
             have n1_ : Aside0 (w17.heap[gb325]? = some (.cells #[.int .i64 0,.int .i64 0] 73 (0,0))):=⟨h1_⟩
             have n2_ : Aside0 (w.heap.size ≤ gb324):=⟨h2_⟩
             have n3_ : Aside0 (w.heap.size ≤ gb324):=⟨h3_⟩
             have n4_ : Aside0 (gb325 ≠ gb324):=⟨h4_⟩
             have n5_ : Aside0 (gb324 ≠ gb325):=⟨h5_⟩
             have n6_ : Aside0 (w.heap.size ≤ gb325):=⟨h6_⟩
             have n7_ : Aside0 (w.heap.size ≤ gb325):=⟨h7_⟩
             have n8_ : Aside0 (Below w.heap.size w w17):=⟨h8_⟩
             clear HB
             clear h0_ h1_ h2_ h3_ h4_ h5_ h6_ h7_ h8_
             have BK324:=n0_
             have BK325:=n1_
             have GW324:=n2_
             have GE324:=n3_
             have NB325_324:=n4_
             have NB324_325:=n5_
             have GW325:=n6_
             have GE325:=n7_
             have HB:=n8_
             clear n0_ n1_ n2_ n3_ n4_ n5_ n6_ n7_ n8_
             have hHeld : w17.cell? (ad320.add (((ji4)).toNat * 2)) = some (.int .i64 ((rd_T73 l0 (ji4)).f0)) ∧ w17.cell? ⟨(ad320.add (((ji4)).toNat * 2)).block,(ad320.add (((ji4)).toNat * 2)).off + 1,none⟩ = some (.int .i64 ((rd_T73 l0 (ji4)).f1)) ∧ w17.cell? (ad320.add ((a1).toNat * 2)) = some (.int .i64 ((rd_T73 l0 a1).f0)) ∧ w17.cell? ⟨(ad320.add ((a1).toNat * 2)).block,(ad320.add ((a1).toNat * 2)).off + 1,none⟩ = some (.int .i64 ((rd_T73 l0 a1).f1)) ∧ w17.cell? (ad320.add (((ji9)).toNat * 2)) = some (.int .i64 ((rd_T73 l0 (ji9)).f0)) ∧ w17.cell? ⟨(ad320.add (((ji9)).toNat * 2)).block,(ad320.add (((ji9)).toNat * 2)).off + 1,none⟩ = some (.int .i64 ((rd_T73 l0 (ji9)).f1)):=hS_
             refine norm_ (a':=?_) ?_ ?_
             rotate_left
             ·simp only [putAll,Act.put,iT,sZ,sC]
              rfl
             refine on 20 6 HT_ (fun K hK => ?_)
             refine box_step ?hg (N:=6) ?hd (cs:=#[.int .i64 0,.int .i64 0]) (t:=73) ?hr ?_;(case hd => rfl);(case hg => rfl);(case hr => first | (go_simp;done) | (go_simp;rfl))
             intro gb323 hg w18 hbox hb
             have BK323:=Aside0.mk (hbox)
             have GW323:=zb hg
             have GE323:=zb hg
             replace HB:=sb hb
             have NB324_323:=nl BK324 hg
             have NB323_324:=ng BK324 hg
             replace BK324:=kb BK324 hb
             have NB325_323:=nl BK325 hg
             have NB323_325:=ng BK325 hg
             replace BK325:=kb BK325 hb
             clear hb hbox hg
             refine hK.out _ _ ⟨cq HB.out hw320_0,cq HB.out hw320_1,cq HB.out hw321_0,cq HB.out hw321_1,cq HB.out hw322_0,cq HB.out hw322_1⟩ (fun hHeld => ?_)
             clear hK K
             refine norm_ (a':=?_) ?_ ?_
             rotate_left
             ·show Act.put _ (some 6) _ = _
              simp only [Act.put,iT,sZ,sC,i64_w,i32_w]
              rfl
             exact norm_ (by first | (simp only [putAll,Act.put,iT,sZ,sC];done) | (simp only [putAll,Act.put,iT,sZ,sC];rfl)) (hJ20_21_22 (gb323,gb324,gb325) _ ⟨hHeld,(bk BK323),(bk BK324),(bk BK325),GW323.out,GE323.out,NB324_323.out,NB323_324.out,NB325_323.out,NB323_325.out,GW324.out,GE324.out,NB325_324.out,NB324_325.out,GW325.out,GE325.out,ib⟩)
           ·skip
            rintro ⟨gb323,gb325⟩ w17 ⟨hS_,h0_,h1_,h2_,h3_,h4_,h5_,h6_,h7_,h8_⟩
            have n0_ : Aside0 (w17.heap[gb323]? = some (.cells #[.int .i64 0,.int .i64 0] 73 (0,0))):=⟨h0_⟩
            have n1_ : Aside0 (w17.heap[gb325]? = some (.cells #[.int .i64 0,.int .i64 0] 73 (0,0))):=⟨h1_⟩
            have n2_ : Aside0 (w.heap.size ≤ gb323):=⟨h2_⟩
            have n3_ : Aside0 (w.heap.size ≤ gb323):=⟨h3_⟩
            have n4_ : Aside0 (gb325 ≠ gb323):=⟨h4_⟩
            have n5_ : Aside0 (gb323 ≠ gb325):=⟨h5_⟩
            have n6_ : Aside0 (w.heap.size ≤ gb325):=⟨h6_⟩
            have n7_ : Aside0 (w.heap.size ≤ gb325):=⟨h7_⟩
            have n8_ : Aside0 (Below w.heap.size w w17):=⟨h8_⟩
            clear HB
            clear h0_ h1_ h2_ h3_ h4_ h5_ h6_ h7_ h8_
            have BK323:=n0_
            have BK325:=n1_
            have GW323:=n2_
            have GE323:=n3_
            have NB325_323:=n4_
            have NB323_325:=n5_
            have GW325:=n6_
            have GE325:=n7_
            have HB:=n8_
            clear n0_ n1_ n2_ n3_ n4_ n5_ n6_ n7_ n8_
            have hHeld : w17.cell? (ad320.add (((ji4)).toNat * 2)) = some (.int .i64 ((rd_T73 l0 (ji4)).f0)) ∧ w17.cell? ⟨(ad320.add (((ji4)).toNat * 2)).block,(ad320.add (((ji4)).toNat * 2)).off + 1,none⟩ = some (.int .i64 ((rd_T73 l0 (ji4)).f1)) ∧ w17.cell? (ad320.add ((a1).toNat * 2)) = some (.int .i64 ((rd_T73 l0 a1).f0)) ∧ w17.cell? ⟨(ad320.add ((a1).toNat * 2)).block,(ad320.add ((a1).toNat * 2)).off + 1,none⟩ = some (.int .i64 ((rd_T73 l0 a1).f1)) ∧ w17.cell? (ad320.add (((ji9)).toNat * 2)) = some (.int .i64 ((rd_T73 l0 (ji9)).f0)) ∧ w17.cell? ⟨(ad320.add (((ji9)).toNat * 2)).block,(ad320.add (((ji9)).toNat * 2)).off + 1,none⟩ = some (.int .i64 ((rd_T73 l0 (ji9)).f1)):=hS_
            refine norm_ (a':=?_) ?_ ?_
            rotate_left
            ·simp only [putAll,Act.put,iT,sZ,sC]
             rfl
            refine on 21 7 HT_ (fun K hK => ?_)
            refine box_step ?hg (N:=7) ?hd (cs:=#[.int .i64 0,.int .i64 0]) (t:=73) ?hr ?_;(case hd => rfl);(case hg => rfl);(case hr => first | (go_simp;done) | (go_simp;rfl))
            intro gb324 hg w18 hbox hb
            have BK324:=Aside0.mk (hbox)
            have GW324:=zb hg
            have GE324:=zb hg
            replace HB:=sb hb
            have NB323_324:=nl BK323 hg
            have NB324_323:=ng BK323 hg
            replace BK323:=kb BK323 hb
            have NB325_324:=nl BK325 hg
            have NB324_325:=ng BK325 hg
            replace BK325:=kb BK325 hb
            clear hb hbox hg
            refine hK.out _ _ ⟨cq HB.out hw320_0,cq HB.out hw320_1,cq HB.out hw321_0,cq HB.out hw321_1,cq HB.out hw322_0,cq HB.out hw322_1⟩ (fun hHeld => ?_)
            clear hK K
            refine norm_ (a':=?_) ?_ ?_
            rotate_left
            ·show Act.put _ (some 7) _ = _
             simp only [Act.put,iT,sZ,sC,i64_w,i32_w]
             rfl
            exact norm_ (by first | (simp only [putAll,Act.put,iT,sZ,sC];done) | (simp only [putAll,Act.put,iT,sZ,sC];rfl)) (hJ20_21_22 (gb323,gb324,gb325) _ ⟨hHeld,(bk BK323),(bk BK324),(bk BK325),GW323.out,GE323.out,NB324_323.out,NB323_324.out,NB325_323.out,NB323_325.out,GW324.out,GE324.out,NB325_324.out,NB324_325.out,GW325.out,GE325.out,ib⟩)
          ·skip
           rintro ⟨gb323,gb324⟩ w17 ⟨hS_,h0_,h1_,h2_,h3_,h4_,h5_,h6_,h7_,h8_⟩
           have n0_ : Aside0 (w17.heap[gb323]? = some (.cells #[.int .i64 0,.int .i64 0] 73 (0,0))):=⟨h0_⟩
           have n1_ : Aside0 (w17.heap[gb324]? = some (.cells #[.int .i64 0,.int .i64 0] 73 (0,0))):=⟨h1_⟩
           have n2_ : Aside0 (w.heap.size ≤ gb323):=⟨h2_⟩
           have n3_ : Aside0 (w.heap.size ≤ gb323):=⟨h3_⟩
           have n4_ : Aside0 (gb324 ≠ gb323):=⟨h4_⟩
           have n5_ : Aside0 (gb323 ≠ gb324):=⟨h5_⟩
           have n6_ : Aside0 (w.heap.size ≤ gb324):=⟨h6_⟩
           have n7_ : Aside0 (w.heap.size ≤ gb324):=⟨h7_⟩
           have n8_ : Aside0 (Below w.heap.size w w17):=⟨h8_⟩
           clear HB
           clear h0_ h1_ h2_ h3_ h4_ h5_ h6_ h7_ h8_
           have BK323:=n0_
           have BK324:=n1_
           have GW323:=n2_
           have GE323:=n3_
           have NB324_323:=n4_
           have NB323_324:=n5_
           have GW324:=n6_
           have GE324:=n7_
           have HB:=n8_
           clear n0_ n1_ n2_ n3_ n4_ n5_ n6_ n7_ n8_
           have hHeld : w17.cell? (ad320.add (((ji4)).toNat * 2)) = some (.int .i64 ((rd_T73 l0 (ji4)).f0)) ∧ w17.cell? ⟨(ad320.add (((ji4)).toNat * 2)).block,(ad320.add (((ji4)).toNat * 2)).off + 1,none⟩ = some (.int .i64 ((rd_T73 l0 (ji4)).f1)) ∧ w17.cell? (ad320.add ((a1).toNat * 2)) = some (.int .i64 ((rd_T73 l0 a1).f0)) ∧ w17.cell? ⟨(ad320.add ((a1).toNat * 2)).block,(ad320.add ((a1).toNat * 2)).off + 1,none⟩ = some (.int .i64 ((rd_T73 l0 a1).f1)) ∧ w17.cell? (ad320.add (((ji9)).toNat * 2)) = some (.int .i64 ((rd_T73 l0 (ji9)).f0)) ∧ w17.cell? ⟨(ad320.add (((ji9)).toNat * 2)).block,(ad320.add (((ji9)).toNat * 2)).off + 1,none⟩ = some (.int .i64 ((rd_T73 l0 (ji9)).f1)):=hS_
           refine norm_ (a':=?_) ?_ ?_
           rotate_left
           ·simp only [putAll,Act.put,iT,sZ,sC]
            rfl
           refine on 22 8 HT_ (fun K hK => ?_)
           refine box_step ?hg (N:=8) ?hd (cs:=#[.int .i64 0,.int .i64 0]) (t:=73) ?hr ?_;(case hd => rfl);(case hg => rfl);(case hr => first | (go_simp;done) | (go_simp;rfl))
           intro gb325 hg w18 hbox hb
           have BK325:=Aside0.mk (hbox)
           have GW325:=zb hg
           have GE325:=zb hg
           replace HB:=sb hb
           have NB323_325:=nl BK323 hg
           have NB325_323:=ng BK323 hg
           replace BK323:=kb BK323 hb
           have NB324_325:=nl BK324 hg
           have NB325_324:=ng BK324 hg
           replace BK324:=kb BK324 hb
           clear hb hbox hg
           refine hK.out _ _ ⟨cq HB.out hw320_0,cq HB.out hw320_1,cq HB.out hw321_0,cq HB.out hw321_1,cq HB.out hw322_0,cq HB.out hw322_1⟩ (fun hHeld => ?_)
           clear hK K
           refine norm_ (a':=?_) ?_ ?_
           rotate_left
           ·show Act.put _ (some 8) _ = _
            simp only [Act.put,iT,sZ,sC,i64_w,i32_w]
            rfl
           exact norm_ (by first | (simp only [putAll,Act.put,iT,sZ,sC];done) | (simp only [putAll,Act.put,iT,sZ,sC];rfl)) (hJ20_21_22 (gb323,gb324,gb325) _ ⟨hHeld,(bk BK323),(bk BK324),(bk BK325),GW323.out,GE323.out,NB324_323.out,NB323_324.out,NB325_323.out,NB323_325.out,GW324.out,GE324.out,NB325_324.out,NB324_325.out,GW325.out,GE325.out,ib⟩)
         rintro ⟨gb323,gb324,gb325⟩ w18 ⟨hS_,h0_,h1_,h2_,h3_,h4_,h5_,h6_,h7_,h8_,h9_,h10_,h11_,h12_,h13_,h14_,h15_⟩
         have n0_ : Aside0 (w18.heap[gb323]? = some (.cells #[.int .i64 0,.int .i64 0] 73 (0,0))):=⟨h0_⟩
         have n1_ : Aside0 (w18.heap[gb324]? = some (.cells #[.int .i64 0,.int .i64 0] 73 (0,0))):=⟨h1_⟩
         have n2_ : Aside0 (w18.heap[gb325]? = some (.cells #[.int .i64 0,.int .i64 0] 73 (0,0))):=⟨h2_⟩
         have n3_ : Aside0 (w.heap.size ≤ gb323):=⟨h3_⟩
         have n4_ : Aside0 (w.heap.size ≤ gb323):=⟨h4_⟩
         have n5_ : Aside0 (gb324 ≠ gb323):=⟨h5_⟩
         have n6_ : Aside0 (gb323 ≠ gb324):=⟨h6_⟩
         have n7_ : Aside0 (gb325 ≠ gb323):=⟨h7_⟩
         have n8_ : Aside0 (gb323 ≠ gb325):=⟨h8_⟩
         have n9_ : Aside0 (w.heap.size ≤ gb324):=⟨h9_⟩
         have n10_ : Aside0 (w.heap.size ≤ gb324):=⟨h10_⟩
         have n11_ : Aside0 (gb325 ≠ gb324):=⟨h11_⟩
         have n12_ : Aside0 (gb324 ≠ gb325):=⟨h12_⟩
         have n13_ : Aside0 (w.heap.size ≤ gb325):=⟨h13_⟩
         have n14_ : Aside0 (w.heap.size ≤ gb325):=⟨h14_⟩
         have n15_ : Aside0 (Below w.heap.size w w18):=⟨h15_⟩
         clear HB
         clear h0_ h1_ h2_ h3_ h4_ h5_ h6_ h7_ h8_ h9_ h10_ h11_ h12_ h13_ h14_ h15_
         have BK323:=n0_
         have BK324:=n1_
         have BK325:=n2_
         have GW323:=n3_
         have GE323:=n4_
         have NB324_323:=n5_
         have NB323_324:=n6_
         have NB325_323:=n7_
         have NB323_325:=n8_
         have GW324:=n9_
         have GE324:=n10_
         have NB325_324:=n11_
         have NB324_325:=n12_
         have GW325:=n13_
         have GE325:=n14_
         have HB:=n15_
         clear n0_ n1_ n2_ n3_ n4_ n5_ n6_ n7_ n8_ n9_ n10_ n11_ n12_ n13_ n14_ n15_
         have hHeld : w18.cell? (ad320.add (((ji4)).toNat * 2)) = some (.int .i64 ((rd_T73 l0 (ji4)).f0)) ∧ w18.cell? ⟨(ad320.add (((ji4)).toNat * 2)).block,(ad320.add (((ji4)).toNat * 2)).off + 1,none⟩ = some (.int .i64 ((rd_T73 l0 (ji4)).f1)) ∧ w18.cell? (ad320.add ((a1).toNat * 2)) = some (.int .i64 ((rd_T73 l0 a1).f0)) ∧ w18.cell? ⟨(ad320.add ((a1).toNat * 2)).block,(ad320.add ((a1).toNat * 2)).off + 1,none⟩ = some (.int .i64 ((rd_T73 l0 a1).f1)) ∧ w18.cell? (ad320.add (((ji9)).toNat * 2)) = some (.int .i64 ((rd_T73 l0 (ji9)).f0)) ∧ w18.cell? ⟨(ad320.add (((ji9)).toNat * 2)).block,(ad320.add (((ji9)).toNat * 2)).off + 1,none⟩ = some (.int .i64 ((rd_T73 l0 (ji9)).f1)):=hS_
         refine norm_ (a':=?_) ?_ ?_
         rotate_left
         ·simp only [putAll,Act.put,iT,sZ,sC]
          rfl
         refine one_ (i:=23) (N:=none) #[tT,tT,tT,tT,tT,tT,tT,tT,tT,tT,tT,tT,tT,tT,tT,tT,tT,tT,tT,tT,tT,tT,tT,tT,fF,fF] rfl rfl (one_of HT_.out (by kernel_rfl)) (by decide) (fun K hK => ?_)
         have hs19 : w18.cell? ⟨gb323,0,none⟩ = some (.int .i64 0):=(blk_cell BK323.out 0).trans rfl
         have hfs19:=blk_frozen BK323.out 0
         have hns19_1:=NB324_323.out
         have hns19_2:=NB325_323.out
         have hms19_1:=NB323_324.out
         have hms19_2:=NB323_325.out
         have hs20 : w18.cell? ⟨gb323,1,none⟩ = some (.int .i64 0):=(blk_cell BK323.out 1).trans rfl
         have hfs20:=blk_frozen BK323.out 1
         have hns20_1:=NB324_323.out
         have hns20_2:=NB325_323.out
         have hms20_1:=NB323_324.out
         have hms20_2:=NB323_325.out
         refine skip_ (w1:=?_) (by rfl) rfl ?_ ?_
         rotate_left
         ·go_simp
          rfl
         refine hK.out _ _ ⟨(cg hw320_0 GW323 ((cg hw320_0 GW323 (hHeld.1)))),(cg hw320_1 GW323 ((cg hw320_1 GW323 (hHeld.2.1)))),(cg hw321_0 GW323 ((cg hw321_0 GW323 (hHeld.2.2.1)))),(cg hw321_1 GW323 ((cg hw321_1 GW323 (hHeld.2.2.2.1)))),(cg hw322_0 GW323 ((cg hw322_0 GW323 (hHeld.2.2.2.2.1)))),(cg hw322_1 GW323 ((cg hw322_1 GW323 (hHeld.2.2.2.2.2))))⟩ (fun hHeld => ?_)
         clear hK K
         refine one_ (i:=24) (N:=none) #[tT,tT,tT,tT,tT,tT,tT,tT,tT,tT,tT,tT,tT,tT,tT,tT,tT,tT,tT,tT,tT,tT,tT,tT,tT,fF] rfl rfl (one_of HT_.out (by kernel_rfl)) (by decide) (fun K hK => ?_)
         have hs21 : w18.cell? ⟨gb324,0,none⟩ = some (.int .i64 0):=(blk_cell BK324.out 0).trans rfl
         have hfs21:=blk_frozen BK324.out 0
         have hns21_0:=NB323_324.out
         have hns21_2:=NB325_324.out
         have hms21_0:=NB324_323.out
         have hms21_2:=NB324_325.out
         have hs22 : w18.cell? ⟨gb324,1,none⟩ = some (.int .i64 0):=(blk_cell BK324.out 1).trans rfl
         have hfs22:=blk_frozen BK324.out 1
         have hns22_0:=NB323_324.out
         have hns22_2:=NB325_324.out
         have hms22_0:=NB324_323.out
         have hms22_2:=NB324_325.out
         refine skip_ (w1:=?_) (by rfl) rfl ?_ ?_
         rotate_left
         ·go_simp
          rfl
         refine hK.out _ _ ⟨(cg hw320_0 GW324 ((cg hw320_0 GW324 (hHeld.1)))),(cg hw320_1 GW324 ((cg hw320_1 GW324 (hHeld.2.1)))),(cg hw321_0 GW324 ((cg hw321_0 GW324 (hHeld.2.2.1)))),(cg hw321_1 GW324 ((cg hw321_1 GW324 (hHeld.2.2.2.1)))),(cg hw322_0 GW324 ((cg hw322_0 GW324 (hHeld.2.2.2.2.1)))),(cg hw322_1 GW324 ((cg hw322_1 GW324 (hHeld.2.2.2.2.2))))⟩ (fun hHeld => ?_)
         clear hK K
         refine one_ (i:=25) (N:=none) #[tT,tT,tT,tT,tT,tT,tT,tT,tT,tT,tT,tT,tT,tT,tT,tT,tT,tT,tT,tT,tT,tT,tT,tT,tT,tT] rfl rfl (one_of HT_.out (by kernel_rfl)) (by decide) (fun K hK => ?_)
         have hs23 : w18.cell? ⟨gb325,0,none⟩ = some (.int .i64 0):=(blk_cell BK325.out 0).trans rfl
         have hfs23:=blk_frozen BK325.out 0
         have hns23_0:=NB323_325.out
         have hns23_1:=NB324_325.out
         have hms23_0:=NB325_323.out
         have hms23_1:=NB325_324.out
         have hs24 : w18.cell? ⟨gb325,1,none⟩ = some (.int .i64 0):=(blk_cell BK325.out 1).trans rfl
         have hfs24:=blk_frozen BK325.out 1
         have hns24_0:=NB323_325.out
         have hns24_1:=NB324_325.out
         have hms24_0:=NB325_323.out
         have hms24_1:=NB325_324.out
         refine skip_ (w1:=?_) (by rfl) rfl ?_ ?_
         rotate_left
         ·go_simp
          rfl
         refine hK.out _ _ ⟨(cg hw320_0 GW325 ((cg hw320_0 GW325 (hHeld.1)))),(cg hw320_1 GW325 ((cg hw320_1 GW325 (hHeld.2.1)))),(cg hw321_0 GW325 ((cg hw321_0 GW325 (hHeld.2.2.1)))),(cg hw321_1 GW325 ((cg hw321_1 GW325 (hHeld.2.2.2.1)))),(cg hw322_0 GW325 ((cg hw322_0 GW325 (hHeld.2.2.2.2.1)))),(cg hw322_1 GW325 ((cg hw322_1 GW325 (hHeld.2.2.2.2.2))))⟩ (fun hHeld => ?_)
         clear hK K
         refine done_ (done_of HT_.out (by kernel_rfl)) ?_
         have hnb25:=NB323_324.out
         have hnc25:=NB324_323.out
         have hnb26:=NB323_325.out
         have hnc26:=NB325_323.out
         have hcz27_0:=ck BK323 0
         have hcz27_1:=ck BK323 1
         have hfz27_0:=blk_frozen BK323.out 0
         have hfz27_1:=blk_frozen BK323.out 1
         have hnb28:=NB324_325.out
         have hnc28:=NB325_324.out
         have hcz29_0:=ck BK324 0
         have hcz29_1:=ck BK324 1
         have hfz29_0:=blk_frozen BK324.out 0
         have hfz29_1:=blk_frozen BK324.out 1
         have hcz30_0:=ck BK325 0
         have hcz30_1:=ck BK325 1
         have hfz30_0:=blk_frozen BK325.out 0
         have hfz30_1:=blk_frozen BK325.out 1
         try go_wp2_with (first | ((with_reducible refine gate_callee (f:=147) rfl ?_);refine goesL_ (some 36) rfl rfl Try.func147 (by kernel_rfl) rfl #[.agg #[.int .i64 ((rd_T73 l0 (ji4)).f0),.int .i64 ((rd_T73 l0 (ji4)).f1)],.agg #[.int .i64 ((rd_T73 l0 a1).f0),.int .i64 ((rd_T73 l0 a1).f1)],.agg #[.int .i64 ((rd_T73 l0 (ji9)).f0),.int .i64 ((rd_T73 l0 (ji9)).f1)]] rfl (by (try simp only [List.map_toArray,List.map_cons,List.map_nil]);first | done | (simp only [hji4,hji9];rfl) | rfl | (simp only [List.length_drop,List.length_take];rfl)) ?_;(with_reducible refine (impl_side.calls ((rd_T73 l0 (ji4)).f0) ((rd_T73 l0 (ji4)).f1) ((rd_T73 l0 a1).f0) ((rd_T73 l0 a1).f1) ((rd_T73 l0 (ji9)).f0) ((rd_T73 l0 (ji9)).f1) t326 _ A12.out).mono ?_);rintro e w31 ⟨rfl,hb⟩;refine ⟨_,rfl,?_⟩;replace BK323:=Aside0.mk (blk_below (g:=gb323) (o:=.cells #[.int .i64 ((rd_T73 l0 (ji4)).f0),.int .i64 ((rd_T73 l0 (ji4)).f1)] 73 (0,0)) (by refine bF NB323_325.out ?_;refine bF NB323_325.out ?_;refine bF NB323_324.out ?_;refine bF NB323_324.out ?_;refine bP (cs:=#[.int .i64 ((rd_T73 l0 (ji4)).f0),.int .i64 0]) 1 ?_;refine bP (cs:=#[.int .i64 0,.int .i64 0]) 0 ?_;exact bk BK323) hb);replace BK324:=Aside0.mk (blk_below (g:=gb324) (o:=.cells #[.int .i64 ((rd_T73 l0 a1).f0),.int .i64 ((rd_T73 l0 a1).f1)] 73 (0,0)) (by refine bF NB324_325.out ?_;refine bF NB324_325.out ?_;refine bP (cs:=#[.int .i64 ((rd_T73 l0 a1).f0),.int .i64 0]) 1 ?_;refine bP (cs:=#[.int .i64 0,.int .i64 0]) 0 ?_;refine bF NB324_323.out ?_;refine bF NB324_323.out ?_;exact bk BK324) hb);replace BK325:=Aside0.mk (blk_below (g:=gb325) (o:=.cells #[.int .i64 ((rd_T73 l0 (ji9)).f0),.int .i64 ((rd_T73 l0 (ji9)).f1)] 73 (0,0)) (by refine bP (cs:=#[.int .i64 ((rd_T73 l0 (ji9)).f0),.int .i64 0]) 1 ?_;refine bP (cs:=#[.int .i64 0,.int .i64 0]) 0 ?_;refine bF NB325_324.out ?_;refine bF NB325_324.out ?_;refine bF NB325_323.out ?_;refine bF NB325_323.out ?_;exact bk BK325) hb);replace HB:=sb hb;(try clear hb);(try clear hb2);(try clear hk);(try clear hi)))
         go_loopg [40] k (fun kq v40 w' => ∃ (x40_1 : Int),v40 = .int .i64 x40_1 ∧ Aside0 (impl_ear.l0 kq a1 (l0.length : Int) l0 (l0.length : Int) x40_1 ((rd_T73 l0 (ji4)).f0) ((rd_T73 l0 (ji4)).f1) ((rd_T73 l0 a1).f0) ((rd_T73 l0 a1).f1) ((rd_T73 l0 (ji9)).f0) ((rd_T73 l0 (ji9)).f1) = some r) ∧ Aside0 (kq ≤ k) ∧ Aside0 (w'.heap[gb323]? = some (.cells #[.int .i64 ((rd_T73 l0 (ji4)).f0),.int .i64 ((rd_T73 l0 (ji4)).f1)] 73 (0,0))) ∧ Aside0 (w'.heap[gb324]? = some (.cells #[.int .i64 ((rd_T73 l0 a1).f0),.int .i64 ((rd_T73 l0 a1).f1)] 73 (0,0))) ∧ Aside0 (w'.heap[gb325]? = some (.cells #[.int .i64 ((rd_T73 l0 (ji9)).f0),.int .i64 ((rd_T73 l0 (ji9)).f1)] 73 (0,0))) ∧ Aside0 (Below w.heap.size w w'))
         case atStart => exact ⟨(0),(by first | rfl | (simp;done) | (simp [*];done)),H',⟨Nat.le_refl _⟩,⟨by exact bk BK323⟩,⟨by exact bk BK324⟩,⟨by exact bk BK325⟩,⟨ib⟩⟩
         case round =>
          clear H'
          try clear c1
          try clear c2
          try clear p2
          try clear c14
          try clear c25
          try clear c26
          try clear c28
          try clear hcz27_0
          try clear hcz27_1
          try clear hcz29_0
          try clear hcz29_1
          try clear hcz30_0
          try clear hcz30_1
          try clear hfz27_0
          try clear hfz27_1
          try clear hfz29_0
          try clear hfz29_1
          try clear hfz30_0
          try clear hfz30_1
          obtain ⟨x40_1,rfl,HA,HK1,BK323,BK324,BK325,HB⟩:=hrel
          cases gk with
          | zero => exact absurd HA.out (by simp [impl_ear.l0])
          | succ k1 =>
           have H:=HA.out
           clear HA
           simp only [impl_ear.l0] at H
           by_cases c32 : x40_1 < (l0.length : Int)
           ·rw [if_pos c32] at H
            have c32b0 : decide (x40_1 < (l0.length : Int)) = true:=decide_eq_true c32
            clear c32
            by_cases c33 : 0 ≤ x40_1
            ·rw [if_pos c33] at H
             have c33b0 : decide (0 ≤ x40_1) = true:=decide_eq_true c33
             clear c33
             by_cases c34 : x40_1 < (l0.length : Int)
             ·rw [if_pos c34] at H
              have c34b0 : decide (x40_1 < (l0.length : Int)) = true:=decide_eq_true c34
              clear c34
              by_cases c35 : x40_1 = a1
              ·rw [if_pos c35] at H
               have c35b0 : (x40_1 == a1) = true:=beq_iff_eq.mpr c35
               have c35b1 : (x40_1 != a1) = false:=bne_eq_false_iff_eq.mpr c35
               clear c35
               have H':=Aside0.mk H
               clear H
               have p327 : 0 ≤ (x40_1 : Int):=da
               have q327 : x40_1 < (l0.length : Int):=da
               obtain ⟨ad327,e327,hx327_0,hx327_1⟩:=at_T73 HR0.out x40_1 p327 q327
               obtain rfl : ad320 = ad327:=(by injection e327)
               replace hx327_0:=cq HB.out hx327_0
               replace hx327_1:=cq HB.out hx327_1
               replace p327:=eq_true p327
               replace q327:=eq_true q327
               go_wp2_with (first | ((with_reducible refine gate_dst (N:=10) rfl ?_);refine bx (cs:=#[.int .i64 0,.int .i64 0]) (t:=73) ?_;intro gb328 hg w36 hbox hb;have BK328:=Aside0.mk (hbox);have GW328:=zb hg;have GE328:=zb hg;replace HB:=sb hb;have NB323_328:=nl BK323 hg;have NB328_323:=ng BK323 hg;replace BK323:=kb BK323 hb;have NB324_328:=nl BK324 hg;have NB328_324:=ng BK324 hg;replace BK324:=kb BK324 hb;have NB325_328:=nl BK325 hg;have NB328_325:=ng BK325 hg;replace BK325:=kb BK325 hb;clear hb hbox hg;have hnb37:=NB328_323.out;have hnc37:=NB323_328.out;have hnb38:=NB328_324.out;have hnc38:=NB324_328.out;have hnb39:=NB328_325.out;have hnc39:=NB325_328.out;have hcz40_0:=ck BK328 0;have hcz40_1:=ck BK328 1;have hfz40_0:=blk_frozen BK328.out 0;have hfz40_1:=blk_frozen BK328.out 1))
               go_roundg k1
               case measure => have:=HK1.out;omega
               case rel => exact ⟨(wrap64 (x40_1 + 1)),(by first | rfl | (simp;done) | (simp [*];done)),H',⟨by have:=HK1.out;omega⟩,⟨by refine bF NB323_328.out ?_;refine bF NB323_328.out ?_;exact bk BK323⟩,⟨by refine bF NB324_328.out ?_;refine bF NB324_328.out ?_;exact bk BK324⟩,⟨by refine bF NB325_328.out ?_;refine bF NB325_328.out ?_;exact bk BK325⟩,⟨ib⟩⟩
              ·rw [if_neg c35] at H
               have c35b0 : (x40_1 == a1) = false:=beq_eq_false_iff_ne.mpr c35
               have c35b1 : (x40_1 != a1) = true:=bne_iff_ne.mpr c35
               by_cases c41 : (l0.length : Int) = 0
               ·rw [if_pos c41] at H
                exact absurd H (by simp)
               ·rw [if_neg c41] at H
                have c41b0 : ((l0.length : Int) == 0) = false:=beq_eq_false_iff_ne.mpr c41
                have c41b1 : ((l0.length : Int) != 0) = true:=bne_iff_ne.mpr c41
                have c41b2 : ¬ (l0 = []):=fun h_ => c41 (by rw [h_];rfl)
                by_cases c42 : x40_1 = (Int.tmod (wrap64 ((wrap64 (a1 + (l0.length : Int))) - 1)) (l0.length : Int))
                ·rw [if_pos c42] at H
                 have c42b0 : (x40_1 == (Int.tmod (wrap64 ((wrap64 (a1 + (l0.length : Int))) - 1)) (l0.length : Int))) = true:=beq_iff_eq.mpr c42
                 rw [hji4] at c42b0
                 have c42b1 : (x40_1 != (Int.tmod (wrap64 ((wrap64 (a1 + (l0.length : Int))) - 1)) (l0.length : Int))) = false:=bne_eq_false_iff_eq.mpr c42
                 rw [hji4] at c42b1
                 clear c42
                 have H':=Aside0.mk H
                 clear H
                 have p327 : 0 ≤ (x40_1 : Int):=da
                 have q327 : x40_1 < (l0.length : Int):=da
                 obtain ⟨ad327,e327,hx327_0,hx327_1⟩:=at_T73 HR0.out x40_1 p327 q327
                 obtain rfl : ad320 = ad327:=(by injection e327)
                 replace hx327_0:=cq HB.out hx327_0
                 replace hx327_1:=cq HB.out hx327_1
                 replace p327:=eq_true p327
                 replace q327:=eq_true q327
                 go_wp2_with (first | ((with_reducible refine gate_dst (N:=10) rfl ?_);refine bx (cs:=#[.int .i64 0,.int .i64 0]) (t:=73) ?_;intro gb328 hg w43 hbox hb;have BK328:=Aside0.mk (hbox);have GW328:=zb hg;have GE328:=zb hg;replace HB:=sb hb;have NB323_328:=nl BK323 hg;have NB328_323:=ng BK323 hg;replace BK323:=kb BK323 hb;have NB324_328:=nl BK324 hg;have NB328_324:=ng BK324 hg;replace BK324:=kb BK324 hb;have NB325_328:=nl BK325 hg;have NB328_325:=ng BK325 hg;replace BK325:=kb BK325 hb;clear hb hbox hg;have hnb44:=NB328_323.out;have hnc44:=NB323_328.out;have hnb45:=NB328_324.out;have hnc45:=NB324_328.out;have hnb46:=NB328_325.out;have hnc46:=NB325_328.out;have hcz47_0:=ck BK328 0;have hcz47_1:=ck BK328 1;have hfz47_0:=blk_frozen BK328.out 0;have hfz47_1:=blk_frozen BK328.out 1))
                 go_roundg k1
                 case measure => have:=HK1.out;omega
                 case rel => exact ⟨(wrap64 (x40_1 + 1)),(by first | rfl | (simp;done) | (simp [*];done)),H',⟨by have:=HK1.out;omega⟩,⟨by refine bF NB323_328.out ?_;refine bF NB323_328.out ?_;exact bk BK323⟩,⟨by refine bF NB324_328.out ?_;refine bF NB324_328.out ?_;exact bk BK324⟩,⟨by refine bF NB325_328.out ?_;refine bF NB325_328.out ?_;exact bk BK325⟩,⟨ib⟩⟩
                ·rw [if_neg c42] at H
                 have c42b0 : (x40_1 == (Int.tmod (wrap64 ((wrap64 (a1 + (l0.length : Int))) - 1)) (l0.length : Int))) = false:=beq_eq_false_iff_ne.mpr c42
                 rw [hji4] at c42b0
                 have c42b1 : (x40_1 != (Int.tmod (wrap64 ((wrap64 (a1 + (l0.length : Int))) - 1)) (l0.length : Int))) = true:=bne_iff_ne.mpr c42
                 rw [hji4] at c42b1
                 by_cases c48 : x40_1 = (Int.tmod (wrap64 (a1 + 1)) (l0.length : Int))
                 ·rw [if_pos c48] at H
                  have c48b0 : (x40_1 == (Int.tmod (wrap64 (a1 + 1)) (l0.length : Int))) = true:=beq_iff_eq.mpr c48
                  rw [hji9] at c48b0
                  have c48b1 : (x40_1 != (Int.tmod (wrap64 (a1 + 1)) (l0.length : Int))) = false:=bne_eq_false_iff_eq.mpr c48
                  rw [hji9] at c48b1
                  clear c48
                  have H':=Aside0.mk H
                  clear H
                  have p327 : 0 ≤ (x40_1 : Int):=da
                  have q327 : x40_1 < (l0.length : Int):=da
                  obtain ⟨ad327,e327,hx327_0,hx327_1⟩:=at_T73 HR0.out x40_1 p327 q327
                  obtain rfl : ad320 = ad327:=(by injection e327)
                  replace hx327_0:=cq HB.out hx327_0
                  replace hx327_1:=cq HB.out hx327_1
                  replace p327:=eq_true p327
                  replace q327:=eq_true q327
                  go_wp2_with (first | ((with_reducible refine gate_dst (N:=10) rfl ?_);refine bx (cs:=#[.int .i64 0,.int .i64 0]) (t:=73) ?_;intro gb328 hg w49 hbox hb;have BK328:=Aside0.mk (hbox);have GW328:=zb hg;have GE328:=zb hg;replace HB:=sb hb;have NB323_328:=nl BK323 hg;have NB328_323:=ng BK323 hg;replace BK323:=kb BK323 hb;have NB324_328:=nl BK324 hg;have NB328_324:=ng BK324 hg;replace BK324:=kb BK324 hb;have NB325_328:=nl BK325 hg;have NB328_325:=ng BK325 hg;replace BK325:=kb BK325 hb;clear hb hbox hg;have hnb50:=NB328_323.out;have hnc50:=NB323_328.out;have hnb51:=NB328_324.out;have hnc51:=NB324_328.out;have hnb52:=NB328_325.out;have hnc52:=NB325_328.out;have hcz53_0:=ck BK328 0;have hcz53_1:=ck BK328 1;have hfz53_0:=blk_frozen BK328.out 0;have hfz53_1:=blk_frozen BK328.out 1))
                  go_roundg k1
                  case measure => have:=HK1.out;omega
                  case rel => exact ⟨(wrap64 (x40_1 + 1)),(by first | rfl | (simp;done) | (simp [*];done)),H',⟨by have:=HK1.out;omega⟩,⟨by refine bF NB323_328.out ?_;refine bF NB323_328.out ?_;exact bk BK323⟩,⟨by refine bF NB324_328.out ?_;refine bF NB324_328.out ?_;exact bk BK324⟩,⟨by refine bF NB325_328.out ?_;refine bF NB325_328.out ?_;exact bk BK325⟩,⟨ib⟩⟩
                 ·rw [if_neg c48] at H
                  have c48b0 : (x40_1 == (Int.tmod (wrap64 (a1 + 1)) (l0.length : Int))) = false:=beq_eq_false_iff_ne.mpr c48
                  rw [hji9] at c48b0
                  have c48b1 : (x40_1 != (Int.tmod (wrap64 (a1 + 1)) (l0.length : Int))) = true:=bne_iff_ne.mpr c48
                  rw [hji9] at c48b1
                  replace H:=Option.bind_eq_some_iff.mp H
                  obtain ⟨t329,A540,H⟩:=H
                  replace H : (if t329 = true then (some false) else (impl_ear.l0 k1 a1 (l0.length : Int) l0 (l0.length : Int) (wrap64 (x40_1 + 1)) ((rd_T73 l0 (ji4)).f0) ((rd_T73 l0 (ji4)).f1) ((rd_T73 l0 a1).f0) ((rd_T73 l0 a1).f1) ((rd_T73 l0 (ji9)).f0) ((rd_T73 l0 (ji9)).f1))) = some r:=H
                  have A54:=Aside0.mk A540
                  clear A540
                  by_cases c55 : t329 = true
                  ·subst c55
                   have H1 : (some false) = some r:=by rw [if_pos rfl] at H;exact H
                   clear H
                   have H:=H1
                   clear H1
                   obtain rfl:=Option.some.inj H
                   have p327 : 0 ≤ (x40_1 : Int):=da
                   have q327 : x40_1 < (l0.length : Int):=da
                   obtain ⟨ad327,e327,hx327_0,hx327_1⟩:=at_T73 HR0.out x40_1 p327 q327
                   obtain rfl : ad320 = ad327:=(by injection e327)
                   replace hx327_0:=cq HB.out hx327_0
                   replace hx327_1:=cq HB.out hx327_1
                   replace p327:=eq_true p327
                   replace q327:=eq_true q327
                   go_wp2_with (first | ((with_reducible refine gate_dst (N:=10) rfl ?_);refine bx (cs:=#[.int .i64 0,.int .i64 0]) (t:=73) ?_;intro gb328 hg w56 hbox hb;have BK328:=Aside0.mk (hbox);have GW328:=zb hg;have GE328:=zb hg;replace HB:=sb hb;have NB323_328:=nl BK323 hg;have NB328_323:=ng BK323 hg;replace BK323:=kb BK323 hb;have NB324_328:=nl BK324 hg;have NB328_324:=ng BK324 hg;replace BK324:=kb BK324 hb;have NB325_328:=nl BK325 hg;have NB328_325:=ng BK325 hg;replace BK325:=kb BK325 hb;clear hb hbox hg;have hnb57:=NB328_323.out;have hnc57:=NB323_328.out;have hnb58:=NB328_324.out;have hnc58:=NB324_328.out;have hnb59:=NB328_325.out;have hnc59:=NB325_328.out;have hcz60_0:=ck BK328 0;have hcz60_1:=ck BK328 1;have hfz60_0:=blk_frozen BK328.out 0;have hfz60_1:=blk_frozen BK328.out 1;have hnb61:=NB323_324.out;have hnc61:=NB324_323.out;have hnb62:=NB323_325.out;have hnc62:=NB325_323.out;have hcz63_0:=ck BK323 0;have hcz63_1:=ck BK323 1;have hfz63_0:=blk_frozen BK323.out 0;have hfz63_1:=blk_frozen BK323.out 1;have hnb64:=NB324_325.out;have hnc64:=NB325_324.out;have hcz65_0:=ck BK324 0;have hcz65_1:=ck BK324 1;have hfz65_0:=blk_frozen BK324.out 0;have hfz65_1:=blk_frozen BK324.out 1;have hcz66_0:=ck BK325 0;have hcz66_1:=ck BK325 1;have hfz66_0:=blk_frozen BK325.out 0;have hfz66_1:=blk_frozen BK325.out 1) | (go_at_call 150;(with_reducible refine (impl_inTriangle.calls ((rd_T73 l0 (ji4)).f0) ((rd_T73 l0 (ji4)).f1) ((rd_T73 l0 a1).f0) ((rd_T73 l0 a1).f1) ((rd_T73 l0 (ji9)).f0) ((rd_T73 l0 (ji9)).f1) ((rd_T73 l0 x40_1).f0) ((rd_T73 l0 x40_1).f1) true _ A54.out).mono ?_);rintro e w67 ⟨rfl,hb⟩;replace BK323:=Aside0.mk (blk_below (g:=gb323) (o:=.cells #[.int .i64 ((rd_T73 l0 (ji4)).f0),.int .i64 ((rd_T73 l0 (ji4)).f1)] 73 (0,0)) (by refine bF NB323_328.out ?_;refine bF NB323_328.out ?_;exact bk BK323) hb);replace BK324:=Aside0.mk (blk_below (g:=gb324) (o:=.cells #[.int .i64 ((rd_T73 l0 a1).f0),.int .i64 ((rd_T73 l0 a1).f1)] 73 (0,0)) (by refine bF NB324_328.out ?_;refine bF NB324_328.out ?_;exact bk BK324) hb);replace BK325:=Aside0.mk (blk_below (g:=gb325) (o:=.cells #[.int .i64 ((rd_T73 l0 (ji9)).f0),.int .i64 ((rd_T73 l0 (ji9)).f1)] 73 (0,0)) (by refine bF NB325_328.out ?_;refine bF NB325_328.out ?_;exact bk BK325) hb);replace BK328:=Aside0.mk (blk_below (g:=gb328) (o:=.cells #[.int .i64 ((rd_T73 l0 x40_1).f0),.int .i64 ((rd_T73 l0 x40_1).f1)] 73 (0,0)) (by refine bP (cs:=#[.int .i64 ((rd_T73 l0 x40_1).f0),.int .i64 0]) 1 ?_;refine bP (cs:=#[.int .i64 0,.int .i64 0]) 0 ?_;exact bk BK328) hb);replace HB:=sb hb;(try clear hb);(try clear hb2);(try clear hk);(try clear hi)))
                   go_ret
                   exact ⟨by first | rfl | (simp [errW_none,errW_some] <;> rfl) | (simp only [← hji4,← hji9];first | rfl | (simp [errW_none,errW_some] <;> rfl)) | (simp [*,errW_none,errW_some] <;> rfl),ib⟩
                  ·replace c55:=Bool.eq_false_iff.mpr c55
                   subst c55
                   have H1 : (impl_ear.l0 k1 a1 (l0.length : Int) l0 (l0.length : Int) (wrap64 (x40_1 + 1)) ((rd_T73 l0 (ji4)).f0) ((rd_T73 l0 (ji4)).f1) ((rd_T73 l0 a1).f0) ((rd_T73 l0 a1).f1) ((rd_T73 l0 (ji9)).f0) ((rd_T73 l0 (ji9)).f1)) = some r:=by rw [if_neg (show ¬ (false = true) by decide)] at H;exact H
                   clear H
                   have H:=H1
                   clear H1
                   have H':=Aside0.mk H
                   clear H
                   have p327 : 0 ≤ (x40_1 : Int):=da
                   have q327 : x40_1 < (l0.length : Int):=da
                   obtain ⟨ad327,e327,hx327_0,hx327_1⟩:=at_T73 HR0.out x40_1 p327 q327
                   obtain rfl : ad320 = ad327:=(by injection e327)
                   replace hx327_0:=cq HB.out hx327_0
                   replace hx327_1:=cq HB.out hx327_1
                   replace p327:=eq_true p327
                   replace q327:=eq_true q327
                   go_wp2_with (first | ((with_reducible refine gate_dst (N:=10) rfl ?_);refine bx (cs:=#[.int .i64 0,.int .i64 0]) (t:=73) ?_;intro gb328 hg w68 hbox hb;have BK328:=Aside0.mk (hbox);have GW328:=zb hg;have GE328:=zb hg;replace HB:=sb hb;have NB323_328:=nl BK323 hg;have NB328_323:=ng BK323 hg;replace BK323:=kb BK323 hb;have NB324_328:=nl BK324 hg;have NB328_324:=ng BK324 hg;replace BK324:=kb BK324 hb;have NB325_328:=nl BK325 hg;have NB328_325:=ng BK325 hg;replace BK325:=kb BK325 hb;clear hb hbox hg;have hnb69:=NB328_323.out;have hnc69:=NB323_328.out;have hnb70:=NB328_324.out;have hnc70:=NB324_328.out;have hnb71:=NB328_325.out;have hnc71:=NB325_328.out;have hcz72_0:=ck BK328 0;have hcz72_1:=ck BK328 1;have hfz72_0:=blk_frozen BK328.out 0;have hfz72_1:=blk_frozen BK328.out 1;have hnb73:=NB323_324.out;have hnc73:=NB324_323.out;have hnb74:=NB323_325.out;have hnc74:=NB325_323.out;have hcz75_0:=ck BK323 0;have hcz75_1:=ck BK323 1;have hfz75_0:=blk_frozen BK323.out 0;have hfz75_1:=blk_frozen BK323.out 1;have hnb76:=NB324_325.out;have hnc76:=NB325_324.out;have hcz77_0:=ck BK324 0;have hcz77_1:=ck BK324 1;have hfz77_0:=blk_frozen BK324.out 0;have hfz77_1:=blk_frozen BK324.out 1;have hcz78_0:=ck BK325 0;have hcz78_1:=ck BK325 1;have hfz78_0:=blk_frozen BK325.out 0;have hfz78_1:=blk_frozen BK325.out 1) | (go_at_call 150;(with_reducible refine (impl_inTriangle.calls ((rd_T73 l0 (ji4)).f0) ((rd_T73 l0 (ji4)).f1) ((rd_T73 l0 a1).f0) ((rd_T73 l0 a1).f1) ((rd_T73 l0 (ji9)).f0) ((rd_T73 l0 (ji9)).f1) ((rd_T73 l0 x40_1).f0) ((rd_T73 l0 x40_1).f1) false _ A54.out).mono ?_);rintro e w79 ⟨rfl,hb⟩;replace BK323:=Aside0.mk (blk_below (g:=gb323) (o:=.cells #[.int .i64 ((rd_T73 l0 (ji4)).f0),.int .i64 ((rd_T73 l0 (ji4)).f1)] 73 (0,0)) (by refine bF NB323_328.out ?_;refine bF NB323_328.out ?_;exact bk BK323) hb);replace BK324:=Aside0.mk (blk_below (g:=gb324) (o:=.cells #[.int .i64 ((rd_T73 l0 a1).f0),.int .i64 ((rd_T73 l0 a1).f1)] 73 (0,0)) (by refine bF NB324_328.out ?_;refine bF NB324_328.out ?_;exact bk BK324) hb);replace BK325:=Aside0.mk (blk_below (g:=gb325) (o:=.cells #[.int .i64 ((rd_T73 l0 (ji9)).f0),.int .i64 ((rd_T73 l0 (ji9)).f1)] 73 (0,0)) (by refine bF NB325_328.out ?_;refine bF NB325_328.out ?_;exact bk BK325) hb);replace BK328:=Aside0.mk (blk_below (g:=gb328) (o:=.cells #[.int .i64 ((rd_T73 l0 x40_1).f0),.int .i64 ((rd_T73 l0 x40_1).f1)] 73 (0,0)) (by refine bP (cs:=#[.int .i64 ((rd_T73 l0 x40_1).f0),.int .i64 0]) 1 ?_;refine bP (cs:=#[.int .i64 0,.int .i64 0]) 0 ?_;exact bk BK328) hb);replace HB:=sb hb;(try clear hb);(try clear hb2);(try clear hk);(try clear hi)))
                   go_roundg k1
                   case measure => have:=HK1.out;omega
                   case rel => exact ⟨(wrap64 (x40_1 + 1)),(by first | rfl | (simp;done) | (simp [*];done)),H',⟨by have:=HK1.out;omega⟩,⟨by exact bk BK323⟩,⟨by exact bk BK324⟩,⟨by exact bk BK325⟩,⟨ib⟩⟩
             ·first | (exfalso;have z_:=of_decide_eq_true c32b0;omega) | (rw [if_neg c34] at H;exact absurd H (by simp))
            ·rw [if_neg c33] at H
             exact absurd H (by simp)
           ·rw [if_neg c32] at H
            have c32b0 : decide (x40_1 < (l0.length : Int)) = false:=decide_eq_false c32
            clear c32
            obtain rfl:=Option.some.inj H
            go_wp2
            go_ret
            exact ⟨by first | rfl | (simp [errW_none,errW_some] <;> rfl) | (simp only [← hji4,← hji9];first | rfl | (simp [errW_none,errW_some] <;> rfl)) | (simp [*,errW_none,errW_some] <;> rfl),ib⟩
        ·rw [if_neg c13] at H
         have c13b0 : (t326 == 1) = false:=beq_eq_false_iff_ne.mpr c13
         have c13b1 : (t326 != 1) = true:=bne_iff_ne.mpr c13
         obtain rfl:=Option.some.inj H
         go_enter Try.func111,Try.ntmps111
         try go_wp2
         replace HB:=Aside0.mk (below_drew1 HB.out)
         have p320 : 0 ≤ ((ji4) : Int):=da
         have q320 : (ji4) < (l0.length : Int):=da
         obtain ⟨ad320,e320,hx320_0,hx320_1⟩:=at_T73 HR0.out (ji4) p320 q320
         have hw320_1:=hx320_1
         have hw320_0:=hx320_0
         cases e320
         replace hx320_0:=cq HB.out hx320_0
         replace hx320_1:=cq HB.out hx320_1
         replace p320:=eq_true p320
         replace q320:=eq_true q320
         have p321 : 0 ≤ (a1 : Int):=da
         have q321 : a1 < (l0.length : Int):=da
         obtain ⟨ad321,e321,hx321_0,hx321_1⟩:=at_T73 HR0.out a1 p321 q321
         have hw321_1:=hx321_1
         have hw321_0:=hx321_0
         obtain rfl : ad320 = ad321:=(by injection e321)
         replace hx321_0:=cq HB.out hx321_0
         replace hx321_1:=cq HB.out hx321_1
         replace p321:=eq_true p321
         replace q321:=eq_true q321
         have p322 : 0 ≤ ((ji9) : Int):=da
         have q322 : (ji9) < (l0.length : Int):=da
         obtain ⟨ad322,e322,hx322_0,hx322_1⟩:=at_T73 HR0.out (ji9) p322 q322
         have hw322_1:=hx322_1
         have hw322_0:=hx322_0
         obtain rfl : ad320 = ad322:=(by injection e322)
         replace hx322_0:=cq HB.out hx322_0
         replace hx322_1:=cq HB.out hx322_1
         replace p322:=eq_true p322
         replace q322:=eq_true q322
         refine start_ (n:=26) (S:=fun w' => w'.cell? (ad320.add (((ji4)).toNat * 2)) = some (.int .i64 ((rd_T73 l0 (ji4)).f0)) ∧ w'.cell? ⟨(ad320.add (((ji4)).toNat * 2)).block,(ad320.add (((ji4)).toNat * 2)).off + 1,none⟩ = some (.int .i64 ((rd_T73 l0 (ji4)).f1)) ∧ w'.cell? (ad320.add ((a1).toNat * 2)) = some (.int .i64 ((rd_T73 l0 a1).f0)) ∧ w'.cell? ⟨(ad320.add ((a1).toNat * 2)).block,(ad320.add ((a1).toNat * 2)).off + 1,none⟩ = some (.int .i64 ((rd_T73 l0 a1).f1)) ∧ w'.cell? (ad320.add (((ji9)).toNat * 2)) = some (.int .i64 ((rd_T73 l0 (ji9)).f0)) ∧ w'.cell? ⟨(ad320.add (((ji9)).toNat * 2)).block,(ad320.add (((ji9)).toNat * 2)).off + 1,none⟩ = some (.int .i64 ((rd_T73 l0 (ji9)).f1))) (ds:=[]) #[fF,fF,fF,fF,fF,fF,fF,fF,fF,fF,fF,fF,fF,fF,fF,fF,fF,fF,fF,fF,fF,fF,fF,fF,fF,fF] (by kernel_rfl) rfl rfl ⟨cq HB.out hw320_0,cq HB.out hw320_1,cq HB.out hw321_0,cq HB.out hw321_1,cq HB.out hw322_0,cq HB.out hw322_1⟩ (fun hHeld => ?_);refine with_tabW impl_ear.tab2 impl_ear.bits2 (fun HT_ HW_ => ?_)
         generalize w.drew = w80 at HB hx320_0 hx320_1 hx321_0 hx321_1 hx322_0 hx322_1 hHeld ⊢
         refine pu 0 13 HT_ ?_
         refine pu 1 14 HT_ ?_
         refine pu 2 15 HT_ ?_
         refine pu 3 16 HT_ ?_
         refine pu 4 17 HT_ ?_
         refine pu 5 18 HT_ ?_
         refine pu 6 19 HT_ ?_
         refine pu 7 20 HT_ ?_
         refine pu 9 22 HT_ ?_
         refine pu 10 23 HT_ ?_
         refine pu 11 24 HT_ ?_
         refine pu 13 26 HT_ ?_
         refine pu 14 27 HT_ ?_
         refine pu 15 28 HT_ ?_
         refine pu 16 29 HT_ ?_
         refine pu 17 30 HT_ ?_
         refine pu 18 31 HT_ ?_
         refine tk 8 21 HT_ HW_ hHeld ?_
         refine tk 12 25 HT_ HW_ hHeld ?_
         refine tk 19 32 HT_ HW_ hHeld ?_
         refine join_ (σ:=Nat × Nat × Nat) 3 #[tT,tT,tT,tT,tT,tT,tT,tT,tT,tT,tT,tT,tT,tT,tT,tT,tT,tT,tT,tT,tT,tT,tT,fF,fF,fF] (fun s_ => [(6,.pointer (some ⟨s_.1,0,none⟩)),(7,.pointer (some ⟨s_.2.1,0,none⟩)),(8,.pointer (some ⟨s_.2.2,0,none⟩))]) (fun s_ w' => (w'.cell? (ad320.add (((ji4)).toNat * 2)) = some (.int .i64 ((rd_T73 l0 (ji4)).f0)) ∧ w'.cell? ⟨(ad320.add (((ji4)).toNat * 2)).block,(ad320.add (((ji4)).toNat * 2)).off + 1,none⟩ = some (.int .i64 ((rd_T73 l0 (ji4)).f1)) ∧ w'.cell? (ad320.add ((a1).toNat * 2)) = some (.int .i64 ((rd_T73 l0 a1).f0)) ∧ w'.cell? ⟨(ad320.add ((a1).toNat * 2)).block,(ad320.add ((a1).toNat * 2)).off + 1,none⟩ = some (.int .i64 ((rd_T73 l0 a1).f1)) ∧ w'.cell? (ad320.add (((ji9)).toNat * 2)) = some (.int .i64 ((rd_T73 l0 (ji9)).f0)) ∧ w'.cell? ⟨(ad320.add (((ji9)).toNat * 2)).block,(ad320.add (((ji9)).toNat * 2)).off + 1,none⟩ = some (.int .i64 ((rd_T73 l0 (ji9)).f1))) ∧ (w'.heap[s_.1]? = some (.cells #[.int .i64 0,.int .i64 0] 73 (0,0))) ∧ (w'.heap[s_.2.1]? = some (.cells #[.int .i64 0,.int .i64 0] 73 (0,0))) ∧ (w'.heap[s_.2.2]? = some (.cells #[.int .i64 0,.int .i64 0] 73 (0,0))) ∧ (w.heap.size ≤ s_.1) ∧ (w.heap.size ≤ s_.1) ∧ (s_.2.1 ≠ s_.1) ∧ (s_.1 ≠ s_.2.1) ∧ (s_.2.2 ≠ s_.1) ∧ (s_.1 ≠ s_.2.2) ∧ (w.heap.size ≤ s_.2.1) ∧ (w.heap.size ≤ s_.2.1) ∧ (s_.2.2 ≠ s_.2.1) ∧ (s_.2.1 ≠ s_.2.2) ∧ (w.heap.size ≤ s_.2.2) ∧ (w.heap.size ≤ s_.2.2) ∧ (Below w.heap.size w w')) ?_ ?_
         rotate_left
         ·intro hJ20_21_22
          refine join_ (σ:=Nat × Nat) 4 #[tT,tT,tT,tT,tT,tT,tT,tT,tT,tT,tT,tT,tT,tT,tT,tT,tT,tT,tT,tT,tT,tT,fF,fF,fF,fF] (fun s_ => [(6,.pointer (some ⟨s_.1,0,none⟩)),(7,.pointer (some ⟨s_.2,0,none⟩))]) (fun s_ w' => (w'.cell? (ad320.add (((ji4)).toNat * 2)) = some (.int .i64 ((rd_T73 l0 (ji4)).f0)) ∧ w'.cell? ⟨(ad320.add (((ji4)).toNat * 2)).block,(ad320.add (((ji4)).toNat * 2)).off + 1,none⟩ = some (.int .i64 ((rd_T73 l0 (ji4)).f1)) ∧ w'.cell? (ad320.add ((a1).toNat * 2)) = some (.int .i64 ((rd_T73 l0 a1).f0)) ∧ w'.cell? ⟨(ad320.add ((a1).toNat * 2)).block,(ad320.add ((a1).toNat * 2)).off + 1,none⟩ = some (.int .i64 ((rd_T73 l0 a1).f1)) ∧ w'.cell? (ad320.add (((ji9)).toNat * 2)) = some (.int .i64 ((rd_T73 l0 (ji9)).f0)) ∧ w'.cell? ⟨(ad320.add (((ji9)).toNat * 2)).block,(ad320.add (((ji9)).toNat * 2)).off + 1,none⟩ = some (.int .i64 ((rd_T73 l0 (ji9)).f1))) ∧ (w'.heap[s_.1]? = some (.cells #[.int .i64 0,.int .i64 0] 73 (0,0))) ∧ (w'.heap[s_.2]? = some (.cells #[.int .i64 0,.int .i64 0] 73 (0,0))) ∧ (w.heap.size ≤ s_.1) ∧ (w.heap.size ≤ s_.1) ∧ (s_.2 ≠ s_.1) ∧ (s_.1 ≠ s_.2) ∧ (w.heap.size ≤ s_.2) ∧ (w.heap.size ≤ s_.2) ∧ (Below w.heap.size w w')) ?_ ?_
          rotate_left
          ·intro hJ20_21
           refine join_ (σ:=Nat × Nat) 4 #[tT,tT,tT,tT,tT,tT,tT,tT,tT,tT,tT,tT,tT,tT,tT,tT,tT,tT,tT,tT,tT,fF,tT,fF,fF,fF] (fun s_ => [(6,.pointer (some ⟨s_.1,0,none⟩)),(8,.pointer (some ⟨s_.2,0,none⟩))]) (fun s_ w' => (w'.cell? (ad320.add (((ji4)).toNat * 2)) = some (.int .i64 ((rd_T73 l0 (ji4)).f0)) ∧ w'.cell? ⟨(ad320.add (((ji4)).toNat * 2)).block,(ad320.add (((ji4)).toNat * 2)).off + 1,none⟩ = some (.int .i64 ((rd_T73 l0 (ji4)).f1)) ∧ w'.cell? (ad320.add ((a1).toNat * 2)) = some (.int .i64 ((rd_T73 l0 a1).f0)) ∧ w'.cell? ⟨(ad320.add ((a1).toNat * 2)).block,(ad320.add ((a1).toNat * 2)).off + 1,none⟩ = some (.int .i64 ((rd_T73 l0 a1).f1)) ∧ w'.cell? (ad320.add (((ji9)).toNat * 2)) = some (.int .i64 ((rd_T73 l0 (ji9)).f0)) ∧ w'.cell? ⟨(ad320.add (((ji9)).toNat * 2)).block,(ad320.add (((ji9)).toNat * 2)).off + 1,none⟩ = some (.int .i64 ((rd_T73 l0 (ji9)).f1))) ∧ (w'.heap[s_.1]? = some (.cells #[.int .i64 0,.int .i64 0] 73 (0,0))) ∧ (w'.heap[s_.2]? = some (.cells #[.int .i64 0,.int .i64 0] 73 (0,0))) ∧ (w.heap.size ≤ s_.1) ∧ (w.heap.size ≤ s_.1) ∧ (s_.2 ≠ s_.1) ∧ (s_.1 ≠ s_.2) ∧ (w.heap.size ≤ s_.2) ∧ (w.heap.size ≤ s_.2) ∧ (Below w.heap.size w w')) ?_ ?_
           rotate_left
           ·intro hJ20_22
            refine join_ (σ:=Nat × Nat) 4 #[tT,tT,tT,tT,tT,tT,tT,tT,tT,tT,tT,tT,tT,tT,tT,tT,tT,tT,tT,tT,fF,tT,tT,fF,fF,fF] (fun s_ => [(7,.pointer (some ⟨s_.1,0,none⟩)),(8,.pointer (some ⟨s_.2,0,none⟩))]) (fun s_ w' => (w'.cell? (ad320.add (((ji4)).toNat * 2)) = some (.int .i64 ((rd_T73 l0 (ji4)).f0)) ∧ w'.cell? ⟨(ad320.add (((ji4)).toNat * 2)).block,(ad320.add (((ji4)).toNat * 2)).off + 1,none⟩ = some (.int .i64 ((rd_T73 l0 (ji4)).f1)) ∧ w'.cell? (ad320.add ((a1).toNat * 2)) = some (.int .i64 ((rd_T73 l0 a1).f0)) ∧ w'.cell? ⟨(ad320.add ((a1).toNat * 2)).block,(ad320.add ((a1).toNat * 2)).off + 1,none⟩ = some (.int .i64 ((rd_T73 l0 a1).f1)) ∧ w'.cell? (ad320.add (((ji9)).toNat * 2)) = some (.int .i64 ((rd_T73 l0 (ji9)).f0)) ∧ w'.cell? ⟨(ad320.add (((ji9)).toNat * 2)).block,(ad320.add (((ji9)).toNat * 2)).off + 1,none⟩ = some (.int .i64 ((rd_T73 l0 (ji9)).f1))) ∧ (w'.heap[s_.1]? = some (.cells #[.int .i64 0,.int .i64 0] 73 (0,0))) ∧ (w'.heap[s_.2]? = some (.cells #[.int .i64 0,.int .i64 0] 73 (0,0))) ∧ (w.heap.size ≤ s_.1) ∧ (w.heap.size ≤ s_.1) ∧ (s_.2 ≠ s_.1) ∧ (s_.1 ≠ s_.2) ∧ (w.heap.size ≤ s_.2) ∧ (w.heap.size ≤ s_.2) ∧ (Below w.heap.size w w')) ?_ ?_
            rotate_left
            ·intro hJ21_22
             refine join_ (σ:=Nat) 5 #[tT,tT,tT,tT,tT,tT,tT,tT,tT,tT,tT,tT,tT,tT,tT,tT,tT,tT,tT,tT,tT,fF,fF,fF,fF,fF] (fun s_ => [(6,.pointer (some ⟨s_,0,none⟩))]) (fun s_ w' => (w'.cell? (ad320.add (((ji4)).toNat * 2)) = some (.int .i64 ((rd_T73 l0 (ji4)).f0)) ∧ w'.cell? ⟨(ad320.add (((ji4)).toNat * 2)).block,(ad320.add (((ji4)).toNat * 2)).off + 1,none⟩ = some (.int .i64 ((rd_T73 l0 (ji4)).f1)) ∧ w'.cell? (ad320.add ((a1).toNat * 2)) = some (.int .i64 ((rd_T73 l0 a1).f0)) ∧ w'.cell? ⟨(ad320.add ((a1).toNat * 2)).block,(ad320.add ((a1).toNat * 2)).off + 1,none⟩ = some (.int .i64 ((rd_T73 l0 a1).f1)) ∧ w'.cell? (ad320.add (((ji9)).toNat * 2)) = some (.int .i64 ((rd_T73 l0 (ji9)).f0)) ∧ w'.cell? ⟨(ad320.add (((ji9)).toNat * 2)).block,(ad320.add (((ji9)).toNat * 2)).off + 1,none⟩ = some (.int .i64 ((rd_T73 l0 (ji9)).f1))) ∧ (w'.heap[s_]? = some (.cells #[.int .i64 0,.int .i64 0] 73 (0,0))) ∧ (w.heap.size ≤ s_) ∧ (w.heap.size ≤ s_) ∧ (Below w.heap.size w w')) ?_ ?_
             rotate_left
             ·intro hJ20
              refine join_ (σ:=Nat) 5 #[tT,tT,tT,tT,tT,tT,tT,tT,tT,tT,tT,tT,tT,tT,tT,tT,tT,tT,tT,tT,fF,tT,fF,fF,fF,fF] (fun s_ => [(7,.pointer (some ⟨s_,0,none⟩))]) (fun s_ w' => (w'.cell? (ad320.add (((ji4)).toNat * 2)) = some (.int .i64 ((rd_T73 l0 (ji4)).f0)) ∧ w'.cell? ⟨(ad320.add (((ji4)).toNat * 2)).block,(ad320.add (((ji4)).toNat * 2)).off + 1,none⟩ = some (.int .i64 ((rd_T73 l0 (ji4)).f1)) ∧ w'.cell? (ad320.add ((a1).toNat * 2)) = some (.int .i64 ((rd_T73 l0 a1).f0)) ∧ w'.cell? ⟨(ad320.add ((a1).toNat * 2)).block,(ad320.add ((a1).toNat * 2)).off + 1,none⟩ = some (.int .i64 ((rd_T73 l0 a1).f1)) ∧ w'.cell? (ad320.add (((ji9)).toNat * 2)) = some (.int .i64 ((rd_T73 l0 (ji9)).f0)) ∧ w'.cell? ⟨(ad320.add (((ji9)).toNat * 2)).block,(ad320.add (((ji9)).toNat * 2)).off + 1,none⟩ = some (.int .i64 ((rd_T73 l0 (ji9)).f1))) ∧ (w'.heap[s_]? = some (.cells #[.int .i64 0,.int .i64 0] 73 (0,0))) ∧ (w.heap.size ≤ s_) ∧ (w.heap.size ≤ s_) ∧ (Below w.heap.size w w')) ?_ ?_
              rotate_left
              ·intro hJ21
               refine join_ (σ:=Nat) 5 #[tT,tT,tT,tT,tT,tT,tT,tT,tT,tT,tT,tT,tT,tT,tT,tT,tT,tT,tT,tT,fF,fF,tT,fF,fF,fF] (fun s_ => [(8,.pointer (some ⟨s_,0,none⟩))]) (fun s_ w' => (w'.cell? (ad320.add (((ji4)).toNat * 2)) = some (.int .i64 ((rd_T73 l0 (ji4)).f0)) ∧ w'.cell? ⟨(ad320.add (((ji4)).toNat * 2)).block,(ad320.add (((ji4)).toNat * 2)).off + 1,none⟩ = some (.int .i64 ((rd_T73 l0 (ji4)).f1)) ∧ w'.cell? (ad320.add ((a1).toNat * 2)) = some (.int .i64 ((rd_T73 l0 a1).f0)) ∧ w'.cell? ⟨(ad320.add ((a1).toNat * 2)).block,(ad320.add ((a1).toNat * 2)).off + 1,none⟩ = some (.int .i64 ((rd_T73 l0 a1).f1)) ∧ w'.cell? (ad320.add (((ji9)).toNat * 2)) = some (.int .i64 ((rd_T73 l0 (ji9)).f0)) ∧ w'.cell? ⟨(ad320.add (((ji9)).toNat * 2)).block,(ad320.add (((ji9)).toNat * 2)).off + 1,none⟩ = some (.int .i64 ((rd_T73 l0 (ji9)).f1))) ∧ (w'.heap[s_]? = some (.cells #[.int .i64 0,.int .i64 0] 73 (0,0))) ∧ (w.heap.size ≤ s_) ∧ (w.heap.size ≤ s_) ∧ (Below w.heap.size w w')) ?_ ?_
               rotate_left
               ·intro hJ22
                refine three_ (i:=20) (j:=21) (k:=22) (Ni:=some 6) (Nj:=some 7) (Nk:=some 8) #[tT,tT,tT,tT,tT,tT,tT,tT,tT,tT,tT,tT,tT,tT,tT,tT,tT,tT,tT,tT,tT,fF,fF,fF,fF,fF] #[tT,tT,tT,tT,tT,tT,tT,tT,tT,tT,tT,tT,tT,tT,tT,tT,tT,tT,tT,tT,fF,tT,fF,fF,fF,fF] #[tT,tT,tT,tT,tT,tT,tT,tT,tT,tT,tT,tT,tT,tT,tT,tT,tT,tT,tT,tT,fF,fF,tT,fF,fF,fF] rfl rfl rfl rfl rfl rfl (three_of HT_.out (by kernel_rfl)) (by decide) (by decide) (by decide) (fun K hK => ?_) (fun K hK => ?_) (fun K hK => ?_)
                ·skip
                 refine box_step ?hg (N:=6) ?hd (cs:=#[.int .i64 0,.int .i64 0]) (t:=73) ?hr ?_;(case hd => rfl);(case hg => rfl);(case hr => first | (go_simp;done) | (go_simp;rfl))
                 intro gb323 hg w81 hbox hb
                 have BK323:=Aside0.mk (hbox)
                 have GW323:=zb hg
                 have GE323:=zb hg
                 replace HB:=sb hb
                 clear hb hbox hg
                 refine hK.out _ _ ⟨cq HB.out hw320_0,cq HB.out hw320_1,cq HB.out hw321_0,cq HB.out hw321_1,cq HB.out hw322_0,cq HB.out hw322_1⟩ (fun hHeld => ?_)
                 clear hK K
                 refine norm_ (a':=?_) ?_ ?_
                 rotate_left
                 ·show Act.put _ (some 6) _ = _
                  simp only [Act.put,iT,sZ,sC,i64_w,i32_w]
                  rfl
                 exact norm_ (by first | (simp only [putAll,Act.put,iT,sZ,sC];done) | (simp only [putAll,Act.put,iT,sZ,sC];rfl)) (hJ20 (gb323) _ ⟨hHeld,(bk BK323),GW323.out,GE323.out,ib⟩)
                ·skip
                 refine box_step ?hg (N:=7) ?hd (cs:=#[.int .i64 0,.int .i64 0]) (t:=73) ?hr ?_;(case hd => rfl);(case hg => rfl);(case hr => first | (go_simp;done) | (go_simp;rfl))
                 intro gb324 hg w81 hbox hb
                 have BK324:=Aside0.mk (hbox)
                 have GW324:=zb hg
                 have GE324:=zb hg
                 replace HB:=sb hb
                 clear hb hbox hg
                 refine hK.out _ _ ⟨cq HB.out hw320_0,cq HB.out hw320_1,cq HB.out hw321_0,cq HB.out hw321_1,cq HB.out hw322_0,cq HB.out hw322_1⟩ (fun hHeld => ?_)
                 clear hK K
                 refine norm_ (a':=?_) ?_ ?_
                 rotate_left
                 ·show Act.put _ (some 7) _ = _
                  simp only [Act.put,iT,sZ,sC,i64_w,i32_w]
                  rfl
                 exact norm_ (by first | (simp only [putAll,Act.put,iT,sZ,sC];done) | (simp only [putAll,Act.put,iT,sZ,sC];rfl)) (hJ21 (gb324) _ ⟨hHeld,(bk BK324),GW324.out,GE324.out,ib⟩)
                ·skip
                 refine box_step ?hg (N:=8) ?hd (cs:=#[.int .i64 0,.int .i64 0]) (t:=73) ?hr ?_;(case hd => rfl);(case hg => rfl);(case hr => first | (go_simp;done) | (go_simp;rfl))
                 intro gb325 hg w81 hbox hb
                 have BK325:=Aside0.mk (hbox)
                 have GW325:=zb hg
                 have GE325:=zb hg
                 replace HB:=sb hb
                 clear hb hbox hg
                 refine hK.out _ _ ⟨cq HB.out hw320_0,cq HB.out hw320_1,cq HB.out hw321_0,cq HB.out hw321_1,cq HB.out hw322_0,cq HB.out hw322_1⟩ (fun hHeld => ?_)
                 clear hK K
                 refine norm_ (a':=?_) ?_ ?_
                 rotate_left
                 ·show Act.put _ (some 8) _ = _
                  simp only [Act.put,iT,sZ,sC,i64_w,i32_w]
                  rfl
                 exact norm_ (by first | (simp only [putAll,Act.put,iT,sZ,sC];done) | (simp only [putAll,Act.put,iT,sZ,sC];rfl)) (hJ22 (gb325) _ ⟨hHeld,(bk BK325),GW325.out,GE325.out,ib⟩)
               ·skip
                rintro gb325 w82 ⟨hS_,h0_,h1_,h2_,h3_⟩
                have n0_ : Aside0 (w82.heap[gb325]? = some (.cells #[.int .i64 0,.int .i64 0] 73 (0,0))):=⟨h0_⟩
                have n1_ : Aside0 (w.heap.size ≤ gb325):=⟨h1_⟩
                have n2_ : Aside0 (w.heap.size ≤ gb325):=⟨h2_⟩
                have n3_ : Aside0 (Below w.heap.size w w82):=⟨h3_⟩
                clear HB
                clear h0_ h1_ h2_ h3_
                have BK325:=n0_
                have GW325:=n1_
                have GE325:=n2_
                have HB:=n3_
                clear n0_ n1_ n2_ n3_
                have hHeld : w82.cell? (ad320.add (((ji4)).toNat * 2)) = some (.int .i64 ((rd_T73 l0 (ji4)).f0)) ∧ w82.cell? ⟨(ad320.add (((ji4)).toNat * 2)).block,(ad320.add (((ji4)).toNat * 2)).off + 1,none⟩ = some (.int .i64 ((rd_T73 l0 (ji4)).f1)) ∧ w82.cell? (ad320.add ((a1).toNat * 2)) = some (.int .i64 ((rd_T73 l0 a1).f0)) ∧ w82.cell? ⟨(ad320.add ((a1).toNat * 2)).block,(ad320.add ((a1).toNat * 2)).off + 1,none⟩ = some (.int .i64 ((rd_T73 l0 a1).f1)) ∧ w82.cell? (ad320.add (((ji9)).toNat * 2)) = some (.int .i64 ((rd_T73 l0 (ji9)).f0)) ∧ w82.cell? ⟨(ad320.add (((ji9)).toNat * 2)).block,(ad320.add (((ji9)).toNat * 2)).off + 1,none⟩ = some (.int .i64 ((rd_T73 l0 (ji9)).f1)):=hS_
                refine norm_ (a':=?_) ?_ ?_
                rotate_left
                ·simp only [putAll,Act.put,iT,sZ,sC]
                 rfl
                refine two_ (i:=20) (j:=21) (Ni:=some 6) (Nj:=some 7) #[tT,tT,tT,tT,tT,tT,tT,tT,tT,tT,tT,tT,tT,tT,tT,tT,tT,tT,tT,tT,tT,fF,tT,fF,fF,fF] #[tT,tT,tT,tT,tT,tT,tT,tT,tT,tT,tT,tT,tT,tT,tT,tT,tT,tT,tT,tT,fF,tT,tT,fF,fF,fF] rfl rfl rfl rfl (two_of HT_.out (by kernel_rfl)) (by decide) (by decide) (fun K hK => ?_) (fun K hK => ?_)
                ·skip
                 refine box_step ?hg (N:=6) ?hd (cs:=#[.int .i64 0,.int .i64 0]) (t:=73) ?hr ?_;(case hd => rfl);(case hg => rfl);(case hr => first | (go_simp;done) | (go_simp;rfl))
                 intro gb323 hg w83 hbox hb
                 have BK323:=Aside0.mk (hbox)
                 have GW323:=zb hg
                 have GE323:=zb hg
                 replace HB:=sb hb
                 have NB325_323:=nl BK325 hg
                 have NB323_325:=ng BK325 hg
                 replace BK325:=kb BK325 hb
                 clear hb hbox hg
                 refine hK.out _ _ ⟨cq HB.out hw320_0,cq HB.out hw320_1,cq HB.out hw321_0,cq HB.out hw321_1,cq HB.out hw322_0,cq HB.out hw322_1⟩ (fun hHeld => ?_)
                 clear hK K
                 refine norm_ (a':=?_) ?_ ?_
                 rotate_left
                 ·show Act.put _ (some 6) _ = _
                  simp only [Act.put,iT,sZ,sC,i64_w,i32_w]
                  rfl
                 exact norm_ (by first | (simp only [putAll,Act.put,iT,sZ,sC];done) | (simp only [putAll,Act.put,iT,sZ,sC];rfl)) (hJ20_22 (gb323,gb325) _ ⟨hHeld,(bk BK323),(bk BK325),GW323.out,GE323.out,NB325_323.out,NB323_325.out,GW325.out,GE325.out,ib⟩)
                ·skip
                 refine box_step ?hg (N:=7) ?hd (cs:=#[.int .i64 0,.int .i64 0]) (t:=73) ?hr ?_;(case hd => rfl);(case hg => rfl);(case hr => first | (go_simp;done) | (go_simp;rfl))
                 intro gb324 hg w83 hbox hb
                 have BK324:=Aside0.mk (hbox)
                 have GW324:=zb hg
                 have GE324:=zb hg
                 replace HB:=sb hb
                 have NB325_324:=nl BK325 hg
                 have NB324_325:=ng BK325 hg
                 replace BK325:=kb BK325 hb
                 clear hb hbox hg
                 refine hK.out _ _ ⟨cq HB.out hw320_0,cq HB.out hw320_1,cq HB.out hw321_0,cq HB.out hw321_1,cq HB.out hw322_0,cq HB.out hw322_1⟩ (fun hHeld => ?_)
                 clear hK K
                 refine norm_ (a':=?_) ?_ ?_
                 rotate_left
                 ·show Act.put _ (some 7) _ = _
                  simp only [Act.put,iT,sZ,sC,i64_w,i32_w]
                  rfl
                 exact norm_ (by first | (simp only [putAll,Act.put,iT,sZ,sC];done) | (simp only [putAll,Act.put,iT,sZ,sC];rfl)) (hJ21_22 (gb324,gb325) _ ⟨hHeld,(bk BK324),(bk BK325),GW324.out,GE324.out,NB325_324.out,NB324_325.out,GW325.out,GE325.out,ib⟩)
              ·skip
               rintro gb324 w82 ⟨hS_,h0_,h1_,h2_,h3_⟩
               have n0_ : Aside0 (w82.heap[gb324]? = some (.cells #[.int .i64 0,.int .i64 0] 73 (0,0))):=⟨h0_⟩
               have n1_ : Aside0 (w.heap.size ≤ gb324):=⟨h1_⟩
               have n2_ : Aside0 (w.heap.size ≤ gb324):=⟨h2_⟩
               have n3_ : Aside0 (Below w.heap.size w w82):=⟨h3_⟩
               clear HB
               clear h0_ h1_ h2_ h3_
               have BK324:=n0_
               have GW324:=n1_
               have GE324:=n2_
               have HB:=n3_
               clear n0_ n1_ n2_ n3_
               have hHeld : w82.cell? (ad320.add (((ji4)).toNat * 2)) = some (.int .i64 ((rd_T73 l0 (ji4)).f0)) ∧ w82.cell? ⟨(ad320.add (((ji4)).toNat * 2)).block,(ad320.add (((ji4)).toNat * 2)).off + 1,none⟩ = some (.int .i64 ((rd_T73 l0 (ji4)).f1)) ∧ w82.cell? (ad320.add ((a1).toNat * 2)) = some (.int .i64 ((rd_T73 l0 a1).f0)) ∧ w82.cell? ⟨(ad320.add ((a1).toNat * 2)).block,(ad320.add ((a1).toNat * 2)).off + 1,none⟩ = some (.int .i64 ((rd_T73 l0 a1).f1)) ∧ w82.cell? (ad320.add (((ji9)).toNat * 2)) = some (.int .i64 ((rd_T73 l0 (ji9)).f0)) ∧ w82.cell? ⟨(ad320.add (((ji9)).toNat * 2)).block,(ad320.add (((ji9)).toNat * 2)).off + 1,none⟩ = some (.int .i64 ((rd_T73 l0 (ji9)).f1)):=hS_
               refine norm_ (a':=?_) ?_ ?_
               rotate_left
               ·simp only [putAll,Act.put,iT,sZ,sC]
                rfl
               refine two_ (i:=20) (j:=22) (Ni:=some 6) (Nj:=some 8) #[tT,tT,tT,tT,tT,tT,tT,tT,tT,tT,tT,tT,tT,tT,tT,tT,tT,tT,tT,tT,tT,tT,fF,fF,fF,fF] #[tT,tT,tT,tT,tT,tT,tT,tT,tT,tT,tT,tT,tT,tT,tT,tT,tT,tT,tT,tT,fF,tT,tT,fF,fF,fF] rfl rfl rfl rfl (two_of HT_.out (by kernel_rfl)) (by decide) (by decide) (fun K hK => ?_) (fun K hK => ?_)
               ·skip
                refine box_step ?hg (N:=6) ?hd (cs:=#[.int .i64 0,.int .i64 0]) (t:=73) ?hr ?_;(case hd => rfl);(case hg => rfl);(case hr => first | (go_simp;done) | (go_simp;rfl))
                intro gb323 hg w83 hbox hb
                have BK323:=Aside0.mk (hbox)
                have GW323:=zb hg
                have GE323:=zb hg
                replace HB:=sb hb
                have NB324_323:=nl BK324 hg
                have NB323_324:=ng BK324 hg
                replace BK324:=kb BK324 hb
                clear hb hbox hg
                refine hK.out _ _ ⟨cq HB.out hw320_0,cq HB.out hw320_1,cq HB.out hw321_0,cq HB.out hw321_1,cq HB.out hw322_0,cq HB.out hw322_1⟩ (fun hHeld => ?_)
                clear hK K
                refine norm_ (a':=?_) ?_ ?_
                rotate_left
                ·show Act.put _ (some 6) _ = _
                 simp only [Act.put,iT,sZ,sC,i64_w,i32_w]
                 rfl
                exact norm_ (by first | (simp only [putAll,Act.put,iT,sZ,sC];done) | (simp only [putAll,Act.put,iT,sZ,sC];rfl)) (hJ20_21 (gb323,gb324) _ ⟨hHeld,(bk BK323),(bk BK324),GW323.out,GE323.out,NB324_323.out,NB323_324.out,GW324.out,GE324.out,ib⟩)
               ·skip
                refine box_step ?hg (N:=8) ?hd (cs:=#[.int .i64 0,.int .i64 0]) (t:=73) ?hr ?_;(case hd => rfl);(case hg => rfl);(case hr => first | (go_simp;done) | (go_simp;rfl))
                intro gb325 hg w83 hbox hb
                have BK325:=Aside0.mk (hbox)
                have GW325:=zb hg
                have GE325:=zb hg
                replace HB:=sb hb
                have NB324_325:=nl BK324 hg
                have NB325_324:=ng BK324 hg
                replace BK324:=kb BK324 hb
                clear hb hbox hg
                refine hK.out _ _ ⟨cq HB.out hw320_0,cq HB.out hw320_1,cq HB.out hw321_0,cq HB.out hw321_1,cq HB.out hw322_0,cq HB.out hw322_1⟩ (fun hHeld => ?_)
                clear hK K
                refine norm_ (a':=?_) ?_ ?_
                rotate_left
                ·show Act.put _ (some 8) _ = _
                 simp only [Act.put,iT,sZ,sC,i64_w,i32_w]
                 rfl
                exact norm_ (by first | (simp only [putAll,Act.put,iT,sZ,sC];done) | (simp only [putAll,Act.put,iT,sZ,sC];rfl)) (hJ21_22 (gb324,gb325) _ ⟨hHeld,(bk BK324),(bk BK325),GW324.out,GE324.out,NB325_324.out,NB324_325.out,GW325.out,GE325.out,ib⟩)
             ·skip
              rintro gb323 w82 ⟨hS_,h0_,h1_,h2_,h3_⟩
              have n0_ : Aside0 (w82.heap[gb323]? = some (.cells #[.int .i64 0,.int .i64 0] 73 (0,0))):=⟨h0_⟩
              have n1_ : Aside0 (w.heap.size ≤ gb323):=⟨h1_⟩
              have n2_ : Aside0 (w.heap.size ≤ gb323):=⟨h2_⟩
              have n3_ : Aside0 (Below w.heap.size w w82):=⟨h3_⟩
              clear HB
              clear h0_ h1_ h2_ h3_
              have BK323:=n0_
              have GW323:=n1_
              have GE323:=n2_
              have HB:=n3_
              clear n0_ n1_ n2_ n3_
              have hHeld : w82.cell? (ad320.add (((ji4)).toNat * 2)) = some (.int .i64 ((rd_T73 l0 (ji4)).f0)) ∧ w82.cell? ⟨(ad320.add (((ji4)).toNat * 2)).block,(ad320.add (((ji4)).toNat * 2)).off + 1,none⟩ = some (.int .i64 ((rd_T73 l0 (ji4)).f1)) ∧ w82.cell? (ad320.add ((a1).toNat * 2)) = some (.int .i64 ((rd_T73 l0 a1).f0)) ∧ w82.cell? ⟨(ad320.add ((a1).toNat * 2)).block,(ad320.add ((a1).toNat * 2)).off + 1,none⟩ = some (.int .i64 ((rd_T73 l0 a1).f1)) ∧ w82.cell? (ad320.add (((ji9)).toNat * 2)) = some (.int .i64 ((rd_T73 l0 (ji9)).f0)) ∧ w82.cell? ⟨(ad320.add (((ji9)).toNat * 2)).block,(ad320.add (((ji9)).toNat * 2)).off + 1,none⟩ = some (.int .i64 ((rd_T73 l0 (ji9)).f1)):=hS_
              refine norm_ (a':=?_) ?_ ?_
              rotate_left
              ·simp only [putAll,Act.put,iT,sZ,sC]
               rfl
              refine two_ (i:=21) (j:=22) (Ni:=some 7) (Nj:=some 8) #[tT,tT,tT,tT,tT,tT,tT,tT,tT,tT,tT,tT,tT,tT,tT,tT,tT,tT,tT,tT,tT,tT,fF,fF,fF,fF] #[tT,tT,tT,tT,tT,tT,tT,tT,tT,tT,tT,tT,tT,tT,tT,tT,tT,tT,tT,tT,tT,fF,tT,fF,fF,fF] rfl rfl rfl rfl (two_of HT_.out (by kernel_rfl)) (by decide) (by decide) (fun K hK => ?_) (fun K hK => ?_)
              ·skip
               refine box_step ?hg (N:=7) ?hd (cs:=#[.int .i64 0,.int .i64 0]) (t:=73) ?hr ?_;(case hd => rfl);(case hg => rfl);(case hr => first | (go_simp;done) | (go_simp;rfl))
               intro gb324 hg w83 hbox hb
               have BK324:=Aside0.mk (hbox)
               have GW324:=zb hg
               have GE324:=zb hg
               replace HB:=sb hb
               have NB323_324:=nl BK323 hg
               have NB324_323:=ng BK323 hg
               replace BK323:=kb BK323 hb
               clear hb hbox hg
               refine hK.out _ _ ⟨cq HB.out hw320_0,cq HB.out hw320_1,cq HB.out hw321_0,cq HB.out hw321_1,cq HB.out hw322_0,cq HB.out hw322_1⟩ (fun hHeld => ?_)
               clear hK K
               refine norm_ (a':=?_) ?_ ?_
               rotate_left
               ·show Act.put _ (some 7) _ = _
                simp only [Act.put,iT,sZ,sC,i64_w,i32_w]
                rfl
               exact norm_ (by first | (simp only [putAll,Act.put,iT,sZ,sC];done) | (simp only [putAll,Act.put,iT,sZ,sC];rfl)) (hJ20_21 (gb323,gb324) _ ⟨hHeld,(bk BK323),(bk BK324),GW323.out,GE323.out,NB324_323.out,NB323_324.out,GW324.out,GE324.out,ib⟩)
              ·skip
               refine box_step ?hg (N:=8) ?hd (cs:=#[.int .i64 0,.int .i64 0]) (t:=73) ?hr ?_;(case hd => rfl);(case hg => rfl);(case hr => first | (go_simp;done) | (go_simp;rfl))
               intro gb325 hg w83 hbox hb
               have BK325:=Aside0.mk (hbox)
               have GW325:=zb hg
               have GE325:=zb hg
               replace HB:=sb hb
               have NB323_325:=nl BK323 hg
               have NB325_323:=ng BK323 hg
               replace BK323:=kb BK323 hb
               clear hb hbox hg
               refine hK.out _ _ ⟨cq HB.out hw320_0,cq HB.out hw320_1,cq HB.out hw321_0,cq HB.out hw321_1,cq HB.out hw322_0,cq HB.out hw322_1⟩ (fun hHeld => ?_)
               clear hK K
               refine norm_ (a':=?_) ?_ ?_
               rotate_left
               ·show Act.put _ (some 8) _ = _
                simp only [Act.put,iT,sZ,sC,i64_w,i32_w]
                rfl
               exact norm_ (by first | (simp only [putAll,Act.put,iT,sZ,sC];done) | (simp only [putAll,Act.put,iT,sZ,sC];rfl)) (hJ20_22 (gb323,gb325) _ ⟨hHeld,(bk BK323),(bk BK325),GW323.out,GE323.out,NB325_323.out,NB323_325.out,GW325.out,GE325.out,ib⟩)
            ·skip
             rintro ⟨gb324,gb325⟩ w83 ⟨hS_,h0_,h1_,h2_,h3_,h4_,h5_,h6_,h7_,h8_⟩
             have n0_ : Aside0 (w83.heap[gb324]? = some (.cells #[.int .i64 0,.int .i64 0] 73 (0,0))):=⟨h0_⟩
             have n1_ : Aside0 (w83.heap[gb325]? = some (.cells #[.int .i64 0,.int .i64 0] 73 (0,0))):=⟨h1_⟩
             have n2_ : Aside0 (w.heap.size ≤ gb324):=⟨h2_⟩
             have n3_ : Aside0 (w.heap.size ≤ gb324):=⟨h3_⟩
             have n4_ : Aside0 (gb325 ≠ gb324):=⟨h4_⟩
             have n5_ : Aside0 (gb324 ≠ gb325):=⟨h5_⟩
             have n6_ : Aside0 (w.heap.size ≤ gb325):=⟨h6_⟩
             have n7_ : Aside0 (w.heap.size ≤ gb325):=⟨h7_⟩
             have n8_ : Aside0 (Below w.heap.size w w83):=⟨h8_⟩
             clear HB
             clear h0_ h1_ h2_ h3_ h4_ h5_ h6_ h7_ h8_
             have BK324:=n0_
             have BK325:=n1_
             have GW324:=n2_
             have GE324:=n3_
             have NB325_324:=n4_
             have NB324_325:=n5_
             have GW325:=n6_
             have GE325:=n7_
             have HB:=n8_
             clear n0_ n1_ n2_ n3_ n4_ n5_ n6_ n7_ n8_
             have hHeld : w83.cell? (ad320.add (((ji4)).toNat * 2)) = some (.int .i64 ((rd_T73 l0 (ji4)).f0)) ∧ w83.cell? ⟨(ad320.add (((ji4)).toNat * 2)).block,(ad320.add (((ji4)).toNat * 2)).off + 1,none⟩ = some (.int .i64 ((rd_T73 l0 (ji4)).f1)) ∧ w83.cell? (ad320.add ((a1).toNat * 2)) = some (.int .i64 ((rd_T73 l0 a1).f0)) ∧ w83.cell? ⟨(ad320.add ((a1).toNat * 2)).block,(ad320.add ((a1).toNat * 2)).off + 1,none⟩ = some (.int .i64 ((rd_T73 l0 a1).f1)) ∧ w83.cell? (ad320.add (((ji9)).toNat * 2)) = some (.int .i64 ((rd_T73 l0 (ji9)).f0)) ∧ w83.cell? ⟨(ad320.add (((ji9)).toNat * 2)).block,(ad320.add (((ji9)).toNat * 2)).off + 1,none⟩ = some (.int .i64 ((rd_T73 l0 (ji9)).f1)):=hS_
             refine norm_ (a':=?_) ?_ ?_
             rotate_left
             ·simp only [putAll,Act.put,iT,sZ,sC]
              rfl
             refine on 20 6 HT_ (fun K hK => ?_)
             refine box_step ?hg (N:=6) ?hd (cs:=#[.int .i64 0,.int .i64 0]) (t:=73) ?hr ?_;(case hd => rfl);(case hg => rfl);(case hr => first | (go_simp;done) | (go_simp;rfl))
             intro gb323 hg w84 hbox hb
             have BK323:=Aside0.mk (hbox)
             have GW323:=zb hg
             have GE323:=zb hg
             replace HB:=sb hb
             have NB324_323:=nl BK324 hg
             have NB323_324:=ng BK324 hg
             replace BK324:=kb BK324 hb
             have NB325_323:=nl BK325 hg
             have NB323_325:=ng BK325 hg
             replace BK325:=kb BK325 hb
             clear hb hbox hg
             refine hK.out _ _ ⟨cq HB.out hw320_0,cq HB.out hw320_1,cq HB.out hw321_0,cq HB.out hw321_1,cq HB.out hw322_0,cq HB.out hw322_1⟩ (fun hHeld => ?_)
             clear hK K
             refine norm_ (a':=?_) ?_ ?_
             rotate_left
             ·show Act.put _ (some 6) _ = _
              simp only [Act.put,iT,sZ,sC,i64_w,i32_w]
              rfl
             exact norm_ (by first | (simp only [putAll,Act.put,iT,sZ,sC];done) | (simp only [putAll,Act.put,iT,sZ,sC];rfl)) (hJ20_21_22 (gb323,gb324,gb325) _ ⟨hHeld,(bk BK323),(bk BK324),(bk BK325),GW323.out,GE323.out,NB324_323.out,NB323_324.out,NB325_323.out,NB323_325.out,GW324.out,GE324.out,NB325_324.out,NB324_325.out,GW325.out,GE325.out,ib⟩)
           ·skip
            rintro ⟨gb323,gb325⟩ w83 ⟨hS_,h0_,h1_,h2_,h3_,h4_,h5_,h6_,h7_,h8_⟩
            have n0_ : Aside0 (w83.heap[gb323]? = some (.cells #[.int .i64 0,.int .i64 0] 73 (0,0))):=⟨h0_⟩
            have n1_ : Aside0 (w83.heap[gb325]? = some (.cells #[.int .i64 0,.int .i64 0] 73 (0,0))):=⟨h1_⟩
            have n2_ : Aside0 (w.heap.size ≤ gb323):=⟨h2_⟩
            have n3_ : Aside0 (w.heap.size ≤ gb323):=⟨h3_⟩
            have n4_ : Aside0 (gb325 ≠ gb323):=⟨h4_⟩
            have n5_ : Aside0 (gb323 ≠ gb325):=⟨h5_⟩
            have n6_ : Aside0 (w.heap.size ≤ gb325):=⟨h6_⟩
            have n7_ : Aside0 (w.heap.size ≤ gb325):=⟨h7_⟩
            have n8_ : Aside0 (Below w.heap.size w w83):=⟨h8_⟩
            clear HB
            clear h0_ h1_ h2_ h3_ h4_ h5_ h6_ h7_ h8_
            have BK323:=n0_
            have BK325:=n1_
            have GW323:=n2_
            have GE323:=n3_
            have NB325_323:=n4_
            have NB323_325:=n5_
            have GW325:=n6_
            have GE325:=n7_
            have HB:=n8_
            clear n0_ n1_ n2_ n3_ n4_ n5_ n6_ n7_ n8_
            have hHeld : w83.cell? (ad320.add (((ji4)).toNat * 2)) = some (.int .i64 ((rd_T73 l0 (ji4)).f0)) ∧ w83.cell? ⟨(ad320.add (((ji4)).toNat * 2)).block,(ad320.add (((ji4)).toNat * 2)).off + 1,none⟩ = some (.int .i64 ((rd_T73 l0 (ji4)).f1)) ∧ w83.cell? (ad320.add ((a1).toNat * 2)) = some (.int .i64 ((rd_T73 l0 a1).f0)) ∧ w83.cell? ⟨(ad320.add ((a1).toNat * 2)).block,(ad320.add ((a1).toNat * 2)).off + 1,none⟩ = some (.int .i64 ((rd_T73 l0 a1).f1)) ∧ w83.cell? (ad320.add (((ji9)).toNat * 2)) = some (.int .i64 ((rd_T73 l0 (ji9)).f0)) ∧ w83.cell? ⟨(ad320.add (((ji9)).toNat * 2)).block,(ad320.add (((ji9)).toNat * 2)).off + 1,none⟩ = some (.int .i64 ((rd_T73 l0 (ji9)).f1)):=hS_
            refine norm_ (a':=?_) ?_ ?_
            rotate_left
            ·simp only [putAll,Act.put,iT,sZ,sC]
             rfl
            refine on 21 7 HT_ (fun K hK => ?_)
            refine box_step ?hg (N:=7) ?hd (cs:=#[.int .i64 0,.int .i64 0]) (t:=73) ?hr ?_;(case hd => rfl);(case hg => rfl);(case hr => first | (go_simp;done) | (go_simp;rfl))
            intro gb324 hg w84 hbox hb
            have BK324:=Aside0.mk (hbox)
            have GW324:=zb hg
            have GE324:=zb hg
            replace HB:=sb hb
            have NB323_324:=nl BK323 hg
            have NB324_323:=ng BK323 hg
            replace BK323:=kb BK323 hb
            have NB325_324:=nl BK325 hg
            have NB324_325:=ng BK325 hg
            replace BK325:=kb BK325 hb
            clear hb hbox hg
            refine hK.out _ _ ⟨cq HB.out hw320_0,cq HB.out hw320_1,cq HB.out hw321_0,cq HB.out hw321_1,cq HB.out hw322_0,cq HB.out hw322_1⟩ (fun hHeld => ?_)
            clear hK K
            refine norm_ (a':=?_) ?_ ?_
            rotate_left
            ·show Act.put _ (some 7) _ = _
             simp only [Act.put,iT,sZ,sC,i64_w,i32_w]
             rfl
            exact norm_ (by first | (simp only [putAll,Act.put,iT,sZ,sC];done) | (simp only [putAll,Act.put,iT,sZ,sC];rfl)) (hJ20_21_22 (gb323,gb324,gb325) _ ⟨hHeld,(bk BK323),(bk BK324),(bk BK325),GW323.out,GE323.out,NB324_323.out,NB323_324.out,NB325_323.out,NB323_325.out,GW324.out,GE324.out,NB325_324.out,NB324_325.out,GW325.out,GE325.out,ib⟩)
          ·skip
           rintro ⟨gb323,gb324⟩ w83 ⟨hS_,h0_,h1_,h2_,h3_,h4_,h5_,h6_,h7_,h8_⟩
           have n0_ : Aside0 (w83.heap[gb323]? = some (.cells #[.int .i64 0,.int .i64 0] 73 (0,0))):=⟨h0_⟩
           have n1_ : Aside0 (w83.heap[gb324]? = some (.cells #[.int .i64 0,.int .i64 0] 73 (0,0))):=⟨h1_⟩
           have n2_ : Aside0 (w.heap.size ≤ gb323):=⟨h2_⟩
           have n3_ : Aside0 (w.heap.size ≤ gb323):=⟨h3_⟩
           have n4_ : Aside0 (gb324 ≠ gb323):=⟨h4_⟩
           have n5_ : Aside0 (gb323 ≠ gb324):=⟨h5_⟩
           have n6_ : Aside0 (w.heap.size ≤ gb324):=⟨h6_⟩
           have n7_ : Aside0 (w.heap.size ≤ gb324):=⟨h7_⟩
           have n8_ : Aside0 (Below w.heap.size w w83):=⟨h8_⟩
           clear HB
           clear h0_ h1_ h2_ h3_ h4_ h5_ h6_ h7_ h8_
           have BK323:=n0_
           have BK324:=n1_
           have GW323:=n2_
           have GE323:=n3_
           have NB324_323:=n4_
           have NB323_324:=n5_
           have GW324:=n6_
           have GE324:=n7_
           have HB:=n8_
           clear n0_ n1_ n2_ n3_ n4_ n5_ n6_ n7_ n8_
           have hHeld : w83.cell? (ad320.add (((ji4)).toNat * 2)) = some (.int .i64 ((rd_T73 l0 (ji4)).f0)) ∧ w83.cell? ⟨(ad320.add (((ji4)).toNat * 2)).block,(ad320.add (((ji4)).toNat * 2)).off + 1,none⟩ = some (.int .i64 ((rd_T73 l0 (ji4)).f1)) ∧ w83.cell? (ad320.add ((a1).toNat * 2)) = some (.int .i64 ((rd_T73 l0 a1).f0)) ∧ w83.cell? ⟨(ad320.add ((a1).toNat * 2)).block,(ad320.add ((a1).toNat * 2)).off + 1,none⟩ = some (.int .i64 ((rd_T73 l0 a1).f1)) ∧ w83.cell? (ad320.add (((ji9)).toNat * 2)) = some (.int .i64 ((rd_T73 l0 (ji9)).f0)) ∧ w83.cell? ⟨(ad320.add (((ji9)).toNat * 2)).block,(ad320.add (((ji9)).toNat * 2)).off + 1,none⟩ = some (.int .i64 ((rd_T73 l0 (ji9)).f1)):=hS_
           refine norm_ (a':=?_) ?_ ?_
           rotate_left
           ·simp only [putAll,Act.put,iT,sZ,sC]
            rfl
           refine on 22 8 HT_ (fun K hK => ?_)
           refine box_step ?hg (N:=8) ?hd (cs:=#[.int .i64 0,.int .i64 0]) (t:=73) ?hr ?_;(case hd => rfl);(case hg => rfl);(case hr => first | (go_simp;done) | (go_simp;rfl))
           intro gb325 hg w84 hbox hb
           have BK325:=Aside0.mk (hbox)
           have GW325:=zb hg
           have GE325:=zb hg
           replace HB:=sb hb
           have NB323_325:=nl BK323 hg
           have NB325_323:=ng BK323 hg
           replace BK323:=kb BK323 hb
           have NB324_325:=nl BK324 hg
           have NB325_324:=ng BK324 hg
           replace BK324:=kb BK324 hb
           clear hb hbox hg
           refine hK.out _ _ ⟨cq HB.out hw320_0,cq HB.out hw320_1,cq HB.out hw321_0,cq HB.out hw321_1,cq HB.out hw322_0,cq HB.out hw322_1⟩ (fun hHeld => ?_)
           clear hK K
           refine norm_ (a':=?_) ?_ ?_
           rotate_left
           ·show Act.put _ (some 8) _ = _
            simp only [Act.put,iT,sZ,sC,i64_w,i32_w]
            rfl
           exact norm_ (by first | (simp only [putAll,Act.put,iT,sZ,sC];done) | (simp only [putAll,Act.put,iT,sZ,sC];rfl)) (hJ20_21_22 (gb323,gb324,gb325) _ ⟨hHeld,(bk BK323),(bk BK324),(bk BK325),GW323.out,GE323.out,NB324_323.out,NB323_324.out,NB325_323.out,NB323_325.out,GW324.out,GE324.out,NB325_324.out,NB324_325.out,GW325.out,GE325.out,ib⟩)
         rintro ⟨gb323,gb324,gb325⟩ w84 ⟨hS_,h0_,h1_,h2_,h3_,h4_,h5_,h6_,h7_,h8_,h9_,h10_,h11_,h12_,h13_,h14_,h15_⟩
         have n0_ : Aside0 (w84.heap[gb323]? = some (.cells #[.int .i64 0,.int .i64 0] 73 (0,0))):=⟨h0_⟩
         have n1_ : Aside0 (w84.heap[gb324]? = some (.cells #[.int .i64 0,.int .i64 0] 73 (0,0))):=⟨h1_⟩
         have n2_ : Aside0 (w84.heap[gb325]? = some (.cells #[.int .i64 0,.int .i64 0] 73 (0,0))):=⟨h2_⟩
         have n3_ : Aside0 (w.heap.size ≤ gb323):=⟨h3_⟩
         have n4_ : Aside0 (w.heap.size ≤ gb323):=⟨h4_⟩
         have n5_ : Aside0 (gb324 ≠ gb323):=⟨h5_⟩
         have n6_ : Aside0 (gb323 ≠ gb324):=⟨h6_⟩
         have n7_ : Aside0 (gb325 ≠ gb323):=⟨h7_⟩
         have n8_ : Aside0 (gb323 ≠ gb325):=⟨h8_⟩
         have n9_ : Aside0 (w.heap.size ≤ gb324):=⟨h9_⟩
         have n10_ : Aside0 (w.heap.size ≤ gb324):=⟨h10_⟩
         have n11_ : Aside0 (gb325 ≠ gb324):=⟨h11_⟩
         have n12_ : Aside0 (gb324 ≠ gb325):=⟨h12_⟩
         have n13_ : Aside0 (w.heap.size ≤ gb325):=⟨h13_⟩
         have n14_ : Aside0 (w.heap.size ≤ gb325):=⟨h14_⟩
         have n15_ : Aside0 (Below w.heap.size w w84):=⟨h15_⟩
         clear HB
         clear h0_ h1_ h2_ h3_ h4_ h5_ h6_ h7_ h8_ h9_ h10_ h11_ h12_ h13_ h14_ h15_
         have BK323:=n0_
         have BK324:=n1_
         have BK325:=n2_
         have GW323:=n3_
         have GE323:=n4_
         have NB324_323:=n5_
         have NB323_324:=n6_
         have NB325_323:=n7_
         have NB323_325:=n8_
         have GW324:=n9_
         have GE324:=n10_
         have NB325_324:=n11_
         have NB324_325:=n12_
         have GW325:=n13_
         have GE325:=n14_
         have HB:=n15_
         clear n0_ n1_ n2_ n3_ n4_ n5_ n6_ n7_ n8_ n9_ n10_ n11_ n12_ n13_ n14_ n15_
         have hHeld : w84.cell? (ad320.add (((ji4)).toNat * 2)) = some (.int .i64 ((rd_T73 l0 (ji4)).f0)) ∧ w84.cell? ⟨(ad320.add (((ji4)).toNat * 2)).block,(ad320.add (((ji4)).toNat * 2)).off + 1,none⟩ = some (.int .i64 ((rd_T73 l0 (ji4)).f1)) ∧ w84.cell? (ad320.add ((a1).toNat * 2)) = some (.int .i64 ((rd_T73 l0 a1).f0)) ∧ w84.cell? ⟨(ad320.add ((a1).toNat * 2)).block,(ad320.add ((a1).toNat * 2)).off + 1,none⟩ = some (.int .i64 ((rd_T73 l0 a1).f1)) ∧ w84.cell? (ad320.add (((ji9)).toNat * 2)) = some (.int .i64 ((rd_T73 l0 (ji9)).f0)) ∧ w84.cell? ⟨(ad320.add (((ji9)).toNat * 2)).block,(ad320.add (((ji9)).toNat * 2)).off + 1,none⟩ = some (.int .i64 ((rd_T73 l0 (ji9)).f1)):=hS_
         refine norm_ (a':=?_) ?_ ?_
         rotate_left
         ·simp only [putAll,Act.put,iT,sZ,sC]
          rfl
         refine one_ (i:=23) (N:=none) #[tT,tT,tT,tT,tT,tT,tT,tT,tT,tT,tT,tT,tT,tT,tT,tT,tT,tT,tT,tT,tT,tT,tT,tT,fF,fF] rfl rfl (one_of HT_.out (by kernel_rfl)) (by decide) (fun K hK => ?_)
         have hs85 : w84.cell? ⟨gb323,0,none⟩ = some (.int .i64 0):=(blk_cell BK323.out 0).trans rfl
         have hfs85:=blk_frozen BK323.out 0
         have hns85_1:=NB324_323.out
         have hns85_2:=NB325_323.out
         have hms85_1:=NB323_324.out
         have hms85_2:=NB323_325.out
         have hs86 : w84.cell? ⟨gb323,1,none⟩ = some (.int .i64 0):=(blk_cell BK323.out 1).trans rfl
         have hfs86:=blk_frozen BK323.out 1
         have hns86_1:=NB324_323.out
         have hns86_2:=NB325_323.out
         have hms86_1:=NB323_324.out
         have hms86_2:=NB323_325.out
         refine skip_ (w1:=?_) (by rfl) rfl ?_ ?_
         rotate_left
         ·go_simp
          rfl
         refine hK.out _ _ ⟨(cg hw320_0 GW323 ((cg hw320_0 GW323 (hHeld.1)))),(cg hw320_1 GW323 ((cg hw320_1 GW323 (hHeld.2.1)))),(cg hw321_0 GW323 ((cg hw321_0 GW323 (hHeld.2.2.1)))),(cg hw321_1 GW323 ((cg hw321_1 GW323 (hHeld.2.2.2.1)))),(cg hw322_0 GW323 ((cg hw322_0 GW323 (hHeld.2.2.2.2.1)))),(cg hw322_1 GW323 ((cg hw322_1 GW323 (hHeld.2.2.2.2.2))))⟩ (fun hHeld => ?_)
         clear hK K
         refine one_ (i:=24) (N:=none) #[tT,tT,tT,tT,tT,tT,tT,tT,tT,tT,tT,tT,tT,tT,tT,tT,tT,tT,tT,tT,tT,tT,tT,tT,tT,fF] rfl rfl (one_of HT_.out (by kernel_rfl)) (by decide) (fun K hK => ?_)
         have hs87 : w84.cell? ⟨gb324,0,none⟩ = some (.int .i64 0):=(blk_cell BK324.out 0).trans rfl
         have hfs87:=blk_frozen BK324.out 0
         have hns87_0:=NB323_324.out
         have hns87_2:=NB325_324.out
         have hms87_0:=NB324_323.out
         have hms87_2:=NB324_325.out
         have hs88 : w84.cell? ⟨gb324,1,none⟩ = some (.int .i64 0):=(blk_cell BK324.out 1).trans rfl
         have hfs88:=blk_frozen BK324.out 1
         have hns88_0:=NB323_324.out
         have hns88_2:=NB325_324.out
         have hms88_0:=NB324_323.out
         have hms88_2:=NB324_325.out
         refine skip_ (w1:=?_) (by rfl) rfl ?_ ?_
         rotate_left
         ·go_simp
          rfl
         refine hK.out _ _ ⟨(cg hw320_0 GW324 ((cg hw320_0 GW324 (hHeld.1)))),(cg hw320_1 GW324 ((cg hw320_1 GW324 (hHeld.2.1)))),(cg hw321_0 GW324 ((cg hw321_0 GW324 (hHeld.2.2.1)))),(cg hw321_1 GW324 ((cg hw321_1 GW324 (hHeld.2.2.2.1)))),(cg hw322_0 GW324 ((cg hw322_0 GW324 (hHeld.2.2.2.2.1)))),(cg hw322_1 GW324 ((cg hw322_1 GW324 (hHeld.2.2.2.2.2))))⟩ (fun hHeld => ?_)
         clear hK K
         refine one_ (i:=25) (N:=none) #[tT,tT,tT,tT,tT,tT,tT,tT,tT,tT,tT,tT,tT,tT,tT,tT,tT,tT,tT,tT,tT,tT,tT,tT,tT,tT] rfl rfl (one_of HT_.out (by kernel_rfl)) (by decide) (fun K hK => ?_)
         have hs89 : w84.cell? ⟨gb325,0,none⟩ = some (.int .i64 0):=(blk_cell BK325.out 0).trans rfl
         have hfs89:=blk_frozen BK325.out 0
         have hns89_0:=NB323_325.out
         have hns89_1:=NB324_325.out
         have hms89_0:=NB325_323.out
         have hms89_1:=NB325_324.out
         have hs90 : w84.cell? ⟨gb325,1,none⟩ = some (.int .i64 0):=(blk_cell BK325.out 1).trans rfl
         have hfs90:=blk_frozen BK325.out 1
         have hns90_0:=NB323_325.out
         have hns90_1:=NB324_325.out
         have hms90_0:=NB325_323.out
         have hms90_1:=NB325_324.out
         refine skip_ (w1:=?_) (by rfl) rfl ?_ ?_
         rotate_left
         ·go_simp
          rfl
         refine hK.out _ _ ⟨(cg hw320_0 GW325 ((cg hw320_0 GW325 (hHeld.1)))),(cg hw320_1 GW325 ((cg hw320_1 GW325 (hHeld.2.1)))),(cg hw321_0 GW325 ((cg hw321_0 GW325 (hHeld.2.2.1)))),(cg hw321_1 GW325 ((cg hw321_1 GW325 (hHeld.2.2.2.1)))),(cg hw322_0 GW325 ((cg hw322_0 GW325 (hHeld.2.2.2.2.1)))),(cg hw322_1 GW325 ((cg hw322_1 GW325 (hHeld.2.2.2.2.2))))⟩ (fun hHeld => ?_)
         clear hK K
         refine done_ (done_of HT_.out (by kernel_rfl)) ?_
         have hnb91:=NB323_324.out
         have hnc91:=NB324_323.out
         have hnb92:=NB323_325.out
         have hnc92:=NB325_323.out
         have hcz93_0:=ck BK323 0
         have hcz93_1:=ck BK323 1
         have hfz93_0:=blk_frozen BK323.out 0
         have hfz93_1:=blk_frozen BK323.out 1
         have hnb94:=NB324_325.out
         have hnc94:=NB325_324.out
         have hcz95_0:=ck BK324 0
         have hcz95_1:=ck BK324 1
         have hfz95_0:=blk_frozen BK324.out 0
         have hfz95_1:=blk_frozen BK324.out 1
         have hcz96_0:=ck BK325 0
         have hcz96_1:=ck BK325 1
         have hfz96_0:=blk_frozen BK325.out 0
         have hfz96_1:=blk_frozen BK325.out 1
         try go_wp2_with (first | ((with_reducible refine gate_callee (f:=147) rfl ?_);refine goesL_ (some 36) rfl rfl Try.func147 (by kernel_rfl) rfl #[.agg #[.int .i64 ((rd_T73 l0 (ji4)).f0),.int .i64 ((rd_T73 l0 (ji4)).f1)],.agg #[.int .i64 ((rd_T73 l0 a1).f0),.int .i64 ((rd_T73 l0 a1).f1)],.agg #[.int .i64 ((rd_T73 l0 (ji9)).f0),.int .i64 ((rd_T73 l0 (ji9)).f1)]] rfl (by (try simp only [List.map_toArray,List.map_cons,List.map_nil]);first | done | (simp only [hji4,hji9];rfl) | rfl | (simp only [List.length_drop,List.length_take];rfl)) ?_;(with_reducible refine (impl_side.calls ((rd_T73 l0 (ji4)).f0) ((rd_T73 l0 (ji4)).f1) ((rd_T73 l0 a1).f0) ((rd_T73 l0 a1).f1) ((rd_T73 l0 (ji9)).f0) ((rd_T73 l0 (ji9)).f1) t326 _ A12.out).mono ?_);rintro e w97 ⟨rfl,hb⟩;refine ⟨_,rfl,?_⟩;replace BK323:=Aside0.mk (blk_below (g:=gb323) (o:=.cells #[.int .i64 ((rd_T73 l0 (ji4)).f0),.int .i64 ((rd_T73 l0 (ji4)).f1)] 73 (0,0)) (by refine bF NB323_325.out ?_;refine bF NB323_325.out ?_;refine bF NB323_324.out ?_;refine bF NB323_324.out ?_;refine bP (cs:=#[.int .i64 ((rd_T73 l0 (ji4)).f0),.int .i64 0]) 1 ?_;refine bP (cs:=#[.int .i64 0,.int .i64 0]) 0 ?_;exact bk BK323) hb);replace BK324:=Aside0.mk (blk_below (g:=gb324) (o:=.cells #[.int .i64 ((rd_T73 l0 a1).f0),.int .i64 ((rd_T73 l0 a1).f1)] 73 (0,0)) (by refine bF NB324_325.out ?_;refine bF NB324_325.out ?_;refine bP (cs:=#[.int .i64 ((rd_T73 l0 a1).f0),.int .i64 0]) 1 ?_;refine bP (cs:=#[.int .i64 0,.int .i64 0]) 0 ?_;refine bF NB324_323.out ?_;refine bF NB324_323.out ?_;exact bk BK324) hb);replace BK325:=Aside0.mk (blk_below (g:=gb325) (o:=.cells #[.int .i64 ((rd_T73 l0 (ji9)).f0),.int .i64 ((rd_T73 l0 (ji9)).f1)] 73 (0,0)) (by refine bP (cs:=#[.int .i64 ((rd_T73 l0 (ji9)).f0),.int .i64 0]) 1 ?_;refine bP (cs:=#[.int .i64 0,.int .i64 0]) 0 ?_;refine bF NB325_324.out ?_;refine bF NB325_324.out ?_;refine bF NB325_323.out ?_;refine bF NB325_323.out ?_;exact bk BK325) hb);replace HB:=sb hb;(try clear hb);(try clear hb2);(try clear hk);(try clear hi)))
         go_ret
         exact ⟨by first | rfl | (simp [errW_none,errW_some] <;> rfl) | (simp only [← hji4,← hji9];first | rfl | (simp [errW_none,errW_some] <;> rfl)) | (simp [*,errW_none,errW_some] <;> rfl),ib⟩
       ·rw [if_neg c11] at H
        exact absurd H (by simp)
      ·rw [if_neg c10] at H
       exact absurd H (by simp)
     ·rw [if_neg c8] at H
      exact absurd H (by simp)
    ·rw [if_neg c7] at H
     exact absurd H (by simp)
   ·rw [if_neg c6] at H
    exact absurd H (by simp)
  ·rw [if_neg c5] at H
   exact absurd H (by simp)
end Go.Proofs.Ytnnchaggdnlfmaa.PFnExactTriangulate
