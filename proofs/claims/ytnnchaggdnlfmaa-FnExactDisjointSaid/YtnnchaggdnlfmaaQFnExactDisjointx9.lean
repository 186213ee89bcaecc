/- Contracts of functions that FnExactDisjoint reaches, out of the lines of the kit's print. -/
import Derived.Test.YtnnchaggdnlfmaaQFnExactDisjointx0
import Derived.Test.YtnnchaggdnlfmaaQFnExactDisjointx2
namespace Go.Proofs.Ytnnchaggdnlfmaa.PFnExactDisjoint
open Go.RowKit Go.Proofs.YtnnchaggdnlfmaaW.PrintWords Go.Proofs.YtnnchaggdnlfmaaW.PrintLast Go.Proofs.YtnnchaggdnlfmaaW.PrintMore
open Bool renaming true → tT, false → fF
open Go.World renaming block_lt_of_cell? → bL
attribute [local go_sem] max2_int min2_int max_two min_two max_three min_three max_four min_four
set_option linter.unusedVariables false
set_option linter.unusedSimpArgs false
mutual
def spec_l04Parted.l0 : Nat → List (S73) → List (S73) → Int → Option (Bool)
 | 0,_,_,_ => none
 | k + 1,x0,x1,x5 => if x5 < 3 then (spec_l04Parted.l1 k x0 x1 x5 true 0) else (some false)
def spec_l04Parted.l1 : Nat → List (S73) → List (S73) → Int → Bool → Int → Option (Bool)
 | 0,_,_,_,_,_ => none
 | k + 1,x0,x1,x5,x6,x7 => if x7 < 3 then (if x6 = true then (if 0 ≤ x5 then (if x5 < (x0.length : Int) then (if 0 ≤ (Int.tmod (wrap64 (x5 + 1)) 3) then (if (Int.tmod (wrap64 (x5 + 1)) 3) < (x0.length : Int) then (if 0 ≤ x7 then (if x7 < (x1.length : Int) then ((spec_l02Side.f ((rd_T73 x0 x5).f0) ((rd_T73 x0 x5).f1) ((rd_T73 x0 (Int.tmod (wrap64 (x5 + 1)) 3)).f0) ((rd_T73 x0 (Int.tmod (wrap64 (x5 + 1)) 3)).f1) ((rd_T73 x1 x7).f0) ((rd_T73 x1 x7).f1)).bind fun t261 => (spec_l04Parted.l1 k x0 x1 x5 (decide (t261 ≤ 0)) (wrap64 (x7 + 1)))) else (none)) else (none)) else (none)) else (none)) else (none)) else (none)) else (spec_l04Parted.l1 k x0 x1 x5 false (wrap64 (x7 + 1)))) else (if x6 = true then (some true) else (spec_l04Parted.l0 k x0 x1 (wrap64 (x5 + 1))))
end
def spec_l04Parted.f (k : Nat) (l0 : List (S73)) (l1 : List (S73)) : Option (Bool):=spec_l04Parted.l0 k l0 l1 0
def spec_l04Parted.T8 : Bool × List (List Nat × List Nat):=(true,[([],[]),([0],[0]),([1],[1]),([1],[1]),([2,3,1],[1,2,3]),([4,1],[1,4]),([1],[1]),([1],[1]),([7,1],[1,7]),([8,1],[1,8]),([6,9,1],[1,6,9]),([10,1],[1,10]),([1],[1]),([1],[1]),([12,13,1],[1,12,13]),([14,1],[1,14]),([5,11,15,1,1],[1,5,11,15]),([16,1],[1,16]),([1,17],[1,17]),([18,16,0,1,2,3,4,5,6,7,8,9,10,11,12,13,14,15,16,17,18],[0,18])])
def spec_l04Parted.B8 : List Nat:=[0,1,3,3,15,31,3,3,131,387,963,1987,3,3,12291,28675,65535,131071,262143,524287]
theorem spec_l04Parted.tab8 : rtab .any (opsOf Try.f113 8) = spec_l04Parted.T8:=by kernel_rfl
theorem spec_l04Parted.bits8 : waitsOk spec_l04Parted.T8.2 spec_l04Parted.B8 = true:=by kernel_rfl
set_option maxHeartbeats 8000000 in
set_option maxRecDepth 100000 in
theorem spec_l04Parted.calls (k : Nat) (A0 : Option Addr) (c0 : Nat) (l0 : List (S73)) (A1 : Option Addr) (c1 : Nat) (l1 : List (S73)) (r : Bool) (w : World) (hr0 : Kd.C k73 w A0 l0.length l0) (hc0 : l0.length ≤ c0) (hr1 : Kd.C k73 w A1 l1.length l1) (hc1 : l1.length ≤ c1) (h : spec_l04Parted.f k l0 l1 = some r) :
  Calls Try.prog 113 #[.slice A0 l0.length c0,.slice A1 l1.length c1] w fun e w' => e = .returned (.bool r) ∧ Below w.heap.size w w':=by
 have hu73:=Try.underlying73
 have HR0:=Aside0.mk hr0
 have HC0:=Aside0.mk hc0
 clear hr0 hc0
 have HR1:=Aside0.mk hr1
 have HC1:=Aside0.mk hc1
 clear hr1 hc1
 have HB:=Aside0.mk (Below.refl w.heap.size w)
 have H : (spec_l04Parted.l0 k l0 l1 0) = some r:=h
 clear h
 have H':=Aside0.mk H
 clear H
 go_enter Try.func113,Try.ntmps113
 go_wp2
 go_loopg [5] k (fun kq v5 w' => ∃ (x5_1 : Int),v5 = .int .i64 x5_1 ∧ Aside0 (spec_l04Parted.l0 kq l0 l1 x5_1 = some r) ∧ Aside0 (kq ≤ k) ∧ Aside0 (Below w.heap.size w w'))
 case atStart => exact ⟨(0),(by first | rfl | (simp;done) | (simp [*];done)),H',⟨Nat.le_refl _⟩,⟨ib⟩⟩
 case round =>
  clear H'
  try clear c1
  try clear p2
  obtain ⟨x5_1,rfl,HA,HK1,HB⟩:=hrel
  cases gk with
  | zero => exact absurd HA.out (by simp [spec_l04Parted.l0])
  | succ k1 =>
   have H:=HA.out
   clear HA
   simp only [spec_l04Parted.l0] at H
   by_cases c3 : x5_1 < 3
   ·rw [if_pos c3] at H
    have c3b0 : decide (x5_1 < 3) = true:=decide_eq_true c3
    clear c3
    have H':=Aside0.mk H
    clear H
    go_wp2
    go_loopg [6,7] k1 (fun kq v6 v7 w' => ∃ (x6_2 : Bool) (x7_2 : Int),v6 = .bool x6_2 ∧ v7 = .int .i64 x7_2 ∧ Aside0 (spec_l04Parted.l1 kq l0 l1 x5_1 x6_2 x7_2 = some r) ∧ Aside0 (kq ≤ k1) ∧ Aside0 (Below w.heap.size w w'))
    case atStart => exact ⟨(true),(0),(by first | rfl | (simp;done) | (simp [*];done)),(by first | rfl | (simp;done) | (simp [*];done)),H',⟨Nat.le_refl _⟩,⟨ib⟩⟩
    case round =>
     clear H'
     try clear c1
     try clear p2
     try clear c3
     try clear c3b0
     try clear p2
     obtain ⟨x6_2,x7_2,rfl,rfl,HA,HK2,HB⟩:=hrel
     cases gk with
     | zero => exact absurd HA.out (by simp [spec_l04Parted.l1])
     | succ k2 =>
      have H:=HA.out
      clear HA
      simp only [spec_l04Parted.l1] at H
      by_cases c4 : x7_2 < 3
      ·rw [if_pos c4] at H
       have c4b0 : decide (x7_2 < 3) = true:=decide_eq_true c4
       clear c4
       by_cases c5 : x6_2 = true
       ·subst c5
        have H1 : (if 0 ≤ x5_1 then (if x5_1 < (l0.length : Int) then (if 0 ≤ (Int.tmod (wrap64 (x5_1 + 1)) 3) then (if (Int.tmod (wrap64 (x5_1 + 1)) 3) < (l0.length : Int) then (if 0 ≤ x7_2 then (if x7_2 < (l1.length : Int) then ((spec_l02Side.f ((rd_T73 l0 x5_1).f0) ((rd_T73 l0 x5_1).f1) ((rd_T73 l0 (Int.tmod (wrap64 (x5_1 + 1)) 3)).f0) ((rd_T73 l0 (Int.tmod (wrap64 (x5_1 + 1)) 3)).f1) ((rd_T73 l1 x7_2).f0) ((rd_T73 l1 x7_2).f1)).bind fun t261 => (spec_l04Parted.l1 k2 l0 l1 x5_1 (decide (t261 ≤ 0)) (wrap64 (x7_2 + 1)))) else (none)) else (none)) else (none)) else (none)) else (none)) else (none)) = some r:=by rw [if_pos rfl] at H;exact H
        clear H
        have H:=H1
        clear H1
        by_cases c6 : 0 ≤ x5_1
        ·rw [if_pos c6] at H
         have c6b0 : decide (0 ≤ x5_1) = true:=decide_eq_true c6
         clear c6
         by_cases c7 : x5_1 < (l0.length : Int)
         ·rw [if_pos c7] at H
          have c7b0 : decide (x5_1 < (l0.length : Int)) = true:=decide_eq_true c7
          clear c7
          obtain ⟨ji8,hji8⟩ : ∃ j_ : Int,(Int.tmod (wrap64 (x5_1 + 1)) 3) = j_:=⟨_,rfl⟩
          replace H : (if 0 ≤ (ji8) then (if (ji8) < (l0.length : Int) then (if 0 ≤ x7_2 then (if x7_2 < (l1.length : Int) then ((spec_l02Side.f ((rd_T73 l0 x5_1).f0) ((rd_T73 l0 x5_1).f1) ((rd_T73 l0 (ji8)).f0) ((rd_T73 l0 (ji8)).f1) ((rd_T73 l1 x7_2).f0) ((rd_T73 l1 x7_2).f1)).bind fun t261 => (spec_l04Parted.l1 k2 l0 l1 x5_1 (decide (t261 ≤ 0)) (wrap64 (x7_2 + 1)))) else (none)) else (none)) else (none)) else (none)) = some r:=by first | (rw [hji8] at H;exact H) | (simp only [hji8] at H ⊢;exact H)
          by_cases c9 : 0 ≤ (ji8)
          ·rw [if_pos c9] at H
           have c9b0 : decide (0 ≤ (ji8)) = true:=decide_eq_true c9
           clear c9
           by_cases c10 : (ji8) < (l0.length : Int)
           ·rw [if_pos c10] at H
            have c10b0 : decide ((ji8) < (l0.length : Int)) = true:=decide_eq_true c10
            clear c10
            by_cases c11 : 0 ≤ x7_2
            ·rw [if_pos c11] at H
             have c11b0 : decide (0 ≤ x7_2) = true:=decide_eq_true c11
             clear c11
             by_cases c12 : x7_2 < (l1.length : Int)
             ·rw [if_pos c12] at H
              have c12b0 : decide (x7_2 < (l1.length : Int)) = true:=decide_eq_true c12
              clear c12
              replace H:=Option.bind_eq_some_iff.mp H
              obtain ⟨t261,A130,H⟩:=H
              replace H : (spec_l04Parted.l1 k2 l0 l1 x5_1 (decide (t261 ≤ 0)) (wrap64 (x7_2 + 1))) = some r:=H
              have A13:=Aside0.mk A130
              clear A130
              have H':=Aside0.mk H
              clear H
              try go_wp2
              replace HB:=Aside0.mk (below_drew1 HB.out)
              have p258 : 0 ≤ (x5_1 : Int):=da
              have q258 : x5_1 < (l0.length : Int):=da
              obtain ⟨ad258,e258,hx258_0,hx258_1⟩:=at_T73 HR0.out x5_1 p258 q258
              have hw258_1:=hx258_1
              have hw258_0:=hx258_0
              cases e258
              replace hx258_0:=cq HB.out hx258_0
              replace hx258_1:=cq HB.out hx258_1
              replace p258:=eq_true p258
              replace q258:=eq_true q258
              have p259 : 0 ≤ ((ji8) : Int):=da
              have q259 : (ji8) < (l0.length : Int):=da
              obtain ⟨ad259,e259,hx259_0,hx259_1⟩:=at_T73 HR0.out (ji8) p259 q259
              have hw259_1:=hx259_1
              have hw259_0:=hx259_0
              obtain rfl : ad258 = ad259:=(by injection e259)
              replace hx259_0:=cq HB.out hx259_0
              replace hx259_1:=cq HB.out hx259_1
              replace p259:=eq_true p259
              replace q259:=eq_true q259
              have p260 : 0 ≤ (x7_2 : Int):=da
              have q260 : x7_2 < (l1.length : Int):=da
              obtain ⟨ad260,e260,hx260_0,hx260_1⟩:=at_T73 HR1.out x7_2 p260 q260
              have hw260_1:=hx260_1
              have hw260_0:=hx260_0
              cases e260
              replace hx260_0:=cq HB.out hx260_0
              replace hx260_1:=cq HB.out hx260_1
              replace p260:=eq_true p260
              replace q260:=eq_true q260
              refine start_ (n:=20) (S:=fun w' => w'.cell? (ad258.add ((x5_1).toNat * 2)) = some (.int .i64 ((rd_T73 l0 x5_1).f0)) ∧ w'.cell? ⟨(ad258.add ((x5_1).toNat * 2)).block,(ad258.add ((x5_1).toNat * 2)).off + 1,none⟩ = some (.int .i64 ((rd_T73 l0 x5_1).f1)) ∧ w'.cell? (ad258.add (((ji8)).toNat * 2)) = some (.int .i64 ((rd_T73 l0 (ji8)).f0)) ∧ w'.cell? ⟨(ad258.add (((ji8)).toNat * 2)).block,(ad258.add (((ji8)).toNat * 2)).off + 1,none⟩ = some (.int .i64 ((rd_T73 l0 (ji8)).f1)) ∧ w'.cell? (ad260.add ((x7_2).toNat * 2)) = some (.int .i64 ((rd_T73 l1 x7_2).f0)) ∧ w'.cell? ⟨(ad260.add ((x7_2).toNat * 2)).block,(ad260.add ((x7_2).toNat * 2)).off + 1,none⟩ = some (.int .i64 ((rd_T73 l1 x7_2).f1))) (ds:=[]) #[fF,fF,fF,fF,fF,fF,fF,fF,fF,fF,fF,fF,fF,fF,fF,fF,fF,fF,fF,fF] (by kernel_rfl) rfl rfl ⟨cq HB.out hw258_0,cq HB.out hw258_1,cq HB.out hw259_0,cq HB.out hw259_1,cq HB.out hw260_0,cq HB.out hw260_1⟩ (fun hHeld => ?_);refine with_tabW spec_l04Parted.tab8 spec_l04Parted.bits8 (fun HT_ HW_ => ?_)
              generalize wr.drew = w14 at HB hx258_0 hx258_1 hx259_0 hx259_1 hx260_0 hx260_1 hHeld ⊢
              refine pu 0 16 HT_ ?_
              refine pu 1 17 HT_ ?_
              refine pu 2 18 HT_ ?_
              refine pu 3 19 HT_ ?_
              refine pu 4 20 HT_ ?_
              refine pu 6 22 HT_ ?_
              refine pu 7 23 HT_ ?_
              refine pu 8 24 HT_ ?_
              refine pu 9 25 HT_ ?_
              refine pu 10 26 HT_ ?_
              refine pu 12 28 HT_ ?_
              refine pu 13 29 HT_ ?_
              refine pu 14 30 HT_ ?_
              refine tk 5 21 HT_ HW_ hHeld ?_
              refine tk 11 27 HT_ HW_ hHeld ?_
              refine tk 15 31 HT_ HW_ hHeld ?_
              refine on 16 32 HT_ (fun K hK => ?_)
              refine goes_ Try.func103 (by kernel_rfl) rfl #[.agg #[.int .i64 ((rd_T73 l0 x5_1).f0),.int .i64 ((rd_T73 l0 x5_1).f1)],.agg #[.int .i64 ((rd_T73 l0 (ji8)).f0),.int .i64 ((rd_T73 l0 (ji8)).f1)],.agg #[.int .i64 ((rd_T73 l1 x7_2).f0),.int .i64 ((rd_T73 l1 x7_2).f1)]] (by rfl) rfl rfl (by (try simp only [List.map_toArray,List.map_cons,List.map_nil]);first | done | (simp only [hji8];rfl) | rfl | (simp only [List.length_drop,List.length_take];rfl)) ?_
              with_reducible refine (spec_l02Side.calls ((rd_T73 l0 x5_1).f0) ((rd_T73 l0 x5_1).f1) ((rd_T73 l0 (ji8)).f0) ((rd_T73 l0 (ji8)).f1) ((rd_T73 l1 x7_2).f0) ((rd_T73 l1 x7_2).f1) t261 _ A13.out).mono ?_
              rintro e w15 ⟨rfl,hb⟩
              refine ⟨_,rfl,?_⟩
              replace HB:=sb hb
              (try clear hb)
              (try clear hb2)
              (try clear hk)
              (try clear hi)
              refine hK.out _ _ ⟨cq HB.out hw258_0,cq HB.out hw258_1,cq HB.out hw259_0,cq HB.out hw259_1,cq HB.out hw260_0,cq HB.out hw260_1⟩ (fun hHeld => ?_)
              clear hK K
              refine norm_ (a':=?_) ?_ ?_
              rotate_left
              ·show Act.put _ (some 32) _ = _
               simp only [Act.put,List.setIfInBounds_toArray,List.set_cons_zero,List.set_cons_succ,i64_w,i32_w]
               rfl
              refine pu 17 33 HT_ ?_
              refine pu 18 34 HT_ ?_
              refine pu 19 6 HT_ ?_
              refine done_ (done_of HT_.out (by kernel_rfl)) ?_
              try go_wp2
              go_roundg k2
              case measure => have:=HK1.out;have:=HK2.out;omega
              case rel => exact ⟨(decide (t261 ≤ 0)),(wrap64 (x7_2 + 1)),(by first | rfl | (simp;done) | (simp [*];done)),(by first | rfl | (simp;done) | (simp [*];done)),H',⟨by have:=HK1.out;have:=HK2.out;omega⟩,⟨ib⟩⟩
             ·rw [if_neg c12] at H
              exact absurd H (by simp)
            ·rw [if_neg c11] at H
             exact absurd H (by simp)
           ·rw [if_neg c10] at H
            exact absurd H (by simp)
          ·rw [if_neg c9] at H
           exact absurd H (by simp)
         ·rw [if_neg c7] at H
          exact absurd H (by simp)
        ·rw [if_neg c6] at H
         exact absurd H (by simp)
       ·replace c5:=Bool.eq_false_iff.mpr c5
        subst c5
        have H1 : (spec_l04Parted.l1 k2 l0 l1 x5_1 false (wrap64 (x7_2 + 1))) = some r:=by rw [if_neg (show ¬ (false = true) by decide)] at H;exact H
        clear H
        have H:=H1
        clear H1
        have H':=Aside0.mk H
        clear H
        try go_wp2
        replace HB:=Aside0.mk (below_drew1 HB.out)
        refine start_ (n:=20) (S:=fun w' => True) (ds:=[]) #[fF,fF,fF,fF,fF,fF,fF,fF,fF,fF,fF,fF,fF,fF,fF,fF,fF,fF,fF,fF] (by kernel_rfl) rfl rfl trivial (fun hHeld => ?_);refine with_tabW spec_l04Parted.tab8 spec_l04Parted.bits8 (fun HT_ HW_ => ?_)
        generalize wr.drew = w16 at HB hHeld ⊢
        refine pu 0 16 HT_ ?_
        refine pu 1 17 HT_ ?_
        refine pd 2 18 HT_ ?_
        refine pd 3 19 HT_ ?_
        refine pd 4 20 HT_ ?_
        refine pd 5 21 HT_ ?_
        refine pd 6 22 HT_ ?_
        refine pd 7 23 HT_ ?_
        refine pd 8 24 HT_ ?_
        refine pd 9 25 HT_ ?_
        refine pd 10 26 HT_ ?_
        refine pd 11 27 HT_ ?_
        refine pd 12 28 HT_ ?_
        refine pd 13 29 HT_ ?_
        refine pd 14 30 HT_ ?_
        refine pd 15 31 HT_ ?_
        refine pd 16 32 HT_ ?_
        refine pd 17 33 HT_ ?_
        refine pu 18 34 HT_ ?_
        refine pu 19 6 HT_ ?_
        refine done_ (done_of HT_.out (by kernel_rfl)) ?_
        try go_wp2
        go_roundg k2
        case measure => have:=HK1.out;have:=HK2.out;omega
        case rel => exact ⟨(false),(wrap64 (x7_2 + 1)),(by first | rfl | (simp;done) | (simp [*];done)),(by first | rfl | (simp;done) | (simp [*];done)),H',⟨by have:=HK1.out;have:=HK2.out;omega⟩,⟨ib⟩⟩
      ·rw [if_neg c4] at H
       have c4b0 : decide (x7_2 < 3) = false:=decide_eq_false c4
       clear c4
       by_cases c17 : x6_2 = true
       ·subst c17
        have H1 : (some true) = some r:=by rw [if_pos rfl] at H;exact H
        clear H
        have H:=H1
        clear H1
        obtain rfl:=Option.some.inj H
        go_wp2
        go_ret
        exact ⟨by first | rfl | (simp [errW_none,errW_some] <;> rfl) | (simp [*,errW_none,errW_some] <;> rfl),ib⟩
       ·replace c17:=Bool.eq_false_iff.mpr c17
        subst c17
        have H1 : (spec_l04Parted.l0 k2 l0 l1 (wrap64 (x5_1 + 1))) = some r:=by rw [if_neg (show ¬ (false = true) by decide)] at H;exact H
        clear H
        have H:=H1
        clear H1
        have H':=Aside0.mk H
        clear H
        go_wp2
        go_roundg k2
        case measure => have:=HK1.out;have:=HK2.out;omega
        case rel => exact ⟨(wrap64 (x5_1 + 1)),(by first | rfl | (simp;done) | (simp [*];done)),H',⟨by have:=HK1.out;have:=HK2.out;omega⟩,⟨ib⟩⟩
   ·rw [if_neg c3] at H
    have c3b0 : decide (x5_1 < 3) = false:=decide_eq_false c3
    clear c3
    obtain rfl:=Option.some.inj H
    go_wp2
    go_ret
    exact ⟨by first | rfl | (simp [errW_none,errW_some] <;> rfl) | (simp [*,errW_none,errW_some] <;> rfl),ib⟩
end Go.Proofs.Ytnnchaggdnlfmaa.PFnExactDisjoint
