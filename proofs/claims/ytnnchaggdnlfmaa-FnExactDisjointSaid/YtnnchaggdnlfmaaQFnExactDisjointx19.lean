/- Contracts of functions that FnExactDisjoint reaches, out of the lines of the kit's print. -/
import Derived.Test.YtnnchaggdnlfmaaQFnExactDisjointx0
import Derived.Test.YtnnchaggdnlfmaaQFnExactDisjointx11
namespace Go.Proofs.Ytnnchaggdnlfmaa.PFnExactDisjoint
open Go.RowKit Go.Proofs.YtnnchaggdnlfmaaW.PrintWords Go.Proofs.YtnnchaggdnlfmaaW.PrintLast Go.Proofs.YtnnchaggdnlfmaaW.PrintMore
open Bool renaming true → tT, false → fF
open Go.World renaming block_lt_of_cell? → bL
attribute [local go_sem] max2_int min2_int max_two min_two max_three min_three max_four min_four
set_option linter.unusedVariables false
set_option linter.unusedSimpArgs false
mutual
def impl_beside.l0 : Nat → List (S73) → List (S73) → Int → Int → Option (Bool)
 | 0,_,_,_,_ => none
 | k + 1,x0,x1,x10,x11 => if x11 < x10 then (impl_beside.l1 k x0 x1 x11 true x10 x11 x1 (x1.length : Int) 0) else (some false)
def impl_beside.l1 : Nat → List (S73) → List (S73) → Int → Bool → Int → Int → List (S73) → Int → Int → Option (Bool)
 | 0,_,_,_,_,_,_,_,_,_ => none
 | k + 1,x0,x1,x5,x6,x10,x11,x14,x15,x16 => if x16 < x15 then (if 0 ≤ x16 then (if x16 < (x14.length : Int) then (if x6 = true then (if 0 ≤ x5 then (if x5 < (x0.length : Int) then (if 0 ≤ (Int.tmod (wrap64 (x5 + 1)) 3) then (if (Int.tmod (wrap64 (x5 + 1)) 3) < (x0.length : Int) then ((impl_side.f ((rd_T73 x0 x5).f0) ((rd_T73 x0 x5).f1) ((rd_T73 x0 (Int.tmod (wrap64 (x5 + 1)) 3)).f0) ((rd_T73 x0 (Int.tmod (wrap64 (x5 + 1)) 3)).f1) ((rd_T73 x14 x16).f0) ((rd_T73 x14 x16).f1)).bind fun t389 => (impl_beside.l1 k x0 x1 x5 (decide (t389 ≤ 0)) x10 x11 x14 x15 (wrap64 (x16 + 1)))) else (none)) else (none)) else (none)) else (none)) else (impl_beside.l1 k x0 x1 x5 false x10 x11 x14 x15 (wrap64 (x16 + 1)))) else (none)) else (none)) else (if x6 = true then (some true) else (impl_beside.l0 k x0 x1 x10 (wrap64 (x11 + 1))))
end
def impl_beside.f (k : Nat) (l0 : List (S73)) (l1 : List (S73)) : Option (Bool):=impl_beside.l0 k l0 l1 (l0.length : Int) 0
def impl_beside.T8 : Bool × List (List Nat × List Nat):=(true,[([],[]),([0],[0]),([1],[1]),([1],[1]),([2,3,1],[1,2,3]),([4,1],[1,4]),([1],[1]),([1],[1]),([7,1],[1,7]),([8,1],[1,8]),([6,9,1],[1,6,9]),([10,1],[1,10]),([1],[1]),([5,11,12,1,1],[1,5,11,12]),([13,1],[1,13]),([1,14],[1,14]),([15,13,0,1,2,3,4,5,6,7,8,9,10,11,12,13,14,15],[0,15])])
def impl_beside.B8 : List Nat:=[0,1,3,3,15,31,3,3,131,387,963,1987,3,8191,16383,32767,65535]
theorem impl_beside.tab8 : rtab .any (opsOf Try.f115 8) = impl_beside.T8:=by kernel_rfl
theorem impl_beside.bits8 : waitsOk impl_beside.T8.2 impl_beside.B8 = true:=by kernel_rfl
set_option maxHeartbeats 8000000 in
set_option maxRecDepth 100000 in
theorem impl_beside.calls (k : Nat) (A0 : Option Addr) (c0 : Nat) (l0 : List (S73)) (A1 : Option Addr) (c1 : Nat) (l1 : List (S73)) (r : Bool) (w : World) (hr0 : Kd.C k73 w A0 l0.length l0) (hc0 : l0.length ≤ c0) (hr1 : Kd.C k73 w A1 l1.length l1) (hc1 : l1.length ≤ c1) (h : impl_beside.f k l0 l1 = some r) :
  Calls Try.prog 115 #[.slice A0 l0.length c0,.slice A1 l1.length c1] w fun e w' => e = .returned (.bool r) ∧ Below w.heap.size w w':=by
 have hu73:=Try.underlying73
 have HR0:=Aside0.mk hr0
 have HC0:=Aside0.mk hc0
 clear hr0 hc0
 have HR1:=Aside0.mk hr1
 have HC1:=Aside0.mk hc1
 clear hr1 hc1
 have HB:=Aside0.mk (Below.refl w.heap.size w)
 have H : (impl_beside.l0 k l0 l1 (l0.length : Int) 0) = some r:=h
 clear h
 have H':=Aside0.mk H
 clear H
 go_enter Try.func115,Try.ntmps115
 go_wp2
 go_loopg [11] k (fun kq v11 w' => ∃ (x11_1 : Int),v11 = .int .i64 x11_1 ∧ Aside0 (impl_beside.l0 kq l0 l1 (l0.length : Int) x11_1 = some r) ∧ Aside0 (kq ≤ k) ∧ Aside0 (Below w.heap.size w w'))
 case atStart => exact ⟨(0),(by first | rfl | (simp;done) | (simp [*];done)),H',⟨Nat.le_refl _⟩,⟨ib⟩⟩
 case round =>
  clear H'
  try clear c1
  try clear p2
  obtain ⟨x11_1,rfl,HA,HK1,HB⟩:=hrel
  cases gk with
  | zero => exact absurd HA.out (by simp [impl_beside.l0])
  | succ k1 =>
   have H:=HA.out
   clear HA
   simp only [impl_beside.l0] at H
   by_cases c3 : x11_1 < (l0.length : Int)
   ·rw [if_pos c3] at H
    have c3b0 : decide (x11_1 < (l0.length : Int)) = true:=decide_eq_true c3
    clear c3
    have H':=Aside0.mk H
    clear H
    go_wp2
    go_loopg [6,16] k1 (fun kq v6 v16 w' => ∃ (x6_2 : Bool) (x16_2 : Int),v6 = .bool x6_2 ∧ v16 = .int .i64 x16_2 ∧ Aside0 (impl_beside.l1 kq l0 l1 x11_1 x6_2 (l0.length : Int) x11_1 l1 (l1.length : Int) x16_2 = some r) ∧ Aside0 (kq ≤ k1) ∧ Aside0 (Below w.heap.size w w'))
    case atStart => exact ⟨(true),(0),(by first | rfl | (simp;done) | (simp [*];done)),(by first | rfl | (simp;done) | (simp [*];done)),H',⟨Nat.le_refl _⟩,⟨ib⟩⟩
    case round =>
     clear H'
     try clear c1
     try clear p2
     try clear c3
     try clear c3b0
     try clear p2
     obtain ⟨x6_2,x16_2,rfl,rfl,HA,HK2,HB⟩:=hrel
     cases gk with
     | zero => exact absurd HA.out (by simp [impl_beside.l1])
     | succ k2 =>
      have H:=HA.out
      clear HA
      simp only [impl_beside.l1] at H
      by_cases c4 : x16_2 < (l1.length : Int)
      ·rw [if_pos c4] at H
       have c4b0 : decide (x16_2 < (l1.length : Int)) = true:=decide_eq_true c4
       clear c4
       by_cases c5 : 0 ≤ x16_2
       ·rw [if_pos c5] at H
        have c5b0 : decide (0 ≤ x16_2) = true:=decide_eq_true c5
        clear c5
        by_cases c6 : x16_2 < (l1.length : Int)
        ·rw [if_pos c6] at H
         have c6b0 : decide (x16_2 < (l1.length : Int)) = true:=decide_eq_true c6
         clear c6
         by_cases c7 : x6_2 = true
         ·subst c7
          have H1 : (if 0 ≤ x11_1 then (if x11_1 < (l0.length : Int) then (if 0 ≤ (Int.tmod (wrap64 (x11_1 + 1)) 3) then (if (Int.tmod (wrap64 (x11_1 + 1)) 3) < (l0.length : Int) then ((impl_side.f ((rd_T73 l0 x11_1).f0) ((rd_T73 l0 x11_1).f1) ((rd_T73 l0 (Int.tmod (wrap64 (x11_1 + 1)) 3)).f0) ((rd_T73 l0 (Int.tmod (wrap64 (x11_1 + 1)) 3)).f1) ((rd_T73 l1 x16_2).f0) ((rd_T73 l1 x16_2).f1)).bind fun t389 => (impl_beside.l1 k2 l0 l1 x11_1 (decide (t389 ≤ 0)) (l0.length : Int) x11_1 l1 (l1.length : Int) (wrap64 (x16_2 + 1)))) else (none)) else (none)) else (none)) else (none)) = some r:=by rw [if_pos rfl] at H;exact H
          clear H
          have H:=H1
          clear H1
          by_cases c8 : 0 ≤ x11_1
          ·rw [if_pos c8] at H
           have c8b0 : decide (0 ≤ x11_1) = true:=decide_eq_true c8
           clear c8
           by_cases c9 : x11_1 < (l0.length : Int)
           ·rw [if_pos c9] at H
            have c9b0 : decide (x11_1 < (l0.length : Int)) = true:=decide_eq_true c9
            clear c9
            obtain ⟨ji10,hji10⟩ : ∃ j_ : Int,(Int.tmod (wrap64 (x11_1 + 1)) 3) = j_:=⟨_,rfl⟩
            replace H : (if 0 ≤ (ji10) then (if (ji10) < (l0.length : Int) then ((impl_side.f ((rd_T73 l0 x11_1).f0) ((rd_T73 l0 x11_1).f1) ((rd_T73 l0 (ji10)).f0) ((rd_T73 l0 (ji10)).f1) ((rd_T73 l1 x16_2).f0) ((rd_T73 l1 x16_2).f1)).bind fun t389 => (impl_beside.l1 k2 l0 l1 x11_1 (decide (t389 ≤ 0)) (l0.length : Int) x11_1 l1 (l1.length : Int) (wrap64 (x16_2 + 1)))) else (none)) else (none)) = some r:=by first | (rw [hji10] at H;exact H) | (simp only [hji10] at H ⊢;exact H)
            by_cases c11 : 0 ≤ (ji10)
            ·rw [if_pos c11] at H
             have c11b0 : decide (0 ≤ (ji10)) = true:=decide_eq_true c11
             clear c11
             by_cases c12 : (ji10) < (l0.length : Int)
             ·rw [if_pos c12] at H
              have c12b0 : decide ((ji10) < (l0.length : Int)) = true:=decide_eq_true c12
              clear c12
              replace H:=Option.bind_eq_some_iff.mp H
              obtain ⟨t389,A130,H⟩:=H
              replace H : (impl_beside.l1 k2 l0 l1 x11_1 (decide (t389 ≤ 0)) (l0.length : Int) x11_1 l1 (l1.length : Int) (wrap64 (x16_2 + 1))) = some r:=H
              have A13:=Aside0.mk A130
              clear A130
              have H':=Aside0.mk H
              clear H
              have p385 : 0 ≤ (x16_2 : Int):=da
              have q385 : x16_2 < (l1.length : Int):=da
              obtain ⟨ad385,e385,hx385_0,hx385_1⟩:=at_T73 HR1.out x16_2 p385 q385
              cases e385
              replace hx385_0:=cq HB.out hx385_0
              replace hx385_1:=cq HB.out hx385_1
              replace p385:=eq_true p385
              replace q385:=eq_true q385
              try go_wp2_with (first | ((with_reducible refine gate_dst (N:=8) rfl ?_);refine bx (cs:=#[.int .i64 0,.int .i64 0]) (t:=73) ?_;intro gb386 hg w14 hbox hb;have BK386:=Aside0.mk (hbox);have GW386:=zb hg;have GE386:=zb hg;replace HB:=sb hb;clear hb hbox hg;have hcz15_0:=ck BK386 0;have hcz15_1:=ck BK386 1;have hfz15_0:=blk_frozen BK386.out 0;have hfz15_1:=blk_frozen BK386.out 1))
              have n0_ : Aside0 (((w14.setCell ⟨gb386,0,none⟩ (.int .i64 ((rd_T73 l1 x16_2).f0))).setCell ⟨gb386,1,none⟩ (.int .i64 ((rd_T73 l1 x16_2).f1))).heap[gb386]? = some (.cells #[.int .i64 ((rd_T73 l1 x16_2).f0),.int .i64 ((rd_T73 l1 x16_2).f1)] 73 (0,0))):=⟨by refine bP (cs:=#[.int .i64 ((rd_T73 l1 x16_2).f0),.int .i64 0]) 1 ?_;refine bP (cs:=#[.int .i64 0,.int .i64 0]) 0 ?_;exact bk BK386⟩
              have n1_ : Aside0 (Below w.heap.size w ((w14.setCell ⟨gb386,0,none⟩ (.int .i64 ((rd_T73 l1 x16_2).f0))).setCell ⟨gb386,1,none⟩ (.int .i64 ((rd_T73 l1 x16_2).f1)))):=⟨ib⟩
              (try clear BK386)
              (try clear HB)
              generalize ((w14.setCell ⟨gb386,0,none⟩ (.int .i64 ((rd_T73 l1 x16_2).f0))).setCell ⟨gb386,1,none⟩ (.int .i64 ((rd_T73 l1 x16_2).f1))) = w16 at n0_ n1_ ⊢
              have BK386:=n0_
              have HB:=n1_
              clear n0_ n1_
              replace BK386:=Aside0.mk (blk_drew BK386.out)
              replace HB:=Aside0.mk (below_drew1 HB.out)
              have p387 : 0 ≤ (x11_1 : Int):=da
              have q387 : x11_1 < (l0.length : Int):=da
              obtain ⟨ad387,e387,hx387_0,hx387_1⟩:=at_T73 HR0.out x11_1 p387 q387
              have hw387_1:=hx387_1
              have hw387_0:=hx387_0
              cases e387
              replace hx387_0:=cq HB.out hx387_0
              replace hx387_1:=cq HB.out hx387_1
              replace p387:=eq_true p387
              replace q387:=eq_true q387
              have p388 : 0 ≤ ((ji10) : Int):=da
              have q388 : (ji10) < (l0.length : Int):=da
              obtain ⟨ad388,e388,hx388_0,hx388_1⟩:=at_T73 HR0.out (ji10) p388 q388
              have hw388_1:=hx388_1
              have hw388_0:=hx388_0
              obtain rfl : ad387 = ad388:=(by injection e388)
              replace hx388_0:=cq HB.out hx388_0
              replace hx388_1:=cq HB.out hx388_1
              replace p388:=eq_true p388
              replace q388:=eq_true q388
              refine start_ (n:=17) (S:=fun w' => w'.cell? ⟨gb386,0,none⟩ = some (.int .i64 ((rd_T73 l1 x16_2).f0)) ∧ w'.cell? ⟨gb386,1,none⟩ = some (.int .i64 ((rd_T73 l1 x16_2).f1)) ∧ w'.cell? (ad387.add ((x11_1).toNat * 2)) = some (.int .i64 ((rd_T73 l0 x11_1).f0)) ∧ w'.cell? ⟨(ad387.add ((x11_1).toNat * 2)).block,(ad387.add ((x11_1).toNat * 2)).off + 1,none⟩ = some (.int .i64 ((rd_T73 l0 x11_1).f1)) ∧ w'.cell? (ad387.add (((ji10)).toNat * 2)) = some (.int .i64 ((rd_T73 l0 (ji10)).f0)) ∧ w'.cell? ⟨(ad387.add (((ji10)).toNat * 2)).block,(ad387.add (((ji10)).toNat * 2)).off + 1,none⟩ = some (.int .i64 ((rd_T73 l0 (ji10)).f1))) (ds:=[]) #[fF,fF,fF,fF,fF,fF,fF,fF,fF,fF,fF,fF,fF,fF,fF,fF,fF] (by kernel_rfl) rfl rfl ⟨(blk_cell BK386.out 0).trans rfl,(blk_cell BK386.out 1).trans rfl,cq HB.out hw387_0,cq HB.out hw387_1,cq HB.out hw388_0,cq HB.out hw388_1⟩ (fun hHeld => ?_);refine with_tabW impl_beside.tab8 impl_beside.bits8 (fun HT_ HW_ => ?_)
              generalize w16.drew = w17 at BK386 HB hx387_0 hx387_1 hx388_0 hx388_1 hHeld ⊢
              refine pu 0 20 HT_ ?_
              refine pu 1 21 HT_ ?_
              refine pu 2 22 HT_ ?_
              refine pu 3 23 HT_ ?_
              refine pu 4 24 HT_ ?_
              refine pu 6 26 HT_ ?_
              refine pu 7 27 HT_ ?_
              refine pu 8 28 HT_ ?_
              refine pu 9 29 HT_ ?_
              refine pu 10 30 HT_ ?_
              refine tk 5 25 HT_ HW_ hHeld ?_
              refine tk 11 31 HT_ HW_ hHeld ?_
              refine tk 12 32 HT_ HW_ hHeld ?_
              refine on 13 33 HT_ (fun K hK => ?_)
              refine goes_ Try.func147 (by kernel_rfl) rfl #[.agg #[.int .i64 ((rd_T73 l0 x11_1).f0),.int .i64 ((rd_T73 l0 x11_1).f1)],.agg #[.int .i64 ((rd_T73 l0 (ji10)).f0),.int .i64 ((rd_T73 l0 (ji10)).f1)],.agg #[.int .i64 ((rd_T73 l1 x16_2).f0),.int .i64 ((rd_T73 l1 x16_2).f1)]] (by rfl) rfl rfl (by (try simp only [List.map_toArray,List.map_cons,List.map_nil]);first | done | (simp only [hji10];rfl) | rfl | (simp only [List.length_drop,List.length_take];rfl)) ?_
              with_reducible refine (impl_side.calls ((rd_T73 l0 x11_1).f0) ((rd_T73 l0 x11_1).f1) ((rd_T73 l0 (ji10)).f0) ((rd_T73 l0 (ji10)).f1) ((rd_T73 l1 x16_2).f0) ((rd_T73 l1 x16_2).f1) t389 _ A13.out).mono ?_
              rintro e w18 ⟨rfl,hb⟩
              refine ⟨_,rfl,?_⟩
              replace BK386:=kb BK386 hb
              replace HB:=sb hb
              (try clear hb)
              (try clear hb2)
              (try clear hk)
              (try clear hi)
              refine hK.out _ _ ⟨(blk_cell BK386.out 0).trans rfl,(blk_cell BK386.out 1).trans rfl,cq HB.out hw387_0,cq HB.out hw387_1,cq HB.out hw388_0,cq HB.out hw388_1⟩ (fun hHeld => ?_)
              clear hK K
              refine norm_ (a':=?_) ?_ ?_
              rotate_left
              ·show Act.put _ (some 33) _ = _
               simp only [Act.put,List.setIfInBounds_toArray,List.set_cons_zero,List.set_cons_succ,i64_w,i32_w]
               rfl
              refine pu 14 34 HT_ ?_
              refine pu 15 35 HT_ ?_
              refine pu 16 6 HT_ ?_
              refine done_ (done_of HT_.out (by kernel_rfl)) ?_
              try go_wp2
              go_roundg k2
              case measure => have:=HK1.out;have:=HK2.out;omega
              case rel => exact ⟨(decide (t389 ≤ 0)),(wrap64 (x16_2 + 1)),(by first | rfl | (simp;done) | (simp [*];done)),(by first | rfl | (simp;done) | (simp [*];done)),H',⟨by have:=HK1.out;have:=HK2.out;omega⟩,⟨ib⟩⟩
             ·rw [if_neg c12] at H
              exact absurd H (by simp)
            ·rw [if_neg c11] at H
             exact absurd H (by simp)
           ·first | (exfalso;have z_:=of_decide_eq_true c3b0;omega) | (rw [if_neg c9] at H;exact absurd H (by simp))
          ·rw [if_neg c8] at H
           exact absurd H (by simp)
         ·replace c7:=Bool.eq_false_iff.mpr c7
          subst c7
          have H1 : (impl_beside.l1 k2 l0 l1 x11_1 false (l0.length : Int) x11_1 l1 (l1.length : Int) (wrap64 (x16_2 + 1))) = some r:=by rw [if_neg (show ¬ (false = true) by decide)] at H;exact H
          clear H
          have H:=H1
          clear H1
          have H':=Aside0.mk H
          clear H
          have p385 : 0 ≤ (x16_2 : Int):=da
          have q385 : x16_2 < (l1.length : Int):=da
          obtain ⟨ad385,e385,hx385_0,hx385_1⟩:=at_T73 HR1.out x16_2 p385 q385
          cases e385
          replace hx385_0:=cq HB.out hx385_0
          replace hx385_1:=cq HB.out hx385_1
          replace p385:=eq_true p385
          replace q385:=eq_true q385
          try go_wp2_with (first | ((with_reducible refine gate_dst (N:=8) rfl ?_);refine bx (cs:=#[.int .i64 0,.int .i64 0]) (t:=73) ?_;intro gb386 hg w19 hbox hb;have BK386:=Aside0.mk (hbox);have GW386:=zb hg;have GE386:=zb hg;replace HB:=sb hb;clear hb hbox hg;have hcz20_0:=ck BK386 0;have hcz20_1:=ck BK386 1;have hfz20_0:=blk_frozen BK386.out 0;have hfz20_1:=blk_frozen BK386.out 1))
          have n0_ : Aside0 (((w19.setCell ⟨gb386,0,none⟩ (.int .i64 ((rd_T73 l1 x16_2).f0))).setCell ⟨gb386,1,none⟩ (.int .i64 ((rd_T73 l1 x16_2).f1))).heap[gb386]? = some (.cells #[.int .i64 ((rd_T73 l1 x16_2).f0),.int .i64 ((rd_T73 l1 x16_2).f1)] 73 (0,0))):=⟨by refine bP (cs:=#[.int .i64 ((rd_T73 l1 x16_2).f0),.int .i64 0]) 1 ?_;refine bP (cs:=#[.int .i64 0,.int .i64 0]) 0 ?_;exact bk BK386⟩
          have n1_ : Aside0 (Below w.heap.size w ((w19.setCell ⟨gb386,0,none⟩ (.int .i64 ((rd_T73 l1 x16_2).f0))).setCell ⟨gb386,1,none⟩ (.int .i64 ((rd_T73 l1 x16_2).f1)))):=⟨ib⟩
          (try clear BK386)
          (try clear HB)
          generalize ((w19.setCell ⟨gb386,0,none⟩ (.int .i64 ((rd_T73 l1 x16_2).f0))).setCell ⟨gb386,1,none⟩ (.int .i64 ((rd_T73 l1 x16_2).f1))) = w21 at n0_ n1_ ⊢
          have BK386:=n0_
          have HB:=n1_
          clear n0_ n1_
          replace BK386:=Aside0.mk (blk_drew BK386.out)
          replace HB:=Aside0.mk (below_drew1 HB.out)
          refine start_ (n:=17) (S:=fun w' => True) (ds:=[]) #[fF,fF,fF,fF,fF,fF,fF,fF,fF,fF,fF,fF,fF,fF,fF,fF,fF] (by kernel_rfl) rfl rfl trivial (fun hHeld => ?_);refine with_tabW impl_beside.tab8 impl_beside.bits8 (fun HT_ HW_ => ?_)
          generalize w21.drew = w22 at BK386 HB hHeld ⊢
          refine pu 0 20 HT_ ?_
          refine pu 1 21 HT_ ?_
          refine pd 2 22 HT_ ?_
          refine pd 3 23 HT_ ?_
          refine pd 4 24 HT_ ?_
          refine pd 5 25 HT_ ?_
          refine pd 6 26 HT_ ?_
          refine pd 7 27 HT_ ?_
          refine pd 8 28 HT_ ?_
          refine pd 9 29 HT_ ?_
          refine pd 10 30 HT_ ?_
          refine pd 11 31 HT_ ?_
          refine pd 12 32 HT_ ?_
          refine pd 13 33 HT_ ?_
          refine pd 14 34 HT_ ?_
          refine pu 15 35 HT_ ?_
          refine pu 16 6 HT_ ?_
          refine done_ (done_of HT_.out (by kernel_rfl)) ?_
          try go_wp2
          go_roundg k2
          case measure => have:=HK1.out;have:=HK2.out;omega
          case rel => exact ⟨(false),(wrap64 (x16_2 + 1)),(by first | rfl | (simp;done) | (simp [*];done)),(by first | rfl | (simp;done) | (simp [*];done)),H',⟨by have:=HK1.out;have:=HK2.out;omega⟩,⟨ib⟩⟩
        ·first | (exfalso;have z_:=of_decide_eq_true c4b0;omega) | (rw [if_neg c6] at H;exact absurd H (by simp))
       ·rw [if_neg c5] at H
        exact absurd H (by simp)
      ·rw [if_neg c4] at H
       have c4b0 : decide (x16_2 < (l1.length : Int)) = false:=decide_eq_false c4
       clear c4
       by_cases c23 : x6_2 = true
       ·subst c23
        have H1 : (some true) = some r:=by rw [if_pos rfl] at H;exact H
        clear H
        have H:=H1
        clear H1
        obtain rfl:=Option.some.inj H
        go_wp2
        go_ret
        exact ⟨by first | rfl | (simp [errW_none,errW_some] <;> rfl) | (simp [*,errW_none,errW_some] <;> rfl),ib⟩
       ·replace c23:=Bool.eq_false_iff.mpr c23
        subst c23
        have H1 : (impl_beside.l0 k2 l0 l1 (l0.length : Int) (wrap64 (x11_1 + 1))) = some r:=by rw [if_neg (show ¬ (false = true) by decide)] at H;exact H
        clear H
        have H:=H1
        clear H1
        have H':=Aside0.mk H
        clear H
        go_wp2
        go_roundg k2
        case measure => have:=HK1.out;have:=HK2.out;omega
        case rel => exact ⟨(wrap64 (x11_1 + 1)),(by first | rfl | (simp;done) | (simp [*];done)),H',⟨by have:=HK1.out;have:=HK2.out;omega⟩,⟨ib⟩⟩
   ·rw [if_neg c3] at H
    have c3b0 : decide (x11_1 < (l0.length : Int)) = false:=decide_eq_false c3
    clear c3
    obtain rfl:=Option.some.inj H
    go_wp2
    go_ret
    exact ⟨by first | rfl | (simp [errW_none,errW_some] <;> rfl) | (simp [*,errW_none,errW_some] <;> rfl),ib⟩
end Go.Proofs.Ytnnchaggdnlfmaa.PFnExactDisjoint
