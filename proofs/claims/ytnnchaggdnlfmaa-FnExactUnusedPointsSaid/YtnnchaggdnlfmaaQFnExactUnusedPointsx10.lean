/- Contracts of functions that FnExactUnusedPoints reaches, out of the lines of the kit's print. -/
import Derived.Test.YtnnchaggdnlfmaaQFnExactUnusedPointsx0
import Derived.Test.YtnnchaggdnlfmaaQFnExactUnusedPointsx5
import Derived.Test.YtnnchaggdnlfmaaQFnExactUnusedPointsx8
import Derived.Test.YtnnchaggdnlfmaaQFnExactUnusedPointsx9
namespace Go.Proofs.Ytnnchaggdnlfmaa.PFnExactUnusedPoints
set_option maxHeartbeats 8000000
set_option maxRecDepth 100000
open Go.RowKit Go.Proofs.YtnnchaggdnlfmaaW.PrintWords Go.Proofs.YtnnchaggdnlfmaaW.PrintLast Go.Proofs.YtnnchaggdnlfmaaW.PrintMore
open Bool renaming true → tT, false → fF
open Go.World renaming block_lt_of_cell? → bL
open List renaming map_toArray → mT, map_cons → mC, map_nil → mN
open Option renaming bind_eq_some_iff → bE
attribute [local go_sem] max2_int min2_int max_two min_two max_three min_three max_four min_four
set_option linter.unusedVariables false
set_option linter.unusedSimpArgs false
def spec_l05Ring.l0 : Nat → List Int → List (S73) → Int → Int → Int → List (S73) → List (S103) → Option ((List (S73)) × Bool × Int × Int)
 | 0,_,_,_,_,_,_,_ => none
 | k + 1,x1,x6,x7,x1000,x1001,x1002,x1003 => if x7 < (x1.length : Int) then (if 0 ≤ x7 then ((spec_l00In.f (rd x1 x7) 0 (wrap64 ((x1002.length : Int) - 1))).bind fun t239 => (if t239 = true then (if 0 ≤ (rd x1 x7) then (if (rd x1 x7) < (x1002.length : Int) then (if x6.length < 8796093022208 then (spec_l05Ring.l0 k x1 (x6 ++ [(⟨(rd_T73 x1002 (rd x1 x7)).f0,(rd_T73 x1002 (rd x1 x7)).f1⟩ : S73)]) (wrap64 (x7 + 1)) x1000 x1001 x1002 x1003) else (none)) else (none)) else (none)) else (some (([] : List (S73)),false,x1000,x1001)))) else (none)) else (some (x6,true,x1000,x1001))
def spec_l05Ring.f (k : Nat) (s0_0 : Int) (s0_1 : Int) (s0_2 : List (S73)) (s0_3 : List (S103)) (l1 : List Int) : Option ((List (S73)) × Bool × Int × Int):=spec_l05Ring.l0 k l1 (([] : List (S73))) 0 s0_0 s0_1 s0_2 s0_3
def spec_l05Ring.T7 : Bool × List (List Nat × List Nat):=(true,[([],[]),([],[]),([1],[1]),([2],[2]),([3],[3]),([],[]),([],[]),([5,6],[5,6]),([7],[7]),([4,8],[4,8]),([9],[9]),([10],[10]),([0,11],[0,11]),([12,12,0,1,2,3,4,5,6,7,8,9,10,11,12],[0,12])])
def spec_l05Ring.B7 : List Nat:=[0,0,2,6,14,0,0,96,224,510,1022,2046,4095,8191]
theorem spec_l05Ring.tab7 : rtab .any (opsOf Try.f121 7) = spec_l05Ring.T7:=by kernel_rfl
theorem spec_l05Ring.bits7 : waitsOk spec_l05Ring.T7.2 spec_l05Ring.B7 = true:=by kernel_rfl
theorem spec_l05Ring.calls (k : Nat) (g : Nat) (s0_0 : Int) (s0_1 : Int) (s0_2 : List (S73)) (s0_3 : List (S103)) (A1 : Option Addr) (c1 : Nat) (l1 : List Int) (r1 : List (S73)) (r2 : Bool) (r3 : Int) (r4 : Int) (w0 w : World) (hI : IsS51 w0 w g s0_0 s0_1 s0_2 s0_3) (hB : Below w0.heap.size w0 w) (hr1 : Kd.C (Kd.int .i64) w A1 l1.length l1) (hc1 : l1.length ≤ c1) (hf1 : ∀ ad,A1 = some ad → 0 < l1.length → ad.block ≠ g) (h : spec_l05Ring.f k s0_0 s0_1 s0_2 s0_3 l1 = some (r1,r2,r3,r4)) :
  Calls Try.prog 121 #[.pointer (some ⟨g,0,none⟩),.slice A1 l1.length c1] w fun e w' => ∃ v0_ : Value,e = .returned (.tuple #[v0_,.bool r2]) ∧ Kd.R k73 73 w' w.heap.size (fun _ => True) v0_ r1 ∧ IsS51 w0 w' g r3 r4 s0_2 s0_3 ∧ Below w0.heap.size w0 w' ∧ KeepBut w w' g none:=by
 have hu73:=Try.underlying73
 have HR1:=Aside0.mk hr1
 have HC1:=Aside0.mk hc1
 clear hr1 hc1
 have HI0:=Aside0.mk hI
 have HK:=Aside0.mk (KeepBut.refl w g none)
 have HL:=Aside0.mk hB.size
 clear hI
 have HW0:=Aside0.mk hB.size
 have HB:=Aside0.mk hB
 clear hB
 have H : (spec_l05Ring.l0 k l1 (([] : List (S73))) 0 s0_0 s0_1 s0_2 s0_3) = some (r1,r2,r3,r4):=h
 clear h
 have HB0:=HB
 clear HB
 have HB:=Aside0.mk (Below.refl w.heap.size w)
 obtain ⟨A2,c2,A3,c3,hblk,hge,hr2,hr3⟩:=HI0.out
 have q2 : w.cell? ⟨g,2,none⟩ = some (.slice A2 s0_2.length c2):=cellS51_2 hblk
 have pts : ∀ i : Int,0 ≤ i → i < (s0_2.length : Int) → ∃ ad,A2 = some ad ∧ w.cell? (ad.add (i.toNat * 2)) = some (.int .i64 (rd_T73 s0_2 i).f0) ∧ w.cell? ⟨(ad.add (i.toNat * 2)).block,(ad.add (i.toNat * 2)).off + 1,none⟩ = some (.int .i64 (rd_T73 s0_2 i).f1):=by
  intro i h0 h1
  obtain ⟨ad,e,x0,x1⟩:=at_T73 hr2 i h0 h1
  exact ⟨ad,e,(HB0.out.cell (bL w0 _ x0)).trans x0,(HB0.out.cell (bL w0 _ x1)).trans x1⟩
 have Hpts_:=Aside0.mk pts
 have Q2:=Aside0.mk q2
 clear hblk hge hr2 hr3 pts q2 hf1
 obtain ⟨yn,hyn⟩ : ∃ y_ : List (S73),y_ = (([] : List (S73))):=⟨_,rfl⟩
 replace H : (spec_l05Ring.l0 k l1 yn 0 s0_0 s0_1 s0_2 s0_3) = some (r1,r2,r3,r4):=by rw [hyn];exact H
 have Nyn:=Aside0.mk hyn
 clear hyn
 have H':=Aside0.mk H
 clear H
 go_enter Try.func121,Try.ntmps121
 go_wp2_with (first | ((with_reducible refine gate_dst (N:=8) rfl ?_);refine Kd.R_lit k73 _ 73 ?hg (N:=8) ?hd (xs:=([] : List (S73))) (inner:=[]) (ok:=fun _ => True) (okp:=fun _ => True) ?hr ?hp (fun _ hk => hk) trivial (Below.refl _ _) (Nat.le_refl _) (by simp) ?_;(case hd => rfl);(case hg => rfl);(case hr => first | (go_simp;done) | (go_simp;rfl));(case hp => exact (Reps.none _ _));intro v266 w3 ho4 hb hg_ hnew_;clear hg_ hnew_;(first | rw [← Nyn.out] at ho4 | (simp only [Int.reduceToNat] at ho4;rw [← Nyn.out] at ho4));have HO267:=Aside0.mk (Kd.R_lower ho4 (below_size ib));replace HB:=sb hb;clear hb ho4))
 go_loopg [6,7] k (fun kq v6 v7 w' => ∃ (x6 : List (S73)) (x7 : Int),v7 = .int .i64 x7 ∧ Aside0 (spec_l05Ring.l0 kq l1 x6 x7 s0_0 s0_1 s0_2 s0_3 = some (r1,r2,r3,r4)) ∧ Aside0 (kq ≤ k) ∧ Aside0 (Kd.R k73 73 w' w.heap.size (fun _ => True) v6 x6) ∧ Aside0 (Below w.heap.size w w'))
 case atStart => exact ⟨(yn),(0),(by first | rfl | (simp;done) | (simp [*];done)),H',⟨Nat.le_refl _⟩,⟨rO HO267.out⟩,⟨ib⟩⟩
 case round =>
  clear H'
  obtain ⟨x6,x7,rfl,HA,HK1,HO_6,HB⟩:=hrel
  cases gk with
  | zero => exact absurd HA.out (by simp [spec_l05Ring.l0])
  | succ k1 =>
   have H:=HA.out
   clear HA
   simp only [spec_l05Ring.l0] at H
   have q2 : wr.cell? ⟨g,2,none⟩ = some (.slice A2 s0_2.length c2):=(HB.out.cell (bL w _ Q2.out)).trans Q2.out
   by_cases c5 : x7 < (l1.length : Int)
   ·rw [if_pos c5] at H
    have c5b0 : decide (x7 < (l1.length : Int)) = true:=decide_eq_true c5
    by_cases c6 : 0 ≤ x7
    ·rw [if_pos c6] at H
     have c6b0 : decide (0 ≤ x7) = true:=decide_eq_true c6
     obtain ⟨ad1,e1,hx_⟩:=Kd.at_int HR1.out x7 c6 c5
     cases e1
     have hx0:=cq HB.out hx_
     replace H:=bE.mp H
     obtain ⟨t1,A10,H⟩:=H
     have A1':=Aside0.mk A10
     clear A10
     cases t1 with
     | false =>
      replace H:=(show (some (([] : List (S73)),false,s0_0,s0_1)) = some (r1,r2,r3,r4) from by first | exact H | simpa using H)
      simp only [Option.some.injEq,Prod.mk.injEq] at H
      obtain ⟨rfl,rfl,rfl,rfl⟩:=H
      go_wp2
      go_quiet (with_reducible exact Calls.quiet_of ((spec_l00In.calls _ _ _ _ _ A1'.out).mono fun e w' h => ⟨h.1,h.2.out⟩))
      go_wp2
      go_ret2
      exact ⟨_,by first | rfl | (simp;done) | (simp [*];done),Kd.R_nil _ _ _ _ _,HI0.out.below ib,below_then HB0.out HL.out ib,KeepBut.of_below ib g none⟩
     | true =>
      replace H:=(show ((if 0 ≤ (rd l1 x7) then (if (rd l1 x7) < (s0_2.length : Int) then (if x6.length < 8796093022208 then (spec_l05Ring.l0 k1 l1 (x6 ++ [(⟨(rd_T73 s0_2 (rd l1 x7)).f0,(rd_T73 s0_2 (rd l1 x7)).f1⟩ : S73)]) (wrap64 (x7 + 1)) s0_0 s0_1 s0_2 s0_3) else (none)) else (none)) else (none))) = some (r1,r2,r3,r4) from by first | exact H | simpa using H)
      by_cases c10 : 0 ≤ (rd l1 x7)
      ·rw [if_pos c10] at H
       have c10b0 : decide (0 ≤ (rd l1 x7)) = true:=decide_eq_true c10
       by_cases c11 : (rd l1 x7) < (s0_2.length : Int)
       ·rw [if_pos c11] at H
        have c11b0 : decide ((rd l1 x7) < (s0_2.length : Int)) = true:=decide_eq_true c11
        by_cases c12 : x6.length < 8796093022208
        ·rw [if_pos c12] at H
         have LMc12:=Aside0.mk c12
         clear c12
         obtain ⟨y271,hy271⟩ : ∃ y_ : List (S73),y_ = (x6 ++ [(⟨(rd_T73 s0_2 (rd l1 x7)).f0,(rd_T73 s0_2 (rd l1 x7)).f1⟩ : S73)]):=⟨_,rfl⟩
         rw [← hy271] at H
         have Ny271:=Aside0.mk hy271
         clear hy271
         have H':=Aside0.mk H
         clear H
         obtain ⟨ad2,e2,z0_,z1_⟩:=Hpts_.out (rd l1 x7) c10 c11
         cases e2
         have z0:=cq HB.out z0_
         have z1:=cq HB.out z1_
         have hq2_:=Q2.out
         go_wp2
         go_quiet (with_reducible exact Calls.quiet_of ((spec_l00In.calls _ _ _ _ _ A1'.out).mono fun e w' h => ⟨h.1,h.2.out⟩))
         try go_wp2
         have n0_ : Aside0 (Kd.R k73 73 (wr.drewN nq) w.heap.size (fun _ => True) u6 x6):=⟨rO HO_6.out⟩
         have n1_ : Aside0 (Below w.heap.size w (wr.drewN nq)):=⟨ib⟩
         clear HO_6 HB q2 hx0 z0 z1
         generalize wr.drewN nq = ws at n0_ n1_ ⊢
         have HO_6 : Aside0 (Kd.R k73 73 ws.drew w.heap.size (fun _ => True) u6 x6):=⟨Kd.R_drew n0_.out⟩
         have HB : Aside0 (Below w.heap.size w ws.drew):=⟨below_drew1 n1_.out⟩
         clear n0_ n1_
         have Hq_:=Aside0.mk hq2_
         have Hx_:=Aside0.mk hx_
         have Hz0_:=Aside0.mk z0_
         have Hz1_:=Aside0.mk z1_
         clear hq2_ hx_ z0_ z1_
         replace c5:=eq_true c5
         replace c6:=eq_true c6
         replace c10:=eq_true c10
         replace c11:=eq_true c11
         refine start_ (n:=14) (S:=fun w' => w'.cell? ⟨g,2,none⟩ = some (.slice (some ad2) s0_2.length c2) ∧ w'.cell? (ad1.add x7.toNat) = some (.int .i64 (rd l1 x7)) ∧ w'.cell? (ad2.add ((rd l1 x7).toNat * 2)) = some (.int .i64 (rd_T73 s0_2 (rd l1 x7)).f0) ∧ w'.cell? ⟨(ad2.add ((rd l1 x7).toNat * 2)).block,(ad2.add ((rd l1 x7).toNat * 2)).off + 1,none⟩ = some (.int .i64 (rd_T73 s0_2 (rd l1 x7)).f1)) (ds:=[]) #[fF,fF,fF,fF,fF,fF,fF,fF,fF,fF,fF,fF,fF,fF] (by kernel_rfl) rfl rfl ⟨((HB.out.cell (bL w _ Hq_.out)).trans Hq_.out),((HB.out.cell (bL w _ Hx_.out)).trans Hx_.out),((HB.out.cell (bL w _ Hz0_.out)).trans Hz0_.out),((HB.out.cell (bL w _ Hz1_.out)).trans Hz1_.out)⟩ (fun hHeld => ?_);refine with_tabW spec_l05Ring.tab7 spec_l05Ring.bits7 (fun HT_ HW_ => ?_)
         generalize ws.drew = wt at HO_6 HB hHeld ⊢
         have q2 : wt.cell? ⟨g,2,none⟩ = _:=(HB.out.cell (bL w _ Hq_.out)).trans Hq_.out
         have hx0:=(HB.out.cell (bL w _ Hx_.out)).trans Hx_.out
         have z0:=(HB.out.cell (bL w _ Hz0_.out)).trans Hz0_.out
         have z1:=(HB.out.cell (bL w _ Hz1_.out)).trans Hz1_.out
         refine pu 0 27 HT_ ?_
         refine pu 1 28 HT_ ?_
         refine pu 2 29 HT_ ?_
         refine pu 3 30 HT_ ?_
         refine pu 5 32 HT_ ?_
         refine pu 6 33 HT_ ?_
         refine pu 7 34 HT_ ?_
         refine tk 4 31 HT_ HW_ hHeld ?_
         refine tk 8 35 HT_ HW_ hHeld ?_
         refine pu 9 36 HT_ ?_
         refine tk 10 37 HT_ HW_ hHeld ?_
         refine on 11 38 HT_ (fun K hK => ?_)
         refine value_ (w1:=?_) (v:=?_) (by rfl) rfl ?_ ?_
         rotate_left 2
         ·go_simp
          constructor
          ·rfl
          ·rfl
         refine hK.out _ _ ⟨(World.cell?_alloc_lt _ _ _ (bL _ _ (((HB.out.cell (bL w _ Hq_.out)).trans Hq_.out)))).trans (((HB.out.cell (bL w _ Hq_.out)).trans Hq_.out)),(World.cell?_alloc_lt _ _ _ (bL _ _ (((HB.out.cell (bL w _ Hx_.out)).trans Hx_.out)))).trans (((HB.out.cell (bL w _ Hx_.out)).trans Hx_.out)),(World.cell?_alloc_lt _ _ _ (bL _ _ (((HB.out.cell (bL w _ Hz0_.out)).trans Hz0_.out)))).trans (((HB.out.cell (bL w _ Hz0_.out)).trans Hz0_.out)),(World.cell?_alloc_lt _ _ _ (bL _ _ (((HB.out.cell (bL w _ Hz1_.out)).trans Hz1_.out)))).trans (((HB.out.cell (bL w _ Hz1_.out)).trans Hz1_.out))⟩ (fun hHeld => ?_)
         clear hK K
         refine norm_ (a':=?_) ?_ ?_
         rotate_left
         ·show Act.put _ (some 38) _ = _
          simp only [Act.put,List.setIfInBounds_toArray,List.set_cons_zero,List.set_cons_succ,i64_w,i32_w]
          rfl
         refine on 12 39 HT_ (fun K hK => ?_)
         refine Kd.R_append_step k73 (w0:=w) w.heap.size (by rfl) (.tmp 27) (.tmp 38) 25 73 (.agg #[(.int .i64 0),(.int .i64 0)]) 16 rfl Try.underlying25 info73 rfl (by decide) (by omega) u6 x6 (⟨(rd_T73 s0_2 (rd l1 x7)).f0,(rd_T73 s0_2 (rd l1 x7)).f1⟩ : S73) [.int .i64 ((rd_T73 s0_2 (rd l1 x7)).f0),.int .i64 ((rd_T73 s0_2 (rd l1 x7)).f1)] (fun _ => True) (fun _ => False) rfl rfl ?aP (fun _ hk => hk.elim) ?aF ?aO ?aB ?aS ?aL ?_
         (case aP => exact k73_mkM _ _ _ (⟨(rd_T73 s0_2 (rd l1 x7)).f0,(rd_T73 s0_2 (rd l1 x7)).f1⟩ : S73))
         (case aB => exact ib)
         (case aF => exact (fun _ _ => trivial))
         (case aO => exact (rO HO_6.out))
         (case aS => exact (below_size ib))
         (case aL => have:=LMc12.out;omega)
         intro v272 w13 ho hb hg hat
         rw [← Ny271.out] at ho
         clear HB HO_6 q2 hx0 z0 z1
         have HB:=Aside0.mk hb
         have HO273:=Aside0.mk ho
         clear ho hb hg hat
         refine hK.out _ _ ⟨((HB.out.cell (bL w _ Hq_.out)).trans Hq_.out),((HB.out.cell (bL w _ Hx_.out)).trans Hx_.out),((HB.out.cell (bL w _ Hz0_.out)).trans Hz0_.out),((HB.out.cell (bL w _ Hz1_.out)).trans Hz1_.out)⟩ (fun hHeld => ?_)
         clear hK K
         refine norm_ (a':=?_) ?_ ?_
         rotate_left
         ·show Act.put _ (some 39) _ = _
          simp only [Act.put,List.setIfInBounds_toArray,List.set_cons_zero,List.set_cons_succ,i64_w,i32_w]
          rfl
         refine pu 13 6 HT_ ?_
         refine done_ (done_of HT_.out (by kernel_rfl)) ?_
         try go_wp2
         go_roundg k1
         case measure => have:=HK1.out;omega
         case rel => exact ⟨(y271),(wrap64 (x7 + 1)),(by first | rfl | (simp;done) | (simp [*];done)),H',⟨by have:=HK1.out;omega⟩,⟨rO HO273.out⟩,⟨ib⟩⟩
        ·rw [if_neg c12] at H
         exact absurd H (by simp)
       ·rw [if_neg c11] at H
        exact absurd H (by simp)
      ·rw [if_neg c10] at H
       exact absurd H (by simp)
    ·rw [if_neg c6] at H
     exact absurd H (by simp)
   ·rw [if_neg c5] at H
    have c5b0 : decide (x7 < (l1.length : Int)) = false:=decide_eq_false c5
    simp only [Option.some.injEq,Prod.mk.injEq] at H
    obtain ⟨rfl,rfl,rfl,rfl⟩:=H
    go_wp2
    go_ret2
    exact ⟨_,by first | rfl | (simp;done) | (simp [*];done),rO HO_6.out,HI0.out.below ib,below_then HB0.out HL.out ib,KeepBut.of_below ib g none⟩
mutual
def spec_l05Ok.j0 : Nat → Bool → Int → Int → List (S73) → List (S103) → Option (Bool × Int × Int)
 | 0,_,_,_,_,_ => none
 | k + 1,x32,x1000,x1001,x1002,x1003 => if x32 = true then (some (false,x1000,x1001)) else (spec_l05Ok.l0 k 0 x1000 x1001 x1002 x1003)
def spec_l05Ok.l0 : Nat → Int → Int → Int → List (S73) → List (S103) → Option (Bool × Int × Int)
 | 0,_,_,_,_,_ => none
 | k + 1,x3,x1000,x1001,x1002,x1003 => if x3 < (x1003.length : Int) then (if 0 ≤ x3 then ((spec_l01Name.f k ((rd_T103 x1003 x3).f0)).bind fun t251 => (if t251 = true then (if x3 > 0 then (if 0 ≤ (wrap64 (x3 - 1)) then (if (wrap64 (x3 - 1)) < (x1003.length : Int) then (spec_l05Ok.j2 k x3 (!(Op.bytesLess (((rd_T103 x1003 (wrap64 (x3 - 1))).f0).toList) (((rd_T103 x1003 x3).f0).toList))) x1000 x1001 x1002 x1003) else (none)) else (none)) else (spec_l05Ok.j2 k x3 false x1000 x1001 x1002 x1003)) else (spec_l05Ok.j2 k x3 true x1000 x1001 x1002 x1003))) else (none)) else (some (true,x1000,x1001))
def spec_l05Ok.j2 : Nat → Int → Bool → Int → Int → List (S73) → List (S103) → Option (Bool × Int × Int)
 | 0,_,_,_,_,_,_ => none
 | k + 1,x3,x75,x1000,x1001,x1002,x1003 => if x75 = true then (some (false,x1000,x1001)) else (if 0 ≤ x3 then (if x3 < (x1003.length : Int) then ((spec_l05Ring.f k x1000 x1001 x1002 x1003 ((rd_T103 x1003 x3).f1)).bind fun bt255 => (if bt255.2.1 = true then ((spec_l03Ok.f k bt255.1).bind fun t261 => (if t261 = true then (spec_l05Ok.l0 k (wrap64 (x3 + 1)) bt255.2.2.1 bt255.2.2.2 x1002 x1003) else (some (false,bt255.2.2.1,bt255.2.2.2)))) else (some (false,bt255.2.2.1,bt255.2.2.2)))) else (none)) else (none))
end
def spec_l05Ok.f (k : Nat) (s0_0 : Int) (s0_1 : Int) (s0_2 : List (S73)) (s0_3 : List (S103)) : Option (Bool × Int × Int):=(spec_l00In.f s0_0 10 20000).bind fun t245 => (if t245 = true then ((spec_l00In.f s0_1 10 20000).bind fun t246 => (if t246 = true then ((spec_l05Points.f k s0_0 s0_1 s0_2 s0_3).bind fun bt247 => (if bt247.1 = true then (spec_l05Ok.j0 k (decide ((s0_3.length : Int) > 24)) bt247.2.1 bt247.2.2 s0_2 s0_3) else (spec_l05Ok.j0 k true bt247.2.1 bt247.2.2 s0_2 s0_3))) else (spec_l05Ok.j0 k true s0_0 s0_1 s0_2 s0_3))) else (spec_l05Ok.j0 k true s0_0 s0_1 s0_2 s0_3))
theorem spec_l05Ok.calls (k : Nat) (g : Nat) (s0_0 : Int) (s0_1 : Int) (s0_2 : List (S73)) (s0_3 : List (S103)) (r1 : Bool) (r2 : Int) (r3 : Int) (w0 w : World) (hI : IsS51 w0 w g s0_0 s0_1 s0_2 s0_3) (hB : Below w0.heap.size w0 w) (h : spec_l05Ok.f k s0_0 s0_1 s0_2 s0_3 = some (r1,r2,r3)) :
  Calls Try.prog 74 #[.pointer (some ⟨g,0,none⟩)] w fun e w' => e = .returned (.bool r1) ∧ IsS51 w0 w' g r2 r3 s0_2 s0_3 ∧ Below w0.heap.size w0 w' ∧ KeepBut w w' g none:=by
 have HI0:=Aside0.mk hI
 have HK:=Aside0.mk (KeepBut.refl w g none)
 have HL:=Aside0.mk hB.size
 clear hI
 have HW0:=Aside0.mk hB.size
 have HB:=Aside0.mk hB
 clear hB
 have H : ((spec_l00In.f s0_0 10 20000).bind fun t245 => (if t245 = true then ((spec_l00In.f s0_1 10 20000).bind fun t246 => (if t246 = true then ((spec_l05Points.f k s0_0 s0_1 s0_2 s0_3).bind fun bt247 => (if bt247.1 = true then (spec_l05Ok.j0 k (decide ((s0_3.length : Int) > 24)) bt247.2.1 bt247.2.2 s0_2 s0_3) else (spec_l05Ok.j0 k true bt247.2.1 bt247.2.2 s0_2 s0_3))) else (spec_l05Ok.j0 k true s0_0 s0_1 s0_2 s0_3))) else (spec_l05Ok.j0 k true s0_0 s0_1 s0_2 s0_3))) = some (r1,r2,r3):=h
 clear h
 obtain ⟨A2,c2,A3,c3,hblk,hge,hr2,hr3⟩:=HI0.out
 have q0 : w.cell? ⟨g,0,none⟩ = some (.int .i64 s0_0):=cellS51_0 hblk
 have q1 : w.cell? ⟨g,1,none⟩ = some (.int .i64 s0_1):=cellS51_1 hblk
 clear hblk hge hr2 hr3 A2 c2 A3 c3
 replace H:=bE.mp H
 obtain ⟨t1,A10,H⟩:=H
 have A1_:=Aside0.mk A10
 clear A10
 have zero : ∀ (b : Bool) (y : Int) (z : Int),spec_l05Ok.j0 0 b y z s0_2 s0_3 = some (r1,r2,r3) → False:=fun b y z h => by simp [spec_l05Ok.j0] at h
 have one : ∀ (k : Nat) (y : Int) (z : Int),spec_l05Ok.j0 k true y z s0_2 s0_3 = some (r1,r2,r3) → r1 = false ∧ r2 = y ∧ r3 = z:=fun k y z h => by
  cases k with
  | zero => exact (zero _ _ _ h).elim
  | succ k => simp only [spec_l05Ok.j0,if_true,Option.some.injEq,Prod.mk.injEq] at h;exact ⟨h.1.symm,h.2.1.symm,h.2.2.symm⟩
 cases t1 with
 | false =>
  replace H:=(show (spec_l05Ok.j0 k true s0_0 s0_1 s0_2 s0_3) = some (r1,r2,r3) from by first | exact H | simpa using H)
  obtain ⟨rfl,rfl,rfl⟩:=one _ _ _ H
  clear zero one H
  go_enter Try.func74,Try.ntmps74
  go_wp2_with (first | ((with_reducible refine gate_callee (f:=58) rfl ?_);refine goesL_ (some 10) rfl rfl Try.func58 (by kernel_rfl) rfl #[.int .i64 s0_0,.int .i64 10,.int .i64 20000] rfl (by (try simp only [mT,mC,mN]);first | done | rfl) ?_;(with_reducible refine (spec_l00In.calls _ _ _ _ _ A1_.out).mono ?_);rintro e w5 ⟨rfl,⟨nd,rfl⟩⟩;refine ⟨_,rfl,?_⟩) | (go_at_call 58;(with_reducible refine (spec_l00In.calls _ _ _ _ _ A1_.out).mono ?_);rintro e w5 ⟨rfl,⟨nd,rfl⟩⟩))
  go_ret
  exact ⟨(by first | rfl | (simp;done) | (simp [*];done)),(by repeat (first | exact HI0.out | apply IsS51.drewN | apply IsS51.drew)),(by repeat (first | exact HB.out | apply pw_below_drewN | apply below_drew1)),(by repeat (first | exact HK.out | apply keep_drewN | apply keep_drew))⟩
 | true =>
  replace H:=(show ((spec_l00In.f s0_1 10 20000).bind fun t239 => (if t239 = true then ((spec_l05Points.f k s0_0 s0_1 s0_2 s0_3).bind fun bt240 => (if bt240.1 = true then (spec_l05Ok.j0 k (decide ((s0_3.length : Int) > 24)) bt240.2.1 bt240.2.2 s0_2 s0_3) else (spec_l05Ok.j0 k true bt240.2.1 bt240.2.2 s0_2 s0_3))) else (spec_l05Ok.j0 k true s0_0 s0_1 s0_2 s0_3))) = some (r1,r2,r3) from by first | exact H | simpa using H)
  replace H:=bE.mp H
  obtain ⟨t2,A20,H⟩:=H
  have A2_:=Aside0.mk A20
  clear A20
  cases t2 with
  | false =>
   replace H:=(show (spec_l05Ok.j0 k true s0_0 s0_1 s0_2 s0_3) = some (r1,r2,r3) from by first | exact H | simpa using H)
   obtain ⟨rfl,rfl,rfl⟩:=one _ _ _ H
   clear zero one H
   go_enter Try.func74,Try.ntmps74
   go_wp2_with (first | ((with_reducible refine gate_callee (f:=58) rfl ?_);refine goesL_ (some 10) rfl rfl Try.func58 (by kernel_rfl) rfl #[.int .i64 s0_0,.int .i64 10,.int .i64 20000] rfl (by (try simp only [mT,mC,mN]);first | done | rfl) ?_;(with_reducible refine (spec_l00In.calls _ _ _ _ _ A1_.out).mono ?_);rintro e w5 ⟨rfl,⟨nd,rfl⟩⟩;refine ⟨_,rfl,?_⟩) | (go_at_call 58;(with_reducible refine (spec_l00In.calls _ _ _ _ _ A1_.out).mono ?_);rintro e w5 ⟨rfl,⟨nd,rfl⟩⟩) | ((with_reducible refine gate_callee (f:=58) rfl ?_);refine goesL_ (some 17) rfl rfl Try.func58 (by kernel_rfl) rfl #[.int .i64 s0_1,.int .i64 10,.int .i64 20000] rfl (by (try simp only [mT,mC,mN]);first | done | rfl) ?_;(with_reducible refine (spec_l00In.calls _ _ _ _ _ A2_.out).mono ?_);rintro e w5 ⟨rfl,⟨nd,rfl⟩⟩;refine ⟨_,rfl,?_⟩) | (go_at_call 58;(with_reducible refine (spec_l00In.calls _ _ _ _ _ A2_.out).mono ?_);rintro e w5 ⟨rfl,⟨nd,rfl⟩⟩))
   go_ret
   exact ⟨(by first | rfl | (simp;done) | (simp [*];done)),(by repeat (first | exact HI0.out | apply IsS51.drewN | apply IsS51.drew)),(by repeat (first | exact HB.out | apply pw_below_drewN | apply below_drew1)),(by repeat (first | exact HK.out | apply keep_drewN | apply keep_drew))⟩
  | true =>
   replace H:=(show ((spec_l05Points.f k s0_0 s0_1 s0_2 s0_3).bind fun bt240 => (if bt240.1 = true then (spec_l05Ok.j0 k (decide ((s0_3.length : Int) > 24)) bt240.2.1 bt240.2.2 s0_2 s0_3) else (spec_l05Ok.j0 k true bt240.2.1 bt240.2.2 s0_2 s0_3))) = some (r1,r2,r3) from by first | exact H | simpa using H)
   replace H:=bE.mp H
   obtain ⟨⟨t3,a0,a1⟩,A30,H⟩:=H
   have A3_:=Aside0.mk A30
   clear A30
   cases t3 with
   | false =>
    replace H:=(show (spec_l05Ok.j0 k true a0 a1 s0_2 s0_3) = some (r1,r2,r3) from by first | exact H | simpa using H)
    obtain ⟨rfl,rfl,rfl⟩:=one _ _ _ H
    clear zero one H
    go_enter Try.func74,Try.ntmps74
    go_wp2_with (first | ((with_reducible refine gate_callee (f:=58) rfl ?_);refine goesL_ (some 10) rfl rfl Try.func58 (by kernel_rfl) rfl #[.int .i64 s0_0,.int .i64 10,.int .i64 20000] rfl (by (try simp only [mT,mC,mN]);first | done | rfl) ?_;(with_reducible refine (spec_l00In.calls _ _ _ _ _ A1_.out).mono ?_);rintro e w5 ⟨rfl,⟨nd,rfl⟩⟩;refine ⟨_,rfl,?_⟩) | (go_at_call 58;(with_reducible refine (spec_l00In.calls _ _ _ _ _ A1_.out).mono ?_);rintro e w5 ⟨rfl,⟨nd,rfl⟩⟩) | ((with_reducible refine gate_callee (f:=58) rfl ?_);refine goesL_ (some 17) rfl rfl Try.func58 (by kernel_rfl) rfl #[.int .i64 s0_1,.int .i64 10,.int .i64 20000] rfl (by (try simp only [mT,mC,mN]);first | done | rfl) ?_;(with_reducible refine (spec_l00In.calls _ _ _ _ _ A2_.out).mono ?_);rintro e w5 ⟨rfl,⟨nd,rfl⟩⟩;refine ⟨_,rfl,?_⟩) | (go_at_call 58;(with_reducible refine (spec_l00In.calls _ _ _ _ _ A2_.out).mono ?_);rintro e w5 ⟨rfl,⟨nd,rfl⟩⟩) | ((with_reducible refine gate_callee (f:=119) rfl ?_);refine goesL_ (some 22) rfl rfl Try.func119 (by kernel_rfl) rfl #[.pointer (some ⟨g,0,none⟩)] rfl (by (try simp only [mT,mC,mN]);first | done | rfl) ?_;(with_reducible refine (spec_l05Points.calls _ g s0_0 s0_1 s0_2 s0_3 _ _ _ w0 _ (by repeat (first | exact HI0.out | apply IsS51.drewN | apply IsS51.drew)) (by repeat (first | exact HB.out | apply pw_below_drewN | apply below_drew1)) A3_.out).mono ?_);rintro e w5 ⟨rfl,hi,hb,hk⟩;refine ⟨_,rfl,?_⟩;have n0_:=Aside0.mk hi;have n1_:=Aside0.mk hb;have n2_ : Aside0 (KeepBut w w5 g none):=⟨KeepBut.trans (by repeat (first | exact HK.out | apply keep_drewN | apply keep_drew)) hk (.inl rfl)⟩;clear hi hb hk HI0 HB HK;have HI0:=n0_;have HB:=n1_;have HK:=n2_;clear n0_ n1_ n2_;obtain ⟨A2,c2,A3,c3,hblk,hge,hr2,hr3⟩:=HI0.out;have q3 : w5.cell? ⟨g,3,none⟩ = _:=cellS51_3 hblk;clear hblk hge hr2 hr3) | (go_at_call 119;(with_reducible refine (spec_l05Points.calls _ g s0_0 s0_1 s0_2 s0_3 _ _ _ w0 _ (by repeat (first | exact HI0.out | apply IsS51.drewN | apply IsS51.drew)) (by repeat (first | exact HB.out | apply pw_below_drewN | apply below_drew1)) A3_.out).mono ?_);rintro e w5 ⟨rfl,hi,hb,hk⟩;have n0_:=Aside0.mk hi;have n1_:=Aside0.mk hb;have n2_ : Aside0 (KeepBut w w5 g none):=⟨KeepBut.trans (by repeat (first | exact HK.out | apply keep_drewN | apply keep_drew)) hk (.inl rfl)⟩;clear hi hb hk HI0 HB HK;have HI0:=n0_;have HB:=n1_;have HK:=n2_;clear n0_ n1_ n2_;obtain ⟨A2,c2,A3,c3,hblk,hge,hr2,hr3⟩:=HI0.out;have q3 : w5.cell? ⟨g,3,none⟩ = _:=cellS51_3 hblk;clear hblk hge hr2 hr3))
    go_ret
    exact ⟨(by first | rfl | (simp;done) | (simp [*];done)),(by repeat (first | exact HI0.out | apply IsS51.drewN | apply IsS51.drew)),(by repeat (first | exact HB.out | apply pw_below_drewN | apply below_drew1)),(by repeat (first | exact HK.out | apply keep_drewN | apply keep_drew))⟩
   | true =>
    replace H:=(show (spec_l05Ok.j0 k (decide ((s0_3.length : Int) > 24)) a0 a1 s0_2 s0_3) = some (r1,r2,r3) from by first | exact H | simpa using H)
    by_cases c1 : (s0_3.length : Int) > 24
    ·have c1b : decide (24 < (s0_3.length : Int)) = true:=decide_eq_true c1
     rw [decide_eq_true c1] at H
     obtain ⟨rfl,rfl,rfl⟩:=one _ _ _ H
     clear zero one H c1
     go_enter Try.func74,Try.ntmps74
     go_wp2_with (first | ((with_reducible refine gate_callee (f:=58) rfl ?_);refine goesL_ (some 10) rfl rfl Try.func58 (by kernel_rfl) rfl #[.int .i64 s0_0,.int .i64 10,.int .i64 20000] rfl (by (try simp only [mT,mC,mN]);first | done | rfl) ?_;(with_reducible refine (spec_l00In.calls _ _ _ _ _ A1_.out).mono ?_);rintro e w5 ⟨rfl,⟨nd,rfl⟩⟩;refine ⟨_,rfl,?_⟩) | (go_at_call 58;(with_reducible refine (spec_l00In.calls _ _ _ _ _ A1_.out).mono ?_);rintro e w5 ⟨rfl,⟨nd,rfl⟩⟩) | ((with_reducible refine gate_callee (f:=58) rfl ?_);refine goesL_ (some 17) rfl rfl Try.func58 (by kernel_rfl) rfl #[.int .i64 s0_1,.int .i64 10,.int .i64 20000] rfl (by (try simp only [mT,mC,mN]);first | done | rfl) ?_;(with_reducible refine (spec_l00In.calls _ _ _ _ _ A2_.out).mono ?_);rintro e w5 ⟨rfl,⟨nd,rfl⟩⟩;refine ⟨_,rfl,?_⟩) | (go_at_call 58;(with_reducible refine (spec_l00In.calls _ _ _ _ _ A2_.out).mono ?_);rintro e w5 ⟨rfl,⟨nd,rfl⟩⟩) | ((with_reducible refine gate_callee (f:=119) rfl ?_);refine goesL_ (some 22) rfl rfl Try.func119 (by kernel_rfl) rfl #[.pointer (some ⟨g,0,none⟩)] rfl (by (try simp only [mT,mC,mN]);first | done | rfl) ?_;(with_reducible refine (spec_l05Points.calls _ g s0_0 s0_1 s0_2 s0_3 _ _ _ w0 _ (by repeat (first | exact HI0.out | apply IsS51.drewN | apply IsS51.drew)) (by repeat (first | exact HB.out | apply pw_below_drewN | apply below_drew1)) A3_.out).mono ?_);rintro e w5 ⟨rfl,hi,hb,hk⟩;refine ⟨_,rfl,?_⟩;have n0_:=Aside0.mk hi;have n1_:=Aside0.mk hb;have n2_ : Aside0 (KeepBut w w5 g none):=⟨KeepBut.trans (by repeat (first | exact HK.out | apply keep_drewN | apply keep_drew)) hk (.inl rfl)⟩;clear hi hb hk HI0 HB HK;have HI0:=n0_;have HB:=n1_;have HK:=n2_;clear n0_ n1_ n2_;obtain ⟨A2,c2,A3,c3,hblk,hge,hr2,hr3⟩:=HI0.out;have q3 : w5.cell? ⟨g,3,none⟩ = _:=cellS51_3 hblk;clear hblk hge hr2 hr3) | (go_at_call 119;(with_reducible refine (spec_l05Points.calls _ g s0_0 s0_1 s0_2 s0_3 _ _ _ w0 _ (by repeat (first | exact HI0.out | apply IsS51.drewN | apply IsS51.drew)) (by repeat (first | exact HB.out | apply pw_below_drewN | apply below_drew1)) A3_.out).mono ?_);rintro e w5 ⟨rfl,hi,hb,hk⟩;have n0_:=Aside0.mk hi;have n1_:=Aside0.mk hb;have n2_ : Aside0 (KeepBut w w5 g none):=⟨KeepBut.trans (by repeat (first | exact HK.out | apply keep_drewN | apply keep_drew)) hk (.inl rfl)⟩;clear hi hb hk HI0 HB HK;have HI0:=n0_;have HB:=n1_;have HK:=n2_;clear n0_ n1_ n2_;obtain ⟨A2,c2,A3,c3,hblk,hge,hr2,hr3⟩:=HI0.out;have q3 : w5.cell? ⟨g,3,none⟩ = _:=cellS51_3 hblk;clear hblk hge hr2 hr3))
     go_ret
     exact ⟨(by first | rfl | (simp;done) | (simp [*];done)),(by repeat (first | exact HI0.out | apply IsS51.drewN | apply IsS51.drew)),(by repeat (first | exact HB.out | apply pw_below_drewN | apply below_drew1)),(by repeat (first | exact HK.out | apply keep_drewN | apply keep_drew))⟩
    ·have c1b : decide (24 < (s0_3.length : Int)) = false:=decide_eq_false c1
     rw [decide_eq_false c1] at H
     cases k with
     | zero => exact (zero _ _ _ H).elim
     | succ k =>
     simp only [spec_l05Ok.j0,Bool.false_eq_true,if_false] at H
     have H':=Aside0.mk H
     clear zero one H c1
     go_enter Try.func74,Try.ntmps74
     go_wp2_with (first | ((with_reducible refine gate_callee (f:=58) rfl ?_);refine goesL_ (some 10) rfl rfl Try.func58 (by kernel_rfl) rfl #[.int .i64 s0_0,.int .i64 10,.int .i64 20000] rfl (by (try simp only [mT,mC,mN]);first | done | rfl) ?_;(with_reducible refine (spec_l00In.calls _ _ _ _ _ A1_.out).mono ?_);rintro e w5 ⟨rfl,⟨nd,rfl⟩⟩;refine ⟨_,rfl,?_⟩) | (go_at_call 58;(with_reducible refine (spec_l00In.calls _ _ _ _ _ A1_.out).mono ?_);rintro e w5 ⟨rfl,⟨nd,rfl⟩⟩) | ((with_reducible refine gate_callee (f:=58) rfl ?_);refine goesL_ (some 17) rfl rfl Try.func58 (by kernel_rfl) rfl #[.int .i64 s0_1,.int .i64 10,.int .i64 20000] rfl (by (try simp only [mT,mC,mN]);first | done | rfl) ?_;(with_reducible refine (spec_l00In.calls _ _ _ _ _ A2_.out).mono ?_);rintro e w5 ⟨rfl,⟨nd,rfl⟩⟩;refine ⟨_,rfl,?_⟩) | (go_at_call 58;(with_reducible refine (spec_l00In.calls _ _ _ _ _ A2_.out).mono ?_);rintro e w5 ⟨rfl,⟨nd,rfl⟩⟩) | ((with_reducible refine gate_callee (f:=119) rfl ?_);refine goesL_ (some 22) rfl rfl Try.func119 (by kernel_rfl) rfl #[.pointer (some ⟨g,0,none⟩)] rfl (by (try simp only [mT,mC,mN]);first | done | rfl) ?_;(with_reducible refine (spec_l05Points.calls _ g s0_0 s0_1 s0_2 s0_3 _ _ _ w0 _ (by repeat (first | exact HI0.out | apply IsS51.drewN | apply IsS51.drew)) (by repeat (first | exact HB.out | apply pw_below_drewN | apply below_drew1)) A3_.out).mono ?_);rintro e w5 ⟨rfl,hi,hb,hk⟩;refine ⟨_,rfl,?_⟩;have n0_:=Aside0.mk hi;have n1_:=Aside0.mk hb;have n2_ : Aside0 (KeepBut w w5 g none):=⟨KeepBut.trans (by repeat (first | exact HK.out | apply keep_drewN | apply keep_drew)) hk (.inl rfl)⟩;clear hi hb hk HI0 HB HK;have HI0:=n0_;have HB:=n1_;have HK:=n2_;clear n0_ n1_ n2_;obtain ⟨A2,c2,A3,c3,hblk,hge,hr2,hr3⟩:=HI0.out;have q3 : w5.cell? ⟨g,3,none⟩ = _:=cellS51_3 hblk;clear hblk hge hr2 hr3) | (go_at_call 119;(with_reducible refine (spec_l05Points.calls _ g s0_0 s0_1 s0_2 s0_3 _ _ _ w0 _ (by repeat (first | exact HI0.out | apply IsS51.drewN | apply IsS51.drew)) (by repeat (first | exact HB.out | apply pw_below_drewN | apply below_drew1)) A3_.out).mono ?_);rintro e w5 ⟨rfl,hi,hb,hk⟩;have n0_:=Aside0.mk hi;have n1_:=Aside0.mk hb;have n2_ : Aside0 (KeepBut w w5 g none):=⟨KeepBut.trans (by repeat (first | exact HK.out | apply keep_drewN | apply keep_drew)) hk (.inl rfl)⟩;clear hi hb hk HI0 HB HK;have HI0:=n0_;have HB:=n1_;have HK:=n2_;clear n0_ n1_ n2_;obtain ⟨A2,c2,A3,c3,hblk,hge,hr2,hr3⟩:=HI0.out;have q3 : w5.cell? ⟨g,3,none⟩ = _:=cellS51_3 hblk;clear hblk hge hr2 hr3))
     clear q0 q1 q3
     go_loopg [3] k (fun kq v3 w' => ∃ (x3 : Int) (b0 b1 : Int),v3 = .int .i64 x3 ∧ Aside0 (spec_l05Ok.l0 kq x3 b0 b1 s0_2 s0_3 = some (r1,r2,r3)) ∧ Aside0 (kq ≤ k) ∧ Aside0 (IsS51 w0 w' g b0 b1 s0_2 s0_3) ∧ Aside0 (Below w0.heap.size w0 w') ∧ Aside0 (KeepBut w w' g none))
     case atStart => exact ⟨0,a0,a1,rfl,H',⟨Nat.le_refl _⟩,⟨(by repeat (first | exact HI0.out | apply IsS51.drewN | apply IsS51.drew))⟩,⟨(by repeat (first | exact HB.out | apply pw_below_drewN | apply below_drew1))⟩,⟨(by repeat (first | exact HK.out | apply keep_drewN | apply keep_drew))⟩⟩
     case round =>
      clear H' HI0 HB HK
      obtain ⟨x3,b0,b1,rfl,HA,HK1,HI0,HB,HK⟩:=hrel
      cases gk with
      | zero => exact absurd HA.out (by simp [spec_l05Ok.l0])
      | succ k1 =>
       have H:=HA.out
       clear HA
       simp only [spec_l05Ok.l0] at H
       obtain ⟨A2,c2,A3,c3,hblk,hge,hr2,hr3⟩:=HI0.out
       have q3 : wr.cell? ⟨g,3,none⟩ = some (.slice A3 s0_3.length c3):=cellS51_3 hblk
       clear hblk hr2
       by_cases c3_ : x3 < (s0_3.length : Int)
       ·rw [if_pos c3_] at H
        have c3b : decide (x3 < (s0_3.length : Int)) = true:=decide_eq_true c3_
        by_cases c4_ : 0 ≤ x3
        ·rw [if_pos c4_] at H
         have c4b : decide (0 ≤ x3) = true:=decide_eq_true c4_
         obtain ⟨adf,Ar,cr,ef,y0_,y1_,hcr,hrr⟩:=at_T103 hr3 x3 c4_ c3_
         cases ef
         have C3:=Aside0.mk c3_
         have C4:=Aside0.mk c4_
         replace c3_:=eq_true c3_
         replace c4_:=eq_true c4_
         have y0:=(HB.out.cell (bL w0 _ y0_)).trans y0_
         have y1:=(HB.out.cell (bL w0 _ y1_)).trans y1_
         have Y1:=Aside0.mk y1_
         have Q3:=Aside0.mk q3
         clear y0_ y1_ y1
         replace H:=bE.mp H
         obtain ⟨t4,A40,H⟩:=H
         have A4_:=Aside0.mk A40
         clear A40
         have jz : ∀ (b : Bool),spec_l05Ok.j2 0 x3 b b0 b1 s0_2 s0_3 = some (r1,r2,r3) → False:=fun b h => by simp [spec_l05Ok.j2] at h
         have jt : ∀ (k : Nat),spec_l05Ok.j2 k x3 true b0 b1 s0_2 s0_3 = some (r1,r2,r3) → r1 = false ∧ r2 = b0 ∧ r3 = b1:=fun k h => by
          cases k with
          | zero => exact (jz _ h).elim
          | succ k => simp only [spec_l05Ok.j2,if_true,Option.some.injEq,Prod.mk.injEq] at h;exact ⟨h.1.symm,h.2.1.symm,h.2.2.symm⟩
         cases t4 with
         | false =>
          replace H:=(show (spec_l05Ok.j2 k1 x3 true b0 b1 s0_2 s0_3) = some (r1,r2,r3) from by first | exact H | simpa using H)
          obtain ⟨rfl,rfl,rfl⟩:=jt _ H
          clear jz jt H
          go_wp2
          go_quiet (with_reducible exact Calls.quiet_of ((spec_l01Name.calls _ _ _ _ A4_.out).mono fun e w' h => ⟨h.1,h.2.out⟩))
          go_wp2
          go_ret
          exact ⟨(by first | rfl | (simp;done) | (simp [*];done)),(by repeat (first | exact HI0.out | apply IsS51.drewN | apply IsS51.drew)),(by repeat (first | exact HB.out | apply pw_below_drewN | apply below_drew1)),(by repeat (first | exact HK.out | apply keep_drewN | apply keep_drew))⟩
         | true =>
          replace H:=(show ((if x3 > 0 then (if 0 ≤ (wrap64 (x3 - 1)) then (if (wrap64 (x3 - 1)) < (s0_3.length : Int) then (spec_l05Ok.j2 k1 x3 (!(Op.bytesLess (((rd_T103 s0_3 (wrap64 (x3 - 1))).f0).toList) (((rd_T103 s0_3 x3).f0).toList))) b0 b1 s0_2 s0_3) else (none)) else (none)) else (spec_l05Ok.j2 k1 x3 false b0 b1 s0_2 s0_3))) = some (r1,r2,r3) from by first | exact H | simpa using H)
          by_cases c5_ : x3 > 0
          ·rw [if_pos c5_] at H
           have c5b : decide (0 < x3) = true:=decide_eq_true c5_
           clear c5_
           obtain ⟨ji,hji⟩ : ∃ j_ : Int,wrap64 (x3 - 1) = j_:=⟨_,rfl⟩
           rw [hji] at H
           have hjr : IntKind.i64.wrap (x3 - 1) = ji:=by first | (rw [i64_w];exact hji) | exact hji
           by_cases c6_ : 0 ≤ ji
           ·rw [if_pos c6_] at H
            have c6b : decide (0 ≤ ji) = true:=decide_eq_true c6_
            by_cases c7_ : ji < (s0_3.length : Int)
            ·rw [if_pos c7_] at H
             have c7b : decide (ji < (s0_3.length : Int)) = true:=decide_eq_true c7_
             obtain ⟨adf2,Ar2,cr2,ef2,z0_,z1_,_,_⟩:=at_T103 hr3 ji c6_ c7_
             cases ef2
             replace c6_:=eq_true c6_
             replace c7_:=eq_true c7_
             have z0:=(HB.out.cell (bL w0 _ z0_)).trans z0_
             clear z0_ z1_
             cases c8_ : Op.bytesLess (((rd_T103 s0_3 ji).f0).toList) (((rd_T103 s0_3 x3).f0).toList) with
             | false =>
              rw [c8_] at H
              obtain ⟨rfl,rfl,rfl⟩:=jt _ H
              clear jz jt H
              go_wp2
              go_quiet (with_reducible exact Calls.quiet_of ((spec_l01Name.calls _ _ _ _ A4_.out).mono fun e w' h => ⟨h.1,h.2.out⟩))
              go_wp2
              go_ret
              exact ⟨(by first | rfl | (simp;done) | (simp [*];done)),(by repeat (first | exact HI0.out | apply IsS51.drewN | apply IsS51.drew)),(by repeat (first | exact HB.out | apply pw_below_drewN | apply below_drew1)),(by repeat (first | exact HK.out | apply keep_drewN | apply keep_drew))⟩
             | true =>
              rw [c8_] at H
              replace H:=(show (spec_l05Ok.j2 k1 x3 false b0 b1 s0_2 s0_3) = some (r1,r2,r3) from by first | exact H | simpa using H)
              cases k1 with
              | zero => exact (jz _ H).elim
              | succ k2 =>
              simp only [spec_l05Ok.j2,Bool.false_eq_true,if_false] at H
              rw [if_pos C4.out,if_pos C3.out] at H
              clear jz jt
              replace H:=bE.mp H
              obtain ⟨⟨pl,t5,d0,d1⟩,A50,H⟩:=H
              have A5_:=Aside0.mk A50
              clear A50
              have ne_ : ∀ ad,Ar = some ad → 0 < (rd_T103 s0_3 x3).f1.length → ad.block ≠ g:=fun ad hA hn => by
               obtain ⟨ad',e,hx⟩:=Kd.at_int hrr 0 (by omega) (by omega)
               rw [hA] at e
               cases e
               have:=bL w0 _ hx
               rw [add_block] at this
               omega
              have go1 : True:=trivial
              go_wp2
              go_quiet (with_reducible exact Calls.quiet_of ((spec_l01Name.calls _ _ _ _ A4_.out).mono fun e w' h => ⟨h.1,h.2.out⟩))
              have y1:=(HB.out.cell (bL w0 _ Y1.out)).trans Y1.out
              cases t5 with
              | false =>
               replace H:=(show (some (false,d0,d1)) = some (r1,r2,r3) from by first | exact H | simpa using H)
               simp only [Option.some.injEq,Prod.mk.injEq] at H
               obtain ⟨rfl,rfl,rfl⟩:=H
               go_wp2_with (first | ((with_reducible refine gate_callee (f:=121) rfl ?_);refine goesL_ (some 86) rfl rfl Try.func121 (by kernel_rfl) rfl #[.pointer (some ⟨g,0,none⟩),.slice Ar (rd_T103 s0_3 x3).f1.length cr] rfl (by (try simp only [mT,mC,mN]);first | done | rfl) ?_;(with_reducible refine (spec_l05Ring.calls _ g b0 b1 s0_2 s0_3 Ar cr (rd_T103 s0_3 x3).f1 _ _ _ _ w0 _ (by repeat (first | exact HI0.out | apply IsS51.drewN | apply IsS51.drew)) (by repeat (first | exact HB.out | apply pw_below_drewN | apply below_drew1)) (Kd.C_below hrr (by repeat (first | exact HB.out | apply pw_below_drewN | apply below_drew1))) hcr ne_ A5_.out).mono ?_);rintro e w5 ⟨v0_,rfl,ho,hi,hb,hk⟩;refine ⟨_,rfl,?_⟩;have n0_:=Aside0.mk hi;have n1_:=Aside0.mk hb;have n2_ : Aside0 (KeepBut w w5 g none):=⟨KeepBut.trans (by repeat (first | exact HK.out | apply keep_drewN | apply keep_drew)) hk (.inl rfl)⟩;obtain ⟨Ao_,co_,eo_⟩:=Kd.R_slice ho;subst eo_;have HO_:=Aside0.mk (Kd.R_reads' ho);clear ho hi hb hk HI0 HB HK;have HI0:=n0_;have HB:=n1_;have HK:=n2_;clear n0_ n1_ n2_) | (go_at_call 121;(with_reducible refine (spec_l05Ring.calls _ g b0 b1 s0_2 s0_3 Ar cr (rd_T103 s0_3 x3).f1 _ _ _ _ w0 _ (by repeat (first | exact HI0.out | apply IsS51.drewN | apply IsS51.drew)) (by repeat (first | exact HB.out | apply pw_below_drewN | apply below_drew1)) (Kd.C_below hrr (by repeat (first | exact HB.out | apply pw_below_drewN | apply below_drew1))) hcr ne_ A5_.out).mono ?_);rintro e w5 ⟨v0_,rfl,ho,hi,hb,hk⟩;have n0_:=Aside0.mk hi;have n1_:=Aside0.mk hb;have n2_ : Aside0 (KeepBut w w5 g none):=⟨KeepBut.trans (by repeat (first | exact HK.out | apply keep_drewN | apply keep_drew)) hk (.inl rfl)⟩;obtain ⟨Ao_,co_,eo_⟩:=Kd.R_slice ho;subst eo_;have HO_:=Aside0.mk (Kd.R_reads' ho);clear ho hi hb hk HI0 HB HK;have HI0:=n0_;have HB:=n1_;have HK:=n2_;clear n0_ n1_ n2_))
               go_ret
               exact ⟨(by first | rfl | (simp;done) | (simp [*];done)),(by repeat (first | exact HI0.out | apply IsS51.drewN | apply IsS51.drew)),(by repeat (first | exact HB.out | apply pw_below_drewN | apply below_drew1)),(by repeat (first | exact HK.out | apply keep_drewN | apply keep_drew))⟩
              | true =>
               replace H:=(show ((spec_l03Ok.f k2 pl).bind fun t254 => (if t254 = true then (spec_l05Ok.l0 k2 (wrap64 (x3 + 1)) d0 d1 s0_2 s0_3) else (some (false,d0,d1)))) = some (r1,r2,r3) from by first | exact H | simpa using H)
               replace H:=bE.mp H
               obtain ⟨t6,A60,H⟩:=H
               have A6_:=Aside0.mk A60
               clear A60
               cases t6 with
               | false =>
                replace H:=(show (some (false,d0,d1)) = some (r1,r2,r3) from by first | exact H | simpa using H)
                simp only [Option.some.injEq,Prod.mk.injEq] at H
                obtain ⟨rfl,rfl,rfl⟩:=H
                go_wp2_with (first | ((with_reducible refine gate_callee (f:=121) rfl ?_);refine goesL_ (some 86) rfl rfl Try.func121 (by kernel_rfl) rfl #[.pointer (some ⟨g,0,none⟩),.slice Ar (rd_T103 s0_3 x3).f1.length cr] rfl (by (try simp only [mT,mC,mN]);first | done | rfl) ?_;(with_reducible refine (spec_l05Ring.calls _ g b0 b1 s0_2 s0_3 Ar cr (rd_T103 s0_3 x3).f1 _ _ _ _ w0 _ (by repeat (first | exact HI0.out | apply IsS51.drewN | apply IsS51.drew)) (by repeat (first | exact HB.out | apply pw_below_drewN | apply below_drew1)) (Kd.C_below hrr (by repeat (first | exact HB.out | apply pw_below_drewN | apply below_drew1))) hcr ne_ A5_.out).mono ?_);rintro e w5 ⟨v0_,rfl,ho,hi,hb,hk⟩;refine ⟨_,rfl,?_⟩;have n0_:=Aside0.mk hi;have n1_:=Aside0.mk hb;have n2_ : Aside0 (KeepBut w w5 g none):=⟨KeepBut.trans (by repeat (first | exact HK.out | apply keep_drewN | apply keep_drew)) hk (.inl rfl)⟩;obtain ⟨Ao_,co_,eo_⟩:=Kd.R_slice ho;subst eo_;have HO_:=Aside0.mk (Kd.R_reads' ho);clear ho hi hb hk HI0 HB HK;have HI0:=n0_;have HB:=n1_;have HK:=n2_;clear n0_ n1_ n2_) | (go_at_call 121;(with_reducible refine (spec_l05Ring.calls _ g b0 b1 s0_2 s0_3 Ar cr (rd_T103 s0_3 x3).f1 _ _ _ _ w0 _ (by repeat (first | exact HI0.out | apply IsS51.drewN | apply IsS51.drew)) (by repeat (first | exact HB.out | apply pw_below_drewN | apply below_drew1)) (Kd.C_below hrr (by repeat (first | exact HB.out | apply pw_below_drewN | apply below_drew1))) hcr ne_ A5_.out).mono ?_);rintro e w5 ⟨v0_,rfl,ho,hi,hb,hk⟩;have n0_:=Aside0.mk hi;have n1_:=Aside0.mk hb;have n2_ : Aside0 (KeepBut w w5 g none):=⟨KeepBut.trans (by repeat (first | exact HK.out | apply keep_drewN | apply keep_drew)) hk (.inl rfl)⟩;obtain ⟨Ao_,co_,eo_⟩:=Kd.R_slice ho;subst eo_;have HO_:=Aside0.mk (Kd.R_reads' ho);clear ho hi hb hk HI0 HB HK;have HI0:=n0_;have HB:=n1_;have HK:=n2_;clear n0_ n1_ n2_) | ((with_reducible refine gate_callee (f:=57) rfl ?_);refine goesL_ (some 93) rfl rfl Try.func57 (by kernel_rfl) rfl #[.slice Ao_ pl.length co_] rfl (by (try simp only [mT,mC,mN]);first | done | rfl) ?_;(with_reducible refine (spec_l03Ok.calls _ Ao_ co_ pl _ _ (by repeat (first | exact HO_.out.2.2 | (with_reducible refine Kd.C_drewN ?_ _) | (with_reducible refine Kd.C_drew ?_))) HO_.out.2.1 A6_.out).mono ?_);rintro e w5 ⟨rfl,hb⟩;refine ⟨_,rfl,?_⟩;have n0_:=Aside0.mk (IsS51.below (by repeat (first | exact HI0.out | apply IsS51.drewN | apply IsS51.drew)) hb);have n1_:=Aside0.mk (below_step (by repeat (first | exact HB.out | apply pw_below_drewN | apply below_drew1)) hb);have n2_ : Aside0 (KeepBut w w5 g none):=⟨KeepBut.trans (by repeat (first | exact HK.out | apply keep_drewN | apply keep_drew)) (KeepBut.of_below hb g none) (.inl rfl)⟩;clear hb HI0 HB HK;have HI0:=n0_;have HB:=n1_;have HK:=n2_;clear n0_ n1_ n2_) | (go_at_call 57;(with_reducible refine (spec_l03Ok.calls _ Ao_ co_ pl _ _ (by repeat (first | exact HO_.out.2.2 | (with_reducible refine Kd.C_drewN ?_ _) | (with_reducible refine Kd.C_drew ?_))) HO_.out.2.1 A6_.out).mono ?_);rintro e w5 ⟨rfl,hb⟩;have n0_:=Aside0.mk (IsS51.below (by repeat (first | exact HI0.out | apply IsS51.drewN | apply IsS51.drew)) hb);have n1_:=Aside0.mk (below_step (by repeat (first | exact HB.out | apply pw_below_drewN | apply below_drew1)) hb);have n2_ : Aside0 (KeepBut w w5 g none):=⟨KeepBut.trans (by repeat (first | exact HK.out | apply keep_drewN | apply keep_drew)) (KeepBut.of_below hb g none) (.inl rfl)⟩;clear hb HI0 HB HK;have HI0:=n0_;have HB:=n1_;have HK:=n2_;clear n0_ n1_ n2_))
                go_ret
                exact ⟨(by first | rfl | (simp;done) | (simp [*];done)),(by repeat (first | exact HI0.out | apply IsS51.drewN | apply IsS51.drew)),(by repeat (first | exact HB.out | apply pw_below_drewN | apply below_drew1)),(by repeat (first | exact HK.out | apply keep_drewN | apply keep_drew))⟩
               | true =>
                replace H:=(show (spec_l05Ok.l0 k2 (wrap64 (x3 + 1)) d0 d1 s0_2 s0_3) = some (r1,r2,r3) from by first | exact H | simpa using H)
                have H':=Aside0.mk H
                clear H
                go_wp2_with (first | ((with_reducible refine gate_callee (f:=121) rfl ?_);refine goesL_ (some 86) rfl rfl Try.func121 (by kernel_rfl) rfl #[.pointer (some ⟨g,0,none⟩),.slice Ar (rd_T103 s0_3 x3).f1.length cr] rfl (by (try simp only [mT,mC,mN]);first | done | rfl) ?_;(with_reducible refine (spec_l05Ring.calls _ g b0 b1 s0_2 s0_3 Ar cr (rd_T103 s0_3 x3).f1 _ _ _ _ w0 _ (by repeat (first | exact HI0.out | apply IsS51.drewN | apply IsS51.drew)) (by repeat (first | exact HB.out | apply pw_below_drewN | apply below_drew1)) (Kd.C_below hrr (by repeat (first | exact HB.out | apply pw_below_drewN | apply below_drew1))) hcr ne_ A5_.out).mono ?_);rintro e w5 ⟨v0_,rfl,ho,hi,hb,hk⟩;refine ⟨_,rfl,?_⟩;have n0_:=Aside0.mk hi;have n1_:=Aside0.mk hb;have n2_ : Aside0 (KeepBut w w5 g none):=⟨KeepBut.trans (by repeat (first | exact HK.out | apply keep_drewN | apply keep_drew)) hk (.inl rfl)⟩;obtain ⟨Ao_,co_,eo_⟩:=Kd.R_slice ho;subst eo_;have HO_:=Aside0.mk (Kd.R_reads' ho);clear ho hi hb hk HI0 HB HK;have HI0:=n0_;have HB:=n1_;have HK:=n2_;clear n0_ n1_ n2_) | (go_at_call 121;(with_reducible refine (spec_l05Ring.calls _ g b0 b1 s0_2 s0_3 Ar cr (rd_T103 s0_3 x3).f1 _ _ _ _ w0 _ (by repeat (first | exact HI0.out | apply IsS51.drewN | apply IsS51.drew)) (by repeat (first | exact HB.out | apply pw_below_drewN | apply below_drew1)) (Kd.C_below hrr (by repeat (first | exact HB.out | apply pw_below_drewN | apply below_drew1))) hcr ne_ A5_.out).mono ?_);rintro e w5 ⟨v0_,rfl,ho,hi,hb,hk⟩;have n0_:=Aside0.mk hi;have n1_:=Aside0.mk hb;have n2_ : Aside0 (KeepBut w w5 g none):=⟨KeepBut.trans (by repeat (first | exact HK.out | apply keep_drewN | apply keep_drew)) hk (.inl rfl)⟩;obtain ⟨Ao_,co_,eo_⟩:=Kd.R_slice ho;subst eo_;have HO_:=Aside0.mk (Kd.R_reads' ho);clear ho hi hb hk HI0 HB HK;have HI0:=n0_;have HB:=n1_;have HK:=n2_;clear n0_ n1_ n2_) | ((with_reducible refine gate_callee (f:=57) rfl ?_);refine goesL_ (some 93) rfl rfl Try.func57 (by kernel_rfl) rfl #[.slice Ao_ pl.length co_] rfl (by (try simp only [mT,mC,mN]);first | done | rfl) ?_;(with_reducible refine (spec_l03Ok.calls _ Ao_ co_ pl _ _ (by repeat (first | exact HO_.out.2.2 | (with_reducible refine Kd.C_drewN ?_ _) | (with_reducible refine Kd.C_drew ?_))) HO_.out.2.1 A6_.out).mono ?_);rintro e w5 ⟨rfl,hb⟩;refine ⟨_,rfl,?_⟩;have n0_:=Aside0.mk (IsS51.below (by repeat (first | exact HI0.out | apply IsS51.drewN | apply IsS51.drew)) hb);have n1_:=Aside0.mk (below_step (by repeat (first | exact HB.out | apply pw_below_drewN | apply below_drew1)) hb);have n2_ : Aside0 (KeepBut w w5 g none):=⟨KeepBut.trans (by repeat (first | exact HK.out | apply keep_drewN | apply keep_drew)) (KeepBut.of_below hb g none) (.inl rfl)⟩;clear hb HI0 HB HK;have HI0:=n0_;have HB:=n1_;have HK:=n2_;clear n0_ n1_ n2_) | (go_at_call 57;(with_reducible refine (spec_l03Ok.calls _ Ao_ co_ pl _ _ (by repeat (first | exact HO_.out.2.2 | (with_reducible refine Kd.C_drewN ?_ _) | (with_reducible refine Kd.C_drew ?_))) HO_.out.2.1 A6_.out).mono ?_);rintro e w5 ⟨rfl,hb⟩;have n0_:=Aside0.mk (IsS51.below (by repeat (first | exact HI0.out | apply IsS51.drewN | apply IsS51.drew)) hb);have n1_:=Aside0.mk (below_step (by repeat (first | exact HB.out | apply pw_below_drewN | apply below_drew1)) hb);have n2_ : Aside0 (KeepBut w w5 g none):=⟨KeepBut.trans (by repeat (first | exact HK.out | apply keep_drewN | apply keep_drew)) (KeepBut.of_below hb g none) (.inl rfl)⟩;clear hb HI0 HB HK;have HI0:=n0_;have HB:=n1_;have HK:=n2_;clear n0_ n1_ n2_))
                go_roundg k2
                case measure => have:=HK1.out;omega
                case rel => exact ⟨(wrap64 (x3 + 1)),d0,d1,(by first | rfl | (simp;done) | (simp [*];done)),H',⟨by have:=HK1.out;omega⟩,⟨(by repeat (first | exact HI0.out | apply IsS51.drewN | apply IsS51.drew))⟩,⟨(by repeat (first | exact HB.out | apply pw_below_drewN | apply below_drew1))⟩,⟨(by repeat (first | exact HK.out | apply keep_drewN | apply keep_drew))⟩⟩
            ·rw [if_neg c7_] at H
             exact absurd H (by simp)
           ·rw [if_neg c6_] at H
            exact absurd H (by simp)
          ·rw [if_neg c5_] at H
           have c5b : decide (0 < x3) = false:=decide_eq_false c5_
           clear c5_
           replace H:=(show (spec_l05Ok.j2 k1 x3 false b0 b1 s0_2 s0_3) = some (r1,r2,r3) from by first | exact H | simpa using H)
           cases k1 with
           | zero => exact (jz _ H).elim
           | succ k2 =>
           simp only [spec_l05Ok.j2,Bool.false_eq_true,if_false] at H
           rw [if_pos C4.out,if_pos C3.out] at H
           clear jz jt
           replace H:=bE.mp H
           obtain ⟨⟨pl,t5,d0,d1⟩,A50,H⟩:=H
           have A5_:=Aside0.mk A50
           clear A50
           have ne_ : ∀ ad,Ar = some ad → 0 < (rd_T103 s0_3 x3).f1.length → ad.block ≠ g:=fun ad hA hn => by
            obtain ⟨ad',e,hx⟩:=Kd.at_int hrr 0 (by omega) (by omega)
            rw [hA] at e
            cases e
            have:=bL w0 _ hx
            rw [add_block] at this
            omega
           have go1 : True:=trivial
           go_wp2
           go_quiet (with_reducible exact Calls.quiet_of ((spec_l01Name.calls _ _ _ _ A4_.out).mono fun e w' h => ⟨h.1,h.2.out⟩))
           have y1:=(HB.out.cell (bL w0 _ Y1.out)).trans Y1.out
           cases t5 with
           | false =>
            replace H:=(show (some (false,d0,d1)) = some (r1,r2,r3) from by first | exact H | simpa using H)
            simp only [Option.some.injEq,Prod.mk.injEq] at H
            obtain ⟨rfl,rfl,rfl⟩:=H
            go_wp2_with (first | ((with_reducible refine gate_callee (f:=121) rfl ?_);refine goesL_ (some 86) rfl rfl Try.func121 (by kernel_rfl) rfl #[.pointer (some ⟨g,0,none⟩),.slice Ar (rd_T103 s0_3 x3).f1.length cr] rfl (by (try simp only [mT,mC,mN]);first | done | rfl) ?_;(with_reducible refine (spec_l05Ring.calls _ g b0 b1 s0_2 s0_3 Ar cr (rd_T103 s0_3 x3).f1 _ _ _ _ w0 _ (by repeat (first | exact HI0.out | apply IsS51.drewN | apply IsS51.drew)) (by repeat (first | exact HB.out | apply pw_below_drewN | apply below_drew1)) (Kd.C_below hrr (by repeat (first | exact HB.out | apply pw_below_drewN | apply below_drew1))) hcr ne_ A5_.out).mono ?_);rintro e w5 ⟨v0_,rfl,ho,hi,hb,hk⟩;refine ⟨_,rfl,?_⟩;have n0_:=Aside0.mk hi;have n1_:=Aside0.mk hb;have n2_ : Aside0 (KeepBut w w5 g none):=⟨KeepBut.trans (by repeat (first | exact HK.out | apply keep_drewN | apply keep_drew)) hk (.inl rfl)⟩;obtain ⟨Ao_,co_,eo_⟩:=Kd.R_slice ho;subst eo_;have HO_:=Aside0.mk (Kd.R_reads' ho);clear ho hi hb hk HI0 HB HK;have HI0:=n0_;have HB:=n1_;have HK:=n2_;clear n0_ n1_ n2_) | (go_at_call 121;(with_reducible refine (spec_l05Ring.calls _ g b0 b1 s0_2 s0_3 Ar cr (rd_T103 s0_3 x3).f1 _ _ _ _ w0 _ (by repeat (first | exact HI0.out | apply IsS51.drewN | apply IsS51.drew)) (by repeat (first | exact HB.out | apply pw_below_drewN | apply below_drew1)) (Kd.C_below hrr (by repeat (first | exact HB.out | apply pw_below_drewN | apply below_drew1))) hcr ne_ A5_.out).mono ?_);rintro e w5 ⟨v0_,rfl,ho,hi,hb,hk⟩;have n0_:=Aside0.mk hi;have n1_:=Aside0.mk hb;have n2_ : Aside0 (KeepBut w w5 g none):=⟨KeepBut.trans (by repeat (first | exact HK.out | apply keep_drewN | apply keep_drew)) hk (.inl rfl)⟩;obtain ⟨Ao_,co_,eo_⟩:=Kd.R_slice ho;subst eo_;have HO_:=Aside0.mk (Kd.R_reads' ho);clear ho hi hb hk HI0 HB HK;have HI0:=n0_;have HB:=n1_;have HK:=n2_;clear n0_ n1_ n2_))
            go_ret
            exact ⟨(by first | rfl | (simp;done) | (simp [*];done)),(by repeat (first | exact HI0.out | apply IsS51.drewN | apply IsS51.drew)),(by repeat (first | exact HB.out | apply pw_below_drewN | apply below_drew1)),(by repeat (first | exact HK.out | apply keep_drewN | apply keep_drew))⟩
           | true =>
            replace H:=(show ((spec_l03Ok.f k2 pl).bind fun t254 => (if t254 = true then (spec_l05Ok.l0 k2 (wrap64 (x3 + 1)) d0 d1 s0_2 s0_3) else (some (false,d0,d1)))) = some (r1,r2,r3) from by first | exact H | simpa using H)
            replace H:=bE.mp H
            obtain ⟨t6,A60,H⟩:=H
            have A6_:=Aside0.mk A60
            clear A60
            cases t6 with
            | false =>
             replace H:=(show (some (false,d0,d1)) = some (r1,r2,r3) from by first | exact H | simpa using H)
             simp only [Option.some.injEq,Prod.mk.injEq] at H
             obtain ⟨rfl,rfl,rfl⟩:=H
             go_wp2_with (first | ((with_reducible refine gate_callee (f:=121) rfl ?_);refine goesL_ (some 86) rfl rfl Try.func121 (by kernel_rfl) rfl #[.pointer (some ⟨g,0,none⟩),.slice Ar (rd_T103 s0_3 x3).f1.length cr] rfl (by (try simp only [mT,mC,mN]);first | done | rfl) ?_;(with_reducible refine (spec_l05Ring.calls _ g b0 b1 s0_2 s0_3 Ar cr (rd_T103 s0_3 x3).f1 _ _ _ _ w0 _ (by repeat (first | exact HI0.out | apply IsS51.drewN | apply IsS51.drew)) (by repeat (first | exact HB.out | apply pw_below_drewN | apply below_drew1)) (Kd.C_below hrr (by repeat (first | exact HB.out | apply pw_below_drewN | apply below_drew1))) hcr ne_ A5_.out).mono ?_);rintro e w5 ⟨v0_,rfl,ho,hi,hb,hk⟩;refine ⟨_,rfl,?_⟩;have n0_:=Aside0.mk hi;have n1_:=Aside0.mk hb;have n2_ : Aside0 (KeepBut w w5 g none):=⟨KeepBut.trans (by repeat (first | exact HK.out | apply keep_drewN | apply keep_drew)) hk (.inl rfl)⟩;obtain ⟨Ao_,co_,eo_⟩:=Kd.R_slice ho;subst eo_;have HO_:=Aside0.mk (Kd.R_reads' ho);clear ho hi hb hk HI0 HB HK;have HI0:=n0_;have HB:=n1_;have HK:=n2_;clear n0_ n1_ n2_) | (go_at_call 121;(with_reducible refine (spec_l05Ring.calls _ g b0 b1 s0_2 s0_3 Ar cr (rd_T103 s0_3 x3).f1 _ _ _ _ w0 _ (by repeat (first | exact HI0.out | apply IsS51.drewN | apply IsS51.drew)) (by repeat (first | exact HB.out | apply pw_below_drewN | apply below_drew1)) (Kd.C_below hrr (by repeat (first | exact HB.out | apply pw_below_drewN | apply below_drew1))) hcr ne_ A5_.out).mono ?_);rintro e w5 ⟨v0_,rfl,ho,hi,hb,hk⟩;have n0_:=Aside0.mk hi;have n1_:=Aside0.mk hb;have n2_ : Aside0 (KeepBut w w5 g none):=⟨KeepBut.trans (by repeat (first | exact HK.out | apply keep_drewN | apply keep_drew)) hk (.inl rfl)⟩;obtain ⟨Ao_,co_,eo_⟩:=Kd.R_slice ho;subst eo_;have HO_:=Aside0.mk (Kd.R_reads' ho);clear ho hi hb hk HI0 HB HK;have HI0:=n0_;have HB:=n1_;have HK:=n2_;clear n0_ n1_ n2_) | ((with_reducible refine gate_callee (f:=57) rfl ?_);refine goesL_ (some 93) rfl rfl Try.func57 (by kernel_rfl) rfl #[.slice Ao_ pl.length co_] rfl (by (try simp only [mT,mC,mN]);first | done | rfl) ?_;(with_reducible refine (spec_l03Ok.calls _ Ao_ co_ pl _ _ (by repeat (first | exact HO_.out.2.2 | (with_reducible refine Kd.C_drewN ?_ _) | (with_reducible refine Kd.C_drew ?_))) HO_.out.2.1 A6_.out).mono ?_);rintro e w5 ⟨rfl,hb⟩;refine ⟨_,rfl,?_⟩;have n0_:=Aside0.mk (IsS51.below (by repeat (first | exact HI0.out | apply IsS51.drewN | apply IsS51.drew)) hb);have n1_:=Aside0.mk (below_step (by repeat (first | exact HB.out | apply pw_below_drewN | apply below_drew1)) hb);have n2_ : Aside0 (KeepBut w w5 g none):=⟨KeepBut.trans (by repeat (first | exact HK.out | apply keep_drewN | apply keep_drew)) (KeepBut.of_below hb g none) (.inl rfl)⟩;clear hb HI0 HB HK;have HI0:=n0_;have HB:=n1_;have HK:=n2_;clear n0_ n1_ n2_) | (go_at_call 57;(with_reducible refine (spec_l03Ok.calls _ Ao_ co_ pl _ _ (by repeat (first | exact HO_.out.2.2 | (with_reducible refine Kd.C_drewN ?_ _) | (with_reducible refine Kd.C_drew ?_))) HO_.out.2.1 A6_.out).mono ?_);rintro e w5 ⟨rfl,hb⟩;have n0_:=Aside0.mk (IsS51.below (by repeat (first | exact HI0.out | apply IsS51.drewN | apply IsS51.drew)) hb);have n1_:=Aside0.mk (below_step (by repeat (first | exact HB.out | apply pw_below_drewN | apply below_drew1)) hb);have n2_ : Aside0 (KeepBut w w5 g none):=⟨KeepBut.trans (by repeat (first | exact HK.out | apply keep_drewN | apply keep_drew)) (KeepBut.of_below hb g none) (.inl rfl)⟩;clear hb HI0 HB HK;have HI0:=n0_;have HB:=n1_;have HK:=n2_;clear n0_ n1_ n2_))
             go_ret
             exact ⟨(by first | rfl | (simp;done) | (simp [*];done)),(by repeat (first | exact HI0.out | apply IsS51.drewN | apply IsS51.drew)),(by repeat (first | exact HB.out | apply pw_below_drewN | apply below_drew1)),(by repeat (first | exact HK.out | apply keep_drewN | apply keep_drew))⟩
            | true =>
             replace H:=(show (spec_l05Ok.l0 k2 (wrap64 (x3 + 1)) d0 d1 s0_2 s0_3) = some (r1,r2,r3) from by first | exact H | simpa using H)
             have H':=Aside0.mk H
             clear H
             go_wp2_with (first | ((with_reducible refine gate_callee (f:=121) rfl ?_);refine goesL_ (some 86) rfl rfl Try.func121 (by kernel_rfl) rfl #[.pointer (some ⟨g,0,none⟩),.slice Ar (rd_T103 s0_3 x3).f1.length cr] rfl (by (try simp only [mT,mC,mN]);first | done | rfl) ?_;(with_reducible refine (spec_l05Ring.calls _ g b0 b1 s0_2 s0_3 Ar cr (rd_T103 s0_3 x3).f1 _ _ _ _ w0 _ (by repeat (first | exact HI0.out | apply IsS51.drewN | apply IsS51.drew)) (by repeat (first | exact HB.out | apply pw_below_drewN | apply below_drew1)) (Kd.C_below hrr (by repeat (first | exact HB.out | apply pw_below_drewN | apply below_drew1))) hcr ne_ A5_.out).mono ?_);rintro e w5 ⟨v0_,rfl,ho,hi,hb,hk⟩;refine ⟨_,rfl,?_⟩;have n0_:=Aside0.mk hi;have n1_:=Aside0.mk hb;have n2_ : Aside0 (KeepBut w w5 g none):=⟨KeepBut.trans (by repeat (first | exact HK.out | apply keep_drewN | apply keep_drew)) hk (.inl rfl)⟩;obtain ⟨Ao_,co_,eo_⟩:=Kd.R_slice ho;subst eo_;have HO_:=Aside0.mk (Kd.R_reads' ho);clear ho hi hb hk HI0 HB HK;have HI0:=n0_;have HB:=n1_;have HK:=n2_;clear n0_ n1_ n2_) | (go_at_call 121;(with_reducible refine (spec_l05Ring.calls _ g b0 b1 s0_2 s0_3 Ar cr (rd_T103 s0_3 x3).f1 _ _ _ _ w0 _ (by repeat (first | exact HI0.out | apply IsS51.drewN | apply IsS51.drew)) (by repeat (first | exact HB.out | apply pw_below_drewN | apply below_drew1)) (Kd.C_below hrr (by repeat (first | exact HB.out | apply pw_below_drewN | apply below_drew1))) hcr ne_ A5_.out).mono ?_);rintro e w5 ⟨v0_,rfl,ho,hi,hb,hk⟩;have n0_:=Aside0.mk hi;have n1_:=Aside0.mk hb;have n2_ : Aside0 (KeepBut w w5 g none):=⟨KeepBut.trans (by repeat (first | exact HK.out | apply keep_drewN | apply keep_drew)) hk (.inl rfl)⟩;obtain ⟨Ao_,co_,eo_⟩:=Kd.R_slice ho;subst eo_;have HO_:=Aside0.mk (Kd.R_reads' ho);clear ho hi hb hk HI0 HB HK;have HI0:=n0_;have HB:=n1_;have HK:=n2_;clear n0_ n1_ n2_) | ((with_reducible refine gate_callee (f:=57) rfl ?_);refine goesL_ (some 93) rfl rfl Try.func57 (by kernel_rfl) rfl #[.slice Ao_ pl.length co_] rfl (by (try simp only [mT,mC,mN]);first | done | rfl) ?_;(with_reducible refine (spec_l03Ok.calls _ Ao_ co_ pl _ _ (by repeat (first | exact HO_.out.2.2 | (with_reducible refine Kd.C_drewN ?_ _) | (with_reducible refine Kd.C_drew ?_))) HO_.out.2.1 A6_.out).mono ?_);rintro e w5 ⟨rfl,hb⟩;refine ⟨_,rfl,?_⟩;have n0_:=Aside0.mk (IsS51.below (by repeat (first | exact HI0.out | apply IsS51.drewN | apply IsS51.drew)) hb);have n1_:=Aside0.mk (below_step (by repeat (first | exact HB.out | apply pw_below_drewN | apply below_drew1)) hb);have n2_ : Aside0 (KeepBut w w5 g none):=⟨KeepBut.trans (by repeat (first | exact HK.out | apply keep_drewN | apply keep_drew)) (KeepBut.of_below hb g none) (.inl rfl)⟩;clear hb HI0 HB HK;have HI0:=n0_;have HB:=n1_;have HK:=n2_;clear n0_ n1_ n2_) | (go_at_call 57;(with_reducible refine (spec_l03Ok.calls _ Ao_ co_ pl _ _ (by repeat (first | exact HO_.out.2.2 | (with_reducible refine Kd.C_drewN ?_ _) | (with_reducible refine Kd.C_drew ?_))) HO_.out.2.1 A6_.out).mono ?_);rintro e w5 ⟨rfl,hb⟩;have n0_:=Aside0.mk (IsS51.below (by repeat (first | exact HI0.out | apply IsS51.drewN | apply IsS51.drew)) hb);have n1_:=Aside0.mk (below_step (by repeat (first | exact HB.out | apply pw_below_drewN | apply below_drew1)) hb);have n2_ : Aside0 (KeepBut w w5 g none):=⟨KeepBut.trans (by repeat (first | exact HK.out | apply keep_drewN | apply keep_drew)) (KeepBut.of_below hb g none) (.inl rfl)⟩;clear hb HI0 HB HK;have HI0:=n0_;have HB:=n1_;have HK:=n2_;clear n0_ n1_ n2_))
             go_roundg k2
             case measure => have:=HK1.out;omega
             case rel => exact ⟨(wrap64 (x3 + 1)),d0,d1,(by first | rfl | (simp;done) | (simp [*];done)),H',⟨by have:=HK1.out;omega⟩,⟨(by repeat (first | exact HI0.out | apply IsS51.drewN | apply IsS51.drew))⟩,⟨(by repeat (first | exact HB.out | apply pw_below_drewN | apply below_drew1))⟩,⟨(by repeat (first | exact HK.out | apply keep_drewN | apply keep_drew))⟩⟩
        ·rw [if_neg c4_] at H
         exact absurd H (by simp)
       ·rw [if_neg c3_] at H
        have c3b : decide (x3 < (s0_3.length : Int)) = false:=decide_eq_false c3_
        clear c3_
        simp only [Option.some.injEq,Prod.mk.injEq] at H
        obtain ⟨rfl,rfl,rfl⟩:=H
        go_wp2
        go_ret
        exact ⟨(by first | rfl | (simp;done) | (simp [*];done)),(by repeat (first | exact HI0.out | apply IsS51.drewN | apply IsS51.drew)),(by repeat (first | exact HB.out | apply pw_below_drewN | apply below_drew1)),(by repeat (first | exact HK.out | apply keep_drewN | apply keep_drew))⟩
def spec_l00Has.l0 : Nat → List Int → Int → Int → Option (Bool)
 | 0,_,_,_ => none
 | k + 1,x0,x1,x5 => if x5 < (x0.length : Int) then (if 0 ≤ x5 then (if (rd x0 x5) = x1 then (some true) else (spec_l00Has.l0 k x0 x1 (wrap64 (x5 + 1)))) else (none)) else (some false)
def spec_l00Has.f (k : Nat) (l0 : List Int) (a1 : Int) : Option (Bool):=spec_l00Has.l0 k l0 a1 0
theorem spec_l00Has.calls (k : Nat) (A0 : Option Addr) (c0 : Nat) (l0 : List Int) (a1 : Int) (r : Bool) (w : World) (hr0 : Kd.C (Kd.int .i64) w A0 l0.length l0) (hc0 : l0.length ≤ c0) (h : spec_l00Has.f k l0 a1 = some r) :
  Calls Try.prog 93 #[.slice A0 l0.length c0,.int .i64 a1] w fun e w' => e = .returned (.bool r) ∧ Drawn0 w w':=by
 have HR0:=Aside0.mk hr0
 have HC0:=Aside0.mk hc0
 clear hr0 hc0
 have H : (spec_l00Has.l0 k l0 a1 0) = some r:=h
 clear h
 have H':=Aside0.mk H
 clear H
 go_enter Try.func93,Try.ntmps93
 go_wp2
 go_loopg [5] k (fun kq v5 w' => ∃ (x5_1 : Int),v5 = .int .i64 x5_1 ∧ Aside0 (spec_l00Has.l0 kq l0 a1 x5_1 = some r) ∧ Aside0 (kq ≤ k) ∧ Drawn0 w w')
 case atStart => exact ⟨(0),(by first | rfl | (simp;done) | (simp [*];done)),H',⟨Nat.le_refl _⟩,by repeat (first | exact Drawn0.refl _ | apply Drawn0.step)⟩
 case round =>
  clear H'
  try clear p2
  obtain ⟨x5_1,rfl,HA,HK1,⟨m1,rfl⟩⟩:=hrel
  cases gk with
  | zero => exact absurd HA.out (by simp [spec_l00Has.l0])
  | succ k1 =>
   have H:=HA.out
   clear HA
   simp only [spec_l00Has.l0] at H
   by_cases c3 : x5_1 < (l0.length : Int)
   ·rw [if_pos c3] at H
    have c3b0 : decide (x5_1 < (l0.length : Int)) = true:=decide_eq_true c3
    clear c3
    by_cases c4 : 0 ≤ x5_1
    ·rw [if_pos c4] at H
     have c4b0 : decide (0 ≤ x5_1) = true:=decide_eq_true c4
     clear c4
     by_cases c5 : (rd l0 x5_1) = a1
     ·rw [if_pos c5] at H
      have c5b0 : ((rd l0 x5_1) == a1) = true:=beq_iff_eq.mpr c5
      have c5b1 : ((rd l0 x5_1) != a1) = false:=bne_eq_false_iff_eq.mpr c5
      clear c5
      obtain rfl:=Option.some.inj H
      have p262 : 0 ≤ (x5_1 : Int):=da
      have q262 : x5_1 < (l0.length : Int):=da
      obtain ⟨ad262,e262,hx262_0⟩:=Kd.at_int HR0.out x5_1 p262 q262
      cases e262
      replace p262:=eq_true p262
      replace q262:=eq_true q262
      go_wp2
      go_ret
      exact ⟨by first | rfl | (simp;done) | (simp [*];done),by repeat (first | exact Drawn0.refl _ | apply Drawn0.step)⟩
     ·rw [if_neg c5] at H
      have c5b0 : ((rd l0 x5_1) == a1) = false:=beq_eq_false_iff_ne.mpr c5
      have c5b1 : ((rd l0 x5_1) != a1) = true:=bne_iff_ne.mpr c5
      have H':=Aside0.mk H
      clear H
      have p262 : 0 ≤ (x5_1 : Int):=da
      have q262 : x5_1 < (l0.length : Int):=da
      obtain ⟨ad262,e262,hx262_0⟩:=Kd.at_int HR0.out x5_1 p262 q262
      cases e262
      replace p262:=eq_true p262
      replace q262:=eq_true q262
      go_wp2
      go_roundg k1
      case measure => have:=HK1.out;omega
      case rel => exact ⟨(wrap64 (x5_1 + 1)),(by first | rfl | (simp;done) | (simp [*];done)),H',⟨by have:=HK1.out;omega⟩,by repeat (first | exact Drawn0.refl _ | apply Drawn0.step)⟩
    ·rw [if_neg c4] at H
     exact absurd H (by simp)
   ·rw [if_neg c3] at H
    have c3b0 : decide (x5_1 < (l0.length : Int)) = false:=decide_eq_false c3
    clear c3
    obtain rfl:=Option.some.inj H
    go_wp2
    go_ret
    exact ⟨by first | rfl | (simp;done) | (simp [*];done),by repeat (first | exact Drawn0.refl _ | apply Drawn0.step)⟩
end Go.Proofs.Ytnnchaggdnlfmaa.PFnExactUnusedPoints
