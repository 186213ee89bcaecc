/- Contracts of functions that FnExactEdgesOf reaches, out of the lines of the kit's print. -/
import Derived.Test.YtpeebobdbaemiaaQFnExactEdgesOfx0
import Derived.Test.YtpeebobdbaemiaaQFnExactEdgesOfx6
namespace Go.Proofs.Ytpeebobdbaemiaa.PFnExactEdgesOf
set_option maxHeartbeats 8000000
set_option maxRecDepth 100000
open Go.RowKit Go.Proofs.YtpeebobdbaemiaaW.PrintWords Go.Proofs.YtpeebobdbaemiaaW.PrintLast Go.Proofs.YtpeebobdbaemiaaW.PrintMore
open Bool renaming true → tT, false → fF
open Go.World renaming block_lt_of_cell? → bL
open List renaming length_take → lT, length_drop → lD, map_toArray → mT, map_cons → mC, map_nil → mN
open Option renaming bind_eq_some_iff → bE
attribute [local go_sem] max2_int min2_int max_two min_two max_three min_three max_four min_four
set_option linter.unusedVariables false
set_option linter.unusedSimpArgs false
def spec_l05Ring.l0 : Nat → List Int → List (S78) → Int → Int → Int → List (S78) → List (S64) → Option ((List (S78)) × Bool × Int × Int)
 | 0,_,_,_,_,_,_,_ => none
 | k + 1,x1,x6,x7,x1000,x1001,x1002,x1003 => if x7 < (x1.length : Int) then (if 0 ≤ x7 then ((spec_l00In.f (rd x1 x7) 0 (wrap64 ((x1002.length : Int) - 1))).bind fun t183 => (if t183 = true then (if 0 ≤ (rd x1 x7) then (if (rd x1 x7) < (x1002.length : Int) then (if x6.length < 8796093022208 then (spec_l05Ring.l0 k x1 (x6 ++ [(⟨(rd_T78 x1002 (rd x1 x7)).f0,(rd_T78 x1002 (rd x1 x7)).f1⟩ : S78)]) (wrap64 (x7 + 1)) x1000 x1001 x1002 x1003) else (none)) else (none)) else (none)) else (some (([] : List (S78)),false,x1000,x1001)))) else (none)) else (some (x6,true,x1000,x1001))
def spec_l05Ring.f (k : Nat) (s0_0 : Int) (s0_1 : Int) (s0_2 : List (S78)) (s0_3 : List (S64)) (l1 : List Int) : Option ((List (S78)) × Bool × Int × Int):=spec_l05Ring.l0 k l1 (([] : List (S78))) 0 s0_0 s0_1 s0_2 s0_3
def spec_l05Ring.T7 : Bool × List (List Nat × List Nat):=(true,[([],[]),([],[]),([1],[1]),([2],[2]),([3],[3]),([],[]),([],[]),([5,6],[5,6]),([7],[7]),([4,8],[4,8]),([9],[9]),([10],[10]),([0,11],[0,11]),([12,12,0,1,2,3,4,5,6,7,8,9,10,11,12],[0,12])])
def spec_l05Ring.B7 : List Nat:=[0,0,2,6,14,0,0,96,224,510,1022,2046,4095,8191]
theorem spec_l05Ring.tab7 : rtab .any (opsOf Try.f41 7) = spec_l05Ring.T7:=by kernel_rfl
theorem spec_l05Ring.bits7 : waitsOk spec_l05Ring.T7.2 spec_l05Ring.B7 = true:=by kernel_rfl
theorem spec_l05Ring.calls (k : Nat) (g : Nat) (s0_0 : Int) (s0_1 : Int) (s0_2 : List (S78)) (s0_3 : List (S64)) (A1 : Option Addr) (c1 : Nat) (l1 : List Int) (r1 : List (S78)) (r2 : Bool) (r3 : Int) (r4 : Int) (w0 w : World) (hI : IsS33 w0 w g s0_0 s0_1 s0_2 s0_3) (hB : Below w0.heap.size w0 w) (hr1 : Kd.C (Kd.int .i64) w A1 l1.length l1) (hc1 : l1.length ≤ c1) (hf1 : ∀ ad,A1 = some ad → 0 < l1.length → ad.block ≠ g) (h : spec_l05Ring.f k s0_0 s0_1 s0_2 s0_3 l1 = some (r1,r2,r3,r4)) :
  Calls Try.prog 41 #[.pointer (some ⟨g,0,none⟩),.slice A1 l1.length c1] w fun e w' => ∃ v0_ : Value,e = .returned (.tuple #[v0_,.bool r2]) ∧ Kd.R k78 78 w' w.heap.size (fun _ => True) v0_ r1 ∧ IsS33 w0 w' g r3 r4 s0_2 s0_3 ∧ Below w0.heap.size w0 w' ∧ KeepBut w w' g none:=by
 have hu78:=Try.underlying78
 have HR1:=Aside0.mk hr1
 have HC1:=Aside0.mk hc1
 clear hr1 hc1
 have HI0:=Aside0.mk hI
 have HK:=Aside0.mk (KeepBut.refl w g none)
 have HL:=Aside0.mk hB.size
 clear hI
 have HW0:=Aside0.mk hB.size
 have HB:=Aside0.mk hB
 clear hB
 have H : (spec_l05Ring.l0 k l1 (([] : List (S78))) 0 s0_0 s0_1 s0_2 s0_3) = some (r1,r2,r3,r4):=h
 clear h
 have HB0:=HB
 clear HB
 have HB:=Aside0.mk (Below.refl w.heap.size w)
 obtain ⟨A2,c2,A3,c3,hblk,hge,hr2,hr3⟩:=HI0.out
 have q2 : w.cell? ⟨g,2,none⟩ = some (.slice A2 s0_2.length c2):=cellS33_2 hblk
 have pts : ∀ i : Int,0 ≤ i → i < (s0_2.length : Int) → ∃ ad,A2 = some ad ∧ w.cell? (ad.add (i.toNat * 2)) = some (.int .i64 (rd_T78 s0_2 i).f0) ∧ w.cell? ⟨(ad.add (i.toNat * 2)).block,(ad.add (i.toNat * 2)).off + 1,none⟩ = some (.int .i64 (rd_T78 s0_2 i).f1):=by
  intro i h0 h1
  obtain ⟨ad,e,x0,x1⟩:=at_T78 hr2 i h0 h1
  exact ⟨ad,e,(HB0.out.cell (bL w0 _ x0)).trans x0,(HB0.out.cell (bL w0 _ x1)).trans x1⟩
 have Hpts_:=Aside0.mk pts
 have Q2:=Aside0.mk q2
 clear hblk hge hr2 hr3 pts q2 hf1
 obtain ⟨yn,hyn⟩ : ∃ y_ : List (S78),y_ = (([] : List (S78))):=⟨_,rfl⟩
 replace H : (spec_l05Ring.l0 k l1 yn 0 s0_0 s0_1 s0_2 s0_3) = some (r1,r2,r3,r4):=by rw [hyn];exact H
 have Nyn:=Aside0.mk hyn
 clear hyn
 have H':=Aside0.mk H
 clear H
 go_enter Try.func41,Try.ntmps41
 go_wp2_with (first | ((with_reducible refine gate_dst (N:=8) rfl ?_);refine Kd.R_lit k78 _ 78 ?hg (N:=8) ?hd (xs:=([] : List (S78))) (inner:=[]) (ok:=fun _ => True) (okp:=fun _ => True) ?hr ?hp (fun _ hk => hk) trivial (Below.refl _ _) (Nat.le_refl _) (by simp) ?_;(case hd => rfl);(case hg => rfl);(case hr => first | (go_simp;done) | (go_simp;rfl));(case hp => exact (Reps.none _ _));intro v266 w3 ho4 hb hg_ hnew_;clear hg_ hnew_;(first | rw [← Nyn.out] at ho4 | (simp only [Int.reduceToNat] at ho4;rw [← Nyn.out] at ho4));have HO267:=Aside0.mk (Kd.R_lower ho4 (below_size ib));replace HB:=sb hb;clear hb ho4))
 go_loopg [6,7] k (fun kq v6 v7 w' => ∃ (x6 : List (S78)) (x7 : Int),v7 = .int .i64 x7 ∧ Aside0 (spec_l05Ring.l0 kq l1 x6 x7 s0_0 s0_1 s0_2 s0_3 = some (r1,r2,r3,r4)) ∧ Aside0 (kq ≤ k) ∧ Aside0 (Kd.R k78 78 w' w.heap.size (fun _ => True) v6 x6) ∧ Aside0 (Below w.heap.size w w'))
 case atStart => exact ⟨(yn),(0),(by first | rfl | (simp;done) | (simp [*];done)),H',⟨Nat.le_refl _⟩,⟨rO HO267.out⟩,⟨ib⟩⟩
 case round =>
  clear H'
  obtain ⟨x6,x7,rfl,HA,HK1,HO_6,HB⟩:=hrel
  cases gk with
  | zero => exact absurd HA.out (by simp [spec_l05Ring.l0])
  | succ k1 =>
   have H:=HA.out
   clear HA
   simp only [spec_l05Ring.l0] at H
   have q2 : wr.cell? ⟨g,2,none⟩ = some (.slice A2 s0_2.length c2):=(HB.out.cell (bL w _ Q2.out)).trans Q2.out
   by_cases c5 : x7 < (l1.length : Int)
   ·rw [if_pos c5] at H
    have c5b0 : decide (x7 < (l1.length : Int)) = true:=decide_eq_true c5
    by_cases c6 : 0 ≤ x7
    ·rw [if_pos c6] at H
     have c6b0 : decide (0 ≤ x7) = true:=decide_eq_true c6
     obtain ⟨ad1,e1,hx_⟩:=Kd.at_int HR1.out x7 c6 c5
     cases e1
     have hx0:=cq HB.out hx_
     replace H:=bE.mp H
     obtain ⟨t1,A10,H⟩:=H
     have A1':=Aside0.mk A10
     clear A10
     cases t1 with
     | false =>
      replace H:=(show (some (([] : List (S78)),false,s0_0,s0_1)) = some (r1,r2,r3,r4) from by first | exact H | simpa using H)
      simp only [Option.some.injEq,Prod.mk.injEq] at H
      obtain ⟨rfl,rfl,rfl,rfl⟩:=H
      go_wp2
      go_quiet (with_reducible exact Calls.quiet_of ((spec_l00In.calls _ _ _ _ _ A1'.out).mono fun e w' h => ⟨h.1,h.2.out⟩))
      go_wp2
      go_ret2
      exact ⟨_,by first | rfl | (simp;done) | (simp [*];done),Kd.R_nil _ _ _ _ _,HI0.out.below ib,below_then HB0.out HL.out ib,KeepBut.of_below ib g none⟩
     | true =>
      replace H:=(show ((if 0 ≤ (rd l1 x7) then (if (rd l1 x7) < (s0_2.length : Int) then (if x6.length < 8796093022208 then (spec_l05Ring.l0 k1 l1 (x6 ++ [(⟨(rd_T78 s0_2 (rd l1 x7)).f0,(rd_T78 s0_2 (rd l1 x7)).f1⟩ : S78)]) (wrap64 (x7 + 1)) s0_0 s0_1 s0_2 s0_3) else (none)) else (none)) else (none))) = some (r1,r2,r3,r4) from by first | exact H | simpa using H)
      by_cases c10 : 0 ≤ (rd l1 x7)
      ·rw [if_pos c10] at H
       have c10b0 : decide (0 ≤ (rd l1 x7)) = true:=decide_eq_true c10
       by_cases c11 : (rd l1 x7) < (s0_2.length : Int)
       ·rw [if_pos c11] at H
        have c11b0 : decide ((rd l1 x7) < (s0_2.length : Int)) = true:=decide_eq_true c11
        by_cases c12 : x6.length < 8796093022208
        ·rw [if_pos c12] at H
         have LMc12:=Aside0.mk c12
         clear c12
         obtain ⟨y271,hy271⟩ : ∃ y_ : List (S78),y_ = (x6 ++ [(⟨(rd_T78 s0_2 (rd l1 x7)).f0,(rd_T78 s0_2 (rd l1 x7)).f1⟩ : S78)]):=⟨_,rfl⟩
         rw [← hy271] at H
         have Ny271:=Aside0.mk hy271
         clear hy271
         have H':=Aside0.mk H
         clear H
         obtain ⟨ad2,e2,z0_,z1_⟩:=Hpts_.out (rd l1 x7) c10 c11
         cases e2
         have z0:=cq HB.out z0_
         have z1:=cq HB.out z1_
         have hq2_:=Q2.out
         go_wp2
         go_quiet (with_reducible exact Calls.quiet_of ((spec_l00In.calls _ _ _ _ _ A1'.out).mono fun e w' h => ⟨h.1,h.2.out⟩))
         try go_wp2
         have n0_ : Aside0 (Kd.R k78 78 (wr.drewN nq) w.heap.size (fun _ => True) u6 x6):=⟨rO HO_6.out⟩
         have n1_ : Aside0 (Below w.heap.size w (wr.drewN nq)):=⟨ib⟩
         clear HO_6 HB q2 hx0 z0 z1
         generalize wr.drewN nq = ws at n0_ n1_ ⊢
         have HO_6 : Aside0 (Kd.R k78 78 ws.drew w.heap.size (fun _ => True) u6 x6):=⟨Kd.R_drew n0_.out⟩
         have HB : Aside0 (Below w.heap.size w ws.drew):=⟨below_drew1 n1_.out⟩
         clear n0_ n1_
         have Hq_:=Aside0.mk hq2_
         have Hx_:=Aside0.mk hx_
         have Hz0_:=Aside0.mk z0_
         have Hz1_:=Aside0.mk z1_
         clear hq2_ hx_ z0_ z1_
         replace c5:=eq_true c5
         replace c6:=eq_true c6
         replace c10:=eq_true c10
         replace c11:=eq_true c11
         refine start_ (n:=14) (S:=fun w' => w'.cell? ⟨g,2,none⟩ = some (.slice (some ad2) s0_2.length c2) ∧ w'.cell? (ad1.add x7.toNat) = some (.int .i64 (rd l1 x7)) ∧ w'.cell? (ad2.add ((rd l1 x7).toNat * 2)) = some (.int .i64 (rd_T78 s0_2 (rd l1 x7)).f0) ∧ w'.cell? ⟨(ad2.add ((rd l1 x7).toNat * 2)).block,(ad2.add ((rd l1 x7).toNat * 2)).off + 1,none⟩ = some (.int .i64 (rd_T78 s0_2 (rd l1 x7)).f1)) (ds:=[]) #[fF,fF,fF,fF,fF,fF,fF,fF,fF,fF,fF,fF,fF,fF] (by kernel_rfl) rfl rfl ⟨((HB.out.cell (bL w _ Hq_.out)).trans Hq_.out),((HB.out.cell (bL w _ Hx_.out)).trans Hx_.out),((HB.out.cell (bL w _ Hz0_.out)).trans Hz0_.out),((HB.out.cell (bL w _ Hz1_.out)).trans Hz1_.out)⟩ (fun hHeld => ?_);refine with_tabW spec_l05Ring.tab7 spec_l05Ring.bits7 (fun HT_ HW_ => ?_)
         generalize ws.drew = wt at HO_6 HB hHeld ⊢
         have q2 : wt.cell? ⟨g,2,none⟩ = _:=(HB.out.cell (bL w _ Hq_.out)).trans Hq_.out
         have hx0:=(HB.out.cell (bL w _ Hx_.out)).trans Hx_.out
         have z0:=(HB.out.cell (bL w _ Hz0_.out)).trans Hz0_.out
         have z1:=(HB.out.cell (bL w _ Hz1_.out)).trans Hz1_.out
         refine pu 0 27 HT_ ?_
         refine pu 1 28 HT_ ?_
         refine pu 2 29 HT_ ?_
         refine pu 3 30 HT_ ?_
         refine pu 5 32 HT_ ?_
         refine pu 6 33 HT_ ?_
         refine pu 7 34 HT_ ?_
         refine tk 4 31 HT_ HW_ hHeld ?_
         refine tk 8 35 HT_ HW_ hHeld ?_
         refine pu 9 36 HT_ ?_
         refine tk 10 37 HT_ HW_ hHeld ?_
         refine on 11 38 HT_ (fun K hK => ?_)
         refine value_ (w1:=?_) (v:=?_) (by rfl) rfl ?_ ?_
         rotate_left 2
         ·go_simp
          constructor
          ·rfl
          ·rfl
         refine hK.out _ _ ⟨(World.cell?_alloc_lt _ _ _ (bL _ _ (((HB.out.cell (bL w _ Hq_.out)).trans Hq_.out)))).trans (((HB.out.cell (bL w _ Hq_.out)).trans Hq_.out)),(World.cell?_alloc_lt _ _ _ (bL _ _ (((HB.out.cell (bL w _ Hx_.out)).trans Hx_.out)))).trans (((HB.out.cell (bL w _ Hx_.out)).trans Hx_.out)),(World.cell?_alloc_lt _ _ _ (bL _ _ (((HB.out.cell (bL w _ Hz0_.out)).trans Hz0_.out)))).trans (((HB.out.cell (bL w _ Hz0_.out)).trans Hz0_.out)),(World.cell?_alloc_lt _ _ _ (bL _ _ (((HB.out.cell (bL w _ Hz1_.out)).trans Hz1_.out)))).trans (((HB.out.cell (bL w _ Hz1_.out)).trans Hz1_.out))⟩ (fun hHeld => ?_)
         clear hK K
         refine norm_ (a':=?_) ?_ ?_
         rotate_left
         ·show Act.put _ (some 38) _ = _
          simp only [Act.put,List.setIfInBounds_toArray,List.set_cons_zero,List.set_cons_succ,i64_w,i32_w]
          rfl
         refine on 12 39 HT_ (fun K hK => ?_)
         refine Kd.R_append_step k78 (w0:=w) w.heap.size (by rfl) (.tmp 27) (.tmp 38) 30 78 (.agg #[(.int .i64 0),(.int .i64 0)]) 16 rfl Try.underlying30 info78 rfl (by decide) (by omega) u6 x6 (⟨(rd_T78 s0_2 (rd l1 x7)).f0,(rd_T78 s0_2 (rd l1 x7)).f1⟩ : S78) [.int .i64 ((rd_T78 s0_2 (rd l1 x7)).f0),.int .i64 ((rd_T78 s0_2 (rd l1 x7)).f1)] (fun _ => True) (fun _ => False) rfl rfl ?aP (fun _ hk => hk.elim) ?aF ?aO ?aB ?aS ?aL ?_
         (case aP => exact k78_mkM _ _ _ (⟨(rd_T78 s0_2 (rd l1 x7)).f0,(rd_T78 s0_2 (rd l1 x7)).f1⟩ : S78))
         (case aB => exact ib)
         (case aF => exact (fun _ _ => trivial))
         (case aO => exact (rO HO_6.out))
         (case aS => exact (below_size ib))
         (case aL => have:=LMc12.out;omega)
         intro v272 w13 ho hb hg hat
         rw [← Ny271.out] at ho
         clear HB HO_6 q2 hx0 z0 z1
         have HB:=Aside0.mk hb
         have HO273:=Aside0.mk ho
         clear ho hb hg hat
         refine hK.out _ _ ⟨((HB.out.cell (bL w _ Hq_.out)).trans Hq_.out),((HB.out.cell (bL w _ Hx_.out)).trans Hx_.out),((HB.out.cell (bL w _ Hz0_.out)).trans Hz0_.out),((HB.out.cell (bL w _ Hz1_.out)).trans Hz1_.out)⟩ (fun hHeld => ?_)
         clear hK K
         refine norm_ (a':=?_) ?_ ?_
         rotate_left
         ·show Act.put _ (some 39) _ = _
          simp only [Act.put,List.setIfInBounds_toArray,List.set_cons_zero,List.set_cons_succ,i64_w,i32_w]
          rfl
         refine pu 13 6 HT_ ?_
         refine done_ (done_of HT_.out (by kernel_rfl)) ?_
         try go_wp2
         go_roundg k1
         case measure => have:=HK1.out;omega
         case rel => exact ⟨(y271),(wrap64 (x7 + 1)),(by first | rfl | (simp;done) | (simp [*];done)),H',⟨by have:=HK1.out;omega⟩,⟨rO HO273.out⟩,⟨ib⟩⟩
        ·rw [if_neg c12] at H
         exact absurd H (by simp)
       ·rw [if_neg c11] at H
        exact absurd H (by simp)
      ·rw [if_neg c10] at H
       exact absurd H (by simp)
    ·rw [if_neg c6] at H
     exact absurd H (by simp)
   ·rw [if_neg c5] at H
    have c5b0 : decide (x7 < (l1.length : Int)) = false:=decide_eq_false c5
    simp only [Option.some.injEq,Prod.mk.injEq] at H
    obtain ⟨rfl,rfl,rfl,rfl⟩:=H
    go_wp2
    go_ret2
    exact ⟨_,by first | rfl | (simp;done) | (simp [*];done),rO HO_6.out,HI0.out.below ib,below_then HB0.out HL.out ib,KeepBut.of_below ib g none⟩
def spec_l02Ok.f (a0_0 : Int) (a0_1 : Int) : Option (Bool):=(spec_l00In.f a0_0 0 20000).bind fun t190 => (if t190 = true then ((spec_l00In.f a0_1 0 20000).bind fun t191 => (some t191)) else (some false))
theorem spec_l02Ok.calls (a0_0 : Int) (a0_1 : Int) (r : Bool) (w : World) (h : spec_l02Ok.f a0_0 a0_1 = some r) :
  Calls Try.prog 63 #[.agg #[.int .i64 a0_0,.int .i64 a0_1]] w fun e w' => e = .returned (.bool r) ∧ Below w.heap.size w w':=by
 have hu78:=Try.underlying78
 have HB:=Aside0.mk (Below.refl w.heap.size w)
 have H : ((spec_l00In.f a0_0 0 20000).bind fun t190 => (if t190 = true then ((spec_l00In.f a0_1 0 20000).bind fun t191 => (some t191)) else (some false))) = some r:=h
 clear h
 replace H:=bE.mp H
 obtain ⟨t190,A20,H⟩:=H
 replace H : (if t190 = true then ((spec_l00In.f a0_1 0 20000).bind fun t191 => (some t191)) else (some false)) = some r:=H
 have A2:=Aside0.mk A20
 clear A20
 by_cases c3 : t190 = true
 ·subst c3
  have H1 : ((spec_l00In.f a0_1 0 20000).bind fun t191 => (some t191)) = some r:=by rw [if_pos rfl] at H;exact H
  clear H
  have H:=H1
  clear H1
  replace H:=bE.mp H
  obtain ⟨t191,A40,H⟩:=H
  replace H : (some t191) = some r:=H
  have A4:=Aside0.mk A40
  clear A40
  obtain rfl:=Option.some.inj H
  go_enter Try.func63,Try.ntmps63
  go_wp2_with (first | ((with_reducible refine gate_dst (N:=1) rfl ?_);refine bx (cs:=#[.int .i64 a0_0,.int .i64 a0_1]) (t:=78) ?_;intro gb189 hg w5 hbox hb;have BK189:=Aside0.mk (hbox);have GW189:=zb hg;have GE189:=zb hg;replace HB:=sb hb;clear hb hbox hg;have hcz6_0:=ck BK189 0;have hcz6_1:=ck BK189 1;have hfz6_0:=blk_frozen BK189.out 0;have hfz6_1:=blk_frozen BK189.out 1) | ((with_reducible refine gate_callee (f:=38) rfl ?_);refine goesL_ (some 5) rfl rfl Try.func38 (by kernel_rfl) rfl #[.int .i64 a0_0,.int .i64 0,.int .i64 20000] rfl (by (try simp only [mT,mC,mN]);first | done | rfl | (simp only [lD,lT];rfl)) ?_;(with_reducible refine (spec_l00In.calls a0_0 0 20000 true _ A2.out).mono ?_);rintro e w' ⟨rfl,⟨nd,rfl⟩⟩;refine ⟨_,rfl,?_⟩) | (go_at_call 38;(with_reducible refine (spec_l00In.calls a0_1 0 20000 t191 _ A4.out).mono ?_);rintro e w' ⟨rfl,⟨nd,rfl⟩⟩))
  go_ret
  exact ⟨by first | rfl | (simp [errW_none,errW_some] <;> rfl) | (simp [*,errW_none,errW_some] <;> rfl),ib⟩
 ·replace c3:=Bool.eq_false_iff.mpr c3
  subst c3
  have H1 : (some false) = some r:=by rw [if_neg (show ¬ (false = true) by decide)] at H;exact H
  clear H
  have H:=H1
  clear H1
  obtain rfl:=Option.some.inj H
  go_enter Try.func63,Try.ntmps63
  go_wp2_with (first | ((with_reducible refine gate_dst (N:=1) rfl ?_);refine bx (cs:=#[.int .i64 a0_0,.int .i64 a0_1]) (t:=78) ?_;intro gb189 hg w7 hbox hb;have BK189:=Aside0.mk (hbox);have GW189:=zb hg;have GE189:=zb hg;replace HB:=sb hb;clear hb hbox hg;have hcz8_0:=ck BK189 0;have hcz8_1:=ck BK189 1;have hfz8_0:=blk_frozen BK189.out 0;have hfz8_1:=blk_frozen BK189.out 1) | ((with_reducible refine gate_callee (f:=38) rfl ?_);refine goesL_ (some 5) rfl rfl Try.func38 (by kernel_rfl) rfl #[.int .i64 a0_0,.int .i64 0,.int .i64 20000] rfl (by (try simp only [mT,mC,mN]);first | done | rfl | (simp only [lD,lT];rfl)) ?_;(with_reducible refine (spec_l00In.calls a0_0 0 20000 false _ A2.out).mono ?_);rintro e w' ⟨rfl,⟨nd,rfl⟩⟩;refine ⟨_,rfl,?_⟩))
  go_ret
  exact ⟨by first | rfl | (simp [errW_none,errW_some] <;> rfl) | (simp [*,errW_none,errW_some] <;> rfl),ib⟩
def spec_l02Cross.f (a0_0 : Int) (a0_1 : Int) (a1_0 : Int) (a1_1 : Int) (a2_0 : Int) (a2_1 : Int) : Option (Int):=some (wrap64 ((wrap64 ((wrap64 (a1_0 - a0_0)) * (wrap64 (a2_1 - a0_1)))) - (wrap64 ((wrap64 (a1_1 - a0_1)) * (wrap64 (a2_0 - a0_0))))))
theorem spec_l02Cross.calls (a0_0 : Int) (a0_1 : Int) (a1_0 : Int) (a1_1 : Int) (a2_0 : Int) (a2_1 : Int) (r : Int) (w : World) (h : spec_l02Cross.f a0_0 a0_1 a1_0 a1_1 a2_0 a2_1 = some r) :
  Calls Try.prog 99 #[.agg #[.int .i64 a0_0,.int .i64 a0_1],.agg #[.int .i64 a1_0,.int .i64 a1_1],.agg #[.int .i64 a2_0,.int .i64 a2_1]] w fun e w' => e = .returned (.int .i64 r) ∧ Below w.heap.size w w':=by
 have hu78:=Try.underlying78
 have HB:=Aside0.mk (Below.refl w.heap.size w)
 have H : (some (wrap64 ((wrap64 ((wrap64 (a1_0 - a0_0)) * (wrap64 (a2_1 - a0_1)))) - (wrap64 ((wrap64 (a1_1 - a0_1)) * (wrap64 (a2_0 - a0_0))))))) = some r:=h
 clear h
 obtain rfl:=Option.some.inj H
 go_enter Try.func99,Try.ntmps99
 go_wp2_with (first | ((with_reducible refine gate_dst (N:=3) rfl ?_);refine bx (cs:=#[.int .i64 a0_0,.int .i64 a0_1]) (t:=78) ?_;intro gb192 hg w4 hbox hb;have BK192:=Aside0.mk (hbox);have GW192:=zb hg;have GE192:=zb hg;replace HB:=sb hb;clear hb hbox hg) | ((with_reducible refine gate_dst (N:=4) rfl ?_);refine bx (cs:=#[.int .i64 a1_0,.int .i64 a1_1]) (t:=78) ?_;intro gb193 hg w5 hbox hb;have BK193:=Aside0.mk (hbox);have GW193:=zb hg;have GE193:=zb hg;replace HB:=sb hb;have NB192_193:=nl BK192 hg;have NB193_192:=ng BK192 hg;replace BK192:=kb BK192 hb;clear hb hbox hg) | ((with_reducible refine gate_dst (N:=5) rfl ?_);refine bx (cs:=#[.int .i64 a2_0,.int .i64 a2_1]) (t:=78) ?_;intro gb194 hg w6 hbox hb;have BK194:=Aside0.mk (hbox);have GW194:=zb hg;have GE194:=zb hg;replace HB:=sb hb;have NB192_194:=nl BK192 hg;have NB194_192:=ng BK192 hg;replace BK192:=kb BK192 hb;have NB193_194:=nl BK193 hg;have NB194_193:=ng BK193 hg;replace BK193:=kb BK193 hb;clear hb hbox hg;have hnb7:=NB193_192.out;have hnc7:=NB192_193.out;have hnb8:=NB193_194.out;have hnc8:=NB194_193.out;have hcz9_0:=ck BK193 0;have hcz9_1:=ck BK193 1;have hfz9_0:=blk_frozen BK193.out 0;have hfz9_1:=blk_frozen BK193.out 1;have hnb10:=NB192_194.out;have hnc10:=NB194_192.out;have hcz11_0:=ck BK192 0;have hcz11_1:=ck BK192 1;have hfz11_0:=blk_frozen BK192.out 0;have hfz11_1:=blk_frozen BK192.out 1;have hcz12_0:=ck BK194 0;have hcz12_1:=ck BK194 1;have hfz12_0:=blk_frozen BK194.out 0;have hfz12_1:=blk_frozen BK194.out 1))
 go_ret
 exact ⟨by first | rfl | (simp [errW_none,errW_some] <;> rfl) | (simp [*,errW_none,errW_some] <;> rfl),ib⟩
def spec_l02Side.f (a0_0 : Int) (a0_1 : Int) (a1_0 : Int) (a1_1 : Int) (a2_0 : Int) (a2_1 : Int) : Option (Int):=(spec_l02Cross.f a0_0 a0_1 a1_0 a1_1 a2_0 a2_1).bind fun t198 => (if t198 > 0 then (some 1) else (if t198 < 0 then (some (-1)) else (some 0)))
theorem spec_l02Side.calls (a0_0 : Int) (a0_1 : Int) (a1_0 : Int) (a1_1 : Int) (a2_0 : Int) (a2_1 : Int) (r : Int) (w : World) (h : spec_l02Side.f a0_0 a0_1 a1_0 a1_1 a2_0 a2_1 = some r) :
  Calls Try.prog 86 #[.agg #[.int .i64 a0_0,.int .i64 a0_1],.agg #[.int .i64 a1_0,.int .i64 a1_1],.agg #[.int .i64 a2_0,.int .i64 a2_1]] w fun e w' => e = .returned (.int .i64 r) ∧ Below w.heap.size w w':=by
 have hu78:=Try.underlying78
 have HB:=Aside0.mk (Below.refl w.heap.size w)
 have H : ((spec_l02Cross.f a0_0 a0_1 a1_0 a1_1 a2_0 a2_1).bind fun t198 => (if t198 > 0 then (some 1) else (if t198 < 0 then (some (-1)) else (some 0)))) = some r:=h
 clear h
 replace H:=bE.mp H
 obtain ⟨t198,A40,H⟩:=H
 replace H : (if t198 > 0 then (some 1) else (if t198 < 0 then (some (-1)) else (some 0))) = some r:=H
 have A4:=Aside0.mk A40
 clear A40
 by_cases c5 : t198 > 0
 ·rw [if_pos c5] at H
  have c5b0 : decide (0 < t198) = true:=decide_eq_true c5
  clear c5
  obtain rfl:=Option.some.inj H
  go_enter Try.func86,Try.ntmps86
  go_wp2_with (first | ((with_reducible refine gate_dst (N:=3) rfl ?_);refine bx (cs:=#[.int .i64 a0_0,.int .i64 a0_1]) (t:=78) ?_;intro gb195 hg w6 hbox hb;have BK195:=Aside0.mk (hbox);have GW195:=zb hg;have GE195:=zb hg;replace HB:=sb hb;clear hb hbox hg) | ((with_reducible refine gate_dst (N:=4) rfl ?_);refine bx (cs:=#[.int .i64 a1_0,.int .i64 a1_1]) (t:=78) ?_;intro gb196 hg w7 hbox hb;have BK196:=Aside0.mk (hbox);have GW196:=zb hg;have GE196:=zb hg;replace HB:=sb hb;have NB195_196:=nl BK195 hg;have NB196_195:=ng BK195 hg;replace BK195:=kb BK195 hb;clear hb hbox hg) | ((with_reducible refine gate_dst (N:=5) rfl ?_);refine bx (cs:=#[.int .i64 a2_0,.int .i64 a2_1]) (t:=78) ?_;intro gb197 hg w8 hbox hb;have BK197:=Aside0.mk (hbox);have GW197:=zb hg;have GE197:=zb hg;replace HB:=sb hb;have NB195_197:=nl BK195 hg;have NB197_195:=ng BK195 hg;replace BK195:=kb BK195 hb;have NB196_197:=nl BK196 hg;have NB197_196:=ng BK196 hg;replace BK196:=kb BK196 hb;clear hb hbox hg;have hnb9:=NB195_196.out;have hnc9:=NB196_195.out;have hnb10:=NB195_197.out;have hnc10:=NB197_195.out;have hcz11_0:=ck BK195 0;have hcz11_1:=ck BK195 1;have hfz11_0:=blk_frozen BK195.out 0;have hfz11_1:=blk_frozen BK195.out 1;have hnb12:=NB196_197.out;have hnc12:=NB197_196.out;have hcz13_0:=ck BK196 0;have hcz13_1:=ck BK196 1;have hfz13_0:=blk_frozen BK196.out 0;have hfz13_1:=blk_frozen BK196.out 1;have hcz14_0:=ck BK197 0;have hcz14_1:=ck BK197 1;have hfz14_0:=blk_frozen BK197.out 0;have hfz14_1:=blk_frozen BK197.out 1) | ((with_reducible refine gate_callee (f:=99) rfl ?_);refine goesL_ (some 11) rfl rfl Try.func99 (by kernel_rfl) rfl #[.agg #[.int .i64 a0_0,.int .i64 a0_1],.agg #[.int .i64 a1_0,.int .i64 a1_1],.agg #[.int .i64 a2_0,.int .i64 a2_1]] rfl (by (try simp only [mT,mC,mN]);first | done | rfl | (simp only [lD,lT];rfl)) ?_;(with_reducible refine (spec_l02Cross.calls a0_0 a0_1 a1_0 a1_1 a2_0 a2_1 t198 _ A4.out).mono ?_);rintro e w15 ⟨rfl,hb⟩;refine ⟨_,rfl,?_⟩;replace BK195:=kb BK195 hb;replace BK196:=kb BK196 hb;replace BK197:=kb BK197 hb;replace HB:=sb hb;(try clear hb);(try clear hb2);(try clear hk);(try clear hi)))
  go_ret
  exact ⟨by first | rfl | (simp [errW_none,errW_some] <;> rfl) | (simp [*,errW_none,errW_some] <;> rfl),ib⟩
 ·rw [if_neg c5] at H
  have c5b0 : decide (0 < t198) = false:=decide_eq_false c5
  clear c5
  by_cases c16 : t198 < 0
  ·rw [if_pos c16] at H
   have c16b0 : decide (t198 < 0) = true:=decide_eq_true c16
   clear c16
   obtain rfl:=Option.some.inj H
   go_enter Try.func86,Try.ntmps86
   go_wp2_with (first | ((with_reducible refine gate_dst (N:=3) rfl ?_);refine bx (cs:=#[.int .i64 a0_0,.int .i64 a0_1]) (t:=78) ?_;intro gb195 hg w17 hbox hb;have BK195:=Aside0.mk (hbox);have GW195:=zb hg;have GE195:=zb hg;replace HB:=sb hb;clear hb hbox hg) | ((with_reducible refine gate_dst (N:=4) rfl ?_);refine bx (cs:=#[.int .i64 a1_0,.int .i64 a1_1]) (t:=78) ?_;intro gb196 hg w18 hbox hb;have BK196:=Aside0.mk (hbox);have GW196:=zb hg;have GE196:=zb hg;replace HB:=sb hb;have NB195_196:=nl BK195 hg;have NB196_195:=ng BK195 hg;replace BK195:=kb BK195 hb;clear hb hbox hg) | ((with_reducible refine gate_dst (N:=5) rfl ?_);refine bx (cs:=#[.int .i64 a2_0,.int .i64 a2_1]) (t:=78) ?_;intro gb197 hg w19 hbox hb;have BK197:=Aside0.mk (hbox);have GW197:=zb hg;have GE197:=zb hg;replace HB:=sb hb;have NB195_197:=nl BK195 hg;have NB197_195:=ng BK195 hg;replace BK195:=kb BK195 hb;have NB196_197:=nl BK196 hg;have NB197_196:=ng BK196 hg;replace BK196:=kb BK196 hb;clear hb hbox hg;have hnb20:=NB195_196.out;have hnc20:=NB196_195.out;have hnb21:=NB195_197.out;have hnc21:=NB197_195.out;have hcz22_0:=ck BK195 0;have hcz22_1:=ck BK195 1;have hfz22_0:=blk_frozen BK195.out 0;have hfz22_1:=blk_frozen BK195.out 1;have hnb23:=NB196_197.out;have hnc23:=NB197_196.out;have hcz24_0:=ck BK196 0;have hcz24_1:=ck BK196 1;have hfz24_0:=blk_frozen BK196.out 0;have hfz24_1:=blk_frozen BK196.out 1;have hcz25_0:=ck BK197 0;have hcz25_1:=ck BK197 1;have hfz25_0:=blk_frozen BK197.out 0;have hfz25_1:=blk_frozen BK197.out 1) | ((with_reducible refine gate_callee (f:=99) rfl ?_);refine goesL_ (some 11) rfl rfl Try.func99 (by kernel_rfl) rfl #[.agg #[.int .i64 a0_0,.int .i64 a0_1],.agg #[.int .i64 a1_0,.int .i64 a1_1],.agg #[.int .i64 a2_0,.int .i64 a2_1]] rfl (by (try simp only [mT,mC,mN]);first | done | rfl | (simp only [lD,lT];rfl)) ?_;(with_reducible refine (spec_l02Cross.calls a0_0 a0_1 a1_0 a1_1 a2_0 a2_1 t198 _ A4.out).mono ?_);rintro e w26 ⟨rfl,hb⟩;refine ⟨_,rfl,?_⟩;replace BK195:=kb BK195 hb;replace BK196:=kb BK196 hb;replace BK197:=kb BK197 hb;replace HB:=sb hb;(try clear hb);(try clear hb2);(try clear hk);(try clear hi)))
   go_ret
   exact ⟨by first | rfl | (simp [errW_none,errW_some] <;> rfl) | (simp [*,errW_none,errW_some] <;> rfl),ib⟩
  ·rw [if_neg c16] at H
   have c16b0 : decide (t198 < 0) = false:=decide_eq_false c16
   clear c16
   obtain rfl:=Option.some.inj H
   go_enter Try.func86,Try.ntmps86
   go_wp2_with (first | ((with_reducible refine gate_dst (N:=3) rfl ?_);refine bx (cs:=#[.int .i64 a0_0,.int .i64 a0_1]) (t:=78) ?_;intro gb195 hg w27 hbox hb;have BK195:=Aside0.mk (hbox);have GW195:=zb hg;have GE195:=zb hg;replace HB:=sb hb;clear hb hbox hg) | ((with_reducible refine gate_dst (N:=4) rfl ?_);refine bx (cs:=#[.int .i64 a1_0,.int .i64 a1_1]) (t:=78) ?_;intro gb196 hg w28 hbox hb;have BK196:=Aside0.mk (hbox);have GW196:=zb hg;have GE196:=zb hg;replace HB:=sb hb;have NB195_196:=nl BK195 hg;have NB196_195:=ng BK195 hg;replace BK195:=kb BK195 hb;clear hb hbox hg) | ((with_reducible refine gate_dst (N:=5) rfl ?_);refine bx (cs:=#[.int .i64 a2_0,.int .i64 a2_1]) (t:=78) ?_;intro gb197 hg w29 hbox hb;have BK197:=Aside0.mk (hbox);have GW197:=zb hg;have GE197:=zb hg;replace HB:=sb hb;have NB195_197:=nl BK195 hg;have NB197_195:=ng BK195 hg;replace BK195:=kb BK195 hb;have NB196_197:=nl BK196 hg;have NB197_196:=ng BK196 hg;replace BK196:=kb BK196 hb;clear hb hbox hg;have hnb30:=NB195_196.out;have hnc30:=NB196_195.out;have hnb31:=NB195_197.out;have hnc31:=NB197_195.out;have hcz32_0:=ck BK195 0;have hcz32_1:=ck BK195 1;have hfz32_0:=blk_frozen BK195.out 0;have hfz32_1:=blk_frozen BK195.out 1;have hnb33:=NB196_197.out;have hnc33:=NB197_196.out;have hcz34_0:=ck BK196 0;have hcz34_1:=ck BK196 1;have hfz34_0:=blk_frozen BK196.out 0;have hfz34_1:=blk_frozen BK196.out 1;have hcz35_0:=ck BK197 0;have hcz35_1:=ck BK197 1;have hfz35_0:=blk_frozen BK197.out 0;have hfz35_1:=blk_frozen BK197.out 1) | ((with_reducible refine gate_callee (f:=99) rfl ?_);refine goesL_ (some 11) rfl rfl Try.func99 (by kernel_rfl) rfl #[.agg #[.int .i64 a0_0,.int .i64 a0_1],.agg #[.int .i64 a1_0,.int .i64 a1_1],.agg #[.int .i64 a2_0,.int .i64 a2_1]] rfl (by (try simp only [mT,mC,mN]);first | done | rfl | (simp only [lD,lT];rfl)) ?_;(with_reducible refine (spec_l02Cross.calls a0_0 a0_1 a1_0 a1_1 a2_0 a2_1 t198 _ A4.out).mono ?_);rintro e w36 ⟨rfl,hb⟩;refine ⟨_,rfl,?_⟩;replace BK195:=kb BK195 hb;replace BK196:=kb BK196 hb;replace BK197:=kb BK197 hb;replace HB:=sb hb;(try clear hb);(try clear hb2);(try clear hk);(try clear hi)))
   go_ret
   exact ⟨by first | rfl | (simp [errW_none,errW_some] <;> rfl) | (simp [*,errW_none,errW_some] <;> rfl),ib⟩
def spec_l00Min.f (a0 : Int) (a1 : Int) : Option (Int):=if a0 < a1 then (some a0) else (some a1)
theorem spec_l00Min.calls (a0 : Int) (a1 : Int) (r : Int) (w : World) (h : spec_l00Min.f a0 a1 = some r) :
  Calls Try.prog 87 #[.int .i64 a0,.int .i64 a1] w fun e w' => e = .returned (.int .i64 r) ∧ Drawn0 w w':=by
 have H : (if a0 < a1 then (some a0) else (some a1)) = some r:=h
 clear h
 by_cases c3 : a0 < a1
 ·rw [if_pos c3] at H
  have c3b0 : decide (a0 < a1) = true:=decide_eq_true c3
  clear c3
  obtain rfl:=Option.some.inj H
  go_enter Try.func87,Try.ntmps87
  go_wp2
  go_ret
  exact ⟨by first | rfl | (simp;done) | (simp [*];done),by repeat (first | exact Drawn0.refl _ | apply Drawn0.step)⟩
 ·rw [if_neg c3] at H
  have c3b0 : decide (a0 < a1) = false:=decide_eq_false c3
  clear c3
  obtain rfl:=Option.some.inj H
  go_enter Try.func87,Try.ntmps87
  go_wp2
  go_ret
  exact ⟨by first | rfl | (simp;done) | (simp [*];done),by repeat (first | exact Drawn0.refl _ | apply Drawn0.step)⟩
def spec_l00Max.f (a0 : Int) (a1 : Int) : Option (Int):=if a0 > a1 then (some a0) else (some a1)
theorem spec_l00Max.calls (a0 : Int) (a1 : Int) (r : Int) (w : World) (h : spec_l00Max.f a0 a1 = some r) :
  Calls Try.prog 88 #[.int .i64 a0,.int .i64 a1] w fun e w' => e = .returned (.int .i64 r) ∧ Drawn0 w w':=by
 have H : (if a0 > a1 then (some a0) else (some a1)) = some r:=h
 clear h
 by_cases c3 : a0 > a1
 ·rw [if_pos c3] at H
  have c3b0 : decide (a1 < a0) = true:=decide_eq_true c3
  clear c3
  obtain rfl:=Option.some.inj H
  go_enter Try.func88,Try.ntmps88
  go_wp2
  go_ret
  exact ⟨by first | rfl | (simp;done) | (simp [*];done),by repeat (first | exact Drawn0.refl _ | apply Drawn0.step)⟩
 ·rw [if_neg c3] at H
  have c3b0 : decide (a1 < a0) = false:=decide_eq_false c3
  clear c3
  obtain rfl:=Option.some.inj H
  go_enter Try.func88,Try.ntmps88
  go_wp2
  go_ret
  exact ⟨by first | rfl | (simp;done) | (simp [*];done),by repeat (first | exact Drawn0.refl _ | apply Drawn0.step)⟩
end Go.Proofs.Ytpeebobdbaemiaa.PFnExactEdgesOf
