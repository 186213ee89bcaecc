/- Contracts of functions that FnExactUnusedPoints reaches, out of the lines of the kit's print. -/
import Derived.Test.YtnnchaggdnlfmaaQFnExactUnusedPointsx0
import Derived.Test.YtnnchaggdnlfmaaQFnExactUnusedPointsx9
import Derived.Test.YtnnchaggdnlfmaaQFnExactUnusedPointsx10
namespace Go.Proofs.Ytnnchaggdnlfmaa.PFnExactUnusedPoints
set_option maxHeartbeats 8000000
set_option maxRecDepth 100000
open Go.RowKit Go.Proofs.YtnnchaggdnlfmaaW.PrintWords Go.Proofs.YtnnchaggdnlfmaaW.PrintLast Go.Proofs.YtnnchaggdnlfmaaW.PrintMore
open Bool renaming true → tT, false → fF
open Go.World renaming block_lt_of_cell? → bL
open List renaming length_take → lT, length_drop → lD, map_toArray → mT, map_cons → mC, map_nil → mN
open Option renaming bind_eq_some_iff → bE
attribute [local go_sem] max2_int min2_int max_two min_two max_three min_three max_four min_four
set_option linter.unusedVariables false
set_option linter.unusedSimpArgs false
mutual
def spec_UnusedPoints.l0 : Nat → List Int → Int → Int → Int → List (S73) → List (S103) → Option (List Int × Int)
 | 0,_,_,_,_,_,_ => none
 | k + 1,x4,x5,x264000,x264001,x264002,x264003 => if x5 < (x264002.length : Int) then (spec_UnusedPoints.l1 k x4 x5 false 0 x264000 x264001 x264002 x264003) else (some (x4,0))
def spec_UnusedPoints.l1 : Nat → List Int → Int → Bool → Int → Int → Int → List (S73) → List (S103) → Option (List Int × Int)
 | 0,_,_,_,_,_,_,_,_ => none
 | k + 1,x4,x5,x6,x7,x264000,x264001,x264002,x264003 => if x7 < (x264003.length : Int) then (if x6 = true then (spec_UnusedPoints.l1 k x4 x5 true (wrap64 (x7 + 1)) x264000 x264001 x264002 x264003) else (if 0 ≤ x7 then ((spec_l00Has.f k ((rd_T103 x264003 x7).f1) x5).bind fun t271 => (spec_UnusedPoints.l1 k x4 x5 t271 (wrap64 (x7 + 1)) x264000 x264001 x264002 x264003)) else (none))) else (if x6 = true then (spec_UnusedPoints.l0 k x4 (wrap64 (x5 + 1)) x264000 x264001 x264002 x264003) else (if x4.length < 17592186044416 then (spec_UnusedPoints.l0 k (x4 ++ [x5]) (wrap64 (x5 + 1)) x264000 x264001 x264002 x264003) else (none)))
end
def spec_UnusedPoints.f (k : Nat) (a0_0 : Int) (a0_1 : Int) (l0_2 : List (S73)) (l0_3 : List (S103)) : Option (List Int × Int):=(spec_l05Ok.f k a0_0 a0_1 l0_2 l0_3).bind fun bt264 => (if bt264.1 = true then (spec_UnusedPoints.l0 k (([] : List Int)) 0 bt264.2.1 bt264.2.2 l0_2 l0_3) else (some (([] : List Int),1)))
theorem spec_UnusedPoints.calls (k : Nat) (a0_0 : Int) (a0_1 : Int) (A0_2 : Option Addr) (c0_2 : Nat) (l0_2 : List (S73)) (A0_3 : Option Addr) (c0_3 : Nat) (l0_3 : List (S103)) (r1 : List Int) (r2 : Int) (w : World) (hr0_2 : Kd.C k73 w A0_2 l0_2.length l0_2) (hc0_2 : l0_2.length ≤ c0_2) (hr0_3 : Kd.C k103 w A0_3 l0_3.length l0_3) (hc0_3 : l0_3.length ≤ c0_3) (h : spec_UnusedPoints.f k a0_0 a0_1 l0_2 l0_3 = some (r1,r2)) :
  Calls Try.prog 53 #[.agg #[.int .i64 a0_0,.int .i64 a0_1,.slice A0_2 l0_2.length c0_2,.slice A0_3 l0_3.length c0_3]] w fun e w' => ∃ v0_ : Value,e = .returned (.tuple #[v0_,.int .i64 r2]) ∧ Kd.R (Kd.int .i64) 2 w' w.heap.size (fun _ => True) v0_ r1 ∧ Below w.heap.size w w':=by
 have hu51:=Try.underlying51
 have HR0_2:=Aside0.mk hr0_2
 have HC0_2:=Aside0.mk hc0_2
 clear hr0_2 hc0_2
 have HR0_3:=Aside0.mk hr0_3
 have HC0_3:=Aside0.mk hc0_3
 clear hr0_3 hc0_3
 have HB:=Aside0.mk (Below.refl w.heap.size w)
 have H : ((spec_l05Ok.f k a0_0 a0_1 l0_2 l0_3).bind fun bt264 => (if bt264.1 = true then (spec_UnusedPoints.l0 k (([] : List Int)) 0 bt264.2.1 bt264.2.2 l0_2 l0_3) else (some (([] : List Int),1)))) = some (r1,r2):=h
 clear h
 obtain ⟨⟨b,x,y⟩,A10,H⟩:=bE.mp H
 have A1_:=Aside0.mk A10
 clear A10
 cases b with
 | false =>
  replace H : some (([] : List Int),(1 : Int)) = some (r1,r2):=H
  simp only [Option.some.injEq,Prod.mk.injEq] at H
  obtain ⟨rfl,rfl⟩:=H
  go_enter Try.func53,Try.ntmps53
  go_wp2_with (first | ((with_reducible refine gate_dst (N:=1) rfl ?_);refine bx (cs:=#[.int .i64 a0_0,.int .i64 a0_1,.slice A0_2 l0_2.length c0_2,.slice A0_3 l0_3.length c0_3]) (t:=51) ?_;intro gb hg w3 hbox hb;have HI:=Aside0.mk (show IsS51 w w3 gb a0_0 a0_1 l0_2 l0_3 from ⟨A0_2,c0_2,A0_3,c0_3,hbox,Nat.le_of_eq hg.symm,HR0_2.out,HR0_3.out⟩);have n1_:=Aside0.mk (below_step ib hb);clear HB;have HB:=n1_;clear n1_ hbox hb hg) | ((with_reducible refine gate_callee (f:=74) rfl ?_);refine goesL_ _ rfl rfl Try.func74 (by kernel_rfl) rfl #[.pointer (some ⟨gb,0,none⟩)] rfl (by (try simp only [mT,mC,mN]);first | done | rfl) ?_;(with_reducible refine (spec_l05Ok.calls _ gb a0_0 a0_1 l0_2 l0_3 _ _ _ w _ (by repeat (first | exact HI.out | apply IsS51.alloc | apply IsS51.drewN | apply IsS51.drew)) ib A1_.out).mono ?_);rintro e w5 ⟨rfl,hi,hb,hk⟩;refine ⟨_,rfl,?_⟩;have n1_:=Aside0.mk hb;have n2_:=Aside0.mk hi;clear hi hb hk HB HI;have HB:=n1_;have HI:=n2_;clear n1_ n2_;obtain ⟨A2q,c2q,A3q,c3q,hbx_,_,_,hr3_⟩:=HI.out;have BK:=Aside0.mk hbx_;have HR3:=Aside0.mk hr3_;clear hbx_ hr3_;(try clear hcz0 hcz1 hcz2 hcz3);have hcz0 : w5.cell? ⟨gb,0,none⟩ = some (.int .i64 x):=(blk_cell BK.out 0).trans rfl;have hcz1 : w5.cell? ⟨gb,1,none⟩ = some (.int .i64 y):=(blk_cell BK.out 1).trans rfl;have hcz2 : w5.cell? ⟨gb,2,none⟩ = some (.slice A2q l0_2.length c2q):=(blk_cell BK.out 2).trans rfl;have hcz3 : w5.cell? ⟨gb,3,none⟩ = some (.slice A3q l0_3.length c3q):=(blk_cell BK.out 3).trans rfl) | (go_at_call 74;(with_reducible refine (spec_l05Ok.calls _ gb a0_0 a0_1 l0_2 l0_3 _ _ _ w _ (by repeat (first | exact HI.out | apply IsS51.alloc | apply IsS51.drewN | apply IsS51.drew)) ib A1_.out).mono ?_);rintro e w5 ⟨rfl,hi,hb,hk⟩;have n1_:=Aside0.mk hb;have n2_:=Aside0.mk hi;clear hi hb hk HB HI;have HB:=n1_;have HI:=n2_;clear n1_ n2_;obtain ⟨A2q,c2q,A3q,c3q,hbx_,_,_,hr3_⟩:=HI.out;have BK:=Aside0.mk hbx_;have HR3:=Aside0.mk hr3_;clear hbx_ hr3_;(try clear hcz0 hcz1 hcz2 hcz3);have hcz0 : w5.cell? ⟨gb,0,none⟩ = some (.int .i64 x):=(blk_cell BK.out 0).trans rfl;have hcz1 : w5.cell? ⟨gb,1,none⟩ = some (.int .i64 y):=(blk_cell BK.out 1).trans rfl;have hcz2 : w5.cell? ⟨gb,2,none⟩ = some (.slice A2q l0_2.length c2q):=(blk_cell BK.out 2).trans rfl;have hcz3 : w5.cell? ⟨gb,3,none⟩ = some (.slice A3q l0_3.length c3q):=(blk_cell BK.out 3).trans rfl))
  go_ret2
  exact ⟨.slice none 0 0,(by first | rfl | (simp;done) | (simp [*];done)),Kd.R_nil _ _ _ _ _,ib⟩
 | true =>
  replace H:=(if_pos rfl).symm.trans H
  have H':=Aside0.mk (show spec_UnusedPoints.l0 k ([] : List Int) 0 x y l0_2 l0_3 = some (r1,r2) from H)
  clear H
  go_enter Try.func53,Try.ntmps53
  go_wp2_with (first | ((with_reducible refine gate_dst (N:=1) rfl ?_);refine bx (cs:=#[.int .i64 a0_0,.int .i64 a0_1,.slice A0_2 l0_2.length c0_2,.slice A0_3 l0_3.length c0_3]) (t:=51) ?_;intro gb hg w3 hbox hb;have HI:=Aside0.mk (show IsS51 w w3 gb a0_0 a0_1 l0_2 l0_3 from ⟨A0_2,c0_2,A0_3,c0_3,hbox,Nat.le_of_eq hg.symm,HR0_2.out,HR0_3.out⟩);have n1_:=Aside0.mk (below_step ib hb);clear HB;have HB:=n1_;clear n1_ hbox hb hg) | ((with_reducible refine gate_callee (f:=74) rfl ?_);refine goesL_ _ rfl rfl Try.func74 (by kernel_rfl) rfl #[.pointer (some ⟨gb,0,none⟩)] rfl (by (try simp only [mT,mC,mN]);first | done | rfl) ?_;(with_reducible refine (spec_l05Ok.calls _ gb a0_0 a0_1 l0_2 l0_3 _ _ _ w _ (by repeat (first | exact HI.out | apply IsS51.alloc | apply IsS51.drewN | apply IsS51.drew)) ib A1_.out).mono ?_);rintro e w5 ⟨rfl,hi,hb,hk⟩;refine ⟨_,rfl,?_⟩;have n1_:=Aside0.mk hb;have n2_:=Aside0.mk hi;clear hi hb hk HB HI;have HB:=n1_;have HI:=n2_;clear n1_ n2_;obtain ⟨A2q,c2q,A3q,c3q,hbx_,_,_,hr3_⟩:=HI.out;have BK:=Aside0.mk hbx_;have HR3:=Aside0.mk hr3_;clear hbx_ hr3_;(try clear hcz0 hcz1 hcz2 hcz3);have hcz0 : w5.cell? ⟨gb,0,none⟩ = some (.int .i64 x):=(blk_cell BK.out 0).trans rfl;have hcz1 : w5.cell? ⟨gb,1,none⟩ = some (.int .i64 y):=(blk_cell BK.out 1).trans rfl;have hcz2 : w5.cell? ⟨gb,2,none⟩ = some (.slice A2q l0_2.length c2q):=(blk_cell BK.out 2).trans rfl;have hcz3 : w5.cell? ⟨gb,3,none⟩ = some (.slice A3q l0_3.length c3q):=(blk_cell BK.out 3).trans rfl) | (go_at_call 74;(with_reducible refine (spec_l05Ok.calls _ gb a0_0 a0_1 l0_2 l0_3 _ _ _ w _ (by repeat (first | exact HI.out | apply IsS51.alloc | apply IsS51.drewN | apply IsS51.drew)) ib A1_.out).mono ?_);rintro e w5 ⟨rfl,hi,hb,hk⟩;have n1_:=Aside0.mk hb;have n2_:=Aside0.mk hi;clear hi hb hk HB HI;have HB:=n1_;have HI:=n2_;clear n1_ n2_;obtain ⟨A2q,c2q,A3q,c3q,hbx_,_,_,hr3_⟩:=HI.out;have BK:=Aside0.mk hbx_;have HR3:=Aside0.mk hr3_;clear hbx_ hr3_;(try clear hcz0 hcz1 hcz2 hcz3);have hcz0 : w5.cell? ⟨gb,0,none⟩ = some (.int .i64 x):=(blk_cell BK.out 0).trans rfl;have hcz1 : w5.cell? ⟨gb,1,none⟩ = some (.int .i64 y):=(blk_cell BK.out 1).trans rfl;have hcz2 : w5.cell? ⟨gb,2,none⟩ = some (.slice A2q l0_2.length c2q):=(blk_cell BK.out 2).trans rfl;have hcz3 : w5.cell? ⟨gb,3,none⟩ = some (.slice A3q l0_3.length c3q):=(blk_cell BK.out 3).trans rfl) | ((with_reducible refine gate_dst (N:=10) rfl ?_);refine Kd.R_lit (Kd.int .i64) _ 2 ?hg (N:=10) ?hd (xs:=([] : List Int)) (inner:=[]) (ok:=fun _ => True) (okp:=fun _ => True) ?hr ?hp (fun _ hk => hk) trivial (Below.refl _ _) (Nat.le_refl _) (by simp) ?_;(case hd => rfl);(case hg => rfl);(case hr => first | (go_simp;done) | (go_simp;rfl));(case hp => exact (Reps.none _ _));intro v5 w4 ho hb hg_ hnew_;clear hg_ hnew_;have HO:=Aside0.mk (Kd.R_lower ho (below_size ib));have BKn_:=Aside0.mk (blk_below (by (with_reducible repeat (first | refine blk_drewN ?_ _ | refine blk_drew ?_ | refine blk_alloc ?_ _));exact BK.out) hb);clear BK;have BK:=BKn_;clear BKn_;have HBn_:=sb hb;clear HB;have HB:=HBn_;clear HBn_;(try clear hcz0 hcz1 hcz2 hcz3);have hcz0 : w4.cell? ⟨gb,0,none⟩ = some (.int .i64 x):=(blk_cell BK.out 0).trans rfl;have hcz1 : w4.cell? ⟨gb,1,none⟩ = some (.int .i64 y):=(blk_cell BK.out 1).trans rfl;have hcz2 : w4.cell? ⟨gb,2,none⟩ = some (.slice A2q l0_2.length c2q):=(blk_cell BK.out 2).trans rfl;have hcz3 : w4.cell? ⟨gb,3,none⟩ = some (.slice A3q l0_3.length c3q):=(blk_cell BK.out 3).trans rfl;clear ho hb))
  repeat (go_quiet (fail);try go_wp2)
  go_loopg [4,5,6,7] k (fun kq v4 v5 v6 v7 w' => ∃ (x4 : List Int) (x5 : Int),v5 = .int .i64 x5 ∧ Aside0 (spec_UnusedPoints.l0 kq x4 x5 x y l0_2 l0_3 = some (r1,r2)) ∧ Aside0 (kq ≤ k) ∧ Aside0 (Kd.R (Kd.int .i64) 2 w' w.heap.size (fun _ => True) v4 x4) ∧ Aside0 (w'.heap[gb]? = some (.cells #[.int .i64 x,.int .i64 y,.slice A2q l0_2.length c2q,.slice A3q l0_3.length c3q] 51 (0,0))) ∧ Aside0 (Below w.heap.size w w'))
  case atStart => exact ⟨[],(0),(by first | rfl | (simp;done) | (simp [*];done)),H',⟨Nat.le_refl _⟩,⟨rO HO.out⟩,⟨by (with_reducible repeat (first | refine blk_drewN ?_ _ | refine blk_drew ?_ | refine blk_alloc ?_ _));exact BK.out⟩,⟨ib⟩⟩
  case round =>
   clear H' HO BK HB HI
   (try clear hcz0 hcz1 hcz2 hcz3)
   obtain ⟨x4,x5,rfl,HA,HK1,HO,BK,HB⟩:=hrel
   cases gk with
   | zero => exact absurd HA.out (by simp [spec_UnusedPoints.l0])
   | succ k1 =>
    have H:=HA.out
    clear HA
    simp only [spec_UnusedPoints.l0] at H
    (try clear hcz0 hcz1 hcz2 hcz3)
    have hcz0 : wr.cell? ⟨gb,0,none⟩ = some (.int .i64 x):=(blk_cell BK.out 0).trans rfl
    have hcz1 : wr.cell? ⟨gb,1,none⟩ = some (.int .i64 y):=(blk_cell BK.out 1).trans rfl
    have hcz2 : wr.cell? ⟨gb,2,none⟩ = some (.slice A2q l0_2.length c2q):=(blk_cell BK.out 2).trans rfl
    have hcz3 : wr.cell? ⟨gb,3,none⟩ = some (.slice A3q l0_3.length c3q):=(blk_cell BK.out 3).trans rfl
    by_cases c4 : x5 < (l0_2.length : Int)
    ·rw [if_pos c4] at H
     have c4b0 : decide (x5 < (l0_2.length : Int)) = true:=decide_eq_true c4
     clear c4
     have H':=Aside0.mk H
     clear H
     go_wp2
     repeat (go_quiet (fail);try go_wp2)
     go_loopg [6,7] k1 (fun kq v6 v7 w' => ∃ (x6 : Bool) (x7 : Int),v6 = .bool x6 ∧ v7 = .int .i64 x7 ∧ Aside0 (spec_UnusedPoints.l1 kq x4 x5 x6 x7 x y l0_2 l0_3 = some (r1,r2)) ∧ Aside0 (kq ≤ k1) ∧ Aside0 (Kd.R (Kd.int .i64) 2 w' w.heap.size (fun _ => True) u4 x4) ∧ Aside0 (w'.heap[gb]? = some (.cells #[.int .i64 x,.int .i64 y,.slice A2q l0_2.length c2q,.slice A3q l0_3.length c3q] 51 (0,0))) ∧ Aside0 (Below w.heap.size w w'))
     case atStart => exact ⟨false,(0),(by first | rfl | (simp;done) | (simp [*];done)),(by first | rfl | (simp;done) | (simp [*];done)),H',⟨Nat.le_refl _⟩,⟨rO HO.out⟩,⟨by (with_reducible repeat (first | refine blk_drewN ?_ _ | refine blk_drew ?_ | refine blk_alloc ?_ _));exact BK.out⟩,⟨ib⟩⟩
     case round =>
      clear H'
      obtain ⟨x6,x7,rfl,rfl,HA,HK2,HO,BK,HB⟩:=hrel
      (try clear hcz0 hcz1 hcz2 hcz3)
      cases gk with
      | zero => exact absurd HA.out (by simp [spec_UnusedPoints.l1])
      | succ k2 =>
       have H:=HA.out
       clear HA
       simp only [spec_UnusedPoints.l1] at H
       (try clear hcz0 hcz1 hcz2 hcz3)
       have hcz0 : wr.cell? ⟨gb,0,none⟩ = some (.int .i64 x):=(blk_cell BK.out 0).trans rfl
       have hcz1 : wr.cell? ⟨gb,1,none⟩ = some (.int .i64 y):=(blk_cell BK.out 1).trans rfl
       have hcz2 : wr.cell? ⟨gb,2,none⟩ = some (.slice A2q l0_2.length c2q):=(blk_cell BK.out 2).trans rfl
       have hcz3 : wr.cell? ⟨gb,3,none⟩ = some (.slice A3q l0_3.length c3q):=(blk_cell BK.out 3).trans rfl
       by_cases c7 : x7 < (l0_3.length : Int)
       ·rw [if_pos c7] at H
        have c7b0 : decide (x7 < (l0_3.length : Int)) = true:=decide_eq_true c7
        cases x6 with
        | true =>
         replace H:=(if_pos rfl).symm.trans H
         have H':=Aside0.mk H
         clear H c7
         go_wp2
         repeat (go_quiet (fail);try go_wp2)
         go_roundg k2
         case measure => have:=HK2.out;omega
         case rel => exact ⟨true,(wrap64 (x7 + 1)),(by first | rfl | (simp;done) | (simp [*];done)),(by first | rfl | (simp;done) | (simp [*];done)),H',⟨by have:=HK2.out;omega⟩,⟨rO HO.out⟩,⟨by (with_reducible repeat (first | refine blk_drewN ?_ _ | refine blk_drew ?_ | refine blk_alloc ?_ _));exact BK.out⟩,⟨ib⟩⟩
        | false =>
         replace H:=(if_neg (show ¬ (false = true) by decide)).symm.trans H
         by_cases c8 : 0 ≤ x7
         ·rw [if_pos c8] at H
          have c8b0 : decide (0 ≤ x7) = true:=decide_eq_true c8
          obtain ⟨t,A1_,H⟩:=bE.mp H
          have A1:=Aside0.mk A1_
          have H':=Aside0.mk H
          clear H A1_
          obtain ⟨ad367,A367_1,c367_1,e367,hx367_0,hx367_1,hl367_1,hi367_1⟩:=at_T103 HR3.out x7 c8 c7
          cases e367
          replace hx367_0:=cq HB.out hx367_0
          replace hx367_1:=cq HB.out hx367_1
          have HRi:=Aside0.mk hi367_1
          have HCi:=Aside0.mk hl367_1
          clear hi367_1 hl367_1
          replace c8:=eq_true c8
          replace c7:=eq_true c7
          go_wp2_with (first | ((with_reducible refine gate_callee (f:=93) rfl ?_);refine goesL_ _ rfl rfl Try.func93 (by kernel_rfl) rfl #[.slice A367_1 (rd_T103 l0_3 x7).f1.length c367_1,.int .i64 x5] rfl (by (try simp only [mT,mC,mN]);first | done | rfl) ?_;(with_reducible refine (spec_l00Has.calls k2 _ _ (rd_T103 l0_3 x7).f1 x5 t _ (Kd.C_below HRi.out ib) HCi.out A1.out).mono ?_);rintro e w5 ⟨rfl,hd_⟩;refine ⟨_,rfl,?_⟩;have hb:=hd_.below;clear hd_;have HOn_:=Aside0.mk (Kd.R_below (rO HO.out) hb);have BKn_:=Aside0.mk (blk_below (by (with_reducible repeat (first | refine blk_drewN ?_ _ | refine blk_drew ?_ | refine blk_alloc ?_ _));exact BK.out) hb);clear BK HO;have BK:=BKn_;have HO:=HOn_;clear BKn_ HOn_;have HBn_:=sb hb;clear HB;have HB:=HBn_;clear HBn_;(try clear hcz0 hcz1 hcz2 hcz3);have hcz0 : w5.cell? ⟨gb,0,none⟩ = some (.int .i64 x):=(blk_cell BK.out 0).trans rfl;have hcz1 : w5.cell? ⟨gb,1,none⟩ = some (.int .i64 y):=(blk_cell BK.out 1).trans rfl;have hcz2 : w5.cell? ⟨gb,2,none⟩ = some (.slice A2q l0_2.length c2q):=(blk_cell BK.out 2).trans rfl;have hcz3 : w5.cell? ⟨gb,3,none⟩ = some (.slice (some ad367) l0_3.length c3q):=(blk_cell BK.out 3).trans rfl;clear hb) | (go_at_call 93;(with_reducible refine (spec_l00Has.calls k2 _ _ (rd_T103 l0_3 x7).f1 x5 t _ (Kd.C_below HRi.out ib) HCi.out A1.out).mono ?_);rintro e w5 ⟨rfl,hd_⟩;have hb:=hd_.below;clear hd_;have HOn_:=Aside0.mk (Kd.R_below (rO HO.out) hb);have BKn_:=Aside0.mk (blk_below (by (with_reducible repeat (first | refine blk_drewN ?_ _ | refine blk_drew ?_ | refine blk_alloc ?_ _));exact BK.out) hb);clear BK HO;have BK:=BKn_;have HO:=HOn_;clear BKn_ HOn_;have HBn_:=sb hb;clear HB;have HB:=HBn_;clear HBn_;(try clear hcz0 hcz1 hcz2 hcz3);have hcz0 : w5.cell? ⟨gb,0,none⟩ = some (.int .i64 x):=(blk_cell BK.out 0).trans rfl;have hcz1 : w5.cell? ⟨gb,1,none⟩ = some (.int .i64 y):=(blk_cell BK.out 1).trans rfl;have hcz2 : w5.cell? ⟨gb,2,none⟩ = some (.slice A2q l0_2.length c2q):=(blk_cell BK.out 2).trans rfl;have hcz3 : w5.cell? ⟨gb,3,none⟩ = some (.slice (some ad367) l0_3.length c3q):=(blk_cell BK.out 3).trans rfl;clear hb))
          repeat (go_quiet (first | ((with_reducible refine gate_callee (f:=93) rfl ?_);refine goesL_ _ rfl rfl Try.func93 (by kernel_rfl) rfl #[.slice A367_1 (rd_T103 l0_3 x7).f1.length c367_1,.int .i64 x5] rfl (by (try simp only [mT,mC,mN]);first | done | rfl) ?_;(with_reducible refine (spec_l00Has.calls k2 _ _ (rd_T103 l0_3 x7).f1 x5 t _ (Kd.C_below HRi.out ib) HCi.out A1.out).mono ?_);rintro e w5 ⟨rfl,hd_⟩;refine ⟨_,rfl,?_⟩;have hb:=hd_.below;clear hd_;have HOn_:=Aside0.mk (Kd.R_below (rO HO.out) hb);have BKn_:=Aside0.mk (blk_below (by (with_reducible repeat (first | refine blk_drewN ?_ _ | refine blk_drew ?_ | refine blk_alloc ?_ _));exact BK.out) hb);clear BK HO;have BK:=BKn_;have HO:=HOn_;clear BKn_ HOn_;have HBn_:=sb hb;clear HB;have HB:=HBn_;clear HBn_;(try clear hcz0 hcz1 hcz2 hcz3);have hcz0 : w5.cell? ⟨gb,0,none⟩ = some (.int .i64 x):=(blk_cell BK.out 0).trans rfl;have hcz1 : w5.cell? ⟨gb,1,none⟩ = some (.int .i64 y):=(blk_cell BK.out 1).trans rfl;have hcz2 : w5.cell? ⟨gb,2,none⟩ = some (.slice A2q l0_2.length c2q):=(blk_cell BK.out 2).trans rfl;have hcz3 : w5.cell? ⟨gb,3,none⟩ = some (.slice (some ad367) l0_3.length c3q):=(blk_cell BK.out 3).trans rfl;clear hb) | (go_at_call 93;(with_reducible refine (spec_l00Has.calls k2 _ _ (rd_T103 l0_3 x7).f1 x5 t _ (Kd.C_below HRi.out ib) HCi.out A1.out).mono ?_);rintro e w5 ⟨rfl,hd_⟩;have hb:=hd_.below;clear hd_;have HOn_:=Aside0.mk (Kd.R_below (rO HO.out) hb);have BKn_:=Aside0.mk (blk_below (by (with_reducible repeat (first | refine blk_drewN ?_ _ | refine blk_drew ?_ | refine blk_alloc ?_ _));exact BK.out) hb);clear BK HO;have BK:=BKn_;have HO:=HOn_;clear BKn_ HOn_;have HBn_:=sb hb;clear HB;have HB:=HBn_;clear HBn_;(try clear hcz0 hcz1 hcz2 hcz3);have hcz0 : w5.cell? ⟨gb,0,none⟩ = some (.int .i64 x):=(blk_cell BK.out 0).trans rfl;have hcz1 : w5.cell? ⟨gb,1,none⟩ = some (.int .i64 y):=(blk_cell BK.out 1).trans rfl;have hcz2 : w5.cell? ⟨gb,2,none⟩ = some (.slice A2q l0_2.length c2q):=(blk_cell BK.out 2).trans rfl;have hcz3 : w5.cell? ⟨gb,3,none⟩ = some (.slice (some ad367) l0_3.length c3q):=(blk_cell BK.out 3).trans rfl;clear hb));try go_wp2_with (first | ((with_reducible refine gate_callee (f:=93) rfl ?_);refine goesL_ _ rfl rfl Try.func93 (by kernel_rfl) rfl #[.slice A367_1 (rd_T103 l0_3 x7).f1.length c367_1,.int .i64 x5] rfl (by (try simp only [mT,mC,mN]);first | done | rfl) ?_;(with_reducible refine (spec_l00Has.calls k2 _ _ (rd_T103 l0_3 x7).f1 x5 t _ (Kd.C_below HRi.out ib) HCi.out A1.out).mono ?_);rintro e w5 ⟨rfl,hd_⟩;refine ⟨_,rfl,?_⟩;have hb:=hd_.below;clear hd_;have HOn_:=Aside0.mk (Kd.R_below (rO HO.out) hb);have BKn_:=Aside0.mk (blk_below (by (with_reducible repeat (first | refine blk_drewN ?_ _ | refine blk_drew ?_ | refine blk_alloc ?_ _));exact BK.out) hb);clear BK HO;have BK:=BKn_;have HO:=HOn_;clear BKn_ HOn_;have HBn_:=sb hb;clear HB;have HB:=HBn_;clear HBn_;(try clear hcz0 hcz1 hcz2 hcz3);have hcz0 : w5.cell? ⟨gb,0,none⟩ = some (.int .i64 x):=(blk_cell BK.out 0).trans rfl;have hcz1 : w5.cell? ⟨gb,1,none⟩ = some (.int .i64 y):=(blk_cell BK.out 1).trans rfl;have hcz2 : w5.cell? ⟨gb,2,none⟩ = some (.slice A2q l0_2.length c2q):=(blk_cell BK.out 2).trans rfl;have hcz3 : w5.cell? ⟨gb,3,none⟩ = some (.slice (some ad367) l0_3.length c3q):=(blk_cell BK.out 3).trans rfl;clear hb) | (go_at_call 93;(with_reducible refine (spec_l00Has.calls k2 _ _ (rd_T103 l0_3 x7).f1 x5 t _ (Kd.C_below HRi.out ib) HCi.out A1.out).mono ?_);rintro e w5 ⟨rfl,hd_⟩;have hb:=hd_.below;clear hd_;have HOn_:=Aside0.mk (Kd.R_below (rO HO.out) hb);have BKn_:=Aside0.mk (blk_below (by (with_reducible repeat (first | refine blk_drewN ?_ _ | refine blk_drew ?_ | refine blk_alloc ?_ _));exact BK.out) hb);clear BK HO;have BK:=BKn_;have HO:=HOn_;clear BKn_ HOn_;have HBn_:=sb hb;clear HB;have HB:=HBn_;clear HBn_;(try clear hcz0 hcz1 hcz2 hcz3);have hcz0 : w5.cell? ⟨gb,0,none⟩ = some (.int .i64 x):=(blk_cell BK.out 0).trans rfl;have hcz1 : w5.cell? ⟨gb,1,none⟩ = some (.int .i64 y):=(blk_cell BK.out 1).trans rfl;have hcz2 : w5.cell? ⟨gb,2,none⟩ = some (.slice A2q l0_2.length c2q):=(blk_cell BK.out 2).trans rfl;have hcz3 : w5.cell? ⟨gb,3,none⟩ = some (.slice (some ad367) l0_3.length c3q):=(blk_cell BK.out 3).trans rfl;clear hb)))
          go_roundg k2
          case measure => have:=HK2.out;omega
          case rel => exact ⟨t,(wrap64 (x7 + 1)),(by first | rfl | (simp;done) | (simp [*];done)),(by first | rfl | (simp;done) | (simp [*];done)),H',⟨by have:=HK2.out;omega⟩,⟨rO HO.out⟩,⟨by (with_reducible repeat (first | refine blk_drewN ?_ _ | refine blk_drew ?_ | refine blk_alloc ?_ _));exact BK.out⟩,⟨ib⟩⟩
         ·rw [if_neg c8] at H
          exact absurd H (by simp)
       ·rw [if_neg c7] at H
        have c7b0 : decide (x7 < (l0_3.length : Int)) = false:=decide_eq_false c7
        clear c7
        cases x6 with
        | true =>
         replace H:=(if_pos rfl).symm.trans H
         have H':=Aside0.mk H
         clear H
         go_wp2
         repeat (go_quiet (fail);try go_wp2)
         go_roundg k2
         case measure => have:=HK1.out;have:=HK2.out;omega
         case rel => exact ⟨x4,(wrap64 (x5 + 1)),(by first | rfl | (simp;done) | (simp [*];done)),H',⟨by have:=HK1.out;have:=HK2.out;omega⟩,⟨rO HO.out⟩,⟨by (with_reducible repeat (first | refine blk_drewN ?_ _ | refine blk_drew ?_ | refine blk_alloc ?_ _));exact BK.out⟩,⟨ib⟩⟩
        | false =>
         replace H:=(if_neg (show ¬ (false = true) by decide)).symm.trans H
         by_cases cl : x4.length < 17592186044416
         ·rw [if_pos cl] at H
          have CL:=Aside0.mk cl
          clear cl
          have H':=Aside0.mk H
          clear H
          obtain ⟨y3,hy3⟩ : ∃ y_,y_ = x4 ++ [x5]:=⟨_,rfl⟩
          have Ny:=Aside0.mk hy3
          rw [← hy3] at H'
          clear hy3
          go_wp2_with (first | ((with_reducible refine gate_builtin (b:=.append) (xs:=#[.tmp 38,.tmp 40]) rfl ?_);(try (refine gate_guard (by rfl) ?_;dsimp only));at_builtin;refine Kd.R_append (Kd.int .i64) (w0:=w) w.heap.size rfl (.tmp 38) (.tmp 40) 57 2 (.int .i64 0) 8 rfl Try.underlying57 info2 rfl (by decide) (by omega) u4 x4 x5 [.int .i64 x5] (fun _ => True) (fun _ => False) rfl rfl ?aP (fun _ hk => hk.elim) ?aF ?aO ?aB ?aS ?aL ?_;(case aP => exact rfl);(case aB => exact ib);(case aF => exact (fun _ _ => trivial));(case aO => exact (rO HO.out));(case aS => exact (below_size ib));(case aL => have:=CL.out;omega);intro v20 w9 ho hb hg hat;rw [← Ny.out] at ho;have BKn_:=Aside0.mk (blk_grown (g:=gb) (o:=.cells #[.int .i64 x,.int .i64 y,.slice A2q l0_2.length c2q,.slice A3q l0_3.length c3q] 51 (0,0)) (by (with_reducible repeat (first | refine blk_drewN ?_ _ | refine blk_drew ?_ | refine blk_alloc ?_ _));exact BK.out) hg (Kd.R_ne HO.out BK.out (by decide)));clear BK HB HO;have BK:=BKn_;have HB:=Aside0.mk hb;have HO:=Aside0.mk ho;clear BKn_ ho hb hg hat))
          repeat (go_quiet (first | ((with_reducible refine gate_builtin (b:=.append) (xs:=#[.tmp 38,.tmp 40]) rfl ?_);(try (refine gate_guard (by rfl) ?_;dsimp only));at_builtin;refine Kd.R_append (Kd.int .i64) (w0:=w) w.heap.size rfl (.tmp 38) (.tmp 40) 57 2 (.int .i64 0) 8 rfl Try.underlying57 info2 rfl (by decide) (by omega) u4 x4 x5 [.int .i64 x5] (fun _ => True) (fun _ => False) rfl rfl ?aP (fun _ hk => hk.elim) ?aF ?aO ?aB ?aS ?aL ?_;(case aP => exact rfl);(case aB => exact ib);(case aF => exact (fun _ _ => trivial));(case aO => exact (rO HO.out));(case aS => exact (below_size ib));(case aL => have:=CL.out;omega);intro v20 w9 ho hb hg hat;rw [← Ny.out] at ho;have BKn_:=Aside0.mk (blk_grown (g:=gb) (o:=.cells #[.int .i64 x,.int .i64 y,.slice A2q l0_2.length c2q,.slice A3q l0_3.length c3q] 51 (0,0)) (by (with_reducible repeat (first | refine blk_drewN ?_ _ | refine blk_drew ?_ | refine blk_alloc ?_ _));exact BK.out) hg (Kd.R_ne HO.out BK.out (by decide)));clear BK HB HO;have BK:=BKn_;have HB:=Aside0.mk hb;have HO:=Aside0.mk ho;clear BKn_ ho hb hg hat));try go_wp2_with (first | ((with_reducible refine gate_builtin (b:=.append) (xs:=#[.tmp 38,.tmp 40]) rfl ?_);(try (refine gate_guard (by rfl) ?_;dsimp only));at_builtin;refine Kd.R_append (Kd.int .i64) (w0:=w) w.heap.size rfl (.tmp 38) (.tmp 40) 57 2 (.int .i64 0) 8 rfl Try.underlying57 info2 rfl (by decide) (by omega) u4 x4 x5 [.int .i64 x5] (fun _ => True) (fun _ => False) rfl rfl ?aP (fun _ hk => hk.elim) ?aF ?aO ?aB ?aS ?aL ?_;(case aP => exact rfl);(case aB => exact ib);(case aF => exact (fun _ _ => trivial));(case aO => exact (rO HO.out));(case aS => exact (below_size ib));(case aL => have:=CL.out;omega);intro v20 w9 ho hb hg hat;rw [← Ny.out] at ho;have BKn_:=Aside0.mk (blk_grown (g:=gb) (o:=.cells #[.int .i64 x,.int .i64 y,.slice A2q l0_2.length c2q,.slice A3q l0_3.length c3q] 51 (0,0)) (by (with_reducible repeat (first | refine blk_drewN ?_ _ | refine blk_drew ?_ | refine blk_alloc ?_ _));exact BK.out) hg (Kd.R_ne HO.out BK.out (by decide)));clear BK HB HO;have BK:=BKn_;have HB:=Aside0.mk hb;have HO:=Aside0.mk ho;clear BKn_ ho hb hg hat)))
          go_roundg k2
          case measure => have:=HK1.out;have:=HK2.out;omega
          case rel => exact ⟨y3,(wrap64 (x5 + 1)),(by first | rfl | (simp;done) | (simp [*];done)),H',⟨by have:=HK1.out;have:=HK2.out;omega⟩,⟨rO HO.out⟩,⟨by (with_reducible repeat (first | refine blk_drewN ?_ _ | refine blk_drew ?_ | refine blk_alloc ?_ _));exact BK.out⟩,⟨ib⟩⟩
         ·rw [if_neg cl] at H
          exact absurd H (by simp)
    ·rw [if_neg c4] at H
     have c4b0 : decide (x5 < (l0_2.length : Int)) = false:=decide_eq_false c4
     clear c4
     simp only [Option.some.injEq,Prod.mk.injEq] at H
     obtain ⟨rfl,rfl⟩:=H
     go_wp2
     go_ret2
     exact ⟨_,(by first | rfl | (simp;done) | (simp [*];done)),(rO HO.out),ib⟩
def impl_within.f (a0 : Int) (a1 : Int) (a2 : Int) : Option (Bool):=if a0 ≥ a1 then (some (decide (a0 ≤ a2))) else (some false)
theorem impl_within.calls (a0 : Int) (a1 : Int) (a2 : Int) (r : Bool) (w : World) (h : impl_within.f a0 a1 a2 = some r) :
  Calls Try.prog 62 #[.int .i64 a0,.int .i64 a1,.int .i64 a2] w fun e w' => e = .returned (.bool r) ∧ Drawn0 w w':=by
 have H : (if a0 ≥ a1 then (some (decide (a0 ≤ a2))) else (some false)) = some r:=h
 clear h
 by_cases c4 : a0 ≥ a1
 ·rw [if_pos c4] at H
  have c4b0 : decide (a1 ≤ a0) = true:=decide_eq_true c4
  clear c4
  obtain rfl:=Option.some.inj H
  go_enter Try.func62,Try.ntmps62
  go_wp2
  go_ret
  exact ⟨by first | rfl | (simp;done) | (simp [*];done),by repeat (first | exact Drawn0.refl _ | apply Drawn0.step)⟩
 ·rw [if_neg c4] at H
  have c4b0 : decide (a1 ≤ a0) = false:=decide_eq_false c4
  clear c4
  obtain rfl:=Option.some.inj H
  go_enter Try.func62,Try.ntmps62
  go_wp2
  go_ret
  exact ⟨by first | rfl | (simp;done) | (simp [*];done),by repeat (first | exact Drawn0.refl _ | apply Drawn0.step)⟩
def impl_ValidPoint.f (a0_0 : Int) (a0_1 : Int) : Option (Bool):=(impl_within.f a0_0 0 20000).bind fun t276 => (if t276 = true then ((impl_within.f a0_1 0 20000).bind fun t277 => (some t277)) else (some false))
theorem impl_ValidPoint.calls (a0_0 : Int) (a0_1 : Int) (r : Bool) (w : World) (h : impl_ValidPoint.f a0_0 a0_1 = some r) :
  Calls Try.prog 146 #[.agg #[.int .i64 a0_0,.int .i64 a0_1]] w fun e w' => e = .returned (.bool r) ∧ Below w.heap.size w w':=by
 have hu73:=Try.underlying73
 have HB:=Aside0.mk (Below.refl w.heap.size w)
 have H : ((impl_within.f a0_0 0 20000).bind fun t276 => (if t276 = true then ((impl_within.f a0_1 0 20000).bind fun t277 => (some t277)) else (some false))) = some r:=h
 clear h
 replace H:=bE.mp H
 obtain ⟨t276,A20,H⟩:=H
 replace H : (if t276 = true then ((impl_within.f a0_1 0 20000).bind fun t277 => (some t277)) else (some false)) = some r:=H
 have A2:=Aside0.mk A20
 clear A20
 by_cases c3 : t276 = true
 ·subst c3
  have H1 : ((impl_within.f a0_1 0 20000).bind fun t277 => (some t277)) = some r:=by rw [if_pos rfl] at H;exact H
  clear H
  have H:=H1
  clear H1
  replace H:=bE.mp H
  obtain ⟨t277,A40,H⟩:=H
  replace H : (some t277) = some r:=H
  have A4:=Aside0.mk A40
  clear A40
  obtain rfl:=Option.some.inj H
  go_enter Try.func146,Try.ntmps146
  go_wp2_with (first | ((with_reducible refine gate_dst (N:=1) rfl ?_);refine bx (cs:=#[.int .i64 a0_0,.int .i64 a0_1]) (t:=73) ?_;intro gb275 hg w5 hbox hb;have BK275:=Aside0.mk (hbox);have GW275:=zb hg;have GE275:=zb hg;replace HB:=sb hb;clear hb hbox hg;have hcz6_0:=ck BK275 0;have hcz6_1:=ck BK275 1;have hfz6_0:=blk_frozen BK275.out 0;have hfz6_1:=blk_frozen BK275.out 1) | ((with_reducible refine gate_callee (f:=62) rfl ?_);refine goesL_ (some 5) rfl rfl Try.func62 (by kernel_rfl) rfl #[.int .i64 a0_0,.int .i64 0,.int .i64 20000] rfl (by (try simp only [mT,mC,mN]);first | done | rfl | (simp only [lD,lT];rfl)) ?_;(with_reducible refine (impl_within.calls a0_0 0 20000 true _ A2.out).mono ?_);rintro e w' ⟨rfl,⟨nd,rfl⟩⟩;refine ⟨_,rfl,?_⟩) | (go_at_call 62;(with_reducible refine (impl_within.calls a0_1 0 20000 t277 _ A4.out).mono ?_);rintro e w' ⟨rfl,⟨nd,rfl⟩⟩))
  go_ret
  exact ⟨by first | rfl | (simp [errW_none,errW_some] <;> rfl) | (simp [*,errW_none,errW_some] <;> rfl),ib⟩
 ·replace c3:=Bool.eq_false_iff.mpr c3
  subst c3
  have H1 : (some false) = some r:=by rw [if_neg (show ¬ (false = true) by decide)] at H;exact H
  clear H
  have H:=H1
  clear H1
  obtain rfl:=Option.some.inj H
  go_enter Try.func146,Try.ntmps146
  go_wp2_with (first | ((with_reducible refine gate_dst (N:=1) rfl ?_);refine bx (cs:=#[.int .i64 a0_0,.int .i64 a0_1]) (t:=73) ?_;intro gb275 hg w7 hbox hb;have BK275:=Aside0.mk (hbox);have GW275:=zb hg;have GE275:=zb hg;replace HB:=sb hb;clear hb hbox hg;have hcz8_0:=ck BK275 0;have hcz8_1:=ck BK275 1;have hfz8_0:=blk_frozen BK275.out 0;have hfz8_1:=blk_frozen BK275.out 1) | ((with_reducible refine gate_callee (f:=62) rfl ?_);refine goesL_ (some 5) rfl rfl Try.func62 (by kernel_rfl) rfl #[.int .i64 a0_0,.int .i64 0,.int .i64 20000] rfl (by (try simp only [mT,mC,mN]);first | done | rfl | (simp only [lD,lT];rfl)) ?_;(with_reducible refine (impl_within.calls a0_0 0 20000 false _ A2.out).mono ?_);rintro e w' ⟨rfl,⟨nd,rfl⟩⟩;refine ⟨_,rfl,?_⟩))
  go_ret
  exact ⟨by first | rfl | (simp [errW_none,errW_some] <;> rfl) | (simp [*,errW_none,errW_some] <;> rfl),ib⟩
def impl_validPoints.l0 : Nat → List (S73) → Int → Int → Option (Bool)
 | 0,_,_,_ => none
 | k + 1,x5,x6,x7 => if x7 < x6 then (if 0 ≤ x7 then (if x7 < (x5.length : Int) then ((impl_ValidPoint.f ((rd_T73 x5 x7).f0) ((rd_T73 x5 x7).f1)).bind fun t280 => (if t280 = true then (impl_validPoints.l0 k x5 x6 (wrap64 (x7 + 1))) else (some false))) else (none)) else (none)) else (some true)
def impl_validPoints.f (k : Nat) (l0 : List (S73)) : Option (Bool):=impl_validPoints.l0 k l0 (l0.length : Int) 0
theorem impl_validPoints.calls (k : Nat) (A0 : Option Addr) (c0 : Nat) (l0 : List (S73)) (r : Bool) (w : World) (hr0 : Kd.C k73 w A0 l0.length l0) (hc0 : l0.length ≤ c0) (h : impl_validPoints.f k l0 = some r) :
  Calls Try.prog 104 #[.slice A0 l0.length c0] w fun e w' => e = .returned (.bool r) ∧ Below w.heap.size w w':=by
 have hu73:=Try.underlying73
 have HR0:=Aside0.mk hr0
 have HC0:=Aside0.mk hc0
 clear hr0 hc0
 have HB:=Aside0.mk (Below.refl w.heap.size w)
 have H : (impl_validPoints.l0 k l0 (l0.length : Int) 0) = some r:=h
 clear h
 have H':=Aside0.mk H
 clear H
 go_enter Try.func104,Try.ntmps104
 go_wp2
 go_loopg [7] k (fun kq v7 w' => ∃ (x7_1 : Int),v7 = .int .i64 x7_1 ∧ Aside0 (impl_validPoints.l0 kq l0 (l0.length : Int) x7_1 = some r) ∧ Aside0 (kq ≤ k) ∧ Aside0 (Below w.heap.size w w'))
 case atStart => exact ⟨(0),(by first | rfl | (simp;done) | (simp [*];done)),H',⟨Nat.le_refl _⟩,⟨ib⟩⟩
 case round =>
  clear H'
  try clear c1
  obtain ⟨x7_1,rfl,HA,HK1,HB⟩:=hrel
  cases gk with
  | zero => exact absurd HA.out (by simp [impl_validPoints.l0])
  | succ k1 =>
   have H:=HA.out
   clear HA
   simp only [impl_validPoints.l0] at H
   by_cases c2 : x7_1 < (l0.length : Int)
   ·rw [if_pos c2] at H
    have c2b0 : decide (x7_1 < (l0.length : Int)) = true:=decide_eq_true c2
    clear c2
    by_cases c3 : 0 ≤ x7_1
    ·rw [if_pos c3] at H
     have c3b0 : decide (0 ≤ x7_1) = true:=decide_eq_true c3
     clear c3
     by_cases c4 : x7_1 < (l0.length : Int)
     ·rw [if_pos c4] at H
      have c4b0 : decide (x7_1 < (l0.length : Int)) = true:=decide_eq_true c4
      clear c4
      replace H:=bE.mp H
      obtain ⟨t280,A50,H⟩:=H
      replace H : (if t280 = true then (impl_validPoints.l0 k1 l0 (l0.length : Int) (wrap64 (x7_1 + 1))) else (some false)) = some r:=H
      have A5:=Aside0.mk A50
      clear A50
      by_cases c6 : t280 = true
      ·subst c6
       have H1 : (impl_validPoints.l0 k1 l0 (l0.length : Int) (wrap64 (x7_1 + 1))) = some r:=by rw [if_pos rfl] at H;exact H
       clear H
       have H:=H1
       clear H1
       have H':=Aside0.mk H
       clear H
       have p278 : 0 ≤ (x7_1 : Int):=da
       have q278 : x7_1 < (l0.length : Int):=da
       obtain ⟨ad278,e278,hx278_0,hx278_1⟩:=at_T73 HR0.out x7_1 p278 q278
       cases e278
       replace hx278_0:=cq HB.out hx278_0
       replace hx278_1:=cq HB.out hx278_1
       replace p278:=eq_true p278
       replace q278:=eq_true q278
       go_wp2_with (first | ((with_reducible refine gate_dst (N:=4) rfl ?_);refine bx (cs:=#[.int .i64 0,.int .i64 0]) (t:=73) ?_;intro gb279 hg w7 hbox hb;have BK279:=Aside0.mk (hbox);have GW279:=zb hg;have GE279:=zb hg;replace HB:=sb hb;clear hb hbox hg;have hcz8_0:=ck BK279 0;have hcz8_1:=ck BK279 1;have hfz8_0:=blk_frozen BK279.out 0;have hfz8_1:=blk_frozen BK279.out 1) | ((with_reducible refine gate_callee (f:=146) rfl ?_);refine goesL_ (some 12) rfl rfl Try.func146 (by kernel_rfl) rfl #[.agg #[.int .i64 ((rd_T73 l0 x7_1).f0),.int .i64 ((rd_T73 l0 x7_1).f1)]] rfl (by (try simp only [mT,mC,mN]);first | done | rfl | (simp only [lD,lT];rfl)) ?_;(with_reducible refine (impl_ValidPoint.calls ((rd_T73 l0 x7_1).f0) ((rd_T73 l0 x7_1).f1) true _ A5.out).mono ?_);rintro e w9 ⟨rfl,hb⟩;refine ⟨_,rfl,?_⟩;replace BK279:=Aside0.mk (blk_below (g:=gb279) (o:=.cells #[.int .i64 ((rd_T73 l0 x7_1).f0),.int .i64 ((rd_T73 l0 x7_1).f1)] 73 (0,0)) (by refine bP (cs:=#[.int .i64 ((rd_T73 l0 x7_1).f0),.int .i64 0]) 1 ?_;refine bP (cs:=#[.int .i64 0,.int .i64 0]) 0 ?_;exact bk BK279) hb);replace HB:=sb hb;(try clear hb);(try clear hb2);(try clear hk);(try clear hi)))
       go_roundg k1
       case measure => have:=HK1.out;omega
       case rel => exact ⟨(wrap64 (x7_1 + 1)),(by first | rfl | (simp;done) | (simp [*];done)),H',⟨by have:=HK1.out;omega⟩,⟨ib⟩⟩
      ·replace c6:=Bool.eq_false_iff.mpr c6
       subst c6
       have H1 : (some false) = some r:=by rw [if_neg (show ¬ (false = true) by decide)] at H;exact H
       clear H
       have H:=H1
       clear H1
       obtain rfl:=Option.some.inj H
       have p278 : 0 ≤ (x7_1 : Int):=da
       have q278 : x7_1 < (l0.length : Int):=da
       obtain ⟨ad278,e278,hx278_0,hx278_1⟩:=at_T73 HR0.out x7_1 p278 q278
       cases e278
       replace hx278_0:=cq HB.out hx278_0
       replace hx278_1:=cq HB.out hx278_1
       replace p278:=eq_true p278
       replace q278:=eq_true q278
       go_wp2_with (first | ((with_reducible refine gate_dst (N:=4) rfl ?_);refine bx (cs:=#[.int .i64 0,.int .i64 0]) (t:=73) ?_;intro gb279 hg w10 hbox hb;have BK279:=Aside0.mk (hbox);have GW279:=zb hg;have GE279:=zb hg;replace HB:=sb hb;clear hb hbox hg;have hcz11_0:=ck BK279 0;have hcz11_1:=ck BK279 1;have hfz11_0:=blk_frozen BK279.out 0;have hfz11_1:=blk_frozen BK279.out 1) | ((with_reducible refine gate_callee (f:=146) rfl ?_);refine goesL_ (some 12) rfl rfl Try.func146 (by kernel_rfl) rfl #[.agg #[.int .i64 ((rd_T73 l0 x7_1).f0),.int .i64 ((rd_T73 l0 x7_1).f1)]] rfl (by (try simp only [mT,mC,mN]);first | done | rfl | (simp only [lD,lT];rfl)) ?_;(with_reducible refine (impl_ValidPoint.calls ((rd_T73 l0 x7_1).f0) ((rd_T73 l0 x7_1).f1) false _ A5.out).mono ?_);rintro e w12 ⟨rfl,hb⟩;refine ⟨_,rfl,?_⟩;replace BK279:=Aside0.mk (blk_below (g:=gb279) (o:=.cells #[.int .i64 ((rd_T73 l0 x7_1).f0),.int .i64 ((rd_T73 l0 x7_1).f1)] 73 (0,0)) (by refine bP (cs:=#[.int .i64 ((rd_T73 l0 x7_1).f0),.int .i64 0]) 1 ?_;refine bP (cs:=#[.int .i64 0,.int .i64 0]) 0 ?_;exact bk BK279) hb);replace HB:=sb hb;(try clear hb);(try clear hb2);(try clear hk);(try clear hi)))
       go_ret
       exact ⟨by first | rfl | (simp [errW_none,errW_some] <;> rfl) | (simp [*,errW_none,errW_some] <;> rfl),ib⟩
     ·first | (exfalso;have z_:=of_decide_eq_true c2b0;omega) | (rw [if_neg c4] at H;exact absurd H (by simp))
    ·rw [if_neg c3] at H
     exact absurd H (by simp)
   ·rw [if_neg c2] at H
    have c2b0 : decide (x7_1 < (l0.length : Int)) = false:=decide_eq_false c2
    clear c2
    obtain rfl:=Option.some.inj H
    go_wp2
    go_ret
    exact ⟨by first | rfl | (simp [errW_none,errW_some] <;> rfl) | (simp [*,errW_none,errW_some] <;> rfl),ib⟩
def impl_side.f (a0_0 : Int) (a0_1 : Int) (a1_0 : Int) (a1_1 : Int) (a2_0 : Int) (a2_1 : Int) : Option (Int):=if (wrap64 ((wrap64 ((wrap64 (a1_0 - a0_0)) * (wrap64 (a2_1 - a0_1)))) - (wrap64 ((wrap64 (a1_1 - a0_1)) * (wrap64 (a2_0 - a0_0)))))) > 0 then (some 1) else (if (wrap64 ((wrap64 ((wrap64 (a1_0 - a0_0)) * (wrap64 (a2_1 - a0_1)))) - (wrap64 ((wrap64 (a1_1 - a0_1)) * (wrap64 (a2_0 - a0_0)))))) < 0 then (some (-1)) else (some 0))
theorem impl_side.calls (a0_0 : Int) (a0_1 : Int) (a1_0 : Int) (a1_1 : Int) (a2_0 : Int) (a2_1 : Int) (r : Int) (w : World) (h : impl_side.f a0_0 a0_1 a1_0 a1_1 a2_0 a2_1 = some r) :
  Calls Try.prog 147 #[.agg #[.int .i64 a0_0,.int .i64 a0_1],.agg #[.int .i64 a1_0,.int .i64 a1_1],.agg #[.int .i64 a2_0,.int .i64 a2_1]] w fun e w' => e = .returned (.int .i64 r) ∧ Below w.heap.size w w':=by
 have hu73:=Try.underlying73
 have HB:=Aside0.mk (Below.refl w.heap.size w)
 have H : (if (wrap64 ((wrap64 ((wrap64 (a1_0 - a0_0)) * (wrap64 (a2_1 - a0_1)))) - (wrap64 ((wrap64 (a1_1 - a0_1)) * (wrap64 (a2_0 - a0_0)))))) > 0 then (some 1) else (if (wrap64 ((wrap64 ((wrap64 (a1_0 - a0_0)) * (wrap64 (a2_1 - a0_1)))) - (wrap64 ((wrap64 (a1_1 - a0_1)) * (wrap64 (a2_0 - a0_0)))))) < 0 then (some (-1)) else (some 0))) = some r:=h
 clear h
 by_cases c4 : (wrap64 ((wrap64 ((wrap64 (a1_0 - a0_0)) * (wrap64 (a2_1 - a0_1)))) - (wrap64 ((wrap64 (a1_1 - a0_1)) * (wrap64 (a2_0 - a0_0)))))) > 0
 ·rw [if_pos c4] at H
  have c4b0 : decide (0 < (wrap64 ((wrap64 ((wrap64 (a1_0 - a0_0)) * (wrap64 (a2_1 - a0_1)))) - (wrap64 ((wrap64 (a1_1 - a0_1)) * (wrap64 (a2_0 - a0_0))))))) = true:=decide_eq_true c4
  clear c4
  obtain rfl:=Option.some.inj H
  go_enter Try.func147,Try.ntmps147
  go_wp2_with (first | ((with_reducible refine gate_dst (N:=3) rfl ?_);refine bx (cs:=#[.int .i64 a0_0,.int .i64 a0_1]) (t:=73) ?_;intro gb281 hg w5 hbox hb;have BK281:=Aside0.mk (hbox);have GW281:=zb hg;have GE281:=zb hg;replace HB:=sb hb;clear hb hbox hg) | ((with_reducible refine gate_dst (N:=4) rfl ?_);refine bx (cs:=#[.int .i64 a1_0,.int .i64 a1_1]) (t:=73) ?_;intro gb282 hg w6 hbox hb;have BK282:=Aside0.mk (hbox);have GW282:=zb hg;have GE282:=zb hg;replace HB:=sb hb;have NB281_282:=nl BK281 hg;have NB282_281:=ng BK281 hg;replace BK281:=kb BK281 hb;clear hb hbox hg) | ((with_reducible refine gate_dst (N:=5) rfl ?_);refine bx (cs:=#[.int .i64 a2_0,.int .i64 a2_1]) (t:=73) ?_;intro gb283 hg w7 hbox hb;have BK283:=Aside0.mk (hbox);have GW283:=zb hg;have GE283:=zb hg;replace HB:=sb hb;have NB281_283:=nl BK281 hg;have NB283_281:=ng BK281 hg;replace BK281:=kb BK281 hb;have NB282_283:=nl BK282 hg;have NB283_282:=ng BK282 hg;replace BK282:=kb BK282 hb;clear hb hbox hg;have hnb8:=NB282_281.out;have hnc8:=NB281_282.out;have hnb9:=NB282_283.out;have hnc9:=NB283_282.out;have hcz10_0:=ck BK282 0;have hcz10_1:=ck BK282 1;have hfz10_0:=blk_frozen BK282.out 0;have hfz10_1:=blk_frozen BK282.out 1;have hnb11:=NB281_283.out;have hnc11:=NB283_281.out;have hcz12_0:=ck BK281 0;have hcz12_1:=ck BK281 1;have hfz12_0:=blk_frozen BK281.out 0;have hfz12_1:=blk_frozen BK281.out 1;have hcz13_0:=ck BK283 0;have hcz13_1:=ck BK283 1;have hfz13_0:=blk_frozen BK283.out 0;have hfz13_1:=blk_frozen BK283.out 1))
  go_ret
  exact ⟨by first | rfl | (simp [errW_none,errW_some] <;> rfl) | (simp [*,errW_none,errW_some] <;> rfl),ib⟩
 ·rw [if_neg c4] at H
  have c4b0 : decide (0 < (wrap64 ((wrap64 ((wrap64 (a1_0 - a0_0)) * (wrap64 (a2_1 - a0_1)))) - (wrap64 ((wrap64 (a1_1 - a0_1)) * (wrap64 (a2_0 - a0_0))))))) = false:=decide_eq_false c4
  clear c4
  by_cases c14 : (wrap64 ((wrap64 ((wrap64 (a1_0 - a0_0)) * (wrap64 (a2_1 - a0_1)))) - (wrap64 ((wrap64 (a1_1 - a0_1)) * (wrap64 (a2_0 - a0_0)))))) < 0
  ·rw [if_pos c14] at H
   have c14b0 : decide ((wrap64 ((wrap64 ((wrap64 (a1_0 - a0_0)) * (wrap64 (a2_1 - a0_1)))) - (wrap64 ((wrap64 (a1_1 - a0_1)) * (wrap64 (a2_0 - a0_0)))))) < 0) = true:=decide_eq_true c14
   clear c14
   obtain rfl:=Option.some.inj H
   go_enter Try.func147,Try.ntmps147
   go_wp2_with (first | ((with_reducible refine gate_dst (N:=3) rfl ?_);refine bx (cs:=#[.int .i64 a0_0,.int .i64 a0_1]) (t:=73) ?_;intro gb281 hg w15 hbox hb;have BK281:=Aside0.mk (hbox);have GW281:=zb hg;have GE281:=zb hg;replace HB:=sb hb;clear hb hbox hg) | ((with_reducible refine gate_dst (N:=4) rfl ?_);refine bx (cs:=#[.int .i64 a1_0,.int .i64 a1_1]) (t:=73) ?_;intro gb282 hg w16 hbox hb;have BK282:=Aside0.mk (hbox);have GW282:=zb hg;have GE282:=zb hg;replace HB:=sb hb;have NB281_282:=nl BK281 hg;have NB282_281:=ng BK281 hg;replace BK281:=kb BK281 hb;clear hb hbox hg) | ((with_reducible refine gate_dst (N:=5) rfl ?_);refine bx (cs:=#[.int .i64 a2_0,.int .i64 a2_1]) (t:=73) ?_;intro gb283 hg w17 hbox hb;have BK283:=Aside0.mk (hbox);have GW283:=zb hg;have GE283:=zb hg;replace HB:=sb hb;have NB281_283:=nl BK281 hg;have NB283_281:=ng BK281 hg;replace BK281:=kb BK281 hb;have NB282_283:=nl BK282 hg;have NB283_282:=ng BK282 hg;replace BK282:=kb BK282 hb;clear hb hbox hg;have hnb18:=NB282_281.out;have hnc18:=NB281_282.out;have hnb19:=NB282_283.out;have hnc19:=NB283_282.out;have hcz20_0:=ck BK282 0;have hcz20_1:=ck BK282 1;have hfz20_0:=blk_frozen BK282.out 0;have hfz20_1:=blk_frozen BK282.out 1;have hnb21:=NB281_283.out;have hnc21:=NB283_281.out;have hcz22_0:=ck BK281 0;have hcz22_1:=ck BK281 1;have hfz22_0:=blk_frozen BK281.out 0;have hfz22_1:=blk_frozen BK281.out 1;have hcz23_0:=ck BK283 0;have hcz23_1:=ck BK283 1;have hfz23_0:=blk_frozen BK283.out 0;have hfz23_1:=blk_frozen BK283.out 1))
   go_ret
   exact ⟨by first | rfl | (simp [errW_none,errW_some] <;> rfl) | (simp [*,errW_none,errW_some] <;> rfl),ib⟩
  ·rw [if_neg c14] at H
   have c14b0 : decide ((wrap64 ((wrap64 ((wrap64 (a1_0 - a0_0)) * (wrap64 (a2_1 - a0_1)))) - (wrap64 ((wrap64 (a1_1 - a0_1)) * (wrap64 (a2_0 - a0_0)))))) < 0) = false:=decide_eq_false c14
   clear c14
   obtain rfl:=Option.some.inj H
   go_enter Try.func147,Try.ntmps147
   go_wp2_with (first | ((with_reducible refine gate_dst (N:=3) rfl ?_);refine bx (cs:=#[.int .i64 a0_0,.int .i64 a0_1]) (t:=73) ?_;intro gb281 hg w24 hbox hb;have BK281:=Aside0.mk (hbox);have GW281:=zb hg;have GE281:=zb hg;replace HB:=sb hb;clear hb hbox hg) | ((with_reducible refine gate_dst (N:=4) rfl ?_);refine bx (cs:=#[.int .i64 a1_0,.int .i64 a1_1]) (t:=73) ?_;intro gb282 hg w25 hbox hb;have BK282:=Aside0.mk (hbox);have GW282:=zb hg;have GE282:=zb hg;replace HB:=sb hb;have NB281_282:=nl BK281 hg;have NB282_281:=ng BK281 hg;replace BK281:=kb BK281 hb;clear hb hbox hg) | ((with_reducible refine gate_dst (N:=5) rfl ?_);refine bx (cs:=#[.int .i64 a2_0,.int .i64 a2_1]) (t:=73) ?_;intro gb283 hg w26 hbox hb;have BK283:=Aside0.mk (hbox);have GW283:=zb hg;have GE283:=zb hg;replace HB:=sb hb;have NB281_283:=nl BK281 hg;have NB283_281:=ng BK281 hg;replace BK281:=kb BK281 hb;have NB282_283:=nl BK282 hg;have NB283_282:=ng BK282 hg;replace BK282:=kb BK282 hb;clear hb hbox hg;have hnb27:=NB282_281.out;have hnc27:=NB281_282.out;have hnb28:=NB282_283.out;have hnc28:=NB283_282.out;have hcz29_0:=ck BK282 0;have hcz29_1:=ck BK282 1;have hfz29_0:=blk_frozen BK282.out 0;have hfz29_1:=blk_frozen BK282.out 1;have hnb30:=NB281_283.out;have hnc30:=NB283_281.out;have hcz31_0:=ck BK281 0;have hcz31_1:=ck BK281 1;have hfz31_0:=blk_frozen BK281.out 0;have hfz31_1:=blk_frozen BK281.out 1;have hcz32_0:=ck BK283 0;have hcz32_1:=ck BK283 1;have hfz32_0:=blk_frozen BK283.out 0;have hfz32_1:=blk_frozen BK283.out 1))
   go_ret
   exact ⟨by first | rfl | (simp [errW_none,errW_some] <;> rfl) | (simp [*,errW_none,errW_some] <;> rfl),ib⟩
def impl_on.f (a0_0 : Int) (a0_1 : Int) (a1_0 : Int) (a1_1 : Int) (a2_0 : Int) (a2_1 : Int) : Option (Bool):=(impl_side.f a0_0 a0_1 a1_0 a1_1 a2_0 a2_1).bind fun t287 => (if t287 = 0 then ((impl_within.f a2_0 (mn a0_0 a1_0) (mx a0_0 a1_0)).bind fun t288 => (if t288 = true then ((impl_within.f a2_1 (mn a0_1 a1_1) (mx a0_1 a1_1)).bind fun t289 => (some t289)) else (some false))) else (some false))
theorem impl_on.calls (a0_0 : Int) (a0_1 : Int) (a1_0 : Int) (a1_1 : Int) (a2_0 : Int) (a2_1 : Int) (r : Bool) (w : World) (h : impl_on.f a0_0 a0_1 a1_0 a1_1 a2_0 a2_1 = some r) :
  Calls Try.prog 105 #[.agg #[.int .i64 a0_0,.int .i64 a0_1],.agg #[.int .i64 a1_0,.int .i64 a1_1],.agg #[.int .i64 a2_0,.int .i64 a2_1]] w fun e w' => e = .returned (.bool r) ∧ Below w.heap.size w w':=by
 have hu73:=Try.underlying73
 have HB:=Aside0.mk (Below.refl w.heap.size w)
 have H : ((impl_side.f a0_0 a0_1 a1_0 a1_1 a2_0 a2_1).bind fun t287 => (if t287 = 0 then ((impl_within.f a2_0 (mn a0_0 a1_0) (mx a0_0 a1_0)).bind fun t288 => (if t288 = true then ((impl_within.f a2_1 (mn a0_1 a1_1) (mx a0_1 a1_1)).bind fun t289 => (some t289)) else (some false))) else (some false))) = some r:=h
 clear h
 replace H:=bE.mp H
 obtain ⟨t287,A40,H⟩:=H
 replace H : (if t287 = 0 then ((impl_within.f a2_0 (mn a0_0 a1_0) (mx a0_0 a1_0)).bind fun t288 => (if t288 = true then ((impl_within.f a2_1 (mn a0_1 a1_1) (mx a0_1 a1_1)).bind fun t289 => (some t289)) else (some false))) else (some false)) = some r:=H
 have A4:=Aside0.mk A40
 clear A40
 by_cases c5 : t287 = 0
 ·rw [if_pos c5] at H
  have c5b0 : (t287 == 0) = true:=beq_iff_eq.mpr c5
  have c5b1 : (t287 != 0) = false:=bne_eq_false_iff_eq.mpr c5
  clear c5
  obtain ⟨ji6,hji6⟩ : ∃ j_ : Int,(mn a0_0 a1_0) = j_:=⟨_,rfl⟩
  replace H : ((impl_within.f a2_0 (ji6) (mx a0_0 a1_0)).bind fun t288 => (if t288 = true then ((impl_within.f a2_1 (mn a0_1 a1_1) (mx a0_1 a1_1)).bind fun t289 => (some t289)) else (some false))) = some r:=by first | (rw [hji6] at H;exact H) | (simp only [hji6] at H ⊢;exact H)
  (try rw [hji6] at A4)
  have hji6_ : (if a1_0 < a0_0 then a1_0 else a0_0) = ji6:=hji6
  obtain ⟨ji7,hji7⟩ : ∃ j_ : Int,(mx a0_0 a1_0) = j_:=⟨_,rfl⟩
  replace H : ((impl_within.f a2_0 (ji6) (ji7)).bind fun t288 => (if t288 = true then ((impl_within.f a2_1 (mn a0_1 a1_1) (mx a0_1 a1_1)).bind fun t289 => (some t289)) else (some false))) = some r:=by first | (rw [hji7] at H;exact H) | (simp only [hji7] at H ⊢;exact H)
  (try rw [hji7] at A4)
  have hji7_ : (if a0_0 < a1_0 then a1_0 else a0_0) = ji7:=hji7
  replace H:=bE.mp H
  obtain ⟨t288,A80,H⟩:=H
  replace H : (if t288 = true then ((impl_within.f a2_1 (mn a0_1 a1_1) (mx a0_1 a1_1)).bind fun t289 => (some t289)) else (some false)) = some r:=H
  have A8:=Aside0.mk A80
  clear A80
  by_cases c9 : t288 = true
  ·subst c9
   have H1 : ((impl_within.f a2_1 (mn a0_1 a1_1) (mx a0_1 a1_1)).bind fun t289 => (some t289)) = some r:=by rw [if_pos rfl] at H;exact H
   clear H
   have H:=H1
   clear H1
   obtain ⟨ji10,hji10⟩ : ∃ j_ : Int,(mn a0_1 a1_1) = j_:=⟨_,rfl⟩
   replace H : ((impl_within.f a2_1 (ji10) (mx a0_1 a1_1)).bind fun t289 => (some t289)) = some r:=by first | (rw [hji10] at H;exact H) | (simp only [hji10] at H ⊢;exact H)
   (try rw [hji10] at A4)
   (try rw [hji10] at A8)
   have hji10_ : (if a1_1 < a0_1 then a1_1 else a0_1) = ji10:=hji10
   obtain ⟨ji11,hji11⟩ : ∃ j_ : Int,(mx a0_1 a1_1) = j_:=⟨_,rfl⟩
   replace H : ((impl_within.f a2_1 (ji10) (ji11)).bind fun t289 => (some t289)) = some r:=by first | (rw [hji11] at H;exact H) | (simp only [hji11] at H ⊢;exact H)
   (try rw [hji11] at A4)
   (try rw [hji11] at A8)
   have hji11_ : (if a0_1 < a1_1 then a1_1 else a0_1) = ji11:=hji11
   replace H:=bE.mp H
   obtain ⟨t289,A120,H⟩:=H
   replace H : (some t289) = some r:=H
   have A12:=Aside0.mk A120
   clear A120
   obtain rfl:=Option.some.inj H
   go_enter Try.func105,Try.ntmps105
   go_wp2_with (first | ((with_reducible refine gate_dst (N:=3) rfl ?_);(try (refine gate_guard (by rfl) ?_;dsimp only));refine bx (cs:=#[.int .i64 a0_0,.int .i64 a0_1]) (t:=73) ?_;intro gb284 hg w13 hbox hb;have BK284:=Aside0.mk (hbox);have GW284:=zb hg;have GE284:=zb hg;replace HB:=sb hb;clear hb hbox hg) | ((with_reducible refine gate_dst (N:=4) rfl ?_);(try (refine gate_guard (by rfl) ?_;dsimp only));refine bx (cs:=#[.int .i64 a1_0,.int .i64 a1_1]) (t:=73) ?_;intro gb285 hg w14 hbox hb;have BK285:=Aside0.mk (hbox);have GW285:=zb hg;have GE285:=zb hg;replace HB:=sb hb;have NB284_285:=nl BK284 hg;have NB285_284:=ng BK284 hg;replace BK284:=kb BK284 hb;clear hb hbox hg) | ((with_reducible refine gate_dst (N:=5) rfl ?_);(try (refine gate_guard (by rfl) ?_;dsimp only));refine bx (cs:=#[.int .i64 a2_0,.int .i64 a2_1]) (t:=73) ?_;intro gb286 hg w15 hbox hb;have BK286:=Aside0.mk (hbox);have GW286:=zb hg;have GE286:=zb hg;replace HB:=sb hb;have NB284_286:=nl BK284 hg;have NB286_284:=ng BK284 hg;replace BK284:=kb BK284 hb;have NB285_286:=nl BK285 hg;have NB286_285:=ng BK285 hg;replace BK285:=kb BK285 hb;clear hb hbox hg;have hnb16:=NB284_285.out;have hnc16:=NB285_284.out;have hnb17:=NB284_286.out;have hnc17:=NB286_284.out;have hcz18_0:=ck BK284 0;have hcz18_1:=ck BK284 1;have hfz18_0:=blk_frozen BK284.out 0;have hfz18_1:=blk_frozen BK284.out 1;have hnb19:=NB285_286.out;have hnc19:=NB286_285.out;have hcz20_0:=ck BK285 0;have hcz20_1:=ck BK285 1;have hfz20_0:=blk_frozen BK285.out 0;have hfz20_1:=blk_frozen BK285.out 1;have hcz21_0:=ck BK286 0;have hcz21_1:=ck BK286 1;have hfz21_0:=blk_frozen BK286.out 0;have hfz21_1:=blk_frozen BK286.out 1) | ((with_reducible refine gate_callee (f:=147) rfl ?_);refine goesL_ (some 10) rfl rfl Try.func147 (by kernel_rfl) rfl #[.agg #[.int .i64 a0_0,.int .i64 a0_1],.agg #[.int .i64 a1_0,.int .i64 a1_1],.agg #[.int .i64 a2_0,.int .i64 a2_1]] rfl (by (try simp only [mT,mC,mN]);first | done | rfl | (simp only [lD,lT];rfl)) ?_;(with_reducible refine (impl_side.calls a0_0 a0_1 a1_0 a1_1 a2_0 a2_1 t287 _ A4.out).mono ?_);rintro e w22 ⟨rfl,hb⟩;refine ⟨_,rfl,?_⟩;replace BK284:=kb BK284 hb;replace BK285:=kb BK285 hb;replace BK286:=kb BK286 hb;replace HB:=sb hb;(try clear hb);(try clear hb2);(try clear hk);(try clear hi);have hcz23_0:=ck BK286 0;have hcz23_1:=ck BK286 1;have hfz23_0:=blk_frozen BK286.out 0;have hfz23_1:=blk_frozen BK286.out 1;have hcz24_0:=ck BK284 0;have hcz24_1:=ck BK284 1;have hfz24_0:=blk_frozen BK284.out 0;have hfz24_1:=blk_frozen BK284.out 1;have hcz25_0:=ck BK285 0;have hcz25_1:=ck BK285 1;have hfz25_0:=blk_frozen BK285.out 0;have hfz25_1:=blk_frozen BK285.out 1) | (go_at_call 62;(with_reducible refine (impl_within.calls a2_0 ji6 ji7 true _ A8.out).mono ?_);rintro e w' ⟨rfl,⟨nd,rfl⟩⟩) | (go_at_call 62;(with_reducible refine (impl_within.calls a2_1 ji10 ji11 t289 _ A12.out).mono ?_);rintro e w' ⟨rfl,⟨nd,rfl⟩⟩))
   go_ret
   exact ⟨by first | rfl | (simp [errW_none,errW_some] <;> rfl) | (simp only [← hji6,← hji7,← hji10,← hji11];first | rfl | (simp [errW_none,errW_some] <;> rfl)) | (simp [*,errW_none,errW_some] <;> rfl),ib⟩
  ·replace c9:=Bool.eq_false_iff.mpr c9
   subst c9
   have H1 : (some false) = some r:=by rw [if_neg (show ¬ (false = true) by decide)] at H;exact H
   clear H
   have H:=H1
   clear H1
   obtain rfl:=Option.some.inj H
   go_enter Try.func105,Try.ntmps105
   go_wp2_with (first | ((with_reducible refine gate_dst (N:=3) rfl ?_);(try (refine gate_guard (by rfl) ?_;dsimp only));refine bx (cs:=#[.int .i64 a0_0,.int .i64 a0_1]) (t:=73) ?_;intro gb284 hg w26 hbox hb;have BK284:=Aside0.mk (hbox);have GW284:=zb hg;have GE284:=zb hg;replace HB:=sb hb;clear hb hbox hg) | ((with_reducible refine gate_dst (N:=4) rfl ?_);(try (refine gate_guard (by rfl) ?_;dsimp only));refine bx (cs:=#[.int .i64 a1_0,.int .i64 a1_1]) (t:=73) ?_;intro gb285 hg w27 hbox hb;have BK285:=Aside0.mk (hbox);have GW285:=zb hg;have GE285:=zb hg;replace HB:=sb hb;have NB284_285:=nl BK284 hg;have NB285_284:=ng BK284 hg;replace BK284:=kb BK284 hb;clear hb hbox hg) | ((with_reducible refine gate_dst (N:=5) rfl ?_);(try (refine gate_guard (by rfl) ?_;dsimp only));refine bx (cs:=#[.int .i64 a2_0,.int .i64 a2_1]) (t:=73) ?_;intro gb286 hg w28 hbox hb;have BK286:=Aside0.mk (hbox);have GW286:=zb hg;have GE286:=zb hg;replace HB:=sb hb;have NB284_286:=nl BK284 hg;have NB286_284:=ng BK284 hg;replace BK284:=kb BK284 hb;have NB285_286:=nl BK285 hg;have NB286_285:=ng BK285 hg;replace BK285:=kb BK285 hb;clear hb hbox hg;have hnb29:=NB284_285.out;have hnc29:=NB285_284.out;have hnb30:=NB284_286.out;have hnc30:=NB286_284.out;have hcz31_0:=ck BK284 0;have hcz31_1:=ck BK284 1;have hfz31_0:=blk_frozen BK284.out 0;have hfz31_1:=blk_frozen BK284.out 1;have hnb32:=NB285_286.out;have hnc32:=NB286_285.out;have hcz33_0:=ck BK285 0;have hcz33_1:=ck BK285 1;have hfz33_0:=blk_frozen BK285.out 0;have hfz33_1:=blk_frozen BK285.out 1;have hcz34_0:=ck BK286 0;have hcz34_1:=ck BK286 1;have hfz34_0:=blk_frozen BK286.out 0;have hfz34_1:=blk_frozen BK286.out 1) | ((with_reducible refine gate_callee (f:=147) rfl ?_);refine goesL_ (some 10) rfl rfl Try.func147 (by kernel_rfl) rfl #[.agg #[.int .i64 a0_0,.int .i64 a0_1],.agg #[.int .i64 a1_0,.int .i64 a1_1],.agg #[.int .i64 a2_0,.int .i64 a2_1]] rfl (by (try simp only [mT,mC,mN]);first | done | rfl | (simp only [lD,lT];rfl)) ?_;(with_reducible refine (impl_side.calls a0_0 a0_1 a1_0 a1_1 a2_0 a2_1 t287 _ A4.out).mono ?_);rintro e w35 ⟨rfl,hb⟩;refine ⟨_,rfl,?_⟩;replace BK284:=kb BK284 hb;replace BK285:=kb BK285 hb;replace BK286:=kb BK286 hb;replace HB:=sb hb;(try clear hb);(try clear hb2);(try clear hk);(try clear hi);have hcz36_0:=ck BK286 0;have hcz36_1:=ck BK286 1;have hfz36_0:=blk_frozen BK286.out 0;have hfz36_1:=blk_frozen BK286.out 1;have hcz37_0:=ck BK284 0;have hcz37_1:=ck BK284 1;have hfz37_0:=blk_frozen BK284.out 0;have hfz37_1:=blk_frozen BK284.out 1;have hcz38_0:=ck BK285 0;have hcz38_1:=ck BK285 1;have hfz38_0:=blk_frozen BK285.out 0;have hfz38_1:=blk_frozen BK285.out 1) | (go_at_call 62;(with_reducible refine (impl_within.calls a2_0 ji6 ji7 false _ A8.out).mono ?_);rintro e w' ⟨rfl,⟨nd,rfl⟩⟩))
   go_ret
   exact ⟨by first | rfl | (simp [errW_none,errW_some] <;> rfl) | (simp only [← hji6,← hji7];first | rfl | (simp [errW_none,errW_some] <;> rfl)) | (simp [*,errW_none,errW_some] <;> rfl),ib⟩
 ·rw [if_neg c5] at H
  have c5b0 : (t287 == 0) = false:=beq_eq_false_iff_ne.mpr c5
  have c5b1 : (t287 != 0) = true:=bne_iff_ne.mpr c5
  obtain rfl:=Option.some.inj H
  go_enter Try.func105,Try.ntmps105
  go_wp2_with (first | ((with_reducible refine gate_dst (N:=3) rfl ?_);(try (refine gate_guard (by rfl) ?_;dsimp only));refine bx (cs:=#[.int .i64 a0_0,.int .i64 a0_1]) (t:=73) ?_;intro gb284 hg w39 hbox hb;have BK284:=Aside0.mk (hbox);have GW284:=zb hg;have GE284:=zb hg;replace HB:=sb hb;clear hb hbox hg) | ((with_reducible refine gate_dst (N:=4) rfl ?_);(try (refine gate_guard (by rfl) ?_;dsimp only));refine bx (cs:=#[.int .i64 a1_0,.int .i64 a1_1]) (t:=73) ?_;intro gb285 hg w40 hbox hb;have BK285:=Aside0.mk (hbox);have GW285:=zb hg;have GE285:=zb hg;replace HB:=sb hb;have NB284_285:=nl BK284 hg;have NB285_284:=ng BK284 hg;replace BK284:=kb BK284 hb;clear hb hbox hg) | ((with_reducible refine gate_dst (N:=5) rfl ?_);(try (refine gate_guard (by rfl) ?_;dsimp only));refine bx (cs:=#[.int .i64 a2_0,.int .i64 a2_1]) (t:=73) ?_;intro gb286 hg w41 hbox hb;have BK286:=Aside0.mk (hbox);have GW286:=zb hg;have GE286:=zb hg;replace HB:=sb hb;have NB284_286:=nl BK284 hg;have NB286_284:=ng BK284 hg;replace BK284:=kb BK284 hb;have NB285_286:=nl BK285 hg;have NB286_285:=ng BK285 hg;replace BK285:=kb BK285 hb;clear hb hbox hg;have hnb42:=NB284_285.out;have hnc42:=NB285_284.out;have hnb43:=NB284_286.out;have hnc43:=NB286_284.out;have hcz44_0:=ck BK284 0;have hcz44_1:=ck BK284 1;have hfz44_0:=blk_frozen BK284.out 0;have hfz44_1:=blk_frozen BK284.out 1;have hnb45:=NB285_286.out;have hnc45:=NB286_285.out;have hcz46_0:=ck BK285 0;have hcz46_1:=ck BK285 1;have hfz46_0:=blk_frozen BK285.out 0;have hfz46_1:=blk_frozen BK285.out 1;have hcz47_0:=ck BK286 0;have hcz47_1:=ck BK286 1;have hfz47_0:=blk_frozen BK286.out 0;have hfz47_1:=blk_frozen BK286.out 1) | ((with_reducible refine gate_callee (f:=147) rfl ?_);refine goesL_ (some 10) rfl rfl Try.func147 (by kernel_rfl) rfl #[.agg #[.int .i64 a0_0,.int .i64 a0_1],.agg #[.int .i64 a1_0,.int .i64 a1_1],.agg #[.int .i64 a2_0,.int .i64 a2_1]] rfl (by (try simp only [mT,mC,mN]);first | done | rfl | (simp only [lD,lT];rfl)) ?_;(with_reducible refine (impl_side.calls a0_0 a0_1 a1_0 a1_1 a2_0 a2_1 t287 _ A4.out).mono ?_);rintro e w48 ⟨rfl,hb⟩;refine ⟨_,rfl,?_⟩;replace BK284:=kb BK284 hb;replace BK285:=kb BK285 hb;replace BK286:=kb BK286 hb;replace HB:=sb hb;(try clear hb);(try clear hb2);(try clear hk);(try clear hi)))
  go_ret
  exact ⟨by first | rfl | (simp [errW_none,errW_some] <;> rfl) | (simp [*,errW_none,errW_some] <;> rfl),ib⟩
end Go.Proofs.Ytnnchaggdnlfmaa.PFnExactUnusedPoints
