/- Contracts of functions that FnExactTriangulate reaches, out of the lines of the kit's print. -/
import Derived.Test.YtnnchaggdnlfmaaQFnExactTriangulatex0
import Derived.Test.YtnnchaggdnlfmaaQFnExactTriangulatex2
import Derived.Test.YtnnchaggdnlfmaaQFnExactTriangulatex9
import Derived.Test.YtnnchaggdnlfmaaQFnExactTriangulatex16
namespace Go.Proofs.Ytnnchaggdnlfmaa.PFnExactTriangulate
open Go.RowKit Go.Proofs.YtnnchaggdnlfmaaW.PrintWords Go.Proofs.YtnnchaggdnlfmaaW.PrintLast Go.Proofs.YtnnchaggdnlfmaaW.PrintMore
open Bool renaming true → tT, false → fF
open Go.World renaming block_lt_of_cell? → bL
open List renaming length_take → lT, length_drop → lD, map_toArray → mT, map_cons → mC, map_nil → mN
open Option renaming bind_eq_some_iff → bE
attribute [local go_sem] max2_int min2_int max_two min_two max_three min_three max_four min_four
set_option linter.unusedVariables false
set_option linter.unusedSimpArgs false
mutual
def laws_FnExactTriangulate.j0 : Nat → List (S75) → List (List (S73)) → Int → List (S73) → List (List (S73)) → Int → Bool → Option (Bool)
 | 0,_,_,_,_,_,_,_ => none
 | k + 1,x0,x4,x5,x6,x7,x8,x40 => if x40 = true then (some false) else ((laws_toPointS.f k x0).bind fun t391 => ((laws_eqPointS.f k x6 t391).bind fun t394 => (if t394 = true then ((laws_markPointS.f k x6 1).bind fun bt395 => (if bt395.1 < 0 then (laws_FnExactTriangulate.j1 k x0 x4 x5 x7 true) else ((laws_eqPointSS.f k x7 x4).bind fun t397 => (if t397 = true then (laws_FnExactTriangulate.j1 k x0 x4 x5 x7 (x8 != x5)) else (laws_FnExactTriangulate.j1 k x0 x4 x5 x7 true))))) else (some false))))
def laws_FnExactTriangulate.j1 : Nat → List (S75) → List (List (S73)) → Int → List (List (S73)) → Bool → Option (Bool)
 | 0,_,_,_,_,_ => none
 | k + 1,x0,x4,x5,x7,x61 => if x61 = true then (some false) else ((laws_markPointSS.f k x7 1).bind fun bt398 => ((laws_heldPointSS.f k bt398.2 1).bind fun t400 => (if t400 < 0 then (some false) else (if t400 = bt398.1 then ((laws_toPointS.f k x0).bind fun t401 => ((impl_Triangulate.f k t401).bind fun bt404 => ((laws_eqPointSS.f k bt404.1 x4).bind fun t408 => (if t408 = true then (laws_FnExactTriangulate.j2 k bt398.2 bt398.1 (bt404.2 != x5)) else (laws_FnExactTriangulate.j2 k bt398.2 bt398.1 true))))) else (some false)))))
def laws_FnExactTriangulate.j2 : Nat → List (List (S73)) → Int → Bool → Option (Bool)
 | 0,_,_,_ => none
 | k + 1,x7,x10,x87 => if x87 = true then (some false) else ((laws_heldPointSS.f k x7 1).bind fun t409 => (if t409 < 0 then (some false) else (if t409 = x10 then (some true) else (some false))))
end
def laws_FnExactTriangulate.f (k : Nat) (l0 : List (S75)) : Option (Bool):=(laws_szPointS.f l0 1048576).bind fun t375 => (if t375 < 0 then (some true) else ((laws_toPointS.f k l0).bind fun t376 => ((spec_Triangulate.f k t376).bind fun bt379 => ((laws_toPointS.f k l0).bind fun t383 => ((impl_Triangulate.f k t383).bind fun bt386 => ((laws_eqPointSS.f k bt386.1 bt379.1).bind fun t390 => (if t390 = true then (laws_FnExactTriangulate.j0 k l0 bt379.1 bt379.2 t383 bt386.1 bt386.2 (bt386.2 != bt379.2)) else (laws_FnExactTriangulate.j0 k l0 bt379.1 bt379.2 t383 bt386.1 bt386.2 true))))))))
set_option maxHeartbeats 8000000 in
set_option maxRecDepth 100000 in
theorem laws_FnExactTriangulate.calls (k : Nat) (A0 : Option Addr) (c0 : Nat) (l0 : List (S75)) (w : World) (hr0 : Kd.C k75 w A0 l0.length l0) (hc0 : l0.length ≤ c0) (h : laws_FnExactTriangulate.f k l0 = some true) :
  Calls Try.prog 5 #[.slice A0 l0.length c0] w fun e w' => e = .returned (.bool true) ∧ Below w.heap.size w w':=by
 have HR0:=Aside0.mk hr0
 have HC0:=Aside0.mk hc0
 clear hr0 hc0
 have HB:=Aside0.mk (Below.refl w.heap.size w)
 have H : ((laws_szPointS.f l0 1048576).bind fun t375 => (if t375 < 0 then (some true) else ((laws_toPointS.f k l0).bind fun t376 => ((spec_Triangulate.f k t376).bind fun bt379 => ((laws_toPointS.f k l0).bind fun t383 => ((impl_Triangulate.f k t383).bind fun bt386 => ((laws_eqPointSS.f k bt386.1 bt379.1).bind fun t390 => (if t390 = true then (laws_FnExactTriangulate.j0 k l0 bt379.1 bt379.2 t383 bt386.1 bt386.2 (bt386.2 != bt379.2)) else (laws_FnExactTriangulate.j0 k l0 bt379.1 bt379.2 t383 bt386.1 bt386.2 true))))))))) = some true:=h
 clear h
 obtain ⟨t1,A10_,H⟩:=bE.mp H
 have A1:=Aside0.mk A10_
 clear A10_
 by_cases c1 : t1 < 0
 ·have c1b0 : decide (t1 < 0) = true:=decide_eq_true c1
  clear c1 H
  go_enter Try.func5,Try.ntmps5
  go_wp2_with (first | ((with_reducible refine gate_callee (f:=15) rfl ?_);refine goesL_ _ rfl rfl Try.func15 (by kernel_rfl) rfl #[.slice A0 l0.length c0,.int .i64 1048576] rfl (by (try simp only [mT,mC,mN]);first | done | rfl | (simp only [lD,lT];rfl)) ?_;(with_reducible refine (laws_szPointS.calls _ _ l0 1048576 t1 _ (cO ((Kd.C_below HR0.out ib))) HC0.out A1.out).mono ?_);rintro e w5 ⟨rfl,⟨nd,rfl⟩⟩;refine ⟨_,rfl,?_⟩;clear A1))
  go_ret
  exact ⟨(by first | rfl | (simp;done) | (simp [*];done)),ib⟩
 ·replace H:=(if_neg c1).symm.trans H
  have c1b0 : decide (t1 < 0) = false:=decide_eq_false c1
  clear c1
  obtain ⟨t2,A2_,H⟩:=bE.mp H
  obtain ⟨⟨t3,t4⟩,A3_,H⟩:=bE.mp H
  obtain ⟨t5,A5_,H⟩:=bE.mp H
  obtain ⟨⟨t6,t7⟩,A6_,H⟩:=bE.mp H
  obtain ⟨t8,A8_,H⟩:=bE.mp H
  have jt : ∀ (k : Nat) a b c d e f,laws_FnExactTriangulate.j0 k a b c d e f true = some true → False:=fun k a b c d e f h => by cases k <;> simp [laws_FnExactTriangulate.j0] at h
  have jt1 : ∀ (k : Nat) a b c d,laws_FnExactTriangulate.j1 k a b c d true = some true → False:=fun k a b c d h => by cases k <;> simp [laws_FnExactTriangulate.j1] at h
  have jt2 : ∀ (k : Nat) a b,laws_FnExactTriangulate.j2 k a b true = some true → False:=fun k a b h => by cases k <;> simp [laws_FnExactTriangulate.j2] at h
  cases t8 with
  | false => exact (jt _ _ _ _ _ _ _ ((if_neg (show ¬ (false = true) by decide)).symm.trans H)).elim
  | true =>
  replace H : laws_FnExactTriangulate.j0 k l0 t3 t4 t5 t6 t7 (t7 != t4) = some true:=(if_pos rfl).symm.trans H
  cases e1 : (t7 != t4) with
  | true => rw [e1] at H;exact (jt _ _ _ _ _ _ _ H).elim
  | false =>
  rw [e1] at H
  cases k with
  | zero => exact absurd H (by simp [laws_FnExactTriangulate.j0])
  | succ k1 =>
  simp only [laws_FnExactTriangulate.j0,Bool.false_eq_true,if_false] at H
  obtain ⟨t9,A9_,H⟩:=bE.mp H
  obtain ⟨t10,A10_,H⟩:=bE.mp H
  cases t10 with
  | false => exact absurd H (by simp)
  | true =>
  replace H:=(if_pos rfl).symm.trans H
  obtain ⟨⟨t11,t12⟩,A11_,H⟩:=bE.mp H
  by_cases c2 : t11 < 0
  ·exact (jt1 _ _ _ _ _ ((if_pos c2).symm.trans H)).elim
  replace H:=(if_neg c2).symm.trans H
  have c2b0 : decide (t11 < 0) = false:=decide_eq_false c2
  clear c2
  obtain ⟨t13,A13_,H⟩:=bE.mp H
  cases t13 with
  | false => exact (jt1 _ _ _ _ _ ((if_neg (show ¬ (false = true) by decide)).symm.trans H)).elim
  | true =>
  replace H:=(if_pos rfl).symm.trans H
  rw [e1] at H
  cases k1 with
  | zero => exact absurd H (by simp [laws_FnExactTriangulate.j1])
  | succ k2 =>
  simp only [laws_FnExactTriangulate.j1,Bool.false_eq_true,if_false] at H
  obtain ⟨⟨t14,t15⟩,A14_,H⟩:=bE.mp H
  obtain ⟨t16,A16_,H⟩:=bE.mp H
  by_cases c3 : t16 < 0
  ·exact absurd ((if_pos c3).symm.trans H) (by simp)
  replace H:=(if_neg c3).symm.trans H
  by_cases c4 : t16 = t14
  case neg => exact absurd ((if_neg c4).symm.trans H) (by simp)
  replace H:=(if_pos c4).symm.trans H
  subst c4
  have c3b0 : decide (t16 < 0) = false:=decide_eq_false c3
  clear c3
  obtain ⟨t17,A17_,H⟩:=bE.mp H
  obtain ⟨⟨t18,t19⟩,A18_,H⟩:=bE.mp H
  obtain ⟨t20,A20_,H⟩:=bE.mp H
  cases t20 with
  | false => exact (jt2 _ _ _ ((if_neg (show ¬ (false = true) by decide)).symm.trans H)).elim
  | true =>
  replace H : laws_FnExactTriangulate.j2 k2 t15 t16 (t19 != t4) = some true:=(if_pos rfl).symm.trans H
  cases e2 : (t19 != t4) with
  | true => rw [e2] at H;exact (jt2 _ _ _ H).elim
  | false =>
  rw [e2] at H
  cases k2 with
  | zero => exact absurd H (by simp [laws_FnExactTriangulate.j2])
  | succ k3 =>
  simp only [laws_FnExactTriangulate.j2,Bool.false_eq_true,if_false] at H
  obtain ⟨t21,A21_,H⟩:=bE.mp H
  by_cases c5 : t21 < 0
  ·exact absurd ((if_pos c5).symm.trans H) (by simp)
  replace H:=(if_neg c5).symm.trans H
  by_cases c6 : t21 = t16
  case neg => exact absurd ((if_neg c6).symm.trans H) (by simp)
  subst c6
  clear H c5 jt jt1 jt2
  have A2:=Aside0.mk A2_;have A3:=Aside0.mk A3_;have A5:=Aside0.mk A5_;have A6:=Aside0.mk A6_;have A8:=Aside0.mk A8_;have A9:=Aside0.mk A9_;have A10:=Aside0.mk A10_;have A11:=Aside0.mk A11_;have A13:=Aside0.mk A13_;have A14:=Aside0.mk A14_;have A16:=Aside0.mk A16_;have A17:=Aside0.mk A17_;have A18:=Aside0.mk A18_;have A20:=Aside0.mk A20_;have A21:=Aside0.mk A21_
  clear A2_ A3_ A5_ A6_ A8_ A9_ A10_ A11_ A13_ A14_ A16_ A17_ A18_ A20_ A21_
  go_enter Try.func5,Try.ntmps5
  go_wp2_with (first | ((with_reducible refine gate_callee (f:=15) rfl ?_);refine goesL_ _ rfl rfl Try.func15 (by kernel_rfl) rfl #[.slice A0 l0.length c0,.int .i64 1048576] rfl (by (try simp only [mT,mC,mN]);first | done | rfl | (simp only [lD,lT];rfl)) ?_;(with_reducible refine (laws_szPointS.calls _ _ l0 1048576 t1 _ (cO ((Kd.C_below HR0.out ib))) HC0.out A1.out).mono ?_);rintro e w5 ⟨rfl,⟨nd,rfl⟩⟩;refine ⟨_,rfl,?_⟩;clear A1) | ((with_reducible refine gate_callee (f:=17) rfl ?_);refine goesL_ _ rfl rfl Try.func17 (by kernel_rfl) rfl #[.slice A0 l0.length c0] rfl (by (try simp only [mT,mC,mN]);first | done | rfl | (simp only [lD,lT];rfl)) ?_;(with_reducible refine (laws_toPointS.calls _ _ _ l0 t2 _ (cO ((Kd.C_below HR0.out ib))) HC0.out A2.out).mono ?_);rintro e w5 ⟨v0_,rfl,ho,hb⟩;refine ⟨_,rfl,?_⟩;have XT:=Aside0.mk ho;have HBn_:=sb hb;clear HB;have HB:=HBn_;clear HBn_;clear A2;obtain ⟨AT_,cT_,eT_⟩:=Kd.R_slice XT.out;subst eT_) | ((with_reducible refine gate_callee (f:=26) rfl ?_);refine goesL_ _ rfl rfl Try.func26 (by kernel_rfl) rfl #[.slice AT_ t2.length cT_] rfl (by (try simp only [mT,mC,mN]);first | done | rfl | (simp only [lD,lT];rfl)) ?_;(with_reducible refine (spec_Triangulate.calls _ _ _ t2 t3 t4 _ (cO ((Kd.R_reads' XT.out).2.2)) (Kd.R_reads' XT.out).2.1 A3.out).mono ?_);rintro e w5 ⟨v0_,rfl,ho,hb⟩;refine ⟨_,rfl,?_⟩;obtain ⟨N1,hN1⟩ : ∃ n_,n_ = w5.heap.size:=⟨_,rfl⟩;have G0:=Aside0.mk (Kd.S_mono (ok':=fun k_ => k_ < N1) (Kd.S_lower (Kd.S_bound ho) (show Below w.heap.size w _ from ib).size) (fun k_ hk_ => by rw [hN1];exact hk_.2.2.1));have B1:=Aside0.mk (Nat.le_of_eq hN1);have HBn_:=sb hb;clear HB;have HB:=HBn_;clear HBn_;clear A3 XT hN1;obtain ⟨AG,cG,eG_⟩:=Kd.S_slice G0.out;subst eG_) | ((with_reducible refine gate_callee (f:=17) rfl ?_);refine goesL_ _ rfl rfl Try.func17 (by kernel_rfl) rfl #[.slice A0 l0.length c0] rfl (by (try simp only [mT,mC,mN]);first | done | rfl | (simp only [lD,lT];rfl)) ?_;(with_reducible refine (laws_toPointS.calls _ _ _ l0 t5 _ (cO ((Kd.C_below HR0.out ib))) HC0.out A5.out).mono ?_);rintro e w5 ⟨v0_,rfl,ho,hb⟩;refine ⟨_,rfl,?_⟩;have G0n_:=Aside0.mk (Kd.S_below (sO G0.out) hb);obtain ⟨N2,hN2⟩ : ∃ n_,n_ = w5.heap.size:=⟨_,rfl⟩;have X0:=Aside0.mk (Kd.R_mono (ok':=fun k_ => N1 ≤ k_ ∧ k_ < N2) (Kd.R_lower (Kd.R_bound ho) (show Below w.heap.size w _ from ib).size) (fun k_ hk_ => ⟨Nat.le_trans B1.out hk_.2.1,by rw [hN2];exact hk_.2.2.1⟩));have B2:=Aside0.mk (Nat.le_of_eq hN2);have B12:=Aside0.mk (show N1 ≤ N2 by rw [hN2];exact Nat.le_trans B1.out hb.size);have HBn_:=sb hb;clear HB;have HB:=HBn_;clear HBn_;clear G0;have G0:=G0n_;clear G0n_;clear A5 hN2;obtain ⟨AX,cX,eX_⟩:=Kd.R_slice X0.out;subst eX_) | ((with_reducible refine gate_callee (f:=27) rfl ?_);refine goesL_ _ rfl rfl Try.func27 (by kernel_rfl) rfl #[.slice AX t5.length cX] rfl (by (try simp only [mT,mC,mN]);first | done | rfl | (simp only [lD,lT];rfl)) ?_;(with_reducible refine (impl_Triangulate.calls _ _ _ t5 t6 t7 _ (cO ((Kd.R_reads' X0.out).2.2)) (Kd.R_reads' X0.out).2.1 A6.out).mono ?_);rintro e w5 ⟨v0_,rfl,ho,hb⟩;refine ⟨_,rfl,?_⟩;have G0n_:=Aside0.mk (Kd.S_below (sO G0.out) hb);have X0n_:=Aside0.mk (Kd.R_below (rO X0.out) hb);have G1:=Aside0.mk (Kd.S_mono (ok':=fun k_ => N2 ≤ k_) (Kd.S_lower (Kd.S_bound ho) (show Below w.heap.size w _ from ib).size) (fun k_ hk_ => Nat.le_trans B2.out hk_.2.1));have HBn_:=sb hb;clear HB;have HB:=HBn_;clear HBn_;clear G0;have G0:=G0n_;clear G0n_;clear X0;have X0:=X0n_;clear X0n_;clear A6;obtain ⟨AI,cI,eI_⟩:=Kd.S_slice G1.out;subst eI_) | ((with_reducible refine gate_callee (f:=28) rfl ?_);refine goesL_ _ rfl rfl Try.func28 (by kernel_rfl) rfl #[.slice AI t6.length cI,.slice AG t3.length cG] rfl (by (try simp only [mT,mC,mN]);first | done | rfl | (simp only [lD,lT];rfl)) ?_;(with_reducible refine (laws_eqPointSS.calls _ _ _ t6 _ _ t3 true _ (cO ((Kd.S_reads' G1.out).2.2)) (Kd.S_reads' G1.out).2.1 (cO ((Kd.S_reads' G0.out).2.2)) (Kd.S_reads' G0.out).2.1 A8.out).mono ?_);rintro e w5 ⟨rfl,hb⟩;refine ⟨_,rfl,?_⟩;have G0n_:=Aside0.mk (Kd.S_below (sO G0.out) hb);have X0n_:=Aside0.mk (Kd.R_below (rO X0.out) hb);have G1n_:=Aside0.mk (Kd.S_below (sO G1.out) hb);have HBn_:=sb hb;clear HB;have HB:=HBn_;clear HBn_;clear G0;have G0:=G0n_;clear G0n_;clear X0;have X0:=X0n_;clear X0n_;clear G1;have G1:=G1n_;clear G1n_;clear A8 hb) | ((with_reducible refine gate_callee (f:=17) rfl ?_);refine goesL_ _ rfl rfl Try.func17 (by kernel_rfl) rfl #[.slice A0 l0.length c0] rfl (by (try simp only [mT,mC,mN]);first | done | rfl | (simp only [lD,lT];rfl)) ?_;(with_reducible refine (laws_toPointS.calls _ _ _ l0 t9 _ (cO ((Kd.C_below HR0.out ib))) HC0.out A9.out).mono ?_);rintro e w5 ⟨v0_,rfl,ho,hb⟩;refine ⟨_,rfl,?_⟩;have G0n_:=Aside0.mk (Kd.S_below (sO G0.out) hb);have X0n_:=Aside0.mk (Kd.R_below (rO X0.out) hb);have G1n_:=Aside0.mk (Kd.S_below (sO G1.out) hb);have XQ:=Aside0.mk ho;have HBn_:=sb hb;clear HB;have HB:=HBn_;clear HBn_;clear G0;have G0:=G0n_;clear G0n_;clear X0;have X0:=X0n_;clear X0n_;clear G1;have G1:=G1n_;clear G1n_;clear A9;obtain ⟨AQ,cQ,eQ_⟩:=Kd.R_slice XQ.out;subst eQ_) | ((with_reducible refine gate_callee (f:=19) rfl ?_);refine goesL_ _ rfl rfl Try.func19 (by kernel_rfl) rfl #[.slice AX t5.length cX,.slice AQ t9.length cQ] rfl (by (try simp only [mT,mC,mN]);first | done | rfl | (simp only [lD,lT];rfl)) ?_;(with_reducible refine (laws_eqPointS.calls _ _ _ t5 _ _ t9 true _ (cO ((Kd.R_reads' X0.out).2.2)) (Kd.R_reads' X0.out).2.1 (cO ((Kd.R_reads' XQ.out).2.2)) (Kd.R_reads' XQ.out).2.1 A10.out).mono ?_);rintro e w5 ⟨rfl,hb⟩;refine ⟨_,rfl,?_⟩;have G0n_:=Aside0.mk (Kd.S_below (sO G0.out) hb);have X0n_:=Aside0.mk (Kd.R_below (rO X0.out) hb);have G1n_:=Aside0.mk (Kd.S_below (sO G1.out) hb);have HBn_:=sb hb;clear HB;have HB:=HBn_;clear HBn_;clear G0;have G0:=G0n_;clear G0n_;clear X0;have X0:=X0n_;clear X0n_;clear G1;have G1:=G1n_;clear G1n_;clear A10 XQ hb) | ((with_reducible refine gate_callee (f:=23) rfl ?_);refine goesL_ _ rfl rfl Try.func23 (by kernel_rfl) rfl #[.slice AX t5.length cX,.int .i64 1] rfl (by (try simp only [mT,mC,mN]);first | done | rfl | (simp only [lD,lT];rfl)) ?_;(with_reducible refine (laws_markPointS.calls _ (fun k_ => N1 ≤ k_ ∧ k_ < N2) _ t5 1 t11 t12 w _ ib (rO X0.out) A11.out).mono ?_);rintro e w5 ⟨rfl,ho,hb,hk⟩;refine ⟨_,rfl,?_⟩;have G0n_:=Aside0.mk (Kd.S_step (sO G0.out) (fun k_ h1_ hlt => hk.2 k_ hlt (fun h2_ => Nat.not_lt.2 h2_.1 h1_)));have G1n_:=Aside0.mk (Kd.S_step (sO G1.out) (fun k_ h1_ hlt => hk.2 k_ hlt (fun h2_ => Nat.not_lt.2 h1_ h2_.2)));have HBn_:=Aside0.mk hb;clear HB X0;have HB:=HBn_;clear HBn_ hk ho hb;clear G0;have G0:=G0n_;clear G0n_;clear G1;have G1:=G1n_;clear G1n_;clear A11) | (go_at_call 28;(with_reducible refine (laws_eqPointSS.calls _ _ _ t6 _ _ t3 true _ (cO ((Kd.S_reads' G1.out).2.2)) (Kd.S_reads' G1.out).2.1 (cO ((Kd.S_reads' G0.out).2.2)) (Kd.S_reads' G0.out).2.1 A13.out).mono ?_);rintro e w5 ⟨rfl,hb⟩;have G0n_:=Aside0.mk (Kd.S_below (sO G0.out) hb);have G1n_:=Aside0.mk (Kd.S_below (sO G1.out) hb);have HBn_:=sb hb;clear HB;have HB:=HBn_;clear HBn_;clear G0;have G0:=G0n_;clear G0n_;clear G1;have G1:=G1n_;clear G1n_;clear A13 hb) | ((with_reducible refine gate_callee (f:=29) rfl ?_);refine goesL_ _ rfl rfl Try.func29 (by kernel_rfl) rfl #[.slice AI t6.length cI,.int .i64 1] rfl (by (try simp only [mT,mC,mN]);first | done | rfl | (simp only [lD,lT];rfl)) ?_;(with_reducible refine (laws_markPointSS.calls _ (fun k_ => N2 ≤ k_) _ t6 1 t21 t15 w _ ib (sO G1.out) A14.out).mono ?_);rintro e w5 ⟨rfl,ho,hb,hk⟩;refine ⟨_,rfl,?_⟩;have G0n_:=Aside0.mk (Kd.S_step (sO G0.out) (fun k_ h1_ hlt => hk.2 k_ hlt (fun h2_ => Nat.not_lt.2 (Nat.le_trans B12.out h2_) h1_)));have HBn_:=Aside0.mk hb;have G2:=Aside0.mk (Kd.S_mono (ok':=fun _ => True) ho (fun _ _ => trivial));clear HB G1;have HB:=HBn_;clear HBn_ hk ho hb;clear G0;have G0:=G0n_;clear G0n_;clear A14;have eL_ : t15.length = t6.length:=(Kd.S_reads' G2.out).1.symm;have G2n_:=Aside0.mk (show Kd.S (Kd.slice 73 k73) 25 w5 w.heap.size (fun _ => True) (.slice AI t15.length cI) t15 by (rw [eL_];exact G2.out));clear G2;have G2:=G2n_;clear G2n_;rw [← eL_];clear eL_) | ((with_reducible refine gate_callee (f:=30) rfl ?_);refine goesL_ _ rfl rfl Try.func30 (by kernel_rfl) rfl #[.slice AI t15.length cI,.int .i64 1] rfl (by (try simp only [mT,mC,mN]);first | done | rfl | (simp only [lD,lT];rfl)) ?_;(with_reducible refine (laws_heldPointSS.calls _ _ _ t15 1 t21 _ (cO ((Kd.S_reads' G2.out).2.2)) (Kd.S_reads' G2.out).2.1 A16.out).mono ?_);rintro e w5 ⟨rfl,⟨nd,rfl⟩⟩;refine ⟨_,rfl,?_⟩;clear A16) | ((with_reducible refine gate_callee (f:=17) rfl ?_);refine goesL_ _ rfl rfl Try.func17 (by kernel_rfl) rfl #[.slice A0 l0.length c0] rfl (by (try simp only [mT,mC,mN]);first | done | rfl | (simp only [lD,lT];rfl)) ?_;(with_reducible refine (laws_toPointS.calls _ _ _ l0 t17 _ (cO ((Kd.C_below HR0.out ib))) HC0.out A17.out).mono ?_);rintro e w5 ⟨v0_,rfl,ho,hb⟩;refine ⟨_,rfl,?_⟩;have G0n_:=Aside0.mk (Kd.S_below (sO G0.out) hb);have G2n_:=Aside0.mk (Kd.S_below (sO G2.out) hb);have XT:=Aside0.mk ho;have HBn_:=sb hb;clear HB;have HB:=HBn_;clear HBn_;clear G0;have G0:=G0n_;clear G0n_;clear G2;have G2:=G2n_;clear G2n_;clear A17;obtain ⟨AT_,cT_,eT_⟩:=Kd.R_slice XT.out;subst eT_) | ((with_reducible refine gate_callee (f:=27) rfl ?_);refine goesL_ _ rfl rfl Try.func27 (by kernel_rfl) rfl #[.slice AT_ t17.length cT_] rfl (by (try simp only [mT,mC,mN]);first | done | rfl | (simp only [lD,lT];rfl)) ?_;(with_reducible refine (impl_Triangulate.calls _ _ _ t17 t18 t19 _ (cO ((Kd.R_reads' XT.out).2.2)) (Kd.R_reads' XT.out).2.1 A18.out).mono ?_);rintro e w5 ⟨v0_,rfl,ho,hb⟩;refine ⟨_,rfl,?_⟩;have G0n_:=Aside0.mk (Kd.S_below (sO G0.out) hb);have G2n_:=Aside0.mk (Kd.S_below (sO G2.out) hb);have G3:=Aside0.mk ho;have HBn_:=sb hb;clear HB;have HB:=HBn_;clear HBn_;clear G0;have G0:=G0n_;clear G0n_;clear G2;have G2:=G2n_;clear G2n_;clear A18 XT;obtain ⟨AH,cH,eH_⟩:=Kd.S_slice G3.out;subst eH_) | ((with_reducible refine gate_callee (f:=28) rfl ?_);refine goesL_ _ rfl rfl Try.func28 (by kernel_rfl) rfl #[.slice AH t18.length cH,.slice AG t3.length cG] rfl (by (try simp only [mT,mC,mN]);first | done | rfl | (simp only [lD,lT];rfl)) ?_;(with_reducible refine (laws_eqPointSS.calls _ _ _ t18 _ _ t3 true _ (cO ((Kd.S_reads' G3.out).2.2)) (Kd.S_reads' G3.out).2.1 (cO ((Kd.S_reads' G0.out).2.2)) (Kd.S_reads' G0.out).2.1 A20.out).mono ?_);rintro e w5 ⟨rfl,hb⟩;refine ⟨_,rfl,?_⟩;have G0n_:=Aside0.mk (Kd.S_below (sO G0.out) hb);have G2n_:=Aside0.mk (Kd.S_below (sO G2.out) hb);have G3n_:=Aside0.mk (Kd.S_below (sO G3.out) hb);have HBn_:=sb hb;clear HB;have HB:=HBn_;clear HBn_;clear G0;have G0:=G0n_;clear G0n_;clear G2;have G2:=G2n_;clear G2n_;clear G3;have G3:=G3n_;clear G3n_;clear A20 hb) | ((with_reducible refine gate_callee (f:=30) rfl ?_);refine goesL_ _ rfl rfl Try.func30 (by kernel_rfl) rfl #[.slice AI t15.length cI,.int .i64 1] rfl (by (try simp only [mT,mC,mN]);first | done | rfl | (simp only [lD,lT];rfl)) ?_;(with_reducible refine (laws_heldPointSS.calls _ _ _ t15 1 t21 _ (cO ((Kd.S_reads' G2.out).2.2)) (Kd.S_reads' G2.out).2.1 A21.out).mono ?_);rintro e w5 ⟨rfl,⟨nd,rfl⟩⟩;refine ⟨_,rfl,?_⟩;clear A21))
  go_ret
  exact ⟨(by first | rfl | (simp;done) | (simp [*];done)),ib⟩
end Go.Proofs.Ytnnchaggdnlfmaa.PFnExactTriangulate
