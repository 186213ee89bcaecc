/- Contracts of functions that FnExactNeighboursOf reaches, out of the lines of the kit's print. -/
import Derived.Test.YtpeebobdbaemiaaQFnExactNeighboursOfx0
import Derived.Test.YtpeebobdbaemiaaQFnExactNeighboursOfx2
namespace Go.Proofs.Ytpeebobdbaemiaa.PFnExactNeighboursOf
set_option maxHeartbeats 8000000
set_option maxRecDepth 100000
open Go.RowKit Go.Proofs.YtpeebobdbaemiaaW.PrintWords Go.Proofs.YtpeebobdbaemiaaW.PrintLast Go.Proofs.YtpeebobdbaemiaaW.PrintMore
open Bool renaming true → tT, false → fF
open Go.World renaming block_lt_of_cell? → bL
open List renaming length_take → lT, length_drop → lD, map_toArray → mT, map_cons → mC, map_nil → mN
open Option renaming bind_eq_some_iff → bE
attribute [local go_sem] max2_int min2_int max_two min_two max_three min_three max_four min_four
set_option linter.unusedVariables false
set_option linter.unusedSimpArgs false
attribute [local go_sem high] eqA78
def laws_szPointS.f (l0 : List (S80)) (a1 : Int) : Option (Int):=if (wrap64 (a1 - (l0.length : Int))) < 0 then (some (-1)) else (some (wrap64 (a1 - (l0.length : Int))))
theorem laws_szPointS.calls (A0 : Option Addr) (c0 : Nat) (l0 : List (S80)) (a1 : Int) (r : Int) (w : World) (hr0 : Kd.C k80 w A0 l0.length l0) (hc0 : l0.length ≤ c0) (h : laws_szPointS.f l0 a1 = some r) :
  Calls Try.prog 19 #[.slice A0 l0.length c0,.int .i64 a1] w fun e w' => e = .returned (.int .i64 r) ∧ Drawn0 w w':=by
 have HR0:=Aside0.mk hr0
 have HC0:=Aside0.mk hc0
 clear hr0 hc0
 have H : (if (wrap64 (a1 - (l0.length : Int))) < 0 then (some (-1)) else (some (wrap64 (a1 - (l0.length : Int))))) = some r:=h
 clear h
 by_cases c3 : (wrap64 (a1 - (l0.length : Int))) < 0
 ·rw [if_pos c3] at H
  have c3b0 : decide ((wrap64 (a1 - (l0.length : Int))) < 0) = true:=decide_eq_true c3
  clear c3
  obtain rfl:=Option.some.inj H
  go_enter Try.func19,Try.ntmps19
  go_wp2
  go_ret
  exact ⟨by first | rfl | (simp;done) | (simp [*];done),by repeat (first | exact Drawn0.refl _ | apply Drawn0.step)⟩
 ·rw [if_neg c3] at H
  have c3b0 : decide ((wrap64 (a1 - (l0.length : Int))) < 0) = false:=decide_eq_false c3
  clear c3
  obtain rfl:=Option.some.inj H
  go_enter Try.func19,Try.ntmps19
  go_wp2
  go_ret
  exact ⟨by first | rfl | (simp;done) | (simp [*];done),by repeat (first | exact Drawn0.refl _ | apply Drawn0.step)⟩
def laws_szInt64S.f (l0 : List Int) (a1 : Int) : Option (Int):=if (wrap64 (a1 - (l0.length : Int))) < 0 then (some (-1)) else (some (wrap64 (a1 - (l0.length : Int))))
theorem laws_szInt64S.calls (A0 : Option Addr) (c0 : Nat) (l0 : List Int) (a1 : Int) (r : Int) (w : World) (hr0 : Kd.C (Kd.int .i64) w A0 l0.length l0) (hc0 : l0.length ≤ c0) (h : laws_szInt64S.f l0 a1 = some r) :
  Calls Try.prog 60 #[.slice A0 l0.length c0,.int .i64 a1] w fun e w' => e = .returned (.int .i64 r) ∧ Drawn0 w w':=by
 have HR0:=Aside0.mk hr0
 have HC0:=Aside0.mk hc0
 clear hr0 hc0
 have H : (if (wrap64 (a1 - (l0.length : Int))) < 0 then (some (-1)) else (some (wrap64 (a1 - (l0.length : Int))))) = some r:=h
 clear h
 by_cases c3 : (wrap64 (a1 - (l0.length : Int))) < 0
 ·rw [if_pos c3] at H
  have c3b0 : decide ((wrap64 (a1 - (l0.length : Int))) < 0) = true:=decide_eq_true c3
  clear c3
  obtain rfl:=Option.some.inj H
  go_enter Try.func60,Try.ntmps60
  go_wp2
  go_ret
  exact ⟨by first | rfl | (simp;done) | (simp [*];done),by repeat (first | exact Drawn0.refl _ | apply Drawn0.step)⟩
 ·rw [if_neg c3] at H
  have c3b0 : decide ((wrap64 (a1 - (l0.length : Int))) < 0) = false:=decide_eq_false c3
  clear c3
  obtain rfl:=Option.some.inj H
  go_enter Try.func60,Try.ntmps60
  go_wp2
  go_ret
  exact ⟨by first | rfl | (simp;done) | (simp [*];done),by repeat (first | exact Drawn0.refl _ | apply Drawn0.step)⟩
def laws_szFace.f (a0_0 : ByteArray) (l0_1 : List Int) (a1 : Int) : Option (Int):=if (wrap64 (a1 - (a0_0.size : Int))) < 0 then (some (-1)) else ((laws_szInt64S.f l0_1 (wrap64 (a1 - (a0_0.size : Int)))).bind fun t102 => (if t102 < 0 then (some (-1)) else (some t102)))
theorem laws_szFace.calls (a0_0 : ByteArray) (A0_1 : Option Addr) (c0_1 : Nat) (l0_1 : List Int) (a1 : Int) (r : Int) (w : World) (hr0_1 : Kd.C (Kd.int .i64) w A0_1 l0_1.length l0_1) (hc0_1 : l0_1.length ≤ c0_1) (h : laws_szFace.f a0_0 l0_1 a1 = some r) :
  Calls Try.prog 37 #[.agg #[.string a0_0,.slice A0_1 l0_1.length c0_1],.int .i64 a1] w fun e w' => e = .returned (.int .i64 r) ∧ Below w.heap.size w w':=by
 have hu70:=Try.underlying70
 have HR0_1:=Aside0.mk hr0_1
 have HC0_1:=Aside0.mk hc0_1
 clear hr0_1 hc0_1
 have HB:=Aside0.mk (Below.refl w.heap.size w)
 have H : (if (wrap64 (a1 - (a0_0.size : Int))) < 0 then (some (-1)) else ((laws_szInt64S.f l0_1 (wrap64 (a1 - (a0_0.size : Int)))).bind fun t102 => (if t102 < 0 then (some (-1)) else (some t102)))) = some r:=h
 clear h
 by_cases c3 : (wrap64 (a1 - (a0_0.size : Int))) < 0
 ·rw [if_pos c3] at H
  have c3b0 : decide ((wrap64 (a1 - (a0_0.size : Int))) < 0) = true:=decide_eq_true c3
  clear c3
  obtain rfl:=Option.some.inj H
  go_enter Try.func37,Try.ntmps37
  go_wp2_with (first | ((with_reducible refine gate_dst (N:=2) rfl ?_);refine bx (cs:=#[.string a0_0,.slice A0_1 l0_1.length c0_1]) (t:=70) ?_;intro gb101 hg w4 hbox hb;have BK101:=Aside0.mk (hbox);have GW101:=zb hg;have GE101:=zb hg;replace HB:=sb hb;clear hb hbox hg;have hcz5_0:=ck BK101 0;have hcz5_1:=ck BK101 1;have hfz5_0:=blk_frozen BK101.out 0;have hfz5_1:=blk_frozen BK101.out 1))
  go_ret
  exact ⟨by first | rfl | (simp [errW_none,errW_some] <;> rfl) | (simp [*,errW_none,errW_some] <;> rfl),ib⟩
 ·rw [if_neg c3] at H
  have c3b0 : decide ((wrap64 (a1 - (a0_0.size : Int))) < 0) = false:=decide_eq_false c3
  clear c3
  replace H:=bE.mp H
  obtain ⟨t102,A60,H⟩:=H
  replace H : (if t102 < 0 then (some (-1)) else (some t102)) = some r:=H
  have A6:=Aside0.mk A60
  clear A60
  by_cases c7 : t102 < 0
  ·rw [if_pos c7] at H
   have c7b0 : decide (t102 < 0) = true:=decide_eq_true c7
   clear c7
   obtain rfl:=Option.some.inj H
   go_enter Try.func37,Try.ntmps37
   go_wp2_with (first | ((with_reducible refine gate_dst (N:=2) rfl ?_);refine bx (cs:=#[.string a0_0,.slice A0_1 l0_1.length c0_1]) (t:=70) ?_;intro gb101 hg w8 hbox hb;have BK101:=Aside0.mk (hbox);have GW101:=zb hg;have GE101:=zb hg;replace HB:=sb hb;clear hb hbox hg;have hcz9_0:=ck BK101 0;have hcz9_1:=ck BK101 1;have hfz9_0:=blk_frozen BK101.out 0;have hfz9_1:=blk_frozen BK101.out 1) | ((with_reducible refine gate_callee (f:=60) rfl ?_);refine goesL_ (some 15) rfl rfl Try.func60 (by kernel_rfl) rfl #[.slice A0_1 l0_1.length c0_1,.int .i64 (wrap64 (a1 - (a0_0.size : Int)))] rfl (by (try simp only [mT,mC,mN]);first | done | rfl | (simp only [lD,lT];rfl)) ?_;(with_reducible refine (laws_szInt64S.calls _ _ l0_1 (wrap64 (a1 - (a0_0.size : Int))) t102 _ ?side1 ?side2 A6.out).mono ?_);(case side1 => repeat (first | exact (Kd.C_below HR0_1.out HB.out) | exact HR0_1.out | (with_reducible refine Kd.C_alloc ?_ _) | (with_reducible refine Kd.C_drewN ?_ _) | (with_reducible refine Kd.C_drew ?_)));(case side2 => exact HC0_1.out);rintro e w' ⟨rfl,⟨nd,rfl⟩⟩;refine ⟨_,rfl,?_⟩))
   go_ret
   exact ⟨by first | rfl | (simp [errW_none,errW_some] <;> rfl) | (simp [*,errW_none,errW_some] <;> rfl),ib⟩
  ·rw [if_neg c7] at H
   have c7b0 : decide (t102 < 0) = false:=decide_eq_false c7
   clear c7
   obtain rfl:=Option.some.inj H
   go_enter Try.func37,Try.ntmps37
   go_wp2_with (first | ((with_reducible refine gate_dst (N:=2) rfl ?_);refine bx (cs:=#[.string a0_0,.slice A0_1 l0_1.length c0_1]) (t:=70) ?_;intro gb101 hg w10 hbox hb;have BK101:=Aside0.mk (hbox);have GW101:=zb hg;have GE101:=zb hg;replace HB:=sb hb;clear hb hbox hg;have hcz11_0:=ck BK101 0;have hcz11_1:=ck BK101 1;have hfz11_0:=blk_frozen BK101.out 0;have hfz11_1:=blk_frozen BK101.out 1) | ((with_reducible refine gate_callee (f:=60) rfl ?_);refine goesL_ (some 15) rfl rfl Try.func60 (by kernel_rfl) rfl #[.slice A0_1 l0_1.length c0_1,.int .i64 (wrap64 (a1 - (a0_0.size : Int)))] rfl (by (try simp only [mT,mC,mN]);first | done | rfl | (simp only [lD,lT];rfl)) ?_;(with_reducible refine (laws_szInt64S.calls _ _ l0_1 (wrap64 (a1 - (a0_0.size : Int))) t102 _ ?side1 ?side2 A6.out).mono ?_);(case side1 => repeat (first | exact (Kd.C_below HR0_1.out HB.out) | exact HR0_1.out | (with_reducible refine Kd.C_alloc ?_ _) | (with_reducible refine Kd.C_drewN ?_ _) | (with_reducible refine Kd.C_drew ?_)));(case side2 => exact HC0_1.out);rintro e w' ⟨rfl,⟨nd,rfl⟩⟩;refine ⟨_,rfl,?_⟩))
   go_ret
   exact ⟨by first | rfl | (simp [errW_none,errW_some] <;> rfl) | (simp [*,errW_none,errW_some] <;> rfl),ib⟩
def laws_szFaceS.l0 : Nat → List (S70) → Int → Int → Option (Int)
 | 0,_,_,_ => none
 | k + 1,x0,x1,x5 => if x5 < (x0.length : Int) then (if 0 ≤ x5 then ((laws_szFace.f ((rd_T70 x0 x5).f0) ((rd_T70 x0 x5).f1) x1).bind fun t104 => (if t104 < 0 then (some (-1)) else (laws_szFaceS.l0 k x0 t104 (wrap64 (x5 + 1))))) else (none)) else (some x1)
def laws_szFaceS.f (k : Nat) (l0 : List (S70)) (a1 : Int) : Option (Int):=if (wrap64 (a1 - (l0.length : Int))) < 0 then (some (-1)) else (laws_szFaceS.l0 k l0 (wrap64 (a1 - (l0.length : Int))) 0)
theorem laws_szFaceS.calls (k : Nat) (A0 : Option Addr) (c0 : Nat) (l0 : List (S70)) (a1 : Int) (r : Int) (w : World) (hr0 : Kd.C k70 w A0 l0.length l0) (hc0 : l0.length ≤ c0) (h : laws_szFaceS.f k l0 a1 = some r) :
  Calls Try.prog 20 #[.slice A0 l0.length c0,.int .i64 a1] w fun e w' => e = .returned (.int .i64 r) ∧ Below w.heap.size w w':=by
 have hu70:=Try.underlying70
 have HR0:=Aside0.mk hr0
 have HC0:=Aside0.mk hc0
 clear hr0 hc0
 have HB:=Aside0.mk (Below.refl w.heap.size w)
 have H : (if (wrap64 (a1 - (l0.length : Int))) < 0 then (some (-1)) else (laws_szFaceS.l0 k l0 (wrap64 (a1 - (l0.length : Int))) 0)) = some r:=h
 clear h
 by_cases c3 : (wrap64 (a1 - (l0.length : Int))) < 0
 ·rw [if_pos c3] at H
  have c3b0 : decide ((wrap64 (a1 - (l0.length : Int))) < 0) = true:=decide_eq_true c3
  clear c3
  obtain rfl:=Option.some.inj H
  go_enter Try.func20,Try.ntmps20
  go_wp2
  go_ret
  exact ⟨by first | rfl | (simp [errW_none,errW_some] <;> rfl) | (simp [*,errW_none,errW_some] <;> rfl),ib⟩
 ·rw [if_neg c3] at H
  have c3b0 : decide ((wrap64 (a1 - (l0.length : Int))) < 0) = false:=decide_eq_false c3
  clear c3
  have H':=Aside0.mk H
  clear H
  go_enter Try.func20,Try.ntmps20
  go_wp2
  go_loopg [1,5] k (fun kq v1 v5 w' => ∃ (x1_1 : Int) (x5_1 : Int),v1 = .int .i64 x1_1 ∧ v5 = .int .i64 x5_1 ∧ Aside0 (laws_szFaceS.l0 kq l0 x1_1 x5_1 = some r) ∧ Aside0 (kq ≤ k) ∧ Aside0 (Below w.heap.size w w'))
  case atStart => exact ⟨(wrap64 (a1 - (l0.length : Int))),(0),(by first | rfl | (simp;done) | (simp [*];done)),(by first | rfl | (simp;done) | (simp [*];done)),H',⟨Nat.le_refl _⟩,⟨ib⟩⟩
  case round =>
   clear H'
   try clear c2
   try clear p2
   try clear c3
   try clear c3b0
   obtain ⟨x1_1,x5_1,rfl,rfl,HA,HK1,HB⟩:=hrel
   cases gk with
   | zero => exact absurd HA.out (by simp [laws_szFaceS.l0])
   | succ k1 =>
    have H:=HA.out
    clear HA
    simp only [laws_szFaceS.l0] at H
    by_cases c4 : x5_1 < (l0.length : Int)
    ·rw [if_pos c4] at H
     have c4b0 : decide (x5_1 < (l0.length : Int)) = true:=decide_eq_true c4
     clear c4
     by_cases c5 : 0 ≤ x5_1
     ·rw [if_pos c5] at H
      have c5b0 : decide (0 ≤ x5_1) = true:=decide_eq_true c5
      clear c5
      replace H:=bE.mp H
      obtain ⟨t104,A60,H⟩:=H
      replace H : (if t104 < 0 then (some (-1)) else (laws_szFaceS.l0 k1 l0 t104 (wrap64 (x5_1 + 1)))) = some r:=H
      have A6:=Aside0.mk A60
      clear A60
      by_cases c7 : t104 < 0
      ·rw [if_pos c7] at H
       have c7b0 : decide (t104 < 0) = true:=decide_eq_true c7
       clear c7
       obtain rfl:=Option.some.inj H
       have p103 : 0 ≤ (x5_1 : Int):=da
       have q103 : x5_1 < (l0.length : Int):=da
       obtain ⟨ad103,A103_1,c103_1,e103,hx103_0,hx103_1,hl103_1,hi103_1⟩:=at_T70 HR0.out x5_1 p103 q103
       cases e103
       replace hx103_0:=cq HB.out hx103_0
       replace hx103_1:=cq HB.out hx103_1
       have HR103_1:=Aside0.mk hi103_1
       have HC103_1:=Aside0.mk hl103_1
       clear hi103_1 hl103_1
       replace p103:=eq_true p103
       replace q103:=eq_true q103
       go_wp2_with (first | ((with_reducible refine gate_callee (f:=37) rfl ?_);refine goesL_ (some 23) rfl rfl Try.func37 (by kernel_rfl) rfl #[.agg #[.string ((rd_T70 l0 x5_1).f0),.slice A103_1 ((rd_T70 l0 x5_1).f1).length c103_1],.int .i64 x1_1] rfl (by (try simp only [mT,mC,mN]);first | done | rfl | (simp only [lD,lT];rfl)) ?_;(with_reducible refine (laws_szFace.calls ((rd_T70 l0 x5_1).f0) _ _ ((rd_T70 l0 x5_1).f1) x1_1 t104 _ ?side1 ?side2 A6.out).mono ?_);(case side1 => repeat (first | exact (Kd.C_below HR103_1.out HB.out) | exact HR103_1.out | (with_reducible refine Kd.C_alloc ?_ _) | (with_reducible refine Kd.C_drewN ?_ _) | (with_reducible refine Kd.C_drew ?_)));(case side2 => exact HC103_1.out);rintro e w8 ⟨rfl,hb⟩;refine ⟨_,rfl,?_⟩;replace HB:=sb hb;(try clear hb);(try clear hb2);(try clear hk);(try clear hi)))
       go_ret
       exact ⟨by first | rfl | (simp [errW_none,errW_some] <;> rfl) | (simp [*,errW_none,errW_some] <;> rfl),ib⟩
      ·rw [if_neg c7] at H
       have c7b0 : decide (t104 < 0) = false:=decide_eq_false c7
       clear c7
       have H':=Aside0.mk H
       clear H
       have p103 : 0 ≤ (x5_1 : Int):=da
       have q103 : x5_1 < (l0.length : Int):=da
       obtain ⟨ad103,A103_1,c103_1,e103,hx103_0,hx103_1,hl103_1,hi103_1⟩:=at_T70 HR0.out x5_1 p103 q103
       cases e103
       replace hx103_0:=cq HB.out hx103_0
       replace hx103_1:=cq HB.out hx103_1
       have HR103_1:=Aside0.mk hi103_1
       have HC103_1:=Aside0.mk hl103_1
       clear hi103_1 hl103_1
       replace p103:=eq_true p103
       replace q103:=eq_true q103
       go_wp2_with (first | ((with_reducible refine gate_callee (f:=37) rfl ?_);refine goesL_ (some 23) rfl rfl Try.func37 (by kernel_rfl) rfl #[.agg #[.string ((rd_T70 l0 x5_1).f0),.slice A103_1 ((rd_T70 l0 x5_1).f1).length c103_1],.int .i64 x1_1] rfl (by (try simp only [mT,mC,mN]);first | done | rfl | (simp only [lD,lT];rfl)) ?_;(with_reducible refine (laws_szFace.calls ((rd_T70 l0 x5_1).f0) _ _ ((rd_T70 l0 x5_1).f1) x1_1 t104 _ ?side1 ?side2 A6.out).mono ?_);(case side1 => repeat (first | exact (Kd.C_below HR103_1.out HB.out) | exact HR103_1.out | (with_reducible refine Kd.C_alloc ?_ _) | (with_reducible refine Kd.C_drewN ?_ _) | (with_reducible refine Kd.C_drew ?_)));(case side2 => exact HC103_1.out);rintro e w9 ⟨rfl,hb⟩;refine ⟨_,rfl,?_⟩;replace HB:=sb hb;(try clear hb);(try clear hb2);(try clear hk);(try clear hi)))
       go_roundg k1
       case measure => have:=HK1.out;omega
       case rel => exact ⟨(t104),(wrap64 (x5_1 + 1)),(by first | rfl | (simp;done) | (simp [*];done)),(by first | rfl | (simp;done) | (simp [*];done)),H',⟨by have:=HK1.out;omega⟩,⟨ib⟩⟩
     ·rw [if_neg c5] at H
      exact absurd H (by simp)
    ·rw [if_neg c4] at H
     have c4b0 : decide (x5_1 < (l0.length : Int)) = false:=decide_eq_false c4
     clear c4
     obtain rfl:=Option.some.inj H
     go_wp2
     go_ret
     exact ⟨by first | rfl | (simp [errW_none,errW_some] <;> rfl) | (simp [*,errW_none,errW_some] <;> rfl),ib⟩
def laws_szDrawing.f (k : Nat) (a0_0 : Int) (a0_1 : Int) (l0_2 : List (S80)) (l0_3 : List (S70)) (a1 : Int) : Option (Int):=(laws_szPointS.f l0_2 a1).bind fun t106 => (if t106 < 0 then (some (-1)) else ((laws_szFaceS.f k l0_3 t106).bind fun t107 => (if t107 < 0 then (some (-1)) else (some t107))))
theorem laws_szDrawing.calls (k : Nat) (a0_0 : Int) (a0_1 : Int) (A0_2 : Option Addr) (c0_2 : Nat) (l0_2 : List (S80)) (A0_3 : Option Addr) (c0_3 : Nat) (l0_3 : List (S70)) (a1 : Int) (r : Int) (w : World) (hr0_2 : Kd.C k80 w A0_2 l0_2.length l0_2) (hc0_2 : l0_2.length ≤ c0_2) (hr0_3 : Kd.C k70 w A0_3 l0_3.length l0_3) (hc0_3 : l0_3.length ≤ c0_3) (h : laws_szDrawing.f k a0_0 a0_1 l0_2 l0_3 a1 = some r) :
  Calls Try.prog 5 #[.agg #[.int .i64 a0_0,.int .i64 a0_1,.slice A0_2 l0_2.length c0_2,.slice A0_3 l0_3.length c0_3],.int .i64 a1] w fun e w' => e = .returned (.int .i64 r) ∧ Below w.heap.size w w':=by
 have hu25:=Try.underlying25
 have HR0_2:=Aside0.mk hr0_2
 have HC0_2:=Aside0.mk hc0_2
 clear hr0_2 hc0_2
 have HR0_3:=Aside0.mk hr0_3
 have HC0_3:=Aside0.mk hc0_3
 clear hr0_3 hc0_3
 have HB:=Aside0.mk (Below.refl w.heap.size w)
 have H : ((laws_szPointS.f l0_2 a1).bind fun t106 => (if t106 < 0 then (some (-1)) else ((laws_szFaceS.f k l0_3 t106).bind fun t107 => (if t107 < 0 then (some (-1)) else (some t107))))) = some r:=h
 clear h
 replace H:=bE.mp H
 obtain ⟨t106,A30,H⟩:=H
 replace H : (if t106 < 0 then (some (-1)) else ((laws_szFaceS.f k l0_3 t106).bind fun t107 => (if t107 < 0 then (some (-1)) else (some t107)))) = some r:=H
 have A3:=Aside0.mk A30
 clear A30
 by_cases c4 : t106 < 0
 ·rw [if_pos c4] at H
  have c4b0 : decide (t106 < 0) = true:=decide_eq_true c4
  clear c4
  obtain rfl:=Option.some.inj H
  go_enter Try.func5,Try.ntmps5
  go_wp2_with (first | ((with_reducible refine gate_dst (N:=2) rfl ?_);refine bx (cs:=#[.int .i64 a0_0,.int .i64 a0_1,.slice A0_2 l0_2.length c0_2,.slice A0_3 l0_3.length c0_3]) (t:=25) ?_;intro gb105 hg w5 hbox hb;have BK105:=Aside0.mk (hbox);have GW105:=zb hg;have GE105:=zb hg;replace HB:=sb hb;clear hb hbox hg;have hcz6_0:=ck BK105 0;have hcz6_1:=ck BK105 1;have hcz6_2:=ck BK105 2;have hcz6_3:=ck BK105 3;have hfz6_0:=blk_frozen BK105.out 0;have hfz6_1:=blk_frozen BK105.out 1;have hfz6_2:=blk_frozen BK105.out 2;have hfz6_3:=blk_frozen BK105.out 3) | ((with_reducible refine gate_callee (f:=19) rfl ?_);refine goesL_ (some 8) rfl rfl Try.func19 (by kernel_rfl) rfl #[.slice A0_2 l0_2.length c0_2,.int .i64 a1] rfl (by (try simp only [mT,mC,mN]);first | done | rfl | (simp only [lD,lT];rfl)) ?_;(with_reducible refine (laws_szPointS.calls _ _ l0_2 a1 t106 _ ?side1 ?side2 A3.out).mono ?_);(case side1 => repeat (first | exact (Kd.C_below HR0_2.out HB.out) | exact HR0_2.out | (with_reducible refine Kd.C_alloc ?_ _) | (with_reducible refine Kd.C_drewN ?_ _) | (with_reducible refine Kd.C_drew ?_)));(case side2 => exact HC0_2.out);rintro e w' ⟨rfl,⟨nd,rfl⟩⟩;refine ⟨_,rfl,?_⟩))
  go_ret
  exact ⟨by first | rfl | (simp [errW_none,errW_some] <;> rfl) | (simp [*,errW_none,errW_some] <;> rfl),ib⟩
 ·rw [if_neg c4] at H
  have c4b0 : decide (t106 < 0) = false:=decide_eq_false c4
  clear c4
  replace H:=bE.mp H
  obtain ⟨t107,A70,H⟩:=H
  replace H : (if t107 < 0 then (some (-1)) else (some t107)) = some r:=H
  have A7:=Aside0.mk A70
  clear A70
  by_cases c8 : t107 < 0
  ·rw [if_pos c8] at H
   have c8b0 : decide (t107 < 0) = true:=decide_eq_true c8
   clear c8
   obtain rfl:=Option.some.inj H
   go_enter Try.func5,Try.ntmps5
   go_wp2_with (first | ((with_reducible refine gate_dst (N:=2) rfl ?_);refine bx (cs:=#[.int .i64 a0_0,.int .i64 a0_1,.slice A0_2 l0_2.length c0_2,.slice A0_3 l0_3.length c0_3]) (t:=25) ?_;intro gb105 hg w9 hbox hb;have BK105:=Aside0.mk (hbox);have GW105:=zb hg;have GE105:=zb hg;replace HB:=sb hb;clear hb hbox hg;have hcz10_0:=ck BK105 0;have hcz10_1:=ck BK105 1;have hcz10_2:=ck BK105 2;have hcz10_3:=ck BK105 3;have hfz10_0:=blk_frozen BK105.out 0;have hfz10_1:=blk_frozen BK105.out 1;have hfz10_2:=blk_frozen BK105.out 2;have hfz10_3:=blk_frozen BK105.out 3) | ((with_reducible refine gate_callee (f:=19) rfl ?_);refine goesL_ (some 8) rfl rfl Try.func19 (by kernel_rfl) rfl #[.slice A0_2 l0_2.length c0_2,.int .i64 a1] rfl (by (try simp only [mT,mC,mN]);first | done | rfl | (simp only [lD,lT];rfl)) ?_;(with_reducible refine (laws_szPointS.calls _ _ l0_2 a1 t106 _ ?side1 ?side2 A3.out).mono ?_);(case side1 => repeat (first | exact (Kd.C_below HR0_2.out HB.out) | exact HR0_2.out | (with_reducible refine Kd.C_alloc ?_ _) | (with_reducible refine Kd.C_drewN ?_ _) | (with_reducible refine Kd.C_drew ?_)));(case side2 => exact HC0_2.out);rintro e w' ⟨rfl,⟨nd,rfl⟩⟩;refine ⟨_,rfl,?_⟩) | ((with_reducible refine gate_callee (f:=20) rfl ?_);refine goesL_ (some 14) rfl rfl Try.func20 (by kernel_rfl) rfl #[.slice A0_3 l0_3.length c0_3,.int .i64 t106] rfl (by (try simp only [mT,mC,mN]);first | done | rfl | (simp only [lD,lT];rfl)) ?_;(with_reducible refine (laws_szFaceS.calls k _ _ l0_3 t106 t107 _ ?side1 ?side2 A7.out).mono ?_);(case side1 => exact cO ((Kd.C_below HR0_3.out ib)));(case side2 => exact HC0_3.out);rintro e w11 ⟨rfl,hb⟩;refine ⟨_,rfl,?_⟩;replace BK105:=kb BK105 hb;replace HB:=sb hb;(try clear hb);(try clear hb2);(try clear hk);(try clear hi)))
   go_ret
   exact ⟨by first | rfl | (simp [errW_none,errW_some] <;> rfl) | (simp [*,errW_none,errW_some] <;> rfl),ib⟩
  ·rw [if_neg c8] at H
   have c8b0 : decide (t107 < 0) = false:=decide_eq_false c8
   clear c8
   obtain rfl:=Option.some.inj H
   go_enter Try.func5,Try.ntmps5
   go_wp2_with (first | ((with_reducible refine gate_dst (N:=2) rfl ?_);refine bx (cs:=#[.int .i64 a0_0,.int .i64 a0_1,.slice A0_2 l0_2.length c0_2,.slice A0_3 l0_3.length c0_3]) (t:=25) ?_;intro gb105 hg w12 hbox hb;have BK105:=Aside0.mk (hbox);have GW105:=zb hg;have GE105:=zb hg;replace HB:=sb hb;clear hb hbox hg;have hcz13_0:=ck BK105 0;have hcz13_1:=ck BK105 1;have hcz13_2:=ck BK105 2;have hcz13_3:=ck BK105 3;have hfz13_0:=blk_frozen BK105.out 0;have hfz13_1:=blk_frozen BK105.out 1;have hfz13_2:=blk_frozen BK105.out 2;have hfz13_3:=blk_frozen BK105.out 3) | ((with_reducible refine gate_callee (f:=19) rfl ?_);refine goesL_ (some 8) rfl rfl Try.func19 (by kernel_rfl) rfl #[.slice A0_2 l0_2.length c0_2,.int .i64 a1] rfl (by (try simp only [mT,mC,mN]);first | done | rfl | (simp only [lD,lT];rfl)) ?_;(with_reducible refine (laws_szPointS.calls _ _ l0_2 a1 t106 _ ?side1 ?side2 A3.out).mono ?_);(case side1 => repeat (first | exact (Kd.C_below HR0_2.out HB.out) | exact HR0_2.out | (with_reducible refine Kd.C_alloc ?_ _) | (with_reducible refine Kd.C_drewN ?_ _) | (with_reducible refine Kd.C_drew ?_)));(case side2 => exact HC0_2.out);rintro e w' ⟨rfl,⟨nd,rfl⟩⟩;refine ⟨_,rfl,?_⟩) | ((with_reducible refine gate_callee (f:=20) rfl ?_);refine goesL_ (some 14) rfl rfl Try.func20 (by kernel_rfl) rfl #[.slice A0_3 l0_3.length c0_3,.int .i64 t106] rfl (by (try simp only [mT,mC,mN]);first | done | rfl | (simp only [lD,lT];rfl)) ?_;(with_reducible refine (laws_szFaceS.calls k _ _ l0_3 t106 t107 _ ?side1 ?side2 A7.out).mono ?_);(case side1 => exact cO ((Kd.C_below HR0_3.out ib)));(case side2 => exact HC0_3.out);rintro e w14 ⟨rfl,hb⟩;refine ⟨_,rfl,?_⟩;replace BK105:=kb BK105 hb;replace HB:=sb hb;(try clear hb);(try clear hb2);(try clear hk);(try clear hi)))
   go_ret
   exact ⟨by first | rfl | (simp [errW_none,errW_some] <;> rfl) | (simp [*,errW_none,errW_some] <;> rfl),ib⟩
def spec_l00In.f (a0 : Int) (a1 : Int) (a2 : Int) : Option (Bool):=if a0 ≥ a1 then (some (decide (a0 ≤ a2))) else (some false)
theorem spec_l00In.calls (a0 : Int) (a1 : Int) (a2 : Int) (r : Bool) (w : World) (h : spec_l00In.f a0 a1 a2 = some r) :
  Calls Try.prog 38 #[.int .i64 a0,.int .i64 a1,.int .i64 a2] w fun e w' => e = .returned (.bool r) ∧ Drawn0 w w':=by
 have H : (if a0 ≥ a1 then (some (decide (a0 ≤ a2))) else (some false)) = some r:=h
 clear h
 by_cases c4 : a0 ≥ a1
 ·rw [if_pos c4] at H
  have c4b0 : decide (a1 ≤ a0) = true:=decide_eq_true c4
  clear c4
  obtain rfl:=Option.some.inj H
  go_enter Try.func38,Try.ntmps38
  go_wp2
  go_ret
  exact ⟨by first | rfl | (simp;done) | (simp [*];done),by repeat (first | exact Drawn0.refl _ | apply Drawn0.step)⟩
 ·rw [if_neg c4] at H
  have c4b0 : decide (a1 ≤ a0) = false:=decide_eq_false c4
  clear c4
  obtain rfl:=Option.some.inj H
  go_enter Try.func38,Try.ntmps38
  go_wp2
  go_ret
  exact ⟨by first | rfl | (simp;done) | (simp [*];done),by repeat (first | exact Drawn0.refl _ | apply Drawn0.step)⟩
def IsS33 (w0 W : World) (g : Nat) (f0 : Int) (f1 : Int) (f2 : List (S78)) (f3 : List (S64)) : Prop:=∃ A2 c2,∃ A3 c3,W.heap[g]? = some (.cells #[.int .i64 f0,.int .i64 f1,.slice A2 f2.length c2,.slice A3 f3.length c3] 33 (0,0)) ∧ w0.heap.size ≤ g ∧ Kd.C k78 w0 A2 f2.length f2 ∧ Kd.C k64 w0 A3 f3.length f3
theorem IsS33.grown {w0 W : World} {g : Nat} {f0 : Int} {f1 : Int} {f2 : List (S78)} {f3 : List (S64)} {W1 : World} {row : Option Nat} (h : IsS33 w0 W g f0 f1 f2 f3) (hw : W.grownBy W1 row) (hne : some g ≠ row) : IsS33 w0 W1 g f0 f1 f2 f3:=by
 obtain ⟨A2,c2,A3,c3,hb,hg,hr2,hr3⟩:=h
 exact ⟨A2,c2,A3,c3,blk_grown hb hw hne,hg,hr2,hr3⟩
theorem IsS33.own_neN {w0 W : World} {g : Nat} {f0 : Int} {f1 : Int} {f2 : List (S78)} {f3 : List (S64)} {α : Type} {d : Kd α} {e : Nat} {base : Nat} {ok : Nat → Prop} {v : Value} {xs : List α} (h : IsS33 w0 W g f0 f1 f2 f3) (ho : Kd.N d e W base ok v xs) (ht : e ≠ 33) : some g ≠ v.ownBlock:=by
 obtain ⟨A2,c2,A3,c3,hb,hg,hr2,hr3⟩:=h
 exact Kd.N_ne ho hb ht
theorem IsS33.fresh {w0 W : World} {g : Nat} {f0 : Int} {f1 : Int} {f2 : List (S78)} {f3 : List (S64)} (h : IsS33 w0 W g f0 f1 f2 f3) : ∀ k,W.heap.size ≤ k → k ≠ g:=by
 obtain ⟨A2,c2,A3,c3,hb,hg,hr2,hr3⟩:=h
 exact Kd.freshB hb
theorem IsS33.kept {w0 W : World} {g : Nat} {f0 : Int} {f1 : Int} {f2 : List (S78)} {f3 : List (S64)} {W1 : World} {S : Nat → Prop} (h : IsS33 w0 W g f0 f1 f2 f3) (hk : Kept W W1 S) (hne : ¬ S g) : IsS33 w0 W1 g f0 f1 f2 f3:=by
 obtain ⟨A2,c2,A3,c3,hb,hg,hr2,hr3⟩:=h
 exact ⟨A2,c2,A3,c3,blk_kept hb hk hne,hg,hr2,hr3⟩
theorem IsS33.below {w0 W : World} {g : Nat} {f0 : Int} {f1 : Int} {f2 : List (S78)} {f3 : List (S64)} {W1 : World} (h : IsS33 w0 W g f0 f1 f2 f3) (hw : Below W.heap.size W W1) : IsS33 w0 W1 g f0 f1 f2 f3:=h.grown (grown_of_below hw none) (by simp)
theorem IsS33.alloc {w0 W : World} {g : Nat} {f0 : Int} {f1 : Int} {f2 : List (S78)} {f3 : List (S64)} (h : IsS33 w0 W g f0 f1 f2 f3) (o : Obj) : IsS33 w0 (W.alloc o) g f0 f1 f2 f3:=h.below (below_alloc (Below.refl _ _) o)
theorem IsS33.drewN {w0 W : World} {g : Nat} {f0 : Int} {f1 : Int} {f2 : List (S78)} {f3 : List (S64)} (h : IsS33 w0 W g f0 f1 f2 f3) (m : Nat) : IsS33 w0 (W.drewN m) g f0 f1 f2 f3:=h
theorem IsS33.drew {w0 W : World} {g : Nat} {f0 : Int} {f1 : Int} {f2 : List (S78)} {f3 : List (S64)} (h : IsS33 w0 W g f0 f1 f2 f3) : IsS33 w0 W.drew g f0 f1 f2 f3:=h
theorem IsS33.at_ {w0 W : World} {g : Nat} {f0 : Int} {f1 : Int} {f2 : List (S78)} {f3 : List (S64)} {w' : World} {m : Nat} (hq : W.drewN m = w') (h : IsS33 w0 W g f0 f1 f2 f3) : IsS33 w0 w' g f0 f1 f2 f3:=by subst hq;exact IsS33.drewN h m
theorem IsS33.apart {w0 W : World} {g : Nat} {f0 : Int} {f1 : Int} {f2 : List (S78)} {f3 : List (S64)} {α : Type} {d : Kd α} {e : Nat} {base : Nat} {ok : Nat → Prop} {v : Value} {xs : List α} (h : IsS33 w0 W g f0 f1 f2 f3) (ho : d.R e W base ok v xs) (ht : ∀ q,q ∈ e :: d.E → q ≠ 33) : d.R e W base (fun k => ok k ∧ k ≠ g) v xs:=by
 obtain ⟨A2,c2,A3,c3,hb,hg,hr2,hr3⟩:=h
 exact Kd.R_types ho hb ht
theorem IsS33.own_ne {w0 W : World} {g : Nat} {f0 : Int} {f1 : Int} {f2 : List (S78)} {f3 : List (S64)} {α : Type} {d : Kd α} {e : Nat} {base : Nat} {ok : Nat → Prop} {v : Value} {xs : List α} (h : IsS33 w0 W g f0 f1 f2 f3) (ho : d.R e W base ok v xs) (ht : e ≠ 33) : some g ≠ v.ownBlock:=by
 obtain ⟨A2,c2,A3,c3,hb,hg,hr2,hr3⟩:=h
 exact Kd.R_ne ho hb ht
theorem IsS33.apartQ {w0 W : World} {g : Nat} {f0 : Int} {f1 : Int} {f2 : List (S78)} {f3 : List (S64)} {α : Type} {d : Kd α} {e : Nat} {base : Nat} {ok : Nat → Prop} {v : Value} {xs : List α} (h : IsS33 w0 W g f0 f1 f2 f3) (ho : d.Q e W base ok v xs) (ht : ∀ q,q ∈ e :: d.E → q ≠ 33) : d.Q e W base (fun k => ok k ∧ k ≠ g) v xs:=by
 obtain ⟨A2,c2,A3,c3,hb,hg,hr2,hr3⟩:=h
 exact Kd.Q_types ho hb ht
theorem IsS33.own_neQ {w0 W : World} {g : Nat} {f0 : Int} {f1 : Int} {f2 : List (S78)} {f3 : List (S64)} {α : Type} {d : Kd α} {e : Nat} {base : Nat} {ok : Nat → Prop} {v : Value} {xs : List α} (h : IsS33 w0 W g f0 f1 f2 f3) (ho : d.Q e W base ok v xs) (ht : e ≠ 33) : some g ≠ v.ownBlock:=by
 obtain ⟨A2,c2,A3,c3,hb,hg,hr2,hr3⟩:=h
 exact Kd.Q_ne ho hb ht
theorem IsS33.apartS {w0 W : World} {g : Nat} {f0 : Int} {f1 : Int} {f2 : List (S78)} {f3 : List (S64)} {α : Type} {d : Kd α} {e : Nat} {base : Nat} {ok : Nat → Prop} {v : Value} {xs : List α} (h : IsS33 w0 W g f0 f1 f2 f3) (ho : d.S e W base ok v xs) (ht : ∀ q,q ∈ e :: d.E → q ≠ 33) : d.S e W base (fun k => ok k ∧ k ≠ g) v xs:=by
 obtain ⟨A2,c2,A3,c3,hb,hg,hr2,hr3⟩:=h
 exact Kd.S_types ho hb ht
theorem IsS33.own_neS {w0 W : World} {g : Nat} {f0 : Int} {f1 : Int} {f2 : List (S78)} {f3 : List (S64)} {α : Type} {d : Kd α} {e : Nat} {base : Nat} {ok : Nat → Prop} {v : Value} {xs : List α} (h : IsS33 w0 W g f0 f1 f2 f3) (ho : d.S e W base ok v xs) (ht : e ≠ 33) : some g ≠ v.ownBlock:=by
 obtain ⟨A2,c2,A3,c3,hb,hg,hr2,hr3⟩:=h
 exact Kd.S_ne ho hb ht
theorem IsS33.lt {w0 W : World} {g : Nat} {f0 : Int} {f1 : Int} {f2 : List (S78)} {f3 : List (S64)} (h : IsS33 w0 W g f0 f1 f2 f3) : g < W.heap.size:=by
 obtain ⟨A2,c2,A3,c3,hb,hg,hr2,hr3⟩:=h
 exact blk_lt hb
theorem IsS33.ge {w0 W : World} {g : Nat} {f0 : Int} {f1 : Int} {f2 : List (S78)} {f3 : List (S64)} (h : IsS33 w0 W g f0 f1 f2 f3) : w0.heap.size ≤ g:=by
 obtain ⟨A2,c2,A3,c3,hb,hg,hr2,hr3⟩:=h
 exact hg
theorem IsS33.ne_blk {w0 W : World} {g : Nat} {f0 : Int} {f1 : Int} {f2 : List (S78)} {f3 : List (S64)} {a : Nat} {cs : Array Value} {t : TypeId} {fr : Nat × Nat} (h : IsS33 w0 W g f0 f1 f2 f3) (hb2 : W.heap[a]? = some (.cells cs t fr)) (ht : t ≠ 33) : g ≠ a:=by
 obtain ⟨A2,c2,A3,c3,hb,hg,hr2,hr3⟩:=h
 rintro rfl
 rw [hb] at hb2
 injection hb2 with hb2
 injection hb2 with _ ht2
 exact ht ht2.symm
theorem IsS33.far {w0 W : World} {g : Nat} {f0 : Int} {f1 : Int} {f2 : List (S78)} {f3 : List (S64)} {p : Addr} (h : IsS33 w0 W g f0 f1 f2 f3) (hne : g ≠ p.block) (u : Value) : IsS33 w0 (W.setCell p u) g f0 f1 f2 f3:=by
 obtain ⟨A2,c2,A3,c3,hb,hg,hr2,hr3⟩:=h
 exact ⟨A2,c2,A3,c3,blk_far hb hne u,hg,hr2,hr3⟩
theorem cellS33_0 {W : World} {g : Nat} {A2 : Option Addr} {c2 : Nat} {A3 : Option Addr} {c3 : Nat} {f0 : Int} {f1 : Int} {f2 : List (S78)} {f3 : List (S64)} (h : W.heap[g]? = some (.cells #[.int .i64 f0,.int .i64 f1,.slice A2 f2.length c2,.slice A3 f3.length c3] 33 (0,0))) : W.cell? ⟨g,0,none⟩ = some (.int .i64 f0):=(blk_cell h 0).trans rfl
theorem IsS33.set_0 {w0 W : World} {g : Nat} {f0 : Int} {f1 : Int} {f2 : List (S78)} {f3 : List (S64)} (h : IsS33 w0 W g f0 f1 f2 f3) (x : Int) : IsS33 w0 (W.setCell ⟨g,0,none⟩ (.int .i64 x)) g x f1 f2 f3:=by
 obtain ⟨A2,c2,A3,c3,hb,hg,hr2,hr3⟩:=h
 exact ⟨A2,c2,A3,c3,by simpa using blk_set hb 0 (.int .i64 x),hg,hr2,hr3⟩
theorem cellS33_1 {W : World} {g : Nat} {A2 : Option Addr} {c2 : Nat} {A3 : Option Addr} {c3 : Nat} {f0 : Int} {f1 : Int} {f2 : List (S78)} {f3 : List (S64)} (h : W.heap[g]? = some (.cells #[.int .i64 f0,.int .i64 f1,.slice A2 f2.length c2,.slice A3 f3.length c3] 33 (0,0))) : W.cell? ⟨g,1,none⟩ = some (.int .i64 f1):=(blk_cell h 1).trans rfl
theorem IsS33.set_1 {w0 W : World} {g : Nat} {f0 : Int} {f1 : Int} {f2 : List (S78)} {f3 : List (S64)} (h : IsS33 w0 W g f0 f1 f2 f3) (x : Int) : IsS33 w0 (W.setCell ⟨g,1,none⟩ (.int .i64 x)) g f0 x f2 f3:=by
 obtain ⟨A2,c2,A3,c3,hb,hg,hr2,hr3⟩:=h
 exact ⟨A2,c2,A3,c3,by simpa using blk_set hb 1 (.int .i64 x),hg,hr2,hr3⟩
theorem cellS33_2 {W : World} {g : Nat} {A2 : Option Addr} {c2 : Nat} {A3 : Option Addr} {c3 : Nat} {f0 : Int} {f1 : Int} {f2 : List (S78)} {f3 : List (S64)} (h : W.heap[g]? = some (.cells #[.int .i64 f0,.int .i64 f1,.slice A2 f2.length c2,.slice A3 f3.length c3] 33 (0,0))) : W.cell? ⟨g,2,none⟩ = some (.slice A2 f2.length c2):=(blk_cell h 2).trans rfl
theorem cellS33_3 {W : World} {g : Nat} {A2 : Option Addr} {c2 : Nat} {A3 : Option Addr} {c3 : Nat} {f0 : Int} {f1 : Int} {f2 : List (S78)} {f3 : List (S64)} (h : W.heap[g]? = some (.cells #[.int .i64 f0,.int .i64 f1,.slice A2 f2.length c2,.slice A3 f3.length c3] 33 (0,0))) : W.cell? ⟨g,3,none⟩ = some (.slice A3 f3.length c3):=(blk_cell h 3).trans rfl
theorem IsS33.new (w0 W : World) (A2 : Option Addr) (c2 : Nat) (A3 : Option Addr) (c3 : Nat) (f0 : Int) (f1 : Int) (f2 : List (S78)) (f3 : List (S64)) (hB : Below w0.heap.size w0 W) (hr2 : Kd.C k78 w0 A2 f2.length f2) (hr3 : Kd.C k64 w0 A3 f3.length f3) : IsS33 w0 (W.alloc (.cells #[.int .i64 f0,.int .i64 f1,.slice A2 f2.length c2,.slice A3 f3.length c3] 33)) W.heap.size f0 f1 f2 f3:=⟨A2,c2,A3,c3,by simpa using heap_alloc_new W _,hB.size,hr2,hr3⟩
mutual
def spec_l05Points.l0 : Nat → Int → Int → Int → List (S78) → List (S64) → Option (Bool × Int × Int)
 | 0,_,_,_,_,_ => none
 | k + 1,x3,x1000,x1001,x1002,x1003 => if x3 < (x1002.length : Int) then (if 0 ≤ x3 then ((spec_l00In.f ((rd_T78 x1002 x3).f0) 0 x1000).bind fun t109 => (if t109 = true then ((spec_l00In.f ((rd_T78 x1002 x3).f1) 0 x1001).bind fun t111 => (spec_l05Points.j1 k x3 (!t111) x1000 x1001 x1002 x1003)) else (spec_l05Points.j1 k x3 true x1000 x1001 x1002 x1003))) else (none)) else (some (true,x1000,x1001))
def spec_l05Points.j1 : Nat → Int → Bool → Int → Int → List (S78) → List (S64) → Option (Bool × Int × Int)
 | 0,_,_,_,_,_,_ => none
 | k + 1,x3,x49,x1000,x1001,x1002,x1003 => if x49 = true then (some (false,x1000,x1001)) else (spec_l05Points.l1 k x3 0 x1000 x1001 x1002 x1003)
def spec_l05Points.l1 : Nat → Int → Int → Int → Int → List (S78) → List (S64) → Option (Bool × Int × Int)
 | 0,_,_,_,_,_,_ => none
 | k + 1,x3,x4,x1000,x1001,x1002,x1003 => if x4 < x3 then (if 0 ≤ x3 then (if x3 < (x1002.length : Int) then (if 0 ≤ x4 then (if x4 < (x1002.length : Int) then (if (((rd_T78 x1002 x3).f0) == ((rd_T78 x1002 x4).f0) && (((rd_T78 x1002 x3).f1) == ((rd_T78 x1002 x4).f1))) = true then (some (false,x1000,x1001)) else (spec_l05Points.l1 k x3 (wrap64 (x4 + 1)) x1000 x1001 x1002 x1003)) else (none)) else (none)) else (none)) else (none)) else (spec_l05Points.l0 k (wrap64 (x3 + 1)) x1000 x1001 x1002 x1003)
end
def spec_l05Points.f (k : Nat) (s0_0 : Int) (s0_1 : Int) (s0_2 : List (S78)) (s0_3 : List (S64)) : Option (Bool × Int × Int):=if (s0_2.length : Int) > 48 then (some (false,s0_0,s0_1)) else (spec_l05Points.l0 k 0 s0_0 s0_1 s0_2 s0_3)
theorem spec_l05Points.calls (k : Nat) (g : Nat) (s0_0 : Int) (s0_1 : Int) (s0_2 : List (S78)) (s0_3 : List (S64)) (r1 : Bool) (r2 : Int) (r3 : Int) (w0 w : World) (hI : IsS33 w0 w g s0_0 s0_1 s0_2 s0_3) (hB : Below w0.heap.size w0 w) (h : spec_l05Points.f k s0_0 s0_1 s0_2 s0_3 = some (r1,r2,r3)) :
  Calls Try.prog 39 #[.pointer (some ⟨g,0,none⟩)] w fun e w' => e = .returned (.bool r1) ∧ IsS33 w0 w' g r2 r3 s0_2 s0_3 ∧ Below w0.heap.size w0 w' ∧ KeepBut w w' g none:=by
 have hu78:=Try.underlying78
 have HI0:=Aside0.mk hI
 have HK:=Aside0.mk (KeepBut.refl w g none)
 have HL:=Aside0.mk hB.size
 clear hI
 have HW0:=Aside0.mk hB.size
 have HB:=Aside0.mk hB
 clear hB
 have H : (if (s0_2.length : Int) > 48 then (some (false,s0_0,s0_1)) else (spec_l05Points.l0 k 0 s0_0 s0_1 s0_2 s0_3)) = some (r1,r2,r3):=h
 clear h
 obtain ⟨A2,c2,A3,c3,hblk,hge,hr2,hr3⟩:=HI0.out
 have q0 : w.cell? ⟨g,0,none⟩ = some (.int .i64 s0_0):=cellS33_0 hblk
 have q1 : w.cell? ⟨g,1,none⟩ = some (.int .i64 s0_1):=cellS33_1 hblk
 have q2 : w.cell? ⟨g,2,none⟩ = some (.slice A2 s0_2.length c2):=cellS33_2 hblk
 have pts : ∀ i : Int,0 ≤ i → i < (s0_2.length : Int) → ∃ ad,A2 = some ad ∧ w.cell? (ad.add (i.toNat * 2)) = some (.int .i64 (rd_T78 s0_2 i).f0) ∧ w.cell? ⟨(ad.add (i.toNat * 2)).block,(ad.add (i.toNat * 2)).off + 1,none⟩ = some (.int .i64 (rd_T78 s0_2 i).f1):=by
  intro i h0 h1
  obtain ⟨ad,e,x0,x1⟩:=at_T78 hr2 i h0 h1
  exact ⟨ad,e,(HB.out.cell (bL w0 _ x0)).trans x0,(HB.out.cell (bL w0 _ x1)).trans x1⟩
 have Hpts_:=Aside0.mk pts
 have Q0:=Aside0.mk q0
 have Q1:=Aside0.mk q1
 have Q2:=Aside0.mk q2
 clear hblk hge hr2 hr3 pts
 by_cases c1 : (s0_2.length : Int) > 48
 ·rw [if_pos c1] at H
  have c1b : decide (48 < (s0_2.length : Int)) = true:=decide_eq_true c1
  clear c1
  simp only [Option.some.injEq,Prod.mk.injEq] at H
  obtain ⟨rfl,rfl,rfl⟩:=H
  go_enter Try.func39,Try.ntmps39
  go_wp2
  go_ret
  exact ⟨(by first | rfl | (simp;done) | (simp [*];done)),(by repeat (first | exact HI0.out | apply IsS33.drewN | apply IsS33.drew)),(by repeat (first | exact HB.out | apply pw_below_drewN | apply below_drew1)),(by repeat (first | exact HK.out | apply keep_drewN | apply keep_drew))⟩
 ·rw [if_neg c1] at H
  have c1b : decide (48 < (s0_2.length : Int)) = false:=decide_eq_false c1
  clear c1
  have H':=Aside0.mk H
  clear H
  go_enter Try.func39,Try.ntmps39
  go_wp2
  go_loopg [3] k (fun kq v3 w' => ∃ (x3 : Int),v3 = .int .i64 x3 ∧ Aside0 (spec_l05Points.l0 kq x3 s0_0 s0_1 s0_2 s0_3 = some (r1,r2,r3)) ∧ Aside0 (kq ≤ k) ∧ Aside0 (Drawn0 w w'))
  case atStart => exact ⟨0,rfl,H',⟨Nat.le_refl _⟩,⟨by repeat (first | exact Drawn0.refl _ | apply Drawn0.step)⟩⟩
  case round =>
   clear H' q0 q1 q2
   obtain ⟨x3,rfl,HA,HK1,HD⟩:=hrel
   cases gk with
   | zero => exact absurd HA.out (by simp [spec_l05Points.l0])
   | succ k1 =>
    have H:=HA.out
    clear HA
    simp only [spec_l05Points.l0] at H
    have hD:=HD.out
    obtain ⟨m1,hm1⟩:=hD.out
    have q0 : wr.cell? ⟨g,0,none⟩ = some (.int .i64 s0_0):=by rw [hm1];exact Q0.out
    have q1 : wr.cell? ⟨g,1,none⟩ = some (.int .i64 s0_1):=by rw [hm1];exact Q1.out
    have q2 : wr.cell? ⟨g,2,none⟩ = some (.slice A2 s0_2.length c2):=by rw [hm1];exact Q2.out
    clear hD
    have HM:=Aside0.mk hm1
    clear hm1
    by_cases c2_ : x3 < (s0_2.length : Int)
    ·rw [if_pos c2_] at H
     have c2b : decide (x3 < (s0_2.length : Int)) = true:=decide_eq_true c2_
     by_cases c3_ : 0 ≤ x3
     ·rw [if_pos c3_] at H
      have c3b : decide (0 ≤ x3) = true:=decide_eq_true c3_
      replace H:=bE.mp H
      obtain ⟨t1,A10,H⟩:=H
      have A1:=Aside0.mk A10
      clear A10
      obtain ⟨ad,ea,y0_,y1_⟩:=Hpts_.out x3 c3_ c2_
      have y0 : wr.cell? (ad.add (x3.toNat * 2)) = some (.int .i64 (rd_T78 s0_2 x3).f0):=by rw [HM.out];exact y0_
      have y1 : wr.cell? ⟨(ad.add (x3.toNat * 2)).block,(ad.add (x3.toNat * 2)).off + 1,none⟩ = some (.int .i64 (rd_T78 s0_2 x3).f1):=by rw [HM.out];exact y1_
      clear y0_ y1_
      rw [ea] at q2
      have EA:=Aside0.mk ea
      clear ea
      cases t1 with
      | true =>
       replace H:=(show (((spec_l00In.f ((rd_T78 s0_2 x3).f1) 0 s0_1).bind fun t167 => (spec_l05Points.j1 k1 x3 (!t167) s0_0 s0_1 s0_2 s0_3))) = some (r1,r2,r3) from by first | exact H | simpa using H)
       replace H:=bE.mp H
       obtain ⟨t2,A20,H⟩:=H
       have A2_:=Aside0.mk A20
       clear A20
       cases k1 with
       | zero => exact absurd H (by simp [spec_l05Points.j1])
       | succ k2 =>
       simp only [spec_l05Points.j1] at H
       cases t2 with
       | false =>
        simp only [Bool.not_false,if_true,Option.some.injEq,Prod.mk.injEq] at H
        obtain ⟨rfl,rfl,rfl⟩:=H
        go_wp2
        go_quiet (first | (with_reducible exact Calls.quiet_of ((spec_l00In.calls _ _ _ _ _ A1.out).mono fun e w' h => ⟨h.1,h.2.out⟩)) | (with_reducible exact Calls.quiet_of ((spec_l00In.calls _ _ _ _ _ A2_.out).mono fun e w' h => ⟨h.1,h.2.out⟩)))
        go_wp2
        go_ret
        rw [HM.out];exact ⟨(by first | rfl | (simp;done) | (simp [*];done)),(by repeat (first | exact HI0.out | apply IsS33.drewN | apply IsS33.drew)),(by repeat (first | exact HB.out | apply pw_below_drewN | apply below_drew1)),(by repeat (first | exact HK.out | apply keep_drewN | apply keep_drew))⟩
       | true =>
        simp only [Bool.not_true,Bool.false_eq_true,if_false] at H
        have H':=Aside0.mk H
        clear H
        go_wp2
        go_quiet (first | (with_reducible exact Calls.quiet_of ((spec_l00In.calls _ _ _ _ _ A1.out).mono fun e w' h => ⟨h.1,h.2.out⟩)) | (with_reducible exact Calls.quiet_of ((spec_l00In.calls _ _ _ _ _ A2_.out).mono fun e w' h => ⟨h.1,h.2.out⟩)))
        go_wp2
        go_loopg [4] k2 (fun kq v4 w' => ∃ (x4 : Int),v4 = .int .i64 x4 ∧ Aside0 (spec_l05Points.l1 kq x3 x4 s0_0 s0_1 s0_2 s0_3 = some (r1,r2,r3)) ∧ Aside0 (kq ≤ k2) ∧ Aside0 (Drawn0 w w'))
        case atStart => exact ⟨0,rfl,H',⟨Nat.le_refl _⟩,⟨by repeat (first | exact HD.out | apply Drawn0.step)⟩⟩
        case round =>
         clear H' q0 q1 q2 y0 y1 HM HD A1 A2_
         obtain ⟨x4,rfl,HA,HK2,HD⟩:=hrel
         cases gk with
         | zero => exact absurd HA.out (by simp [spec_l05Points.l1])
         | succ k3 =>
          have H:=HA.out
          clear HA
          simp only [spec_l05Points.l1] at H
          have hD:=HD.out
          obtain ⟨m1,hm1⟩:=hD.out
          have q2 : wr.cell? ⟨g,2,none⟩ = some (.slice (some ad) s0_2.length c2):=by rw [hm1,← EA.out];exact Q2.out
          clear hD
          have HM:=Aside0.mk hm1
          clear hm1
          by_cases c4_ : x4 < x3
          ·rw [if_pos c4_] at H
           have c4b : decide (x4 < x3) = true:=decide_eq_true c4_
           rw [if_pos c3_,if_pos c2_] at H
           by_cases c5_ : 0 ≤ x4
           ·rw [if_pos c5_] at H
            have c5b : decide (0 ≤ x4) = true:=decide_eq_true c5_
            have c6_ : x4 < (s0_2.length : Int):=by omega
            rw [if_pos c6_] at H
            have c6b : decide (x4 < (s0_2.length : Int)) = true:=decide_eq_true c6_
            obtain ⟨ad',ea',y0_,y1_⟩:=Hpts_.out x3 c3_ c2_
            obtain rfl : ad = ad':=Option.some.inj (EA.out.symm.trans ea')
            obtain ⟨ad',ea2',z0_,z1_⟩:=Hpts_.out x4 c5_ c6_
            obtain rfl : ad = ad':=Option.some.inj (EA.out.symm.trans ea2')
            have y0 : wr.cell? (ad.add (x3.toNat * 2)) = some (.int .i64 (rd_T78 s0_2 x3).f0):=by rw [HM.out];exact y0_
            have y1 : wr.cell? ⟨(ad.add (x3.toNat * 2)).block,(ad.add (x3.toNat * 2)).off + 1,none⟩ = some (.int .i64 (rd_T78 s0_2 x3).f1):=by rw [HM.out];exact y1_
            have z0 : wr.cell? (ad.add (x4.toNat * 2)) = some (.int .i64 (rd_T78 s0_2 x4).f0):=by rw [HM.out];exact z0_
            have z1 : wr.cell? ⟨(ad.add (x4.toNat * 2)).block,(ad.add (x4.toNat * 2)).off + 1,none⟩ = some (.int .i64 (rd_T78 s0_2 x4).f1):=by rw [HM.out];exact z1_
            clear y0_ y1_ z0_ z1_ ea' ea2'
            cases c7_ : (((rd_T78 s0_2 x3).f0) == ((rd_T78 s0_2 x4).f0) && (((rd_T78 s0_2 x3).f1) == ((rd_T78 s0_2 x4).f1))) with
            | true =>
             rw [if_pos c7_] at H
             simp only [Option.some.injEq,Prod.mk.injEq] at H
             obtain ⟨rfl,rfl,rfl⟩:=H
             go_wp2
             go_quiet (fail)
             go_wp2
             go_ret
             rw [HM.out];exact ⟨(by first | rfl | (simp;done) | (simp [*];done)),(by repeat (first | exact HI0.out | apply IsS33.drewN | apply IsS33.drew)),(by repeat (first | exact HB.out | apply pw_below_drewN | apply below_drew1)),(by repeat (first | exact HK.out | apply keep_drewN | apply keep_drew))⟩
            | false =>
             rw [if_neg (by rw [c7_];decide)] at H
             have H':=Aside0.mk H
             clear H
             go_wp2
             go_quiet (fail)
             go_wp2
             go_roundg k3
             case measure => have:=HK1.out;have:=HK2.out;omega
             case rel => exact ⟨(wrap64 (x4 + 1)),(by first | rfl | (simp;done) | (simp [*];done)),H',⟨by have:=HK1.out;have:=HK2.out;omega⟩,⟨by repeat (first | exact HD.out | apply Drawn0.step)⟩⟩
           ·rw [if_neg c5_] at H
            exact absurd H (by simp)
          ·rw [if_neg c4_] at H
           have c4b : decide (x4 < x3) = false:=decide_eq_false c4_
           have H':=Aside0.mk H
           clear H
           go_wp2
           go_roundg k3
           case measure => have:=HK1.out;have:=HK2.out;omega
           case rel => exact ⟨(wrap64 (x3 + 1)),(by first | rfl | (simp;done) | (simp [*];done)),H',⟨by have:=HK1.out;have:=HK2.out;omega⟩,⟨by repeat (first | exact HD.out | apply Drawn0.step)⟩⟩
      | false =>
       replace H:=(show (spec_l05Points.j1 k1 x3 true s0_0 s0_1 s0_2 s0_3) = some (r1,r2,r3) from by first | exact H | simpa using H)
       cases k1 with
       | zero => exact absurd H (by simp [spec_l05Points.j1])
       | succ k2 =>
       simp only [spec_l05Points.j1,if_true,Option.some.injEq,Prod.mk.injEq] at H
       obtain ⟨rfl,rfl,rfl⟩:=H
       go_wp2
       go_quiet (with_reducible exact Calls.quiet_of ((spec_l00In.calls _ _ _ _ _ A1.out).mono fun e w' h => ⟨h.1,h.2.out⟩))
       go_wp2
       go_ret
       rw [HM.out];exact ⟨(by first | rfl | (simp;done) | (simp [*];done)),(by repeat (first | exact HI0.out | apply IsS33.drewN | apply IsS33.drew)),(by repeat (first | exact HB.out | apply pw_below_drewN | apply below_drew1)),(by repeat (first | exact HK.out | apply keep_drewN | apply keep_drew))⟩
     ·rw [if_neg c3_] at H
      exact absurd H (by simp)
    ·rw [if_neg c2_] at H
     have c2b : decide (x3 < (s0_2.length : Int)) = false:=decide_eq_false c2_
     simp only [Option.some.injEq,Prod.mk.injEq] at H
     obtain ⟨rfl,rfl,rfl⟩:=H
     go_wp2
     go_ret
     rw [HM.out];exact ⟨(by first | rfl | (simp;done) | (simp [*];done)),(by repeat (first | exact HI0.out | apply IsS33.drewN | apply IsS33.drew)),(by repeat (first | exact HB.out | apply pw_below_drewN | apply below_drew1)),(by repeat (first | exact HK.out | apply keep_drewN | apply keep_drew))⟩
def spec_l01Small.f (a0 : Int) : Option (Bool):=if a0 ≥ 97 then (some (decide (a0 ≤ 122))) else (some false)
theorem spec_l01Small.calls (a0 : Int) (r : Bool) (w : World) (h : spec_l01Small.f a0 = some r) :
  Calls Try.prog 61 #[.int .u8 a0] w fun e w' => e = .returned (.bool r) ∧ Drawn0 w w':=by
 have H : (if a0 ≥ 97 then (some (decide (a0 ≤ 122))) else (some false)) = some r:=h
 clear h
 by_cases c2 : a0 ≥ 97
 ·rw [if_pos c2] at H
  have c2b0 : decide (97 ≤ a0) = true:=decide_eq_true c2
  clear c2
  obtain rfl:=Option.some.inj H
  go_enter Try.func61,Try.ntmps61
  go_wp2
  go_ret
  exact ⟨by first | rfl | (simp;done) | (simp [*];done),by repeat (first | exact Drawn0.refl _ | apply Drawn0.step)⟩
 ·rw [if_neg c2] at H
  have c2b0 : decide (97 ≤ a0) = false:=decide_eq_false c2
  clear c2
  obtain rfl:=Option.some.inj H
  go_enter Try.func61,Try.ntmps61
  go_wp2
  go_ret
  exact ⟨by first | rfl | (simp;done) | (simp [*];done),by repeat (first | exact Drawn0.refl _ | apply Drawn0.step)⟩
def spec_l01Digit.f (a0 : Int) : Option (Bool):=if a0 ≥ 48 then (some (decide (a0 ≤ 57))) else (some false)
theorem spec_l01Digit.calls (a0 : Int) (r : Bool) (w : World) (h : spec_l01Digit.f a0 = some r) :
  Calls Try.prog 62 #[.int .u8 a0] w fun e w' => e = .returned (.bool r) ∧ Drawn0 w w':=by
 have H : (if a0 ≥ 48 then (some (decide (a0 ≤ 57))) else (some false)) = some r:=h
 clear h
 by_cases c2 : a0 ≥ 48
 ·rw [if_pos c2] at H
  have c2b0 : decide (48 ≤ a0) = true:=decide_eq_true c2
  clear c2
  obtain rfl:=Option.some.inj H
  go_enter Try.func62,Try.ntmps62
  go_wp2
  go_ret
  exact ⟨by first | rfl | (simp;done) | (simp [*];done),by repeat (first | exact Drawn0.refl _ | apply Drawn0.step)⟩
 ·rw [if_neg c2] at H
  have c2b0 : decide (48 ≤ a0) = false:=decide_eq_false c2
  clear c2
  obtain rfl:=Option.some.inj H
  go_enter Try.func62,Try.ntmps62
  go_wp2
  go_ret
  exact ⟨by first | rfl | (simp;done) | (simp [*];done),by repeat (first | exact Drawn0.refl _ | apply Drawn0.step)⟩
end Go.Proofs.Ytpeebobdbaemiaa.PFnExactNeighboursOf
