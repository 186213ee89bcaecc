/- Contracts of functions that FnExactEdgesOf reaches, out of the lines of the kit's print. -/
import Derived.Test.YtpeebobdbaemiaaQFnExactEdgesOfx0
namespace Go.Proofs.Ytpeebobdbaemiaa.PFnExactEdgesOf
set_option maxHeartbeats 8000000
set_option maxRecDepth 100000
open Go.RowKit Go.Proofs.YtpeebobdbaemiaaW.PrintWords Go.Proofs.YtpeebobdbaemiaaW.PrintLast Go.Proofs.YtpeebobdbaemiaaW.PrintMore
open Bool renaming true → tT, false → fF
open Go.World renaming block_lt_of_cell? → bL
open List renaming length_take → lT, length_drop → lD, map_toArray → mT, map_cons → mC, map_nil → mN
open Option renaming bind_eq_some_iff → bE
attribute [local go_sem] max2_int min2_int max_two min_two max_three min_three max_four min_four
set_option linter.unusedVariables false
set_option linter.unusedSimpArgs false
def laws_szPointS.f (l0 : List (S80)) (a1 : Int) : Option (Int):=if (wrap64 (a1 - (l0.length : Int))) < 0 then (some (-1)) else (some (wrap64 (a1 - (l0.length : Int))))
theorem laws_szPointS.calls (A0 : Option Addr) (c0 : Nat) (l0 : List (S80)) (a1 : Int) (r : Int) (w : World) (hr0 : Kd.C k80 w A0 l0.length l0) (hc0 : l0.length ≤ c0) (h : laws_szPointS.f l0 a1 = some r) :
  Calls Try.prog 19 #[.slice A0 l0.length c0,.int .i64 a1] w fun e w' => e = .returned (.int .i64 r) ∧ Drawn0 w w':=by
 have HR0:=Aside0.mk hr0
 have HC0:=Aside0.mk hc0
 clear hr0 hc0
 have H : (if (wrap64 (a1 - (l0.length : Int))) < 0 then (some (-1)) else (some (wrap64 (a1 - (l0.length : Int))))) = some r:=h
 clear h
 by_cases c3 : (wrap64 (a1 - (l0.length : Int))) < 0
 ·rw [if_pos c3] at H
  have c3b0 : decide ((wrap64 (a1 - (l0.length : Int))) < 0) = true:=decide_eq_true c3
  clear c3
  obtain rfl:=Option.some.inj H
  go_enter Try.func19,Try.ntmps19
  go_wp2
  go_ret
  exact ⟨by first | rfl | (simp;done) | (simp [*];done),by repeat (first | exact Drawn0.refl _ | apply Drawn0.step)⟩
 ·rw [if_neg c3] at H
  have c3b0 : decide ((wrap64 (a1 - (l0.length : Int))) < 0) = false:=decide_eq_false c3
  clear c3
  obtain rfl:=Option.some.inj H
  go_enter Try.func19,Try.ntmps19
  go_wp2
  go_ret
  exact ⟨by first | rfl | (simp;done) | (simp [*];done),by repeat (first | exact Drawn0.refl _ | apply Drawn0.step)⟩
def laws_szInt64S.f (l0 : List Int) (a1 : Int) : Option (Int):=if (wrap64 (a1 - (l0.length : Int))) < 0 then (some (-1)) else (some (wrap64 (a1 - (l0.length : Int))))
theorem laws_szInt64S.calls (A0 : Option Addr) (c0 : Nat) (l0 : List Int) (a1 : Int) (r : Int) (w : World) (hr0 : Kd.C (Kd.int .i64) w A0 l0.length l0) (hc0 : l0.length ≤ c0) (h : laws_szInt64S.f l0 a1 = some r) :
  Calls Try.prog 60 #[.slice A0 l0.length c0,.int .i64 a1] w fun e w' => e = .returned (.int .i64 r) ∧ Drawn0 w w':=by
 have HR0:=Aside0.mk hr0
 have HC0:=Aside0.mk hc0
 clear hr0 hc0
 have H : (if (wrap64 (a1 - (l0.length : Int))) < 0 then (some (-1)) else (some (wrap64 (a1 - (l0.length : Int))))) = some r:=h
 clear h
 by_cases c3 : (wrap64 (a1 - (l0.length : Int))) < 0
 ·rw [if_pos c3] at H
  have c3b0 : decide ((wrap64 (a1 - (l0.length : Int))) < 0) = true:=decide_eq_true c3
  clear c3
  obtain rfl:=Option.some.inj H
  go_enter Try.func60,Try.ntmps60
  go_wp2
  go_ret
  exact ⟨by first | rfl | (simp;done) | (simp [*];done),by repeat (first | exact Drawn0.refl _ | apply Drawn0.step)⟩
 ·rw [if_neg c3] at H
  have c3b0 : decide ((wrap64 (a1 - (l0.length : Int))) < 0) = false:=decide_eq_false c3
  clear c3
  obtain rfl:=Option.some.inj H
  go_enter Try.func60,Try.ntmps60
  go_wp2
  go_ret
  exact ⟨by first | rfl | (simp;done) | (simp [*];done),by repeat (first | exact Drawn0.refl _ | apply Drawn0.step)⟩
def laws_szFace.f (a0_0 : ByteArray) (l0_1 : List Int) (a1 : Int) : Option (Int):=if (wrap64 (a1 - (a0_0.size : Int))) < 0 then (some (-1)) else ((laws_szInt64S.f l0_1 (wrap64 (a1 - (a0_0.size : Int)))).bind fun t102 => (if t102 < 0 then (some (-1)) else (some t102)))
theorem laws_szFace.calls (a0_0 : ByteArray) (A0_1 : Option Addr) (c0_1 : Nat) (l0_1 : List Int) (a1 : Int) (r : Int) (w : World) (hr0_1 : Kd.C (Kd.int .i64) w A0_1 l0_1.length l0_1) (hc0_1 : l0_1.length ≤ c0_1) (h : laws_szFace.f a0_0 l0_1 a1 = some r) :
  Calls Try.prog 37 #[.agg #[.string a0_0,.slice A0_1 l0_1.length c0_1],.int .i64 a1] w fun e w' => e = .returned (.int .i64 r) ∧ Below w.heap.size w w':=by
 have hu70:=Try.underlying70
 have HR0_1:=Aside0.mk hr0_1
 have HC0_1:=Aside0.mk hc0_1
 clear hr0_1 hc0_1
 have HB:=Aside0.mk (Below.refl w.heap.size w)
 have H : (if (wrap64 (a1 - (a0_0.size : Int))) < 0 then (some (-1)) else ((laws_szInt64S.f l0_1 (wrap64 (a1 - (a0_0.size : Int)))).bind fun t102 => (if t102 < 0 then (some (-1)) else (some t102)))) = some r:=h
 clear h
 by_cases c3 : (wrap64 (a1 - (a0_0.size : Int))) < 0
 ·rw [if_pos c3] at H
  have c3b0 : decide ((wrap64 (a1 - (a0_0.size : Int))) < 0) = true:=decide_eq_true c3
  clear c3
  obtain rfl:=Option.some.inj H
  go_enter Try.func37,Try.ntmps37
  go_wp2_with (first | ((with_reducible refine gate_dst (N:=2) rfl ?_);refine bx (cs:=#[.string a0_0,.slice A0_1 l0_1.length c0_1]) (t:=70) ?_;intro gb101 hg w4 hbox hb;have BK101:=Aside0.mk (hbox);have GW101:=zb hg;have GE101:=zb hg;replace HB:=sb hb;clear hb hbox hg;have hcz5_0:=ck BK101 0;have hcz5_1:=ck BK101 1;have hfz5_0:=blk_frozen BK101.out 0;have hfz5_1:=blk_frozen BK101.out 1))
  go_ret
  exact ⟨by first | rfl | (simp [errW_none,errW_some] <;> rfl) | (simp [*,errW_none,errW_some] <;> rfl),ib⟩
 ·rw [if_neg c3] at H
  have c3b0 : decide ((wrap64 (a1 - (a0_0.size : Int))) < 0) = false:=decide_eq_false c3
  clear c3
  replace H:=bE.mp H
  obtain ⟨t102,A60,H⟩:=H
  replace H : (if t102 < 0 then (some (-1)) else (some t102)) = some r:=H
  have A6:=Aside0.mk A60
  clear A60
  by_cases c7 : t102 < 0
  ·rw [if_pos c7] at H
   have c7b0 : decide (t102 < 0) = true:=decide_eq_true c7
   clear c7
   obtain rfl:=Option.some.inj H
   go_enter Try.func37,Try.ntmps37
   go_wp2_with (first | ((with_reducible refine gate_dst (N:=2) rfl ?_);refine bx (cs:=#[.string a0_0,.slice A0_1 l0_1.length c0_1]) (t:=70) ?_;intro gb101 hg w8 hbox hb;have BK101:=Aside0.mk (hbox);have GW101:=zb hg;have GE101:=zb hg;replace HB:=sb hb;clear hb hbox hg;have hcz9_0:=ck BK101 0;have hcz9_1:=ck BK101 1;have hfz9_0:=blk_frozen BK101.out 0;have hfz9_1:=blk_frozen BK101.out 1) | ((with_reducible refine gate_callee (f:=60) rfl ?_);refine goesL_ (some 15) rfl rfl Try.func60 (by kernel_rfl) rfl #[.slice A0_1 l0_1.length c0_1,.int .i64 (wrap64 (a1 - (a0_0.size : Int)))] rfl (by (try simp only [mT,mC,mN]);first | done | rfl | (simp only [lD,lT];rfl)) ?_;(with_reducible refine (laws_szInt64S.calls _ _ l0_1 (wrap64 (a1 - (a0_0.size : Int))) t102 _ ?side1 ?side2 A6.out).mono ?_);(case side1 => repeat (first | exact (Kd.C_below HR0_1.out HB.out) | exact HR0_1.out | (with_reducible refine Kd.C_alloc ?_ _) | (with_reducible refine Kd.C_drewN ?_ _) | (with_reducible refine Kd.C_drew ?_)));(case side2 => exact HC0_1.out);rintro e w' ⟨rfl,⟨nd,rfl⟩⟩;refine ⟨_,rfl,?_⟩))
   go_ret
   exact ⟨by first | rfl | (simp [errW_none,errW_some] <;> rfl) | (simp [*,errW_none,errW_some] <;> rfl),ib⟩
  ·rw [if_neg c7] at H
   have c7b0 : decide (t102 < 0) = false:=decide_eq_false c7
   clear c7
   obtain rfl:=Option.some.inj H
   go_enter Try.func37,Try.ntmps37
   go_wp2_with (first | ((with_reducible refine gate_dst (N:=2) rfl ?_);refine bx (cs:=#[.string a0_0,.slice A0_1 l0_1.length c0_1]) (t:=70) ?_;intro gb101 hg w10 hbox hb;have BK101:=Aside0.mk (hbox);have GW101:=zb hg;have GE101:=zb hg;replace HB:=sb hb;clear hb hbox hg;have hcz11_0:=ck BK101 0;have hcz11_1:=ck BK101 1;have hfz11_0:=blk_frozen BK101.out 0;have hfz11_1:=blk_frozen BK101.out 1) | ((with_reducible refine gate_callee (f:=60) rfl ?_);refine goesL_ (some 15) rfl rfl Try.func60 (by kernel_rfl) rfl #[.slice A0_1 l0_1.length c0_1,.int .i64 (wrap64 (a1 - (a0_0.size : Int)))] rfl (by (try simp only [mT,mC,mN]);first | done | rfl | (simp only [lD,lT];rfl)) ?_;(with_reducible refine (laws_szInt64S.calls _ _ l0_1 (wrap64 (a1 - (a0_0.size : Int))) t102 _ ?side1 ?side2 A6.out).mono ?_);(case side1 => repeat (first | exact (Kd.C_below HR0_1.out HB.out) | exact HR0_1.out | (with_reducible refine Kd.C_alloc ?_ _) | (with_reducible refine Kd.C_drewN ?_ _) | (with_reducible refine Kd.C_drew ?_)));(case side2 => exact HC0_1.out);rintro e w' ⟨rfl,⟨nd,rfl⟩⟩;refine ⟨_,rfl,?_⟩))
   go_ret
   exact ⟨by first | rfl | (simp [errW_none,errW_some] <;> rfl) | (simp [*,errW_none,errW_some] <;> rfl),ib⟩
def laws_szFaceS.l0 : Nat → List (S70) → Int → Int → Option (Int)
 | 0,_,_,_ => none
 | k + 1,x0,x1,x5 => if x5 < (x0.length : Int) then (if 0 ≤ x5 then ((laws_szFace.f ((rd_T70 x0 x5).f0) ((rd_T70 x0 x5).f1) x1).bind fun t104 => (if t104 < 0 then (some (-1)) else (laws_szFaceS.l0 k x0 t104 (wrap64 (x5 + 1))))) else (none)) else (some x1)
def laws_szFaceS.f (k : Nat) (l0 : List (S70)) (a1 : Int) : Option (Int):=if (wrap64 (a1 - (l0.length : Int))) < 0 then (some (-1)) else (laws_szFaceS.l0 k l0 (wrap64 (a1 - (l0.length : Int))) 0)
theorem laws_szFaceS.calls (k : Nat) (A0 : Option Addr) (c0 : Nat) (l0 : List (S70)) (a1 : Int) (r : Int) (w : World) (hr0 : Kd.C k70 w A0 l0.length l0) (hc0 : l0.length ≤ c0) (h : laws_szFaceS.f k l0 a1 = some r) :
  Calls Try.prog 20 #[.slice A0 l0.length c0,.int .i64 a1] w fun e w' => e = .returned (.int .i64 r) ∧ Below w.heap.size w w':=by
 have hu70:=Try.underlying70
 have HR0:=Aside0.mk hr0
 have HC0:=Aside0.mk hc0
 clear hr0 hc0
 have HB:=Aside0.mk (Below.refl w.heap.size w)
 have H : (if (wrap64 (a1 - (l0.length : Int))) < 0 then (some (-1)) else (laws_szFaceS.l0 k l0 (wrap64 (a1 - (l0.length : Int))) 0)) = some r:=h
 clear h
 by_cases c3 : (wrap64 (a1 - (l0.length : Int))) < 0
 ·rw [if_pos c3] at H
  have c3b0 : decide ((wrap64 (a1 - (l0.length : Int))) < 0) = true:=decide_eq_true c3
  clear c3
  obtain rfl:=Option.some.inj H
  go_enter Try.func20,Try.ntmps20
  go_wp2
  go_ret
  exact ⟨by first | rfl | (simp [errW_none,errW_some] <;> rfl) | (simp [*,errW_none,errW_some] <;> rfl),ib⟩
 ·rw [if_neg c3] at H
  have c3b0 : decide ((wrap64 (a1 - (l0.length : Int))) < 0) = false:=decide_eq_false c3
  clear c3
  have H':=Aside0.mk H
  clear H
  go_enter Try.func20,Try.ntmps20
  go_wp2
  go_loopg [1,5] k (fun kq v1 v5 w' => ∃ (x1_1 : Int) (x5_1 : Int),v1 = .int .i64 x1_1 ∧ v5 = .int .i64 x5_1 ∧ Aside0 (laws_szFaceS.l0 kq l0 x1_1 x5_1 = some r) ∧ Aside0 (kq ≤ k) ∧ Aside0 (Below w.heap.size w w'))
  case atStart => exact ⟨(wrap64 (a1 - (l0.length : Int))),(0),(by first | rfl | (simp;done) | (simp [*];done)),(by first | rfl | (simp;done) | (simp [*];done)),H',⟨Nat.le_refl _⟩,⟨ib⟩⟩
  case round =>
   clear H'
   try clear c2
   try clear p2
   try clear c3
   try clear c3b0
   obtain ⟨x1_1,x5_1,rfl,rfl,HA,HK1,HB⟩:=hrel
   cases gk with
   | zero => exact absurd HA.out (by simp [laws_szFaceS.l0])
   | succ k1 =>
    have H:=HA.out
    clear HA
    simp only [laws_szFaceS.l0] at H
    by_cases c4 : x5_1 < (l0.length : Int)
    ·rw [if_pos c4] at H
     have c4b0 : decide (x5_1 < (l0.length : Int)) = true:=decide_eq_true c4
     clear c4
     by_cases c5 : 0 ≤ x5_1
     ·rw [if_pos c5] at H
      have c5b0 : decide (0 ≤ x5_1) = true:=decide_eq_true c5
      clear c5
      replace H:=bE.mp H
      obtain ⟨t104,A60,H⟩:=H
      replace H : (if t104 < 0 then (some (-1)) else (laws_szFaceS.l0 k1 l0 t104 (wrap64 (x5_1 + 1)))) = some r:=H
      have A6:=Aside0.mk A60
      clear A60
      by_cases c7 : t104 < 0
      ·rw [if_pos c7] at H
       have c7b0 : decide (t104 < 0) = true:=decide_eq_true c7
       clear c7
       obtain rfl:=Option.some.inj H
       have p103 : 0 ≤ (x5_1 : Int):=da
       have q103 : x5_1 < (l0.length : Int):=da
       obtain ⟨ad103,A103_1,c103_1,e103,hx103_0,hx103_1,hl103_1,hi103_1⟩:=at_T70 HR0.out x5_1 p103 q103
       cases e103
       replace hx103_0:=cq HB.out hx103_0
       replace hx103_1:=cq HB.out hx103_1
       have HR103_1:=Aside0.mk hi103_1
       have HC103_1:=Aside0.mk hl103_1
       clear hi103_1 hl103_1
       replace p103:=eq_true p103
       replace q103:=eq_true q103
       go_wp2_with (first | ((with_reducible refine gate_callee (f:=37) rfl ?_);refine goesL_ (some 23) rfl rfl Try.func37 (by kernel_rfl) rfl #[.agg #[.string ((rd_T70 l0 x5_1).f0),.slice A103_1 ((rd_T70 l0 x5_1).f1).length c103_1],.int .i64 x1_1] rfl (by (try simp only [mT,mC,mN]);first | done | rfl | (simp only [lD,lT];rfl)) ?_;(with_reducible refine (laws_szFace.calls ((rd_T70 l0 x5_1).f0) _ _ ((rd_T70 l0 x5_1).f1) x1_1 t104 _ ?side1 ?side2 A6.out).mono ?_);(case side1 => repeat (first | exact (Kd.C_below HR103_1.out HB.out) | exact HR103_1.out | (with_reducible refine Kd.C_alloc ?_ _) | (with_reducible refine Kd.C_drewN ?_ _) | (with_reducible refine Kd.C_drew ?_)));(case side2 => exact HC103_1.out);rintro e w8 ⟨rfl,hb⟩;refine ⟨_,rfl,?_⟩;replace HB:=sb hb;(try clear hb);(try clear hb2);(try clear hk);(try clear hi)))
       go_ret
       exact ⟨by first | rfl | (simp [errW_none,errW_some] <;> rfl) | (simp [*,errW_none,errW_some] <;> rfl),ib⟩
      ·rw [if_neg c7] at H
       have c7b0 : decide (t104 < 0) = false:=decide_eq_false c7
       clear c7
       have H':=Aside0.mk H
       clear H
       have p103 : 0 ≤ (x5_1 : Int):=da
       have q103 : x5_1 < (l0.length : Int):=da
       obtain ⟨ad103,A103_1,c103_1,e103,hx103_0,hx103_1,hl103_1,hi103_1⟩:=at_T70 HR0.out x5_1 p103 q103
       cases e103
       replace hx103_0:=cq HB.out hx103_0
       replace hx103_1:=cq HB.out hx103_1
       have HR103_1:=Aside0.mk hi103_1
       have HC103_1:=Aside0.mk hl103_1
       clear hi103_1 hl103_1
       replace p103:=eq_true p103
       replace q103:=eq_true q103
       go_wp2_with (first | ((with_reducible refine gate_callee (f:=37) rfl ?_);refine goesL_ (some 23) rfl rfl Try.func37 (by kernel_rfl) rfl #[.agg #[.string ((rd_T70 l0 x5_1).f0),.slice A103_1 ((rd_T70 l0 x5_1).f1).length c103_1],.int .i64 x1_1] rfl (by (try simp only [mT,mC,mN]);first | done | rfl | (simp only [lD,lT];rfl)) ?_;(with_reducible refine (laws_szFace.calls ((rd_T70 l0 x5_1).f0) _ _ ((rd_T70 l0 x5_1).f1) x1_1 t104 _ ?side1 ?side2 A6.out).mono ?_);(case side1 => repeat (first | exact (Kd.C_below HR103_1.out HB.out) | exact HR103_1.out | (with_reducible refine Kd.C_alloc ?_ _) | (with_reducible refine Kd.C_drewN ?_ _) | (with_reducible refine Kd.C_drew ?_)));(case side2 => exact HC103_1.out);rintro e w9 ⟨rfl,hb⟩;refine ⟨_,rfl,?_⟩;replace HB:=sb hb;(try clear hb);(try clear hb2);(try clear hk);(try clear hi)))
       go_roundg k1
       case measure => have:=HK1.out;omega
       case rel => exact ⟨(t104),(wrap64 (x5_1 + 1)),(by first | rfl | (simp;done) | (simp [*];done)),(by first | rfl | (simp;done) | (simp [*];done)),H',⟨by have:=HK1.out;omega⟩,⟨ib⟩⟩
     ·rw [if_neg c5] at H
      exact absurd H (by simp)
    ·rw [if_neg c4] at H
     have c4b0 : decide (x5_1 < (l0.length : Int)) = false:=decide_eq_false c4
     clear c4
     obtain rfl:=Option.some.inj H
     go_wp2
     go_ret
     exact ⟨by first | rfl | (simp [errW_none,errW_some] <;> rfl) | (simp [*,errW_none,errW_some] <;> rfl),ib⟩
def laws_szDrawing.f (k : Nat) (a0_0 : Int) (a0_1 : Int) (l0_2 : List (S80)) (l0_3 : List (S70)) (a1 : Int) : Option (Int):=(laws_szPointS.f l0_2 a1).bind fun t106 => (if t106 < 0 then (some (-1)) else ((laws_szFaceS.f k l0_3 t106).bind fun t107 => (if t107 < 0 then (some (-1)) else (some t107))))
theorem laws_szDrawing.calls (k : Nat) (a0_0 : Int) (a0_1 : Int) (A0_2 : Option Addr) (c0_2 : Nat) (l0_2 : List (S80)) (A0_3 : Option Addr) (c0_3 : Nat) (l0_3 : List (S70)) (a1 : Int) (r : Int) (w : World) (hr0_2 : Kd.C k80 w A0_2 l0_2.length l0_2) (hc0_2 : l0_2.length ≤ c0_2) (hr0_3 : Kd.C k70 w A0_3 l0_3.length l0_3) (hc0_3 : l0_3.length ≤ c0_3) (h : laws_szDrawing.f k a0_0 a0_1 l0_2 l0_3 a1 = some r) :
  Calls Try.prog 5 #[.agg #[.int .i64 a0_0,.int .i64 a0_1,.slice A0_2 l0_2.length c0_2,.slice A0_3 l0_3.length c0_3],.int .i64 a1] w fun e w' => e = .returned (.int .i64 r) ∧ Below w.heap.size w w':=by
 have hu25:=Try.underlying25
 have HR0_2:=Aside0.mk hr0_2
 have HC0_2:=Aside0.mk hc0_2
 clear hr0_2 hc0_2
 have HR0_3:=Aside0.mk hr0_3
 have HC0_3:=Aside0.mk hc0_3
 clear hr0_3 hc0_3
 have HB:=Aside0.mk (Below.refl w.heap.size w)
 have H : ((laws_szPointS.f l0_2 a1).bind fun t106 => (if t106 < 0 then (some (-1)) else ((laws_szFaceS.f k l0_3 t106).bind fun t107 => (if t107 < 0 then (some (-1)) else (some t107))))) = some r:=h
 clear h
 replace H:=bE.mp H
 obtain ⟨t106,A30,H⟩:=H
 replace H : (if t106 < 0 then (some (-1)) else ((laws_szFaceS.f k l0_3 t106).bind fun t107 => (if t107 < 0 then (some (-1)) else (some t107)))) = some r:=H
 have A3:=Aside0.mk A30
 clear A30
 by_cases c4 : t106 < 0
 ·rw [if_pos c4] at H
  have c4b0 : decide (t106 < 0) = true:=decide_eq_true c4
  clear c4
  obtain rfl:=Option.some.inj H
  go_enter Try.func5,Try.ntmps5
  go_wp2_with (first | ((with_reducible refine gate_dst (N:=2) rfl ?_);refine bx (cs:=#[.int .i64 a0_0,.int .i64 a0_1,.slice A0_2 l0_2.length c0_2,.slice A0_3 l0_3.length c0_3]) (t:=25) ?_;intro gb105 hg w5 hbox hb;have BK105:=Aside0.mk (hbox);have GW105:=zb hg;have GE105:=zb hg;replace HB:=sb hb;clear hb hbox hg;have hcz6_0:=ck BK105 0;have hcz6_1:=ck BK105 1;have hcz6_2:=ck BK105 2;have hcz6_3:=ck BK105 3;have hfz6_0:=blk_frozen BK105.out 0;have hfz6_1:=blk_frozen BK105.out 1;have hfz6_2:=blk_frozen BK105.out 2;have hfz6_3:=blk_frozen BK105.out 3) | ((with_reducible refine gate_callee (f:=19) rfl ?_);refine goesL_ (some 8) rfl rfl Try.func19 (by kernel_rfl) rfl #[.slice A0_2 l0_2.length c0_2,.int .i64 a1] rfl (by (try simp only [mT,mC,mN]);first | done | rfl | (simp only [lD,lT];rfl)) ?_;(with_reducible refine (laws_szPointS.calls _ _ l0_2 a1 t106 _ ?side1 ?side2 A3.out).mono ?_);(case side1 => repeat (first | exact (Kd.C_below HR0_2.out HB.out) | exact HR0_2.out | (with_reducible refine Kd.C_alloc ?_ _) | (with_reducible refine Kd.C_drewN ?_ _) | (with_reducible refine Kd.C_drew ?_)));(case side2 => exact HC0_2.out);rintro e w' ⟨rfl,⟨nd,rfl⟩⟩;refine ⟨_,rfl,?_⟩))
  go_ret
  exact ⟨by first | rfl | (simp [errW_none,errW_some] <;> rfl) | (simp [*,errW_none,errW_some] <;> rfl),ib⟩
 ·rw [if_neg c4] at H
  have c4b0 : decide (t106 < 0) = false:=decide_eq_false c4
  clear c4
  replace H:=bE.mp H
  obtain ⟨t107,A70,H⟩:=H
  replace H : (if t107 < 0 then (some (-1)) else (some t107)) = some r:=H
  have A7:=Aside0.mk A70
  clear A70
  by_cases c8 : t107 < 0
  ·rw [if_pos c8] at H
   have c8b0 : decide (t107 < 0) = true:=decide_eq_true c8
   clear c8
   obtain rfl:=Option.some.inj H
   go_enter Try.func5,Try.ntmps5
   go_wp2_with (first | ((with_reducible refine gate_dst (N:=2) rfl ?_);refine bx (cs:=#[.int .i64 a0_0,.int .i64 a0_1,.slice A0_2 l0_2.length c0_2,.slice A0_3 l0_3.length c0_3]) (t:=25) ?_;intro gb105 hg w9 hbox hb;have BK105:=Aside0.mk (hbox);have GW105:=zb hg;have GE105:=zb hg;replace HB:=sb hb;clear hb hbox hg;have hcz10_0:=ck BK105 0;have hcz10_1:=ck BK105 1;have hcz10_2:=ck BK105 2;have hcz10_3:=ck BK105 3;have hfz10_0:=blk_frozen BK105.out 0;have hfz10_1:=blk_frozen BK105.out 1;have hfz10_2:=blk_frozen BK105.out 2;have hfz10_3:=blk_frozen BK105.out 3) | ((with_reducible refine gate_callee (f:=19) rfl ?_);refine goesL_ (some 8) rfl rfl Try.func19 (by kernel_rfl) rfl #[.slice A0_2 l0_2.length c0_2,.int .i64 a1] rfl (by (try simp only [mT,mC,mN]);first | done | rfl | (simp only [lD,lT];rfl)) ?_;(with_reducible refine (laws_szPointS.calls _ _ l0_2 a1 t106 _ ?side1 ?side2 A3.out).mono ?_);(case side1 => repeat (first | exact (Kd.C_below HR0_2.out HB.out) | exact HR0_2.out | (with_reducible refine Kd.C_alloc ?_ _) | (with_reducible refine Kd.C_drewN ?_ _) | (with_reducible refine Kd.C_drew ?_)));(case side2 => exact HC0_2.out);rintro e w' ⟨rfl,⟨nd,rfl⟩⟩;refine ⟨_,rfl,?_⟩) | ((with_reducible refine gate_callee (f:=20) rfl ?_);refine goesL_ (some 14) rfl rfl Try.func20 (by kernel_rfl) rfl #[.slice A0_3 l0_3.length c0_3,.int .i64 t106] rfl (by (try simp only [mT,mC,mN]);first | done | rfl | (simp only [lD,lT];rfl)) ?_;(with_reducible refine (laws_szFaceS.calls k _ _ l0_3 t106 t107 _ ?side1 ?side2 A7.out).mono ?_);(case side1 => exact cO ((Kd.C_below HR0_3.out ib)));(case side2 => exact HC0_3.out);rintro e w11 ⟨rfl,hb⟩;refine ⟨_,rfl,?_⟩;replace BK105:=kb BK105 hb;replace HB:=sb hb;(try clear hb);(try clear hb2);(try clear hk);(try clear hi)))
   go_ret
   exact ⟨by first | rfl | (simp [errW_none,errW_some] <;> rfl) | (simp [*,errW_none,errW_some] <;> rfl),ib⟩
  ·rw [if_neg c8] at H
   have c8b0 : decide (t107 < 0) = false:=decide_eq_false c8
   clear c8
   obtain rfl:=Option.some.inj H
   go_enter Try.func5,Try.ntmps5
   go_wp2_with (first | ((with_reducible refine gate_dst (N:=2) rfl ?_);refine bx (cs:=#[.int .i64 a0_0,.int .i64 a0_1,.slice A0_2 l0_2.length c0_2,.slice A0_3 l0_3.length c0_3]) (t:=25) ?_;intro gb105 hg w12 hbox hb;have BK105:=Aside0.mk (hbox);have GW105:=zb hg;have GE105:=zb hg;replace HB:=sb hb;clear hb hbox hg;have hcz13_0:=ck BK105 0;have hcz13_1:=ck BK105 1;have hcz13_2:=ck BK105 2;have hcz13_3:=ck BK105 3;have hfz13_0:=blk_frozen BK105.out 0;have hfz13_1:=blk_frozen BK105.out 1;have hfz13_2:=blk_frozen BK105.out 2;have hfz13_3:=blk_frozen BK105.out 3) | ((with_reducible refine gate_callee (f:=19) rfl ?_);refine goesL_ (some 8) rfl rfl Try.func19 (by kernel_rfl) rfl #[.slice A0_2 l0_2.length c0_2,.int .i64 a1] rfl (by (try simp only [mT,mC,mN]);first | done | rfl | (simp only [lD,lT];rfl)) ?_;(with_reducible refine (laws_szPointS.calls _ _ l0_2 a1 t106 _ ?side1 ?side2 A3.out).mono ?_);(case side1 => repeat (first | exact (Kd.C_below HR0_2.out HB.out) | exact HR0_2.out | (with_reducible refine Kd.C_alloc ?_ _) | (with_reducible refine Kd.C_drewN ?_ _) | (with_reducible refine Kd.C_drew ?_)));(case side2 => exact HC0_2.out);rintro e w' ⟨rfl,⟨nd,rfl⟩⟩;refine ⟨_,rfl,?_⟩) | ((with_reducible refine gate_callee (f:=20) rfl ?_);refine goesL_ (some 14) rfl rfl Try.func20 (by kernel_rfl) rfl #[.slice A0_3 l0_3.length c0_3,.int .i64 t106] rfl (by (try simp only [mT,mC,mN]);first | done | rfl | (simp only [lD,lT];rfl)) ?_;(with_reducible refine (laws_szFaceS.calls k _ _ l0_3 t106 t107 _ ?side1 ?side2 A7.out).mono ?_);(case side1 => exact cO ((Kd.C_below HR0_3.out ib)));(case side2 => exact HC0_3.out);rintro e w14 ⟨rfl,hb⟩;refine ⟨_,rfl,?_⟩;replace BK105:=kb BK105 hb;replace HB:=sb hb;(try clear hb);(try clear hb2);(try clear hk);(try clear hi)))
   go_ret
   exact ⟨by first | rfl | (simp [errW_none,errW_some] <;> rfl) | (simp [*,errW_none,errW_some] <;> rfl),ib⟩
def laws_toPoint.f (a0_0 : Int) (a0_1 : Int) : Option (Int × Int):=some (a0_0,a0_1)
theorem laws_toPoint.calls (a0_0 : Int) (a0_1 : Int) (r1 : Int) (r2 : Int) (w : World) (h : laws_toPoint.f a0_0 a0_1 = some (r1,r2)) :
  Calls Try.prog 44 #[.agg #[.int .i64 a0_0,.int .i64 a0_1]] w fun e w' => e = .returned (.agg #[.int .i64 r1,.int .i64 r2]) ∧ Below w.heap.size w w':=by
 have hu80:=Try.underlying80
 have hu78:=Try.underlying78
 have HB:=Aside0.mk (Below.refl w.heap.size w)
 have H : (some (a0_0,a0_1)) = some (r1,r2):=h
 clear h
 simp only [Option.some.injEq,Prod.mk.injEq] at H
 obtain ⟨rfl,rfl⟩:=H
 go_enter Try.func44,Try.ntmps44
 go_wp2_with (first | ((with_reducible refine gate_dst (N:=1) rfl ?_);refine bx (cs:=#[.int .i64 a0_0,.int .i64 a0_1]) (t:=80) ?_;intro gb108 hg w2 hbox hb;have BK108:=Aside0.mk (hbox);have GW108:=zb hg;have GE108:=zb hg;replace HB:=sb hb;clear hb hbox hg) | ((with_reducible refine gate_dst (N:=2) rfl ?_);refine bx (cs:=#[.int .i64 0,.int .i64 0]) (t:=78) ?_;intro gb109 hg w3 hbox hb;have BK109:=Aside0.mk (hbox);have GW109:=zb hg;have GE109:=zb hg;replace HB:=sb hb;have NB108_109:=nl BK108 hg;have NB109_108:=ng BK108 hg;replace BK108:=kb BK108 hb;clear hb hbox hg) | ((with_reducible refine gate_dst (N:=3) rfl ?_);refine bx (cs:=#[.int .i64 0,.int .i64 0]) (t:=78) ?_;intro gb110 hg w4 hbox hb;have BK110:=Aside0.mk (hbox);have GW110:=zb hg;have GE110:=zb hg;replace HB:=sb hb;have NB108_110:=nl BK108 hg;have NB110_108:=ng BK108 hg;replace BK108:=kb BK108 hb;have NB109_110:=nl BK109 hg;have NB110_109:=ng BK109 hg;replace BK109:=kb BK109 hb;clear hb hbox hg;have hnb5:=NB108_109.out;have hnc5:=NB109_108.out;have hnb6:=NB108_110.out;have hnc6:=NB110_108.out;have hcz7_0:=ck BK108 0;have hcz7_1:=ck BK108 1;have hfz7_0:=blk_frozen BK108.out 0;have hfz7_1:=blk_frozen BK108.out 1;have hnb8:=NB110_109.out;have hnc8:=NB109_110.out;have hcz9_0:=ck BK110 0;have hcz9_1:=ck BK110 1;have hfz9_0:=blk_frozen BK110.out 0;have hfz9_1:=blk_frozen BK110.out 1;have hcz10_0:=ck BK109 0;have hcz10_1:=ck BK109 1;have hfz10_0:=blk_frozen BK109.out 0;have hfz10_1:=blk_frozen BK109.out 1))
 refine bodyPost_ret (results_cell_row rfl _ _ gb109 78 #[.int .i64 a0_0,.int .i64 a0_1] (0,0) _ rfl (by refine bP (cs:=#[.int .i64 a0_0,.int .i64 0]) 1 ?_;refine bP (cs:=#[.int .i64 0,.int .i64 0]) 0 ?_;refine bF NB109_110.out ?_;refine bF NB109_110.out ?_;exact bk BK109) Try.underlying78 rfl (by kernel_rfl)) rfl ?_
 exact ⟨by first | rfl | (simp [errW_none,errW_some] <;> rfl) | (simp [*,errW_none,errW_some] <;> rfl),ib⟩
def laws_toPointS.l0 : Nat → List (S80) → List (S78) → Int → Option ((List (S78)))
 | 0,_,_,_ => none
 | k + 1,x0,x3,x4 => if x4 < (x0.length : Int) then (if 0 ≤ x4 then ((laws_toPoint.f ((rd_T80 x0 x4).f0) ((rd_T80 x0 x4).f1)).bind fun bt115 => (if x4 < (x3.length : Int) then (laws_toPointS.l0 k x0 (x3.set (x4 : Int).toNat (⟨bt115.1,bt115.2⟩ : S78)) (wrap64 (x4 + 1))) else (none))) else (none)) else (some x3)
def laws_toPointS.f (k : Nat) (l0 : List (S80)) : Option ((List (S78))):=if 0 ≤ (l0.length : Int) then (if ((l0.length : Int) : Int).toNat ≤ 17592186044416 then (laws_toPointS.l0 k l0 (List.replicate ((l0.length : Int) : Int).toNat z78) 0) else (none)) else (none)
theorem laws_toPointS.calls (k : Nat) (A0 : Option Addr) (c0 : Nat) (l0 : List (S80)) (r : List (S78)) (w : World) (hr0 : Kd.C k80 w A0 l0.length l0) (hc0 : l0.length ≤ c0) (h : laws_toPointS.f k l0 = some r) :
  Calls Try.prog 24 #[.slice A0 l0.length c0] w fun e w' => ∃ v0_ : Value,e = .returned (v0_) ∧ Kd.R k78 78 w' w.heap.size (fun _ => True) v0_ r ∧ Below w.heap.size w w':=by
 have hu80:=Try.underlying80
 have hu78:=Try.underlying78
 have HR0:=Aside0.mk hr0
 have HC0:=Aside0.mk hc0
 clear hr0 hc0
 have HB:=Aside0.mk (Below.refl w.heap.size w)
 have H : (if 0 ≤ (l0.length : Int) then (if ((l0.length : Int) : Int).toNat ≤ 17592186044416 then (laws_toPointS.l0 k l0 (List.replicate ((l0.length : Int) : Int).toNat z78) 0) else (none)) else (none)) = some r:=h
 clear h
 by_cases c2 : 0 ≤ (l0.length : Int)
 ·rw [if_pos c2] at H
  have c2b0:=eq_true c2
  have c2b1 : decide (0 ≤ (l0.length : Int)) = true:=decide_eq_true c2
  clear c2
  by_cases c3 : ((l0.length : Int) : Int).toNat ≤ 17592186044416
  ·rw [if_pos c3] at H
   have c3b0:=eq_true c3
   have c3b1 : decide (((l0.length : Int) : Int).toNat ≤ 17592186044416) = true:=decide_eq_true c3
   clear c3
   obtain ⟨y111,hy111⟩ : ∃ y_ : List (S78),y_ = (List.replicate ((l0.length : Int) : Int).toNat z78):=⟨_,rfl⟩
   replace H : (laws_toPointS.l0 k l0 y111 0) = some r:=by first | (rw [hy111];with_reducible exact H) | (have H2_:=(Option.bind_some _ _).symm.trans H;rw [hy111];with_reducible exact H2_) | (have H2_:=(Option.bind_some _ _).symm.trans H;with_reducible exact H2_) | with_reducible exact H | (rw [hy111];exact H) | exact H
   have Ny111:=Aside0.mk hy111
   clear hy111
   have H':=Aside0.mk H
   clear H
   go_enter Try.func24,Try.ntmps24
   go_wp2_with (first | ((with_reducible refine gate_dst (N:=7) rfl ?_);refine Kd.R_make k78 _ 78 rfl (N:=7) rfl 30 _ _ rfl (l0.length : Int) rfl rfl Try.underlying30 (.agg #[(.int .i64 0),(.int .i64 0)]) 16 info78 rfl (by decide) (by omega) z78 (ok:=fun _ => True) (okp:=fun _ => True) (k78_mkM _ _ _ z78 ) (fun _ hk => hk) trivial (da) (Nat.le_trans (Nat.mul_le_mul_right _ (da : (l0.length : Int).toNat ≤ 17592186044416)) (by omega)) (Below.refl _ _) (Nat.le_refl _) ?_;intro v112 w4 ho5 hb hg_ hnew_;clear hg_ hnew_;(first | rw [← Ny111.out] at ho5 | (simp only [Int.reduceToNat] at ho5;rw [← Ny111.out] at ho5));have HO113:=Aside0.mk (Kd.R_lower ho5 (below_size ib));replace HB:=sb hb;clear hb ho5))
   go_loopg [4] k (fun kq v4 w' => ∃ (x3_1 : List (S78)) (x4_1 : Int),v4 = .int .i64 x4_1 ∧ Aside0 (laws_toPointS.l0 kq l0 x3_1 x4_1 = some r) ∧ Aside0 (kq ≤ k) ∧ Aside0 (Kd.R k78 78 w' w.heap.size (fun _ => True) v112 x3_1) ∧ Aside0 (Below w.heap.size w w'))
   case atStart => exact ⟨(y111),(0),(by first | rfl | (simp;done) | (simp [*];done)),H',⟨Nat.le_refl _⟩,⟨rO HO113.out⟩,⟨ib⟩⟩
   case round =>
    clear H'
    try clear c2
    try clear c2b0
    try clear c2b1
    try clear p2
    try clear c3
    try clear c3b0
    try clear c3b1
    obtain ⟨x3_1,x4_1,rfl,HA,HK1,HO_3,HB⟩:=hrel
    cases gk with
    | zero => exact absurd HA.out (by simp [laws_toPointS.l0])
    | succ k1 =>
     have H:=HA.out
     clear HA
     simp only [laws_toPointS.l0] at H
     by_cases c6 : x4_1 < (l0.length : Int)
     ·rw [if_pos c6] at H
      have c6b0 : decide (x4_1 < (l0.length : Int)) = true:=decide_eq_true c6
      clear c6
      by_cases c7 : 0 ≤ x4_1
      ·rw [if_pos c7] at H
       have c7b0 : decide (0 ≤ x4_1) = true:=decide_eq_true c7
       clear c7
       replace H:=bE.mp H
       obtain ⟨⟨t115,t116⟩,A80,H⟩:=H
       replace H : (if x4_1 < (x3_1.length : Int) then (laws_toPointS.l0 k1 l0 (x3_1.set (x4_1 : Int).toNat (⟨t115,t116⟩ : S78)) (wrap64 (x4_1 + 1))) else (none)) = some r:=H
       have A8:=Aside0.mk A80
       clear A80
       by_cases c9 : x4_1 < (x3_1.length : Int)
       ·rw [if_pos c9] at H
        have c9b0 : decide (x4_1 < (x3_1.length : Int)) = true:=decide_eq_true c9
        clear c9
        obtain ⟨y117,hy117⟩ : ∃ y_ : List (S78),y_ = (x3_1.set (x4_1 : Int).toNat (⟨t115,t116⟩ : S78)):=⟨_,rfl⟩
        replace H : (laws_toPointS.l0 k1 l0 y117 (wrap64 (x4_1 + 1))) = some r:=by first | (rw [hy117];with_reducible exact H) | (have H2_:=(Option.bind_some _ _).symm.trans H;rw [hy117];with_reducible exact H2_) | (have H2_:=(Option.bind_some _ _).symm.trans H;with_reducible exact H2_) | with_reducible exact H | (rw [hy117];exact H) | exact H
        have Ny117:=Aside0.mk hy117
        clear hy117
        have H':=Aside0.mk H
        clear H
        have p114 : 0 ≤ (x4_1 : Int):=da
        have q114 : x4_1 < (l0.length : Int):=da
        obtain ⟨ad114,e114,hx114_0,hx114_1⟩:=at_T80 HR0.out x4_1 p114 q114
        cases e114
        replace hx114_0:=cq HB.out hx114_0
        replace hx114_1:=cq HB.out hx114_1
        replace p114:=eq_true p114
        replace q114:=eq_true q114
        go_wp2_with (first | ((with_reducible refine gate_callee (f:=44) rfl ?_);refine goesL_ (some 20) rfl rfl Try.func44 (by kernel_rfl) rfl #[.agg #[.int .i64 ((rd_T80 l0 x4_1).f0),.int .i64 ((rd_T80 l0 x4_1).f1)]] rfl (by (try simp only [mT,mC,mN]);first | done | rfl | (simp only [lD,lT];rfl)) ?_;(with_reducible refine (laws_toPoint.calls ((rd_T80 l0 x4_1).f0) ((rd_T80 l0 x4_1).f1) t115 t116 _ A8.out).mono ?_);rintro e w11 ⟨rfl,hb⟩;refine ⟨_,rfl,?_⟩;replace HO_3:=Aside0.mk (Kd.R_below (rO HO_3.out) hb);replace HB:=sb hb;(try clear hb);(try clear hb2);(try clear hk);(try clear hi);have p10 : 0 ≤ (x4_1 : Int):=da;have q10 : (x4_1 : Int) < ((x3_1.length : Int) : Int):=da;obtain ⟨go10,co10,eo10,gb10,gl10,cl10,HG10⟩:=Kd.R_form HO_3.out (by omega);(first | cases eo10 | (injection eo10 with ea_ en_ ec_;(first | subst ea_ | (injection ea_ with ea_;subst ea_));subst ec_;clear en_));have GB10:=Aside0.mk gb10;have GG10:=Aside0.mk HG10;clear gb10 gl10 HG10;obtain ⟨ce10,hcl10,hM10,hcc10,hfr10⟩:=Kd.R_elem HO_3.out z78 (x4_1 : Int) p10 q10;obtain rfl:=k78_openM hM10;have hx10_0 : w11.cell? ⟨go10,(x4_1 : Int).toNat * 2,none⟩ = some (.int .i64 ((rd_T78 x3_1 x4_1).f0)):=hcc10 0 _ rfl;have hx10_1 : w11.cell? ⟨go10,(x4_1 : Int).toNat * 2 + 1,none⟩ = some (.int .i64 ((rd_T78 x3_1 x4_1).f1)):=hcc10 1 _ rfl;have hf10_0 : w11.frozen? ⟨go10,(x4_1 : Int).toNat * 2,none⟩ = false:=hfr10 0;have hf10_1 : w11.frozen? ⟨go10,(x4_1 : Int).toNat * 2 + 1,none⟩ = false:=hfr10 1;clear hcl10 hcc10 hfr10 hM10;replace p10:=eq_true p10;replace q10:=eq_true q10;have HX12:=Aside0.mk (show Kd.R k78 78 w11 w.heap.size (fun _ => True) (.slice (some ⟨go10,0,none⟩) x3_1.length co10) x3_1 from (rO HO_3.out));obtain ⟨ce12,hcl12,hM12,hcc12,hfr12⟩:=Kd.R_elem HX12.out z78 (x4_1 : Int) (da) (by have h_ : (x4_1 : Int) < ((x3_1.length : Int) : Int):=da;first | exact h_ | (have e_:=(Kd.R_reads' HO_3.out).1;omega) | simpa using h_);obtain rfl:=k78_openM hM12;have HP12:=Kd.R_seg HX12.out (x4_1 : Int) (da) (by have h_ : (x4_1 : Int) < ((x3_1.length : Int) : Int):=da;first | exact h_ | (have e_:=(Kd.R_reads' HO_3.out).1;omega) | simpa using h_) (seg:=[.int .i64 t115,.int .i64 t116]) (j:=0) hcl12 hcc12 (show 2 ≤ 2 from by decide) (x':=(⟨t115,t116⟩ : S78)) (k78_mkM _ _ _ (⟨t115,t116⟩ : S78) ) (fun _ hk => hk);have hx12_0:=hcc12 0 _ rfl;(try simp only [show (k78).sz = 2 from rfl,Nat.mul_one,Nat.add_zero] at hx12_0);have hf12_0:=hfr12 0;(try simp only [show (k78).sz = 2 from rfl,Nat.mul_one,Nat.add_zero] at hf12_0);have hx12_1:=hcc12 1 _ rfl;(try simp only [show (k78).sz = 2 from rfl,Nat.mul_one,Nat.add_zero] at hx12_1);have hf12_1:=hfr12 1;(try simp only [show (k78).sz = 2 from rfl,Nat.mul_one,Nat.add_zero] at hf12_1);clear hcl12 hcc12 hfr12 hM12) | ((with_reducible refine gate_store (t:=78) (p:=21) rfl ?_);refine store_event (t:=78) (p:=21) (v:=?vo_w13) (w1:=((w11.setCell ⟨go10,(x4_1 : Int).toNat * 2,none⟩ (.int .i64 t115)).setCell ⟨go10,(x4_1 : Int).toNat * 2 + 1,none⟩ (.int .i64 t116))) ?hg ?ho ?hn ?hr ?_;(case ho => rfl);(case hg => rfl);(case hn => rfl);(case hr => first | (go_simp;done) | (go_simp;rfl));intro w13 hw;have hg : w11.grownBy w13 (some go10):=(by rw [hw];exact HP12.2);have hp_ : Kd.R k78 78 w13 w.heap.size (fun _ => True) (.slice (some ⟨go10,0,none⟩) x3_1.length co10) y117:=(by rw [hw,Ny117.out];exact HP12.1);clear HP12;replace HO_3:=Aside0.mk (hp_);replace HB:=Aside0.mk ((by rw [hw];exact below_set (below_set (HB.out) GB10.out) GB10.out : Below w.heap.size w w13));clear hg hw hp_))
        go_roundg k1
        case measure => have:=HK1.out;omega
        case rel => exact ⟨(y117),(wrap64 (x4_1 + 1)),(by first | rfl | (simp;done) | (simp [*];done)),H',⟨by have:=HK1.out;omega⟩,⟨rO HO_3.out⟩,⟨ib⟩⟩
       ·rw [if_neg c9] at H
        exact absurd H (by simp)
      ·rw [if_neg c7] at H
       exact absurd H (by simp)
     ·rw [if_neg c6] at H
      have c6b0 : decide (x4_1 < (l0.length : Int)) = false:=decide_eq_false c6
      clear c6
      obtain rfl:=Option.some.inj H
      go_wp2
      go_ret
      exact ⟨_,by first | rfl | (simp [errW_none,errW_some] <;> rfl) | (simp [*,errW_none,errW_some] <;> rfl),rO HO_3.out,ib⟩
  ·rw [if_neg c3] at H
   exact absurd H (by simp)
 ·rw [if_neg c2] at H
  exact absurd H (by simp)
def laws_toInt64S.l0 : Nat → List Int → List Int → Int → Option (List Int)
 | 0,_,_,_ => none
 | k + 1,x0,x3,x4 => if x4 < (x0.length : Int) then (if 0 ≤ x4 then (if x4 < (x3.length : Int) then (laws_toInt64S.l0 k x0 (x3.set (x4 : Int).toNat (rd x0 x4)) (wrap64 (x4 + 1))) else (none)) else (none)) else (some x3)
def laws_toInt64S.f (k : Nat) (l0 : List Int) : Option (List Int):=if 0 ≤ (l0.length : Int) then (if ((l0.length : Int) : Int).toNat ≤ 35184372088832 then (laws_toInt64S.l0 k l0 (List.replicate ((l0.length : Int) : Int).toNat 0) 0) else (none)) else (none)
theorem laws_toInt64S.calls (k : Nat) (A0 : Option Addr) (c0 : Nat) (l0 : List Int) (r : List Int) (w : World) (hr0 : Kd.C (Kd.int .i64) w A0 l0.length l0) (hc0 : l0.length ≤ c0) (h : laws_toInt64S.f k l0 = some r) :
  Calls Try.prog 67 #[.slice A0 l0.length c0] w fun e w' => ∃ v0_ : Value,e = .returned (v0_) ∧ Kd.R (Kd.int .i64) 2 w' w.heap.size (fun _ => True) v0_ r ∧ Below w.heap.size w w':=by
 have HR0:=Aside0.mk hr0
 have HC0:=Aside0.mk hc0
 clear hr0 hc0
 have HB:=Aside0.mk (Below.refl w.heap.size w)
 have H : (if 0 ≤ (l0.length : Int) then (if ((l0.length : Int) : Int).toNat ≤ 35184372088832 then (laws_toInt64S.l0 k l0 (List.replicate ((l0.length : Int) : Int).toNat 0) 0) else (none)) else (none)) = some r:=h
 clear h
 by_cases c2 : 0 ≤ (l0.length : Int)
 ·rw [if_pos c2] at H
  have c2b0:=eq_true c2
  have c2b1 : decide (0 ≤ (l0.length : Int)) = true:=decide_eq_true c2
  clear c2
  by_cases c3 : ((l0.length : Int) : Int).toNat ≤ 35184372088832
  ·rw [if_pos c3] at H
   have c3b0:=eq_true c3
   have c3b1 : decide (((l0.length : Int) : Int).toNat ≤ 35184372088832) = true:=decide_eq_true c3
   clear c3
   obtain ⟨y118,hy118⟩ : ∃ y_ : List Int,y_ = (List.replicate ((l0.length : Int) : Int).toNat 0):=⟨_,rfl⟩
   replace H : (laws_toInt64S.l0 k l0 y118 0) = some r:=by first | (rw [hy118];with_reducible exact H) | (have H2_:=(Option.bind_some _ _).symm.trans H;rw [hy118];with_reducible exact H2_) | (have H2_:=(Option.bind_some _ _).symm.trans H;with_reducible exact H2_) | with_reducible exact H | (rw [hy118];exact H) | exact H
   have Ny118:=Aside0.mk hy118
   clear hy118
   have H':=Aside0.mk H
   clear H
   go_enter Try.func67,Try.ntmps67
   go_wp2_with (first | ((with_reducible refine gate_dst (N:=7) rfl ?_);refine Kd.R_make (Kd.int .i64) _ 2 rfl (N:=7) rfl 27 _ _ rfl (l0.length : Int) rfl rfl Try.underlying27 (.int .i64 0) 8 info2 rfl (by decide) (by omega) 0 (ok:=fun _ => True) (okp:=fun _ => True) rfl (fun _ hk => hk) trivial (da) (Nat.le_trans (Nat.mul_le_mul_right _ (da : (l0.length : Int).toNat ≤ 35184372088832)) (by omega)) (Below.refl _ _) (Nat.le_refl _) ?_;intro v119 w4 ho5 hb hg_ hnew_;clear hg_ hnew_;(first | rw [← Ny118.out] at ho5 | (simp only [Int.reduceToNat] at ho5;rw [← Ny118.out] at ho5));have HO120:=Aside0.mk (Kd.R_lower ho5 (below_size ib));replace HB:=sb hb;clear hb ho5))
   go_loopg [4] k (fun kq v4 w' => ∃ (x3_1 : List Int) (x4_1 : Int),v4 = .int .i64 x4_1 ∧ Aside0 (laws_toInt64S.l0 kq l0 x3_1 x4_1 = some r) ∧ Aside0 (kq ≤ k) ∧ Aside0 (Kd.R (Kd.int .i64) 2 w' w.heap.size (fun _ => True) v119 x3_1) ∧ Aside0 (Below w.heap.size w w'))
   case atStart => exact ⟨(y118),(0),(by first | rfl | (simp;done) | (simp [*];done)),H',⟨Nat.le_refl _⟩,⟨rO HO120.out⟩,⟨ib⟩⟩
   case round =>
    clear H'
    try clear c2
    try clear c2b0
    try clear c2b1
    try clear p2
    try clear c3
    try clear c3b0
    try clear c3b1
    obtain ⟨x3_1,x4_1,rfl,HA,HK1,HO_3,HB⟩:=hrel
    cases gk with
    | zero => exact absurd HA.out (by simp [laws_toInt64S.l0])
    | succ k1 =>
     have H:=HA.out
     clear HA
     simp only [laws_toInt64S.l0] at H
     by_cases c6 : x4_1 < (l0.length : Int)
     ·rw [if_pos c6] at H
      have c6b0 : decide (x4_1 < (l0.length : Int)) = true:=decide_eq_true c6
      clear c6
      by_cases c7 : 0 ≤ x4_1
      ·rw [if_pos c7] at H
       have c7b0 : decide (0 ≤ x4_1) = true:=decide_eq_true c7
       clear c7
       by_cases c8 : x4_1 < (x3_1.length : Int)
       ·rw [if_pos c8] at H
        have c8b0 : decide (x4_1 < (x3_1.length : Int)) = true:=decide_eq_true c8
        clear c8
        obtain ⟨y122,hy122⟩ : ∃ y_ : List Int,y_ = (x3_1.set (x4_1 : Int).toNat (rd l0 x4_1)):=⟨_,rfl⟩
        replace H : (laws_toInt64S.l0 k1 l0 y122 (wrap64 (x4_1 + 1))) = some r:=by first | (rw [hy122];with_reducible exact H) | (have H2_:=(Option.bind_some _ _).symm.trans H;rw [hy122];with_reducible exact H2_) | (have H2_:=(Option.bind_some _ _).symm.trans H;with_reducible exact H2_) | with_reducible exact H | (rw [hy122];exact H) | exact H
        have Ny122:=Aside0.mk hy122
        clear hy122
        have H':=Aside0.mk H
        clear H
        have p121 : 0 ≤ (x4_1 : Int):=da
        have q121 : x4_1 < (l0.length : Int):=da
        obtain ⟨ad121,e121,hx121_0⟩:=Kd.at_int HR0.out x4_1 p121 q121
        cases e121
        replace hx121_0:=cq HB.out hx121_0
        replace p121:=eq_true p121
        replace q121:=eq_true q121
        have p9 : 0 ≤ (x4_1 : Int):=da
        have q9 : (x4_1 : Int) < ((x3_1.length : Int) : Int):=da
        obtain ⟨go9,co9,eo9,gb9,gl9,cl9,HG9⟩:=Kd.R_form HO_3.out (by omega)
        (first | cases eo9 | (injection eo9 with ea_ en_ ec_;(first | subst ea_ | (injection ea_ with ea_;subst ea_));subst ec_;clear en_))
        have GB9:=Aside0.mk gb9
        have GG9:=Aside0.mk HG9
        clear gb9 gl9 HG9
        obtain ⟨hx9_0,hf9_0⟩:=Kd.R_celln 0 HO_3.out (x4_1 : Int) p9 q9
        replace p9:=eq_true p9
        replace q9:=eq_true q9
        have HP10:=Kd.R_putg HO_3.out (x4_1 : Int) (rd l0 x4_1)
        go_wp2_with (first | ((with_reducible refine gate_store (t:=2) (p:=20) rfl ?_);refine store_event (t:=2) (p:=20) (v:=?vo_w11) (w1:=(wr.setCell ⟨go9,(x4_1 : Int).toNat,none⟩ (.int .i64 (rd l0 x4_1)))) ?hg ?ho ?hn ?hr ?_;(case ho => rfl);(case hg => rfl);(case hn => rfl);(case hr => first | (go_simp;done) | (go_simp;rfl));intro w11 hw;have hg : wr.grownBy w11 (some go9):=(by rw [hw];exact HP10.2);have hp_ : Kd.R (Kd.int .i64) 2 w11 w.heap.size (fun _ => True) (.slice (some ⟨go9,0,none⟩) x3_1.length co9) y122:=(by rw [hw,Ny122.out];exact HP10.1);clear HP10;replace HO_3:=Aside0.mk (hp_);replace HB:=Aside0.mk ((by rw [hw];exact below_set (HB.out) GB9.out : Below w.heap.size w w11));clear hg hw hp_))
        go_roundg k1
        case measure => have:=HK1.out;omega
        case rel => exact ⟨(y122),(wrap64 (x4_1 + 1)),(by first | rfl | (simp;done) | (simp [*];done)),H',⟨by have:=HK1.out;omega⟩,⟨rO HO_3.out⟩,⟨ib⟩⟩
       ·rw [if_neg c8] at H
        exact absurd H (by simp)
      ·rw [if_neg c7] at H
       exact absurd H (by simp)
     ·rw [if_neg c6] at H
      have c6b0 : decide (x4_1 < (l0.length : Int)) = false:=decide_eq_false c6
      clear c6
      obtain rfl:=Option.some.inj H
      go_wp2
      go_ret
      exact ⟨_,by first | rfl | (simp [errW_none,errW_some] <;> rfl) | (simp [*,errW_none,errW_some] <;> rfl),rO HO_3.out,ib⟩
  ·rw [if_neg c3] at H
   exact absurd H (by simp)
 ·rw [if_neg c2] at H
  exact absurd H (by simp)
def laws_toFace.f (k : Nat) (a0_0 : ByteArray) (l0_1 : List Int) : Option (ByteArray × List Int):=(laws_toInt64S.f k l0_1).bind fun t126 => (some (a0_0,t126))
theorem laws_toFace.calls (k : Nat) (a0_0 : ByteArray) (A0_1 : Option Addr) (c0_1 : Nat) (l0_1 : List Int) (r1 : ByteArray) (r2 : List Int) (w : World) (hr0_1 : Kd.C (Kd.int .i64) w A0_1 l0_1.length l0_1) (hc0_1 : l0_1.length ≤ c0_1) (h : laws_toFace.f k a0_0 l0_1 = some (r1,r2)) :
  Calls Try.prog 45 #[.agg #[.string a0_0,.slice A0_1 l0_1.length c0_1]] w fun e w' => ∃ v1_ : Value,e = .returned (.agg #[.string r1,v1_]) ∧ Kd.R (Kd.int .i64) 2 w' w.heap.size (fun _ => True) v1_ r2 ∧ Below w.heap.size w w':=by
 have hu70:=Try.underlying70
 have hu64:=Try.underlying64
 have HR0_1:=Aside0.mk hr0_1
 have HC0_1:=Aside0.mk hc0_1
 clear hr0_1 hc0_1
 have HB:=Aside0.mk (Below.refl w.heap.size w)
 have H : ((laws_toInt64S.f k l0_1).bind fun t126 => (some (a0_0,t126))) = some (r1,r2):=h
 clear h
 replace H:=bE.mp H
 obtain ⟨t126,A20,H⟩:=H
 replace H : (some (a0_0,t126)) = some (r1,r2):=H
 have A2:=Aside0.mk A20
 clear A20
 simp only [Option.some.injEq,Prod.mk.injEq] at H
 obtain ⟨rfl,rfl⟩:=H
 go_enter Try.func45,Try.ntmps45
 go_wp2_with (first | ((with_reducible refine gate_dst (N:=1) rfl ?_);refine bx (cs:=#[.string a0_0,.slice A0_1 l0_1.length c0_1]) (t:=70) ?_;intro gb123 hg w3 hbox hb;have BK123:=Aside0.mk (hbox);have GW123:=zb hg;have GE123:=zb hg;replace HB:=sb hb;clear hb hbox hg) | ((with_reducible refine gate_dst (N:=2) rfl ?_);refine bx (cs:=#[.string (⟨#[]⟩ : ByteArray),.slice none 0 0]) (t:=64) ?_;intro gb124 hg w4 hbox hb;have BK124:=Aside0.mk (hbox);have GW124:=zb hg;have GE124:=zb hg;replace HB:=sb hb;have NB123_124:=nl BK123 hg;have NB124_123:=ng BK123 hg;replace BK123:=kb BK123 hb;clear hb hbox hg) | ((with_reducible refine gate_dst (N:=3) rfl ?_);refine bx (cs:=#[.string (⟨#[]⟩ : ByteArray),.slice none 0 0]) (t:=64) ?_;intro gb125 hg w5 hbox hb;have BK125:=Aside0.mk (hbox);have GW125:=zb hg;have GE125:=zb hg;replace HB:=sb hb;have NB123_125:=nl BK123 hg;have NB125_123:=ng BK123 hg;replace BK123:=kb BK123 hb;have NB124_125:=nl BK124 hg;have NB125_124:=ng BK124 hg;replace BK124:=kb BK124 hb;clear hb hbox hg;have hnb6:=NB123_124.out;have hnc6:=NB124_123.out;have hnb7:=NB123_125.out;have hnc7:=NB125_123.out;have hcz8_0:=ck BK123 0;have hcz8_1:=ck BK123 1;have hfz8_0:=blk_frozen BK123.out 0;have hfz8_1:=blk_frozen BK123.out 1;have hnb9:=NB125_124.out;have hnc9:=NB124_125.out;have hcz10_0:=ck BK125 0;have hcz10_1:=ck BK125 1;have hfz10_0:=blk_frozen BK125.out 0;have hfz10_1:=blk_frozen BK125.out 1) | ((with_reducible refine gate_callee (f:=67) rfl ?_);refine goesL_ (some 9) rfl rfl Try.func67 (by kernel_rfl) rfl #[.slice A0_1 l0_1.length c0_1] rfl (by (try simp only [mT,mC,mN]);first | done | rfl | (simp only [lD,lT];rfl)) ?_;(with_reducible refine (laws_toInt64S.calls k _ _ l0_1 t126 _ ?side1 ?side2 A2.out).mono ?_);(case side1 => exact Kd.C_below HR0_1.out ib);(case side2 => exact HC0_1.out);rintro e w11 ⟨v127,rfl,ho0,hb⟩;refine ⟨_,rfl,?_⟩;have HO128:=Aside0.mk (Kd.R_lower ho0 (below_size ib));replace BK123:=Aside0.mk (blk_below (g:=gb123) (o:=.cells #[.string a0_0,.slice A0_1 l0_1.length c0_1] 70 (0,0)) (by refine bF NB123_125.out ?_;exact bk BK123) hb);replace BK124:=Aside0.mk (blk_below (g:=gb124) (o:=.cells #[.string (⟨#[]⟩ : ByteArray),.slice none 0 0] 64 (0,0)) (by refine bF NB124_125.out ?_;exact bk BK124) hb);replace BK125:=Aside0.mk (blk_below (g:=gb125) (o:=.cells #[.string a0_0,.slice none 0 0] 64 (0,0)) (by refine bP (cs:=#[.string (⟨#[]⟩ : ByteArray),.slice none 0 0]) 0 ?_;exact bk BK125) hb);replace HB:=sb hb;(try clear hb);(try clear hb2);(try clear hk);(try clear hi);(try clear ho0);obtain ⟨Ao12,co12,eo12⟩:=Kd.R_slice HO128.out;subst eo12;have hcz13_0:=ck BK125 0;have hcz13_1:=ck BK125 1;have hfz13_0:=blk_frozen BK125.out 0;have hfz13_1:=blk_frozen BK125.out 1;have hcz14_0:=ck BK124 0;have hcz14_1:=ck BK124 1;have hfz14_0:=blk_frozen BK124.out 0;have hfz14_1:=blk_frozen BK124.out 1))
 refine bodyPost_ret (results_cell_row rfl _ _ gb124 64 #[.string a0_0,.slice Ao12 t126.length co12] (0,0) _ rfl (by refine bP (cs:=#[.string a0_0,.slice none 0 0]) 1 ?_;refine bP (cs:=#[.string (⟨#[]⟩ : ByteArray),.slice none 0 0]) 0 ?_;refine bF NB124_125.out ?_;exact bk BK124) Try.underlying64 rfl (by kernel_rfl)) rfl ?_
 exact ⟨_,by first | rfl | (simp [errW_none,errW_some] <;> rfl) | (simp [*,errW_none,errW_some] <;> rfl),rO (Kd.R_mono (Kd.R_far (p:=⟨gb124,1,none⟩) (Kd.R_far (p:=⟨gb124,0,none⟩) (Kd.R_far (p:=⟨gb125,1,none⟩) (Kd.R_types (Kd.R_types HO128.out BK125.out (by decide)) BK124.out (by decide)) (fun _ hk => hk.1.2) (.slice Ao12 t126.length co12)) (fun _ hk => hk.2) (.string a0_0)) (fun _ hk => hk.2) (.slice Ao12 t126.length co12)) (fun _ hk => trivial)),ib⟩
def laws_toFaceS.l0 : Nat → List (S70) → List (S64) → Int → Option ((List (S64)))
 | 0,_,_,_ => none
 | k + 1,x0,x3,x4 => if x4 < (x0.length : Int) then (if 0 ≤ x4 then ((laws_toFace.f k ((rd_T70 x0 x4).f0) ((rd_T70 x0 x4).f1)).bind fun bt133 => (if x4 < (x3.length : Int) then (laws_toFaceS.l0 k x0 (x3.set (x4 : Int).toNat (⟨bt133.1,bt133.2⟩ : S64)) (wrap64 (x4 + 1))) else (none))) else (none)) else (some x3)
def laws_toFaceS.f (k : Nat) (l0 : List (S70)) : Option ((List (S64))):=if 0 ≤ (l0.length : Int) then (if ((l0.length : Int) : Int).toNat ≤ 7036874417766 then (laws_toFaceS.l0 k l0 (List.replicate ((l0.length : Int) : Int).toNat z64) 0) else (none)) else (none)
theorem laws_toFaceS.calls (k : Nat) (A0 : Option Addr) (c0 : Nat) (l0 : List (S70)) (r : List (S64)) (w : World) (hr0 : Kd.C k70 w A0 l0.length l0) (hc0 : l0.length ≤ c0) (h : laws_toFaceS.f k l0 = some r) :
  Calls Try.prog 25 #[.slice A0 l0.length c0] w fun e w' => ∃ v0_ : Value,e = .returned (v0_) ∧ Kd.S k64 64 w' w.heap.size (fun _ => True) v0_ r ∧ Below w.heap.size w w':=by
 have hu70:=Try.underlying70
 have hu64:=Try.underlying64
 have HR0:=Aside0.mk hr0
 have HC0:=Aside0.mk hc0
 clear hr0 hc0
 have HB:=Aside0.mk (Below.refl w.heap.size w)
 have H : (if 0 ≤ (l0.length : Int) then (if ((l0.length : Int) : Int).toNat ≤ 7036874417766 then (laws_toFaceS.l0 k l0 (List.replicate ((l0.length : Int) : Int).toNat z64) 0) else (none)) else (none)) = some r:=h
 clear h
 by_cases c2 : 0 ≤ (l0.length : Int)
 ·rw [if_pos c2] at H
  have c2b0:=eq_true c2
  have c2b1 : decide (0 ≤ (l0.length : Int)) = true:=decide_eq_true c2
  clear c2
  by_cases c3 : ((l0.length : Int) : Int).toNat ≤ 7036874417766
  ·rw [if_pos c3] at H
   have c3b0:=eq_true c3
   have c3b1 : decide (((l0.length : Int) : Int).toNat ≤ 7036874417766) = true:=decide_eq_true c3
   clear c3
   obtain ⟨y129,hy129⟩ : ∃ y_ : List (S64),y_ = (List.replicate ((l0.length : Int) : Int).toNat z64):=⟨_,rfl⟩
   replace H : (laws_toFaceS.l0 k l0 y129 0) = some r:=by first | (rw [hy129];with_reducible exact H) | (have H2_:=(Option.bind_some _ _).symm.trans H;rw [hy129];with_reducible exact H2_) | (have H2_:=(Option.bind_some _ _).symm.trans H;with_reducible exact H2_) | with_reducible exact H | (rw [hy129];exact H) | exact H
   have Ny129:=Aside0.mk hy129
   clear hy129
   have H':=Aside0.mk H
   clear H
   go_enter Try.func25,Try.ntmps25
   go_wp2_with (first | ((with_reducible refine gate_dst (N:=7) rfl ?_);refine Kd.S_make k64 _ 64 rfl (N:=7) rfl 31 _ _ rfl (l0.length : Int) rfl rfl Try.underlying31 (.agg #[(.string ⟨#[]⟩),(.slice none 0 0)]) 40 info64 rfl (by decide) (by omega) z64 (ok:=fun _ => True) (okp:=fun _ => True) (k64_mkM _ _ _ z64 (Kd.R_nil _ _ _ _ _)) (fun _ hk => hk) trivial (da) (Nat.le_trans (Nat.mul_le_mul_right _ (da : (l0.length : Int).toNat ≤ 7036874417766)) (by omega)) (Below.refl _ _) (Nat.le_refl _) ?_;intro v130 w4 ho5 hb hg_ hnew_;clear hg_ hnew_;(first | rw [← Ny129.out] at ho5 | (simp only [Int.reduceToNat] at ho5;rw [← Ny129.out] at ho5));have HO131:=Aside0.mk (Kd.S_lower ho5 (below_size ib));replace HB:=sb hb;clear hb ho5))
   go_loopg [4] k (fun kq v4 w' => ∃ (x3_1 : List (S64)) (x4_1 : Int),v4 = .int .i64 x4_1 ∧ Aside0 (laws_toFaceS.l0 kq l0 x3_1 x4_1 = some r) ∧ Aside0 (kq ≤ k) ∧ Aside0 (Kd.S k64 64 w' w.heap.size (fun _ => True) v130 x3_1) ∧ Aside0 (Below w.heap.size w w'))
   case atStart => exact ⟨(y129),(0),(by first | rfl | (simp;done) | (simp [*];done)),H',⟨Nat.le_refl _⟩,⟨sO HO131.out⟩,⟨ib⟩⟩
   case round =>
    clear H'
    try clear c2
    try clear c2b0
    try clear c2b1
    try clear p2
    try clear c3
    try clear c3b0
    try clear c3b1
    obtain ⟨x3_1,x4_1,rfl,HA,HK1,HO_3,HB⟩:=hrel
    cases gk with
    | zero => exact absurd HA.out (by simp [laws_toFaceS.l0])
    | succ k1 =>
     have H:=HA.out
     clear HA
     simp only [laws_toFaceS.l0] at H
     by_cases c6 : x4_1 < (l0.length : Int)
     ·rw [if_pos c6] at H
      have c6b0 : decide (x4_1 < (l0.length : Int)) = true:=decide_eq_true c6
      clear c6
      by_cases c7 : 0 ≤ x4_1
      ·rw [if_pos c7] at H
       have c7b0 : decide (0 ≤ x4_1) = true:=decide_eq_true c7
       clear c7
       replace H:=bE.mp H
       obtain ⟨⟨t133,t134⟩,A80,H⟩:=H
       replace H : (if x4_1 < (x3_1.length : Int) then (laws_toFaceS.l0 k1 l0 (x3_1.set (x4_1 : Int).toNat (⟨t133,t134⟩ : S64)) (wrap64 (x4_1 + 1))) else (none)) = some r:=H
       have A8:=Aside0.mk A80
       clear A80
       by_cases c9 : x4_1 < (x3_1.length : Int)
       ·rw [if_pos c9] at H
        have c9b0 : decide (x4_1 < (x3_1.length : Int)) = true:=decide_eq_true c9
        clear c9
        obtain ⟨y137,hy137⟩ : ∃ y_ : List (S64),y_ = (x3_1.set (x4_1 : Int).toNat (⟨t133,t134⟩ : S64)):=⟨_,rfl⟩
        replace H : (laws_toFaceS.l0 k1 l0 y137 (wrap64 (x4_1 + 1))) = some r:=by first | (rw [hy137];with_reducible exact H) | (have H2_:=(Option.bind_some _ _).symm.trans H;rw [hy137];with_reducible exact H2_) | (have H2_:=(Option.bind_some _ _).symm.trans H;with_reducible exact H2_) | with_reducible exact H | (rw [hy137];exact H) | exact H
        have Ny137:=Aside0.mk hy137
        clear hy137
        have H':=Aside0.mk H
        clear H
        have p132 : 0 ≤ (x4_1 : Int):=da
        have q132 : x4_1 < (l0.length : Int):=da
        obtain ⟨ad132,A132_1,c132_1,e132,hx132_0,hx132_1,hl132_1,hi132_1⟩:=at_T70 HR0.out x4_1 p132 q132
        cases e132
        replace hx132_0:=cq HB.out hx132_0
        replace hx132_1:=cq HB.out hx132_1
        have HR132_1:=Aside0.mk hi132_1
        have HC132_1:=Aside0.mk hl132_1
        clear hi132_1 hl132_1
        replace p132:=eq_true p132
        replace q132:=eq_true q132
        go_wp2_with (first | ((with_reducible refine gate_callee (f:=45) rfl ?_);refine goesL_ (some 20) rfl rfl Try.func45 (by kernel_rfl) rfl #[.agg #[.string ((rd_T70 l0 x4_1).f0),.slice A132_1 ((rd_T70 l0 x4_1).f1).length c132_1]] rfl (by (try simp only [mT,mC,mN]);first | done | rfl | (simp only [lD,lT];rfl)) ?_;(with_reducible refine (laws_toFace.calls k1 ((rd_T70 l0 x4_1).f0) _ _ ((rd_T70 l0 x4_1).f1) t133 t134 _ ?side1 ?side2 A8.out).mono ?_);(case side1 => repeat (first | exact (Kd.C_below HR132_1.out HB.out) | exact HR132_1.out | (with_reducible refine Kd.C_alloc ?_ _) | (with_reducible refine Kd.C_drewN ?_ _) | (with_reducible refine Kd.C_drew ?_)));(case side2 => exact HC132_1.out);rintro e w11 ⟨v135,rfl,ho0,hb⟩;refine ⟨_,rfl,?_⟩;replace HO_3:=Aside0.mk (Kd.S_elder' (sO HO_3.out) (Kd.R_base ho0) hb);have HO136:=Aside0.mk (Kd.R_lower ho0 (below_size ib));replace HB:=sb hb;(try clear hb);(try clear hb2);(try clear hk);(try clear hi);(try clear ho0);have p10 : 0 ≤ (x4_1 : Int):=da;have q10 : (x4_1 : Int) < ((x3_1.length : Int) : Int):=da;obtain ⟨go10,co10,eo10,gb10,gl10,cl10,HG10⟩:=Kd.S_form HO_3.out (by omega);(first | cases eo10 | (injection eo10 with ea_ en_ ec_;(first | subst ea_ | (injection ea_ with ea_;subst ea_));subst ec_;clear en_));have GB10:=Aside0.mk gb10;have GG10:=Aside0.mk HG10;clear gb10 gl10 HG10;obtain ⟨_,ce10,hcl10,hM10,hcc10,hfr10,_,_⟩:=Kd.S_elem HO_3.out z64 (x4_1 : Int) p10 q10;obtain ⟨ve10_1,rfl,ge10_1⟩:=k64_openM hM10;have hx10_0 : w11.cell? ⟨go10,(x4_1 : Int).toNat * 2,none⟩ = some (.string ((rd_T64 x3_1 x4_1).f0)):=hcc10 0 _ rfl;have hx10_1 : w11.cell? ⟨go10,(x4_1 : Int).toNat * 2 + 1,none⟩ = some (ve10_1):=hcc10 1 _ rfl;have hf10_0 : w11.frozen? ⟨go10,(x4_1 : Int).toNat * 2,none⟩ = false:=hfr10 0;have hf10_1 : w11.frozen? ⟨go10,(x4_1 : Int).toNat * 2 + 1,none⟩ = false:=hfr10 1;clear hcl10 hcc10 hfr10 hM10;replace p10:=eq_true p10;replace q10:=eq_true q10;have n_:=Aside0.mk (Kd.S_mono (ok':=(fun k_ => some k_ ≠ (v135 : Value).ownBlock)) HO_3.out (fun k_ hk => hk.2));clear HO_3;have HO_3:=n_;clear n_;have HX12:=Aside0.mk (show Kd.S k64 64 w11 w.heap.size (fun k_ => ((fun _ => True)) k_ ∧ ¬ ((fun k_ => some k_ = (v135 : Value).ownBlock)) k_) (.slice (some ⟨go10,0,none⟩) x3_1.length co10) x3_1 from (sO (Kd.S_mono HO_3.out (fun k_ hk => ⟨trivial,fun e_ => hk e_⟩))));obtain ⟨oki12,ce12,hcl12,hM12,hcc12,hfr12,hoki12,hH12⟩:=Kd.S_elem HX12.out z64 (x4_1 : Int) (da) (by have h_ : (x4_1 : Int) < ((x3_1.length : Int) : Int):=da;first | exact h_ | (have e_:=(Kd.S_reads' HO_3.out).1;omega) | simpa using h_);obtain ⟨ve12_1,rfl,ge12_1⟩:=k64_openM hM12;have HP12:=Kd.S_seg hH12 (da) (by have h_ : (x4_1 : Int) < ((x3_1.length : Int) : Int):=da;first | exact h_ | (have e_:=(Kd.S_reads' HO_3.out).1;omega) | simpa using h_) (seg:=[.string t133,v135]) (j:=0) (show 2 ≤ 2 from by decide) (x':=(⟨t133,t134⟩ : S64)) (k64_mkM _ _ _ (⟨t133,t134⟩ : S64) (Kd.R_mono (Kd.R_tight rfl (Kd.R_mono (ok':=fun k_ => ((fun _ => True)) k_ ∧ k_ ≠ go10) (Kd.R_apart' (HO136.out) (Kd.S_typed HO_3.out) (by decide)) (fun k_ hk => ⟨trivial,fun e_ => (hk.2) (by rw [e_];rfl)⟩))) (fun _ h_ => Or.inr (h_)))) (fun _ hk => hk) (fun k_ hk_ => ((Kd.R_mono (ok':=fun k_ => ((fun _ => True)) k_ ∧ k_ ≠ go10) (Kd.R_apart' (HO136.out) (Kd.S_typed HO_3.out) (by decide)) (fun k_ hk => ⟨trivial,fun e_ => (hk.2) (by rw [e_];rfl)⟩))).1 k_ hk_.symm);have hx12_0:=hcc12 0 _ rfl;(try simp only [show (k64).sz = 2 from rfl,Nat.mul_one,Nat.add_zero] at hx12_0);have hf12_0:=hfr12 0;(try simp only [show (k64).sz = 2 from rfl,Nat.mul_one,Nat.add_zero] at hf12_0);have hx12_1:=hcc12 1 _ rfl;(try simp only [show (k64).sz = 2 from rfl,Nat.mul_one,Nat.add_zero] at hx12_1);have hf12_1:=hfr12 1;(try simp only [show (k64).sz = 2 from rfl,Nat.mul_one,Nat.add_zero] at hf12_1);clear hcl12 hcc12 hfr12 hM12 hoki12 hH12) | ((with_reducible refine gate_store (t:=64) (p:=21) rfl ?_);refine store_event (t:=64) (p:=21) (v:=?vo_w13) (w1:=((w11.setCell ⟨go10,(x4_1 : Int).toNat * 2,none⟩ (.string t133)).setCell ⟨go10,(x4_1 : Int).toNat * 2 + 1,none⟩ (v135))) ?hg ?ho ?hn ?hr ?_;(case ho => rfl);(case hg => rfl);(case hn => rfl);(case hr => first | (go_simp;done) | (go_simp;rfl) | (obtain ⟨sA,sc,se⟩:=Kd.R_slice HO136.out;rw [se];go_simp;done));intro w13 hw;have hg : w11.grownBy w13 (some go10):=(by rw [hw];exact HP12.2);have hp_ : Kd.S k64 64 w13 w.heap.size (fun _ => True) (.slice (some ⟨go10,0,none⟩) x3_1.length co10) y137:=(by rw [hw,Ny137.out];exact HP12.1);clear HP12;replace HO_3:=Aside0.mk (hp_);replace HB:=Aside0.mk ((by rw [hw];exact below_set (below_set (HB.out) GB10.out) GB10.out : Below w.heap.size w w13));clear HO136;clear hg hw hp_))
        go_roundg k1
        case measure => have:=HK1.out;omega
        case rel => exact ⟨(y137),(wrap64 (x4_1 + 1)),(by first | rfl | (simp;done) | (simp [*];done)),H',⟨by have:=HK1.out;omega⟩,⟨sO HO_3.out⟩,⟨ib⟩⟩
       ·rw [if_neg c9] at H
        exact absurd H (by simp)
      ·rw [if_neg c7] at H
       exact absurd H (by simp)
     ·rw [if_neg c6] at H
      have c6b0 : decide (x4_1 < (l0.length : Int)) = false:=decide_eq_false c6
      clear c6
      obtain rfl:=Option.some.inj H
      go_wp2
      go_ret
      exact ⟨_,by first | rfl | (simp [errW_none,errW_some] <;> rfl) | (simp [*,errW_none,errW_some] <;> rfl),sO HO_3.out,ib⟩
  ·rw [if_neg c3] at H
   exact absurd H (by simp)
 ·rw [if_neg c2] at H
  exact absurd H (by simp)
def laws_toDrawing.f (k : Nat) (a0_0 : Int) (a0_1 : Int) (l0_2 : List (S80)) (l0_3 : List (S70)) : Option (Int × Int × (List (S78)) × (List (S64))):=(laws_toPointS.f k l0_2).bind fun t141 => ((laws_toFaceS.f k l0_3).bind fun t144 => (some (a0_0,a0_1,t141,t144)))
theorem laws_toDrawing.calls (k : Nat) (a0_0 : Int) (a0_1 : Int) (A0_2 : Option Addr) (c0_2 : Nat) (l0_2 : List (S80)) (A0_3 : Option Addr) (c0_3 : Nat) (l0_3 : List (S70)) (r1 : Int) (r2 : Int) (r3 : List (S78)) (r4 : List (S64)) (w : World) (hr0_2 : Kd.C k80 w A0_2 l0_2.length l0_2) (hc0_2 : l0_2.length ≤ c0_2) (hr0_3 : Kd.C k70 w A0_3 l0_3.length l0_3) (hc0_3 : l0_3.length ≤ c0_3) (h : laws_toDrawing.f k a0_0 a0_1 l0_2 l0_3 = some (r1,r2,r3,r4)) :
  Calls Try.prog 7 #[.agg #[.int .i64 a0_0,.int .i64 a0_1,.slice A0_2 l0_2.length c0_2,.slice A0_3 l0_3.length c0_3]] w fun e w' => ∃ v2_ v3_ : Value,e = .returned (.agg #[.int .i64 r1,.int .i64 r2,v2_,v3_]) ∧ Kd.R k78 78 w' w.heap.size (fun _ => True) v2_ r3 ∧ Kd.S k64 64 w' w.heap.size (fun _ => True) v3_ r4 ∧ Below w.heap.size w w':=by
 have hu25:=Try.underlying25
 have hu33:=Try.underlying33
 have HR0_2:=Aside0.mk hr0_2
 have HC0_2:=Aside0.mk hc0_2
 clear hr0_2 hc0_2
 have HR0_3:=Aside0.mk hr0_3
 have HC0_3:=Aside0.mk hc0_3
 clear hr0_3 hc0_3
 have HB:=Aside0.mk (Below.refl w.heap.size w)
 have H : ((laws_toPointS.f k l0_2).bind fun t141 => ((laws_toFaceS.f k l0_3).bind fun t144 => (some (a0_0,a0_1,t141,t144)))) = some (r1,r2,r3,r4):=h
 clear h
 replace H:=bE.mp H
 obtain ⟨t141,A20,H⟩:=H
 replace H : ((laws_toFaceS.f k l0_3).bind fun t144 => (some (a0_0,a0_1,t141,t144))) = some (r1,r2,r3,r4):=H
 have A2:=Aside0.mk A20
 clear A20
 replace H:=bE.mp H
 obtain ⟨t144,A30,H⟩:=H
 replace H : (some (a0_0,a0_1,t141,t144)) = some (r1,r2,r3,r4):=H
 have A3:=Aside0.mk A30
 clear A30
 simp only [Option.some.injEq,Prod.mk.injEq] at H
 obtain ⟨rfl,rfl,rfl,rfl⟩:=H
 go_enter Try.func7,Try.ntmps7
 go_wp2_with (first | ((with_reducible refine gate_dst (N:=1) rfl ?_);refine bx (cs:=#[.int .i64 a0_0,.int .i64 a0_1,.slice A0_2 l0_2.length c0_2,.slice A0_3 l0_3.length c0_3]) (t:=25) ?_;intro gb138 hg w4 hbox hb;have BK138:=Aside0.mk (hbox);have GW138:=zb hg;have GE138:=zb hg;replace HB:=sb hb;clear hb hbox hg) | ((with_reducible refine gate_dst (N:=2) rfl ?_);refine bx (cs:=#[.int .i64 0,.int .i64 0,.slice none 0 0,.slice none 0 0]) (t:=33) ?_;intro gb139 hg w5 hbox hb;have BK139:=Aside0.mk (hbox);have GW139:=zb hg;have GE139:=zb hg;replace HB:=sb hb;have NB138_139:=nl BK138 hg;have NB139_138:=ng BK138 hg;replace BK138:=kb BK138 hb;clear hb hbox hg) | ((with_reducible refine gate_dst (N:=3) rfl ?_);refine bx (cs:=#[.int .i64 0,.int .i64 0,.slice none 0 0,.slice none 0 0]) (t:=33) ?_;intro gb140 hg w6 hbox hb;have BK140:=Aside0.mk (hbox);have GW140:=zb hg;have GE140:=zb hg;replace HB:=sb hb;have NB138_140:=nl BK138 hg;have NB140_138:=ng BK138 hg;replace BK138:=kb BK138 hb;have NB139_140:=nl BK139 hg;have NB140_139:=ng BK139 hg;replace BK139:=kb BK139 hb;clear hb hbox hg;have hnb7:=NB138_139.out;have hnc7:=NB139_138.out;have hnb8:=NB138_140.out;have hnc8:=NB140_138.out;have hcz9_0:=ck BK138 0;have hcz9_1:=ck BK138 1;have hcz9_2:=ck BK138 2;have hcz9_3:=ck BK138 3;have hfz9_0:=blk_frozen BK138.out 0;have hfz9_1:=blk_frozen BK138.out 1;have hfz9_2:=blk_frozen BK138.out 2;have hfz9_3:=blk_frozen BK138.out 3;have hnb10:=NB140_139.out;have hnc10:=NB139_140.out;have hcz11_0:=ck BK140 0;have hcz11_1:=ck BK140 1;have hcz11_2:=ck BK140 2;have hcz11_3:=ck BK140 3;have hfz11_0:=blk_frozen BK140.out 0;have hfz11_1:=blk_frozen BK140.out 1;have hfz11_2:=blk_frozen BK140.out 2;have hfz11_3:=blk_frozen BK140.out 3) | ((with_reducible refine gate_callee (f:=24) rfl ?_);refine goesL_ (some 12) rfl rfl Try.func24 (by kernel_rfl) rfl #[.slice A0_2 l0_2.length c0_2] rfl (by (try simp only [mT,mC,mN]);first | done | rfl | (simp only [lD,lT];rfl)) ?_;(with_reducible refine (laws_toPointS.calls k _ _ l0_2 t141 _ ?side1 ?side2 A2.out).mono ?_);(case side1 => exact Kd.C_below HR0_2.out ib);(case side2 => exact HC0_2.out);rintro e w12 ⟨v142,rfl,ho0,hb⟩;refine ⟨_,rfl,?_⟩;have HO143:=Aside0.mk (Kd.R_lower ho0 (below_size ib));replace BK138:=Aside0.mk (blk_below (g:=gb138) (o:=.cells #[.int .i64 a0_0,.int .i64 a0_1,.slice A0_2 l0_2.length c0_2,.slice A0_3 l0_3.length c0_3] 25 (0,0)) (by refine bF NB138_140.out ?_;refine bF NB138_140.out ?_;exact bk BK138) hb);replace BK139:=Aside0.mk (blk_below (g:=gb139) (o:=.cells #[.int .i64 0,.int .i64 0,.slice none 0 0,.slice none 0 0] 33 (0,0)) (by refine bF NB139_140.out ?_;refine bF NB139_140.out ?_;exact bk BK139) hb);replace BK140:=Aside0.mk (blk_below (g:=gb140) (o:=.cells #[.int .i64 a0_0,.int .i64 a0_1,.slice none 0 0,.slice none 0 0] 33 (0,0)) (by refine bP (cs:=#[.int .i64 a0_0,.int .i64 0,.slice none 0 0,.slice none 0 0]) 1 ?_;refine bP (cs:=#[.int .i64 0,.int .i64 0,.slice none 0 0,.slice none 0 0]) 0 ?_;exact bk BK140) hb);replace HB:=sb hb;(try clear hb);(try clear hb2);(try clear hk);(try clear hi);(try clear ho0);obtain ⟨Ao13,co13,eo13⟩:=Kd.R_slice HO143.out;subst eo13;have hcz14_0:=ck BK140 0;have hcz14_1:=ck BK140 1;have hcz14_2:=ck BK140 2;have hcz14_3:=ck BK140 3;have hfz14_0:=blk_frozen BK140.out 0;have hfz14_1:=blk_frozen BK140.out 1;have hfz14_2:=blk_frozen BK140.out 2;have hfz14_3:=blk_frozen BK140.out 3;have hcz15_0:=ck BK138 0;have hcz15_1:=ck BK138 1;have hcz15_2:=ck BK138 2;have hcz15_3:=ck BK138 3;have hfz15_0:=blk_frozen BK138.out 0;have hfz15_1:=blk_frozen BK138.out 1;have hfz15_2:=blk_frozen BK138.out 2;have hfz15_3:=blk_frozen BK138.out 3) | ((with_reducible refine gate_callee (f:=25) rfl ?_);refine goesL_ (some 16) rfl rfl Try.func25 (by kernel_rfl) rfl #[.slice A0_3 l0_3.length c0_3] rfl (by (try simp only [mT,mC,mN]);first | done | rfl | (simp only [lD,lT];rfl)) ?_;(with_reducible refine (laws_toFaceS.calls k _ _ l0_3 t144 _ ?side1 ?side2 A3.out).mono ?_);(case side1 => exact Kd.C_below HR0_3.out ib);(case side2 => exact HC0_3.out);rintro e w16 ⟨v145,rfl,ho0,hb⟩;refine ⟨_,rfl,?_⟩;replace HO143:=Aside0.mk (Kd.R_below (rO ((Kd.R_mono (Kd.R_far (p:=⟨gb140,2,none⟩) (Kd.R_types HO143.out BK140.out (by decide)) (fun _ hk => hk.2) (.slice Ao13 t141.length co13)) (fun _ h_ => h_.1)))) hb);have HO146:=Aside0.mk (Kd.S_lower ho0 (below_size ib));replace BK138:=Aside0.mk (blk_below (g:=gb138) (o:=.cells #[.int .i64 a0_0,.int .i64 a0_1,.slice A0_2 l0_2.length c0_2,.slice A0_3 l0_3.length c0_3] 25 (0,0)) (by refine bF NB138_140.out ?_;exact bk BK138) hb);replace BK139:=Aside0.mk (blk_below (g:=gb139) (o:=.cells #[.int .i64 0,.int .i64 0,.slice none 0 0,.slice none 0 0] 33 (0,0)) (by refine bF NB139_140.out ?_;exact bk BK139) hb);replace BK140:=Aside0.mk (blk_below (g:=gb140) (o:=.cells #[.int .i64 a0_0,.int .i64 a0_1,.slice Ao13 t141.length co13,.slice none 0 0] 33 (0,0)) (by refine bP (cs:=#[.int .i64 a0_0,.int .i64 a0_1,.slice none 0 0,.slice none 0 0]) 2 ?_;exact bk BK140) hb);replace HB:=sb hb;(try clear hb);(try clear hb2);(try clear hk);(try clear hi);(try clear ho0);obtain ⟨Ao17,co17,eo17⟩:=Kd.S_slice HO146.out;subst eo17;have hcz18_0:=ck BK140 0;have hcz18_1:=ck BK140 1;have hcz18_2:=ck BK140 2;have hcz18_3:=ck BK140 3;have hfz18_0:=blk_frozen BK140.out 0;have hfz18_1:=blk_frozen BK140.out 1;have hfz18_2:=blk_frozen BK140.out 2;have hfz18_3:=blk_frozen BK140.out 3;have hcz19_0:=ck BK139 0;have hcz19_1:=ck BK139 1;have hcz19_2:=ck BK139 2;have hcz19_3:=ck BK139 3;have hfz19_0:=blk_frozen BK139.out 0;have hfz19_1:=blk_frozen BK139.out 1;have hfz19_2:=blk_frozen BK139.out 2;have hfz19_3:=blk_frozen BK139.out 3))
 refine bodyPost_ret (results_cell_row rfl _ _ gb139 33 #[.int .i64 a0_0,.int .i64 a0_1,.slice Ao13 t141.length co13,.slice Ao17 t144.length co17] (0,0) _ rfl (by refine bP (cs:=#[.int .i64 a0_0,.int .i64 a0_1,.slice Ao13 t141.length co13,.slice none 0 0]) 3 ?_;refine bP (cs:=#[.int .i64 a0_0,.int .i64 a0_1,.slice none 0 0,.slice none 0 0]) 2 ?_;refine bP (cs:=#[.int .i64 a0_0,.int .i64 0,.slice none 0 0,.slice none 0 0]) 1 ?_;refine bP (cs:=#[.int .i64 0,.int .i64 0,.slice none 0 0,.slice none 0 0]) 0 ?_;refine bF NB139_140.out ?_;exact bk BK139) Try.underlying33 rfl (by kernel_rfl)) rfl ?_
 exact ⟨_,_,by first | rfl | (simp [errW_none,errW_some] <;> rfl) | (simp [*,errW_none,errW_some] <;> rfl),rO (Kd.R_mono (Kd.R_far (p:=⟨gb139,3,none⟩) (Kd.R_far (p:=⟨gb139,2,none⟩) (Kd.R_far (p:=⟨gb139,1,none⟩) (Kd.R_far (p:=⟨gb139,0,none⟩) (Kd.R_far (p:=⟨gb140,3,none⟩) (Kd.R_types (Kd.R_types HO143.out BK140.out (by decide)) BK139.out (by decide)) (fun _ hk => hk.1.2) (.slice Ao17 t144.length co17)) (fun _ hk => hk.2) (.int .i64 a0_0)) (fun _ hk => hk.2) (.int .i64 a0_1)) (fun _ hk => hk.2) (.slice Ao13 t141.length co13)) (fun _ hk => hk.2) (.slice Ao17 t144.length co17)) (fun _ hk => trivial)),sO (Kd.S_mono (Kd.S_far (p:=⟨gb139,3,none⟩) (Kd.S_far (p:=⟨gb139,2,none⟩) (Kd.S_far (p:=⟨gb139,1,none⟩) (Kd.S_far (p:=⟨gb139,0,none⟩) (Kd.S_far (p:=⟨gb140,3,none⟩) (Kd.S_types (Kd.S_types HO146.out BK140.out (by decide)) BK139.out (by decide)) (fun _ hk => hk.1.2) (.slice Ao17 t144.length co17)) (fun _ hk => hk.2) (.int .i64 a0_0)) (fun _ hk => hk.2) (.int .i64 a0_1)) (fun _ hk => hk.2) (.slice Ao13 t141.length co13)) (fun _ hk => hk.2) (.slice Ao17 t144.length co17)) (fun _ hk => trivial)),ib⟩
def laws_eqPoint.f (a0_0 : Int) (a0_1 : Int) (a1_0 : Int) (a1_1 : Int) : Option (Bool):=if a0_0 = a1_0 then (if a0_1 = a1_1 then (some true) else (some false)) else (some false)
theorem laws_eqPoint.calls (a0_0 : Int) (a0_1 : Int) (a1_0 : Int) (a1_1 : Int) (r : Bool) (w : World) (h : laws_eqPoint.f a0_0 a0_1 a1_0 a1_1 = some r) :
  Calls Try.prog 50 #[.agg #[.int .i64 a0_0,.int .i64 a0_1],.agg #[.int .i64 a1_0,.int .i64 a1_1]] w fun e w' => e = .returned (.bool r) ∧ Below w.heap.size w w':=by
 have hu78:=Try.underlying78
 have HB:=Aside0.mk (Below.refl w.heap.size w)
 have H : (if a0_0 = a1_0 then (if a0_1 = a1_1 then (some true) else (some false)) else (some false)) = some r:=h
 clear h
 by_cases c3 : a0_0 = a1_0
 ·rw [if_pos c3] at H
  have c3b0 : (a0_0 == a1_0) = true:=beq_iff_eq.mpr c3
  have c3b1 : (a0_0 != a1_0) = false:=bne_eq_false_iff_eq.mpr c3
  clear c3
  by_cases c4 : a0_1 = a1_1
  ·rw [if_pos c4] at H
   have c4b0 : (a0_1 == a1_1) = true:=beq_iff_eq.mpr c4
   have c4b1 : (a0_1 != a1_1) = false:=bne_eq_false_iff_eq.mpr c4
   clear c4
   obtain rfl:=Option.some.inj H
   go_enter Try.func50,Try.ntmps50
   go_wp2_with (first | ((with_reducible refine gate_dst (N:=2) rfl ?_);refine bx (cs:=#[.int .i64 a0_0,.int .i64 a0_1]) (t:=78) ?_;intro gb147 hg w5 hbox hb;have BK147:=Aside0.mk (hbox);have GW147:=zb hg;have GE147:=zb hg;replace HB:=sb hb;clear hb hbox hg) | ((with_reducible refine gate_dst (N:=3) rfl ?_);refine bx (cs:=#[.int .i64 a1_0,.int .i64 a1_1]) (t:=78) ?_;intro gb148 hg w6 hbox hb;have BK148:=Aside0.mk (hbox);have GW148:=zb hg;have GE148:=zb hg;replace HB:=sb hb;have NB147_148:=nl BK147 hg;have NB148_147:=ng BK147 hg;replace BK147:=kb BK147 hb;clear hb hbox hg;have hnb7:=NB147_148.out;have hnc7:=NB148_147.out;have hcz8_0:=ck BK147 0;have hcz8_1:=ck BK147 1;have hfz8_0:=blk_frozen BK147.out 0;have hfz8_1:=blk_frozen BK147.out 1;have hcz9_0:=ck BK148 0;have hcz9_1:=ck BK148 1;have hfz9_0:=blk_frozen BK148.out 0;have hfz9_1:=blk_frozen BK148.out 1))
   go_ret
   exact ⟨by first | rfl | (simp [errW_none,errW_some] <;> rfl) | (simp [*,errW_none,errW_some] <;> rfl),ib⟩
  ·rw [if_neg c4] at H
   have c4b0 : (a0_1 == a1_1) = false:=beq_eq_false_iff_ne.mpr c4
   have c4b1 : (a0_1 != a1_1) = true:=bne_iff_ne.mpr c4
   obtain rfl:=Option.some.inj H
   go_enter Try.func50,Try.ntmps50
   go_wp2_with (first | ((with_reducible refine gate_dst (N:=2) rfl ?_);refine bx (cs:=#[.int .i64 a0_0,.int .i64 a0_1]) (t:=78) ?_;intro gb147 hg w10 hbox hb;have BK147:=Aside0.mk (hbox);have GW147:=zb hg;have GE147:=zb hg;replace HB:=sb hb;clear hb hbox hg) | ((with_reducible refine gate_dst (N:=3) rfl ?_);refine bx (cs:=#[.int .i64 a1_0,.int .i64 a1_1]) (t:=78) ?_;intro gb148 hg w11 hbox hb;have BK148:=Aside0.mk (hbox);have GW148:=zb hg;have GE148:=zb hg;replace HB:=sb hb;have NB147_148:=nl BK147 hg;have NB148_147:=ng BK147 hg;replace BK147:=kb BK147 hb;clear hb hbox hg;have hnb12:=NB147_148.out;have hnc12:=NB148_147.out;have hcz13_0:=ck BK147 0;have hcz13_1:=ck BK147 1;have hfz13_0:=blk_frozen BK147.out 0;have hfz13_1:=blk_frozen BK147.out 1;have hcz14_0:=ck BK148 0;have hcz14_1:=ck BK148 1;have hfz14_0:=blk_frozen BK148.out 0;have hfz14_1:=blk_frozen BK148.out 1))
   go_ret
   exact ⟨by first | rfl | (simp [errW_none,errW_some] <;> rfl) | (simp [*,errW_none,errW_some] <;> rfl),ib⟩
 ·rw [if_neg c3] at H
  have c3b0 : (a0_0 == a1_0) = false:=beq_eq_false_iff_ne.mpr c3
  have c3b1 : (a0_0 != a1_0) = true:=bne_iff_ne.mpr c3
  obtain rfl:=Option.some.inj H
  go_enter Try.func50,Try.ntmps50
  go_wp2_with (first | ((with_reducible refine gate_dst (N:=2) rfl ?_);refine bx (cs:=#[.int .i64 a0_0,.int .i64 a0_1]) (t:=78) ?_;intro gb147 hg w15 hbox hb;have BK147:=Aside0.mk (hbox);have GW147:=zb hg;have GE147:=zb hg;replace HB:=sb hb;clear hb hbox hg) | ((with_reducible refine gate_dst (N:=3) rfl ?_);refine bx (cs:=#[.int .i64 a1_0,.int .i64 a1_1]) (t:=78) ?_;intro gb148 hg w16 hbox hb;have BK148:=Aside0.mk (hbox);have GW148:=zb hg;have GE148:=zb hg;replace HB:=sb hb;have NB147_148:=nl BK147 hg;have NB148_147:=ng BK147 hg;replace BK147:=kb BK147 hb;clear hb hbox hg;have hnb17:=NB147_148.out;have hnc17:=NB148_147.out;have hcz18_0:=ck BK147 0;have hcz18_1:=ck BK147 1;have hfz18_0:=blk_frozen BK147.out 0;have hfz18_1:=blk_frozen BK147.out 1;have hcz19_0:=ck BK148 0;have hcz19_1:=ck BK148 1;have hfz19_0:=blk_frozen BK148.out 0;have hfz19_1:=blk_frozen BK148.out 1))
  go_ret
  exact ⟨by first | rfl | (simp [errW_none,errW_some] <;> rfl) | (simp [*,errW_none,errW_some] <;> rfl),ib⟩
end Go.Proofs.Ytpeebobdbaemiaa.PFnExactEdgesOf
