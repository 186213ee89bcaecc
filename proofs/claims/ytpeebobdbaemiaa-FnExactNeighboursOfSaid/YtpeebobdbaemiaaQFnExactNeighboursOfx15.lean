/- Contracts of functions that FnExactNeighboursOf reaches, out of the lines of the kit's print. -/
import Derived.Test.YtpeebobdbaemiaaQFnExactNeighboursOfx0
import Derived.Test.YtpeebobdbaemiaaQFnExactNeighboursOfx1
import Derived.Test.YtpeebobdbaemiaaQFnExactNeighboursOfx10
import Derived.Test.YtpeebobdbaemiaaQFnExactNeighboursOfx14
namespace Go.Proofs.Ytpeebobdbaemiaa.PFnExactNeighboursOf
set_option maxHeartbeats 8000000
set_option maxRecDepth 100000
open Go.RowKit Go.Proofs.YtpeebobdbaemiaaW.PrintWords Go.Proofs.YtpeebobdbaemiaaW.PrintLast Go.Proofs.YtpeebobdbaemiaaW.PrintMore
open Bool renaming true → tT, false → fF
open Go.World renaming block_lt_of_cell? → bL
open List renaming length_take → lT, length_drop → lD, map_toArray → mT, map_cons → mC, map_nil → mN
open Option renaming bind_eq_some_iff → bE
attribute [local go_sem] max2_int min2_int max_two min_two max_three min_three max_four min_four
set_option linter.unusedVariables false
set_option linter.unusedSimpArgs false
attribute [local go_sem high] eqA67
def impl_faceIndex.l0 : Nat → List Int → Int → Int → Int → Int → List (S78) → List (S64) → Option (Int)
 | 0,_,_,_,_,_,_,_ => none
 | k + 1,x10,x11,x12,x348000,x348001,x348002,x348003 => if x12 < x11 then (if 0 ≤ x12 then (if x12 < (x10.length : Int) then ((impl_within.f (rd x10 x12) 0 (wrap64 ((x348003.length : Int) - 1))).bind fun t350 => (if t350 = true then (impl_faceIndex.l0 k x10 x11 (wrap64 (x12 + 1)) x348000 x348001 x348002 x348003) else (some 2))) else (none)) else (none)) else (some 0)
def impl_faceIndex.f (k : Nat) (a0_0 : Int) (a0_1 : Int) (l0_2 : List (S78)) (l0_3 : List (S64)) (l1 : List Int) : Option (Int):=(impl_ValidDrawing.f k a0_0 a0_1 l0_2 l0_3).bind fun t348 => (if t348 = true then (impl_faceIndex.l0 k l1 (l1.length : Int) 0 a0_0 a0_1 l0_2 l0_3) else (some 1))
theorem impl_faceIndex.calls (k : Nat) (a0_0 : Int) (a0_1 : Int) (A0_2 : Option Addr) (c0_2 : Nat) (l0_2 : List (S78)) (A0_3 : Option Addr) (c0_3 : Nat) (l0_3 : List (S64)) (A1 : Option Addr) (c1 : Nat) (l1 : List Int) (r : Int) (w : World) (hr0_2 : Kd.C k78 w A0_2 l0_2.length l0_2) (hc0_2 : l0_2.length ≤ c0_2) (hr0_3 : Kd.C k64 w A0_3 l0_3.length l0_3) (hc0_3 : l0_3.length ≤ c0_3) (hr1 : Kd.C (Kd.int .i64) w A1 l1.length l1) (hc1 : l1.length ≤ c1) (h : impl_faceIndex.f k a0_0 a0_1 l0_2 l0_3 l1 = some r) :
  Calls Try.prog 26 #[.agg #[.int .i64 a0_0,.int .i64 a0_1,.slice A0_2 l0_2.length c0_2,.slice A0_3 l0_3.length c0_3],.slice A1 l1.length c1] w fun e w' => e = .returned (.int .i64 r) ∧ Below w.heap.size w w':=by
 have hu33:=Try.underlying33
 have HR0_2:=Aside0.mk hr0_2
 have HC0_2:=Aside0.mk hc0_2
 clear hr0_2 hc0_2
 have HR0_3:=Aside0.mk hr0_3
 have HC0_3:=Aside0.mk hc0_3
 clear hr0_3 hc0_3
 have HR1:=Aside0.mk hr1
 have HC1:=Aside0.mk hc1
 clear hr1 hc1
 have HB:=Aside0.mk (Below.refl w.heap.size w)
 have H : ((impl_ValidDrawing.f k a0_0 a0_1 l0_2 l0_3).bind fun t348 => (if t348 = true then (impl_faceIndex.l0 k l1 (l1.length : Int) 0 a0_0 a0_1 l0_2 l0_3) else (some 1))) = some r:=h
 clear h
 replace H:=bE.mp H
 obtain ⟨t348,A30,H⟩:=H
 replace H : (if t348 = true then (impl_faceIndex.l0 k l1 (l1.length : Int) 0 a0_0 a0_1 l0_2 l0_3) else (some 1)) = some r:=H
 have A3:=Aside0.mk A30
 clear A30
 by_cases c4 : t348 = true
 ·subst c4
  have H1 : (impl_faceIndex.l0 k l1 (l1.length : Int) 0 a0_0 a0_1 l0_2 l0_3) = some r:=by rw [if_pos rfl] at H;exact H
  clear H
  have H:=H1
  clear H1
  have H':=Aside0.mk H
  clear H
  go_enter Try.func26,Try.ntmps26
  go_wp2_with (first | ((with_reducible refine gate_dst (N:=2) rfl ?_);refine bx (cs:=#[.int .i64 a0_0,.int .i64 a0_1,.slice A0_2 l0_2.length c0_2,.slice A0_3 l0_3.length c0_3]) (t:=33) ?_;intro gb347 hg w5 hbox hb;have BK347:=Aside0.mk (hbox);have GW347:=zb hg;have GE347:=zb hg;replace HB:=sb hb;clear hb hbox hg;have hcz6_0:=ck BK347 0;have hcz6_1:=ck BK347 1;have hcz6_2:=ck BK347 2;have hcz6_3:=ck BK347 3;have hfz6_0:=blk_frozen BK347.out 0;have hfz6_1:=blk_frozen BK347.out 1;have hfz6_2:=blk_frozen BK347.out 2;have hfz6_3:=blk_frozen BK347.out 3) | ((with_reducible refine gate_callee (f:=33) rfl ?_);refine goesL_ (some 8) rfl rfl Try.func33 (by kernel_rfl) rfl #[.agg #[.int .i64 a0_0,.int .i64 a0_1,.slice A0_2 l0_2.length c0_2,.slice A0_3 l0_3.length c0_3]] rfl (by (try simp only [mT,mC,mN]);first | done | rfl | (simp only [lD,lT];rfl)) ?_;(with_reducible refine (impl_ValidDrawing.calls k a0_0 a0_1 _ _ l0_2 _ _ l0_3 true _ ?side1 ?side2 ?side3 ?side4 A3.out).mono ?_);(case side1 => repeat (first | exact (Kd.C_below HR0_2.out HB.out) | exact HR0_2.out | (with_reducible refine Kd.C_alloc ?_ _) | (with_reducible refine Kd.C_drewN ?_ _) | (with_reducible refine Kd.C_drew ?_)));(case side2 => exact HC0_2.out);(case side3 => repeat (first | exact (Kd.C_below HR0_3.out HB.out) | exact HR0_3.out | (with_reducible refine Kd.C_alloc ?_ _) | (with_reducible refine Kd.C_drewN ?_ _) | (with_reducible refine Kd.C_drew ?_)));(case side4 => exact HC0_3.out);rintro e w7 ⟨rfl,hb⟩;refine ⟨_,rfl,?_⟩;replace BK347:=kb BK347 hb;replace HB:=sb hb;(try clear hb);(try clear hb2);(try clear hk);(try clear hi)))
  go_loopg [12] k (fun kq v12 w' => ∃ (x12_1 : Int),v12 = .int .i64 x12_1 ∧ Aside0 (impl_faceIndex.l0 kq l1 (l1.length : Int) x12_1 a0_0 a0_1 l0_2 l0_3 = some r) ∧ Aside0 (kq ≤ k) ∧ Aside0 (w'.heap[gb347]? = some (.cells #[.int .i64 a0_0,.int .i64 a0_1,(.slice A0_2 l0_2.length c0_2),(.slice A0_3 l0_3.length c0_3)] 33 (0,0))) ∧ Aside0 (Below w.heap.size w w'))
  case atStart => exact ⟨(0),(by first | rfl | (simp;done) | (simp [*];done)),H',⟨Nat.le_refl _⟩,⟨by exact bk BK347⟩,⟨ib⟩⟩
  case round =>
   clear H'
   try clear c1
   try clear c2
   try clear p2
   try clear c3
   try clear c4
   try clear hcz6_0
   try clear hcz6_1
   try clear hcz6_2
   try clear hcz6_3
   try clear hfz6_0
   try clear hfz6_1
   try clear hfz6_2
   try clear hfz6_3
   obtain ⟨x12_1,rfl,HA,HK1,BK347,HB⟩:=hrel
   cases gk with
   | zero => exact absurd HA.out (by simp [impl_faceIndex.l0])
   | succ k1 =>
    have H:=HA.out
    clear HA
    simp only [impl_faceIndex.l0] at H
    by_cases c8 : x12_1 < (l1.length : Int)
    ·rw [if_pos c8] at H
     have c8b0 : decide (x12_1 < (l1.length : Int)) = true:=decide_eq_true c8
     clear c8
     by_cases c9 : 0 ≤ x12_1
     ·rw [if_pos c9] at H
      have c9b0 : decide (0 ≤ x12_1) = true:=decide_eq_true c9
      clear c9
      by_cases c10 : x12_1 < (l1.length : Int)
      ·rw [if_pos c10] at H
       have c10b0 : decide (x12_1 < (l1.length : Int)) = true:=decide_eq_true c10
       clear c10
       replace H:=bE.mp H
       obtain ⟨t350,A110,H⟩:=H
       replace H : (if t350 = true then (impl_faceIndex.l0 k1 l1 (l1.length : Int) (wrap64 (x12_1 + 1)) a0_0 a0_1 l0_2 l0_3) else (some 2)) = some r:=H
       have A11:=Aside0.mk A110
       clear A110
       by_cases c12 : t350 = true
       ·subst c12
        have H1 : (impl_faceIndex.l0 k1 l1 (l1.length : Int) (wrap64 (x12_1 + 1)) a0_0 a0_1 l0_2 l0_3) = some r:=by rw [if_pos rfl] at H;exact H
        clear H
        have H:=H1
        clear H1
        have H':=Aside0.mk H
        clear H
        have p349 : 0 ≤ (x12_1 : Int):=da
        have q349 : x12_1 < (l1.length : Int):=da
        obtain ⟨ad349,e349,hx349_0⟩:=Kd.at_int HR1.out x12_1 p349 q349
        cases e349
        replace hx349_0:=cq HB.out hx349_0
        replace p349:=eq_true p349
        replace q349:=eq_true q349
        have hcz13_0 : wr.cell? ⟨gb347,0,none⟩ = some (.int .i64 a0_0):=(blk_cell BK347.out 0).trans rfl
        have hcz13_1 : wr.cell? ⟨gb347,1,none⟩ = some (.int .i64 a0_1):=(blk_cell BK347.out 1).trans rfl
        have hcz13_2 : wr.cell? ⟨gb347,2,none⟩ = some (.slice A0_2 l0_2.length c0_2):=(blk_cell BK347.out 2).trans rfl
        have hcz13_3 : wr.cell? ⟨gb347,3,none⟩ = some (.slice A0_3 l0_3.length c0_3):=(blk_cell BK347.out 3).trans rfl
        have hfz13_0:=blk_frozen BK347.out 0
        have hfz13_1:=blk_frozen BK347.out 1
        have hfz13_2:=blk_frozen BK347.out 2
        have hfz13_3:=blk_frozen BK347.out 3
        go_wp2_with (first | ((with_reducible refine gate_callee (f:=46) rfl ?_);refine goesL_ (some 21) rfl rfl Try.func46 (by kernel_rfl) rfl #[.int .i64 (rd l1 x12_1),.int .i64 0,.int .i64 (wrap64 ((l0_3.length : Int) - 1))] rfl (by (try simp only [mT,mC,mN]);first | done | rfl | (simp only [lD,lT];rfl)) ?_;(with_reducible refine (impl_within.calls (rd l1 x12_1) 0 (wrap64 ((l0_3.length : Int) - 1)) true _ A11.out).mono ?_);rintro e w' ⟨rfl,⟨nd,rfl⟩⟩;refine ⟨_,rfl,?_⟩))
        go_roundg k1
        case measure => have:=HK1.out;omega
        case rel => exact ⟨(wrap64 (x12_1 + 1)),(by first | rfl | (simp;done) | (simp [*];done)),H',⟨by have:=HK1.out;omega⟩,⟨by exact bk BK347⟩,⟨ib⟩⟩
       ·replace c12:=Bool.eq_false_iff.mpr c12
        subst c12
        have H1 : (some 2) = some r:=by rw [if_neg (show ¬ (false = true) by decide)] at H;exact H
        clear H
        have H:=H1
        clear H1
        obtain rfl:=Option.some.inj H
        have p349 : 0 ≤ (x12_1 : Int):=da
        have q349 : x12_1 < (l1.length : Int):=da
        obtain ⟨ad349,e349,hx349_0⟩:=Kd.at_int HR1.out x12_1 p349 q349
        cases e349
        replace hx349_0:=cq HB.out hx349_0
        replace p349:=eq_true p349
        replace q349:=eq_true q349
        have hcz14_0 : wr.cell? ⟨gb347,0,none⟩ = some (.int .i64 a0_0):=(blk_cell BK347.out 0).trans rfl
        have hcz14_1 : wr.cell? ⟨gb347,1,none⟩ = some (.int .i64 a0_1):=(blk_cell BK347.out 1).trans rfl
        have hcz14_2 : wr.cell? ⟨gb347,2,none⟩ = some (.slice A0_2 l0_2.length c0_2):=(blk_cell BK347.out 2).trans rfl
        have hcz14_3 : wr.cell? ⟨gb347,3,none⟩ = some (.slice A0_3 l0_3.length c0_3):=(blk_cell BK347.out 3).trans rfl
        have hfz14_0:=blk_frozen BK347.out 0
        have hfz14_1:=blk_frozen BK347.out 1
        have hfz14_2:=blk_frozen BK347.out 2
        have hfz14_3:=blk_frozen BK347.out 3
        go_wp2_with (first | ((with_reducible refine gate_callee (f:=46) rfl ?_);refine goesL_ (some 21) rfl rfl Try.func46 (by kernel_rfl) rfl #[.int .i64 (rd l1 x12_1),.int .i64 0,.int .i64 (wrap64 ((l0_3.length : Int) - 1))] rfl (by (try simp only [mT,mC,mN]);first | done | rfl | (simp only [lD,lT];rfl)) ?_;(with_reducible refine (impl_within.calls (rd l1 x12_1) 0 (wrap64 ((l0_3.length : Int) - 1)) false _ A11.out).mono ?_);rintro e w' ⟨rfl,⟨nd,rfl⟩⟩;refine ⟨_,rfl,?_⟩))
        go_ret
        exact ⟨by first | rfl | (simp [errW_none,errW_some] <;> rfl) | (simp [*,errW_none,errW_some] <;> rfl),ib⟩
      ·first | (exfalso;have z_:=of_decide_eq_true c8b0;omega) | (rw [if_neg c10] at H;exact absurd H (by simp))
     ·rw [if_neg c9] at H
      exact absurd H (by simp)
    ·rw [if_neg c8] at H
     have c8b0 : decide (x12_1 < (l1.length : Int)) = false:=decide_eq_false c8
     clear c8
     obtain rfl:=Option.some.inj H
     go_wp2
     go_ret
     exact ⟨by first | rfl | (simp [errW_none,errW_some] <;> rfl) | (simp [*,errW_none,errW_some] <;> rfl),ib⟩
 ·replace c4:=Bool.eq_false_iff.mpr c4
  subst c4
  have H1 : (some 1) = some r:=by rw [if_neg (show ¬ (false = true) by decide)] at H;exact H
  clear H
  have H:=H1
  clear H1
  obtain rfl:=Option.some.inj H
  go_enter Try.func26,Try.ntmps26
  go_wp2_with (first | ((with_reducible refine gate_dst (N:=2) rfl ?_);refine bx (cs:=#[.int .i64 a0_0,.int .i64 a0_1,.slice A0_2 l0_2.length c0_2,.slice A0_3 l0_3.length c0_3]) (t:=33) ?_;intro gb347 hg w15 hbox hb;have BK347:=Aside0.mk (hbox);have GW347:=zb hg;have GE347:=zb hg;replace HB:=sb hb;clear hb hbox hg;have hcz16_0:=ck BK347 0;have hcz16_1:=ck BK347 1;have hcz16_2:=ck BK347 2;have hcz16_3:=ck BK347 3;have hfz16_0:=blk_frozen BK347.out 0;have hfz16_1:=blk_frozen BK347.out 1;have hfz16_2:=blk_frozen BK347.out 2;have hfz16_3:=blk_frozen BK347.out 3) | ((with_reducible refine gate_callee (f:=33) rfl ?_);refine goesL_ (some 8) rfl rfl Try.func33 (by kernel_rfl) rfl #[.agg #[.int .i64 a0_0,.int .i64 a0_1,.slice A0_2 l0_2.length c0_2,.slice A0_3 l0_3.length c0_3]] rfl (by (try simp only [mT,mC,mN]);first | done | rfl | (simp only [lD,lT];rfl)) ?_;(with_reducible refine (impl_ValidDrawing.calls k a0_0 a0_1 _ _ l0_2 _ _ l0_3 false _ ?side1 ?side2 ?side3 ?side4 A3.out).mono ?_);(case side1 => repeat (first | exact (Kd.C_below HR0_2.out HB.out) | exact HR0_2.out | (with_reducible refine Kd.C_alloc ?_ _) | (with_reducible refine Kd.C_drewN ?_ _) | (with_reducible refine Kd.C_drew ?_)));(case side2 => exact HC0_2.out);(case side3 => repeat (first | exact (Kd.C_below HR0_3.out HB.out) | exact HR0_3.out | (with_reducible refine Kd.C_alloc ?_ _) | (with_reducible refine Kd.C_drewN ?_ _) | (with_reducible refine Kd.C_drew ?_)));(case side4 => exact HC0_3.out);rintro e w17 ⟨rfl,hb⟩;refine ⟨_,rfl,?_⟩;replace BK347:=kb BK347 hb;replace HB:=sb hb;(try clear hb);(try clear hb2);(try clear hk);(try clear hi)))
  go_ret
  exact ⟨by first | rfl | (simp [errW_none,errW_some] <;> rfl) | (simp [*,errW_none,errW_some] <;> rfl),ib⟩
def slices_Index_2_int64_2_int64.l0 : Nat → List (S67) → Int → Int → Int → Int → Option (Int)
 | 0,_,_,_,_,_ => none
 | k + 1,x0,x7,x8,x352000,x352001 => if x8 < x7 then (if 0 ≤ x8 then (if x8 < (x0.length : Int) then (if (x352000 == ((rd_T67 x0 x8).f0) && (x352001 == ((rd_T67 x0 x8).f1))) = true then (some x8) else (slices_Index_2_int64_2_int64.l0 k x0 x7 (wrap64 (x8 + 1)) x352000 x352001)) else (none)) else (none)) else (some (-1))
def slices_Index_2_int64_2_int64.f (k : Nat) (l0 : List (S67)) (a1_0 : Int) (a1_1 : Int) : Option (Int):=slices_Index_2_int64_2_int64.l0 k l0 (l0.length : Int) 0 a1_0 a1_1
theorem slices_Index_2_int64_2_int64.calls (k : Nat) (A0 : Option Addr) (c0 : Nat) (l0 : List (S67)) (a1_0 : Int) (a1_1 : Int) (r : Int) (w : World) (hr0 : Kd.C k67 w A0 l0.length l0) (hc0 : l0.length ≤ c0) (h : slices_Index_2_int64_2_int64.f k l0 a1_0 a1_1 = some r) :
  Calls Try.prog 69 #[.slice A0 l0.length c0,.agg #[.int .i64 a1_0,.int .i64 a1_1]] w fun e w' => e = .returned (.int .i64 r) ∧ Below w.heap.size w w':=by
 have hu67:=Try.underlying67
 have HR0:=Aside0.mk hr0
 have HC0:=Aside0.mk hc0
 clear hr0 hc0
 have HB:=Aside0.mk (Below.refl w.heap.size w)
 have H : (slices_Index_2_int64_2_int64.l0 k l0 (l0.length : Int) 0 a1_0 a1_1) = some r:=h
 clear h
 have H':=Aside0.mk H
 clear H
 go_enter Try.func69,Try.ntmps69
 go_wp2_with (first | ((with_reducible refine gate_dst (N:=3) rfl ?_);refine bx (cs:=#[.int .i64 a1_0,.int .i64 a1_1]) (t:=67) ?_;intro gb351 hg w3 hbox hb;have BK351:=Aside0.mk (hbox);have GW351:=zb hg;have GE351:=zb hg;replace HB:=sb hb;clear hb hbox hg))
 repeat (go_quiet (first | ((with_reducible refine gate_dst (N:=3) rfl ?_);refine bx (cs:=#[.int .i64 a1_0,.int .i64 a1_1]) (t:=67) ?_;intro gb351 hg w3 hbox hb;have BK351:=Aside0.mk (hbox);have GW351:=zb hg;have GE351:=zb hg;replace HB:=sb hb;clear hb hbox hg));try go_wp2_with (first | ((with_reducible refine gate_dst (N:=3) rfl ?_);refine bx (cs:=#[.int .i64 a1_0,.int .i64 a1_1]) (t:=67) ?_;intro gb351 hg w3 hbox hb;have BK351:=Aside0.mk (hbox);have GW351:=zb hg;have GE351:=zb hg;replace HB:=sb hb;clear hb hbox hg)))
 go_loopg [8] k (fun kq v8 w' => ∃ (x8_1 : Int),v8 = .int .i64 x8_1 ∧ Aside0 (slices_Index_2_int64_2_int64.l0 kq l0 (l0.length : Int) x8_1 a1_0 a1_1 = some r) ∧ Aside0 (kq ≤ k) ∧ Aside0 (w'.heap[gb351]? = some (.cells #[.int .i64 a1_0,.int .i64 a1_1] 67 (0,0))) ∧ Aside0 (Below w.heap.size w w'))
 case atStart => exact ⟨(0),(by first | rfl | (simp;done) | (simp [*];done)),H',⟨Nat.le_refl _⟩,⟨by exact bk BK351⟩,⟨ib⟩⟩
 case round =>
  clear H'
  try clear p2
  obtain ⟨x8_1,rfl,HA,HK1,BK351,HB⟩:=hrel
  cases gk with
  | zero => exact absurd HA.out (by simp [slices_Index_2_int64_2_int64.l0])
  | succ k1 =>
   have H:=HA.out
   clear HA
   simp only [slices_Index_2_int64_2_int64.l0] at H
   by_cases c4 : x8_1 < (l0.length : Int)
   ·rw [if_pos c4] at H
    have c4b0 : decide (x8_1 < (l0.length : Int)) = true:=decide_eq_true c4
    clear c4
    by_cases c5 : 0 ≤ x8_1
    ·rw [if_pos c5] at H
     have c5b0 : decide (0 ≤ x8_1) = true:=decide_eq_true c5
     clear c5
     by_cases c6 : x8_1 < (l0.length : Int)
     ·rw [if_pos c6] at H
      have c6b0 : decide (x8_1 < (l0.length : Int)) = true:=decide_eq_true c6
      clear c6
      by_cases c7 : (a1_0 == ((rd_T67 l0 x8_1).f0) && (a1_1 == ((rd_T67 l0 x8_1).f1))) = true
      ·rw [if_pos c7] at H
       have c7b0 : (a1_0 == ((rd_T67 l0 x8_1).f0) && (a1_1 == ((rd_T67 l0 x8_1).f1))) = true:=c7
       (try (have c7b1 : decide (a1_0 = ((rd_T67 l0 x8_1).f0) && (a1_1 == ((rd_T67 l0 x8_1).f1))) = true:=by simpa using c7))
       (try (have c7b2 : (a1_0 == ((rd_T67 l0 x8_1).f0) && (a1_1 == ((rd_T67 l0 x8_1).f1))) = true:=by simpa using c7))
       clear c7
       obtain rfl:=Option.some.inj H
       have hcz8_0 : wr.cell? ⟨gb351,0,none⟩ = some (.int .i64 a1_0):=(blk_cell BK351.out 0).trans rfl
       have hcz8_1 : wr.cell? ⟨gb351,1,none⟩ = some (.int .i64 a1_1):=(blk_cell BK351.out 1).trans rfl
       have hfz8_0:=blk_frozen BK351.out 0
       have hfz8_1:=blk_frozen BK351.out 1
       have p352 : 0 ≤ (x8_1 : Int):=da
       have q352 : x8_1 < (l0.length : Int):=da
       obtain ⟨ad352,e352,hx352_0,hx352_1⟩:=at_T67 HR0.out x8_1 p352 q352
       cases e352
       replace hx352_0:=cq HB.out hx352_0
       replace hx352_1:=cq HB.out hx352_1
       replace p352:=eq_true p352
       replace q352:=eq_true q352
       go_wp2
       repeat (go_quiet (fail);try go_wp2)
       go_ret
       exact ⟨by first | rfl | (simp [errW_none,errW_some] <;> rfl) | (simp [*,errW_none,errW_some] <;> rfl),ib⟩
      ·rw [if_neg c7] at H
       have c7b0 : (a1_0 == ((rd_T67 l0 x8_1).f0) && (a1_1 == ((rd_T67 l0 x8_1).f1))) = false:=by simpa using c7
       (try (have c7b1 : decide (a1_0 = ((rd_T67 l0 x8_1).f0) && (a1_1 == ((rd_T67 l0 x8_1).f1))) = false:=by simpa using c7))
       (try (have c7b2 : (a1_0 == ((rd_T67 l0 x8_1).f0) && (a1_1 == ((rd_T67 l0 x8_1).f1))) = false:=by simpa using c7))
       (try (have c7b3 : ¬ (a1_0 = ((rd_T67 l0 x8_1).f0) && (a1_1 == ((rd_T67 l0 x8_1).f1))):=by simpa using c7))
       clear c7
       have H':=Aside0.mk H
       clear H
       have hcz9_0 : wr.cell? ⟨gb351,0,none⟩ = some (.int .i64 a1_0):=(blk_cell BK351.out 0).trans rfl
       have hcz9_1 : wr.cell? ⟨gb351,1,none⟩ = some (.int .i64 a1_1):=(blk_cell BK351.out 1).trans rfl
       have hfz9_0:=blk_frozen BK351.out 0
       have hfz9_1:=blk_frozen BK351.out 1
       have p352 : 0 ≤ (x8_1 : Int):=da
       have q352 : x8_1 < (l0.length : Int):=da
       obtain ⟨ad352,e352,hx352_0,hx352_1⟩:=at_T67 HR0.out x8_1 p352 q352
       cases e352
       replace hx352_0:=cq HB.out hx352_0
       replace hx352_1:=cq HB.out hx352_1
       replace p352:=eq_true p352
       replace q352:=eq_true q352
       go_wp2
       repeat (go_quiet (fail);try go_wp2)
       go_roundg k1
       case measure => have:=HK1.out;omega
       case rel => exact ⟨(wrap64 (x8_1 + 1)),(by first | rfl | (simp;done) | (simp [*];done)),H',⟨by have:=HK1.out;omega⟩,⟨by exact bk BK351⟩,⟨ib⟩⟩
     ·first | (exfalso;have z_:=of_decide_eq_true c4b0;omega) | (rw [if_neg c6] at H;exact absurd H (by simp))
    ·rw [if_neg c5] at H
     exact absurd H (by simp)
   ·rw [if_neg c4] at H
    have c4b0 : decide (x8_1 < (l0.length : Int)) = false:=decide_eq_false c4
    clear c4
    obtain rfl:=Option.some.inj H
    go_wp2
    repeat (go_quiet (fail);try go_wp2)
    go_ret
    exact ⟨by first | rfl | (simp [errW_none,errW_some] <;> rfl) | (simp [*,errW_none,errW_some] <;> rfl),ib⟩
def slices_Contains_2_int64_2_int64.f (k : Nat) (l0 : List (S67)) (a1_0 : Int) (a1_1 : Int) : Option (Bool):=(slices_Index_2_int64_2_int64.f k l0 a1_0 a1_1).bind fun t354 => (some (decide (t354 ≥ 0)))
theorem slices_Contains_2_int64_2_int64.calls (k : Nat) (A0 : Option Addr) (c0 : Nat) (l0 : List (S67)) (a1_0 : Int) (a1_1 : Int) (r : Bool) (w : World) (hr0 : Kd.C k67 w A0 l0.length l0) (hc0 : l0.length ≤ c0) (h : slices_Contains_2_int64_2_int64.f k l0 a1_0 a1_1 = some r) :
  Calls Try.prog 49 #[.slice A0 l0.length c0,.agg #[.int .i64 a1_0,.int .i64 a1_1]] w fun e w' => e = .returned (.bool r) ∧ Below w.heap.size w w':=by
 have hu67:=Try.underlying67
 have HR0:=Aside0.mk hr0
 have HC0:=Aside0.mk hc0
 clear hr0 hc0
 have HB:=Aside0.mk (Below.refl w.heap.size w)
 have H : ((slices_Index_2_int64_2_int64.f k l0 a1_0 a1_1).bind fun t354 => (some (decide (t354 ≥ 0)))) = some r:=h
 clear h
 replace H:=bE.mp H
 obtain ⟨t354,A30,H⟩:=H
 replace H : (some (decide (t354 ≥ 0))) = some r:=H
 have A3:=Aside0.mk A30
 clear A30
 obtain rfl:=Option.some.inj H
 go_enter Try.func49,Try.ntmps49
 go_wp2_with (first | ((with_reducible refine gate_dst (N:=3) rfl ?_);refine bx (cs:=#[.int .i64 a1_0,.int .i64 a1_1]) (t:=67) ?_;intro gb353 hg w4 hbox hb;have BK353:=Aside0.mk (hbox);have GW353:=zb hg;have GE353:=zb hg;replace HB:=sb hb;clear hb hbox hg;have hcz5_0:=ck BK353 0;have hcz5_1:=ck BK353 1;have hfz5_0:=blk_frozen BK353.out 0;have hfz5_1:=blk_frozen BK353.out 1) | ((with_reducible refine gate_callee (f:=69) rfl ?_);refine goesL_ (some 7) rfl rfl Try.func69 (by kernel_rfl) rfl #[.slice A0 l0.length c0,.agg #[.int .i64 a1_0,.int .i64 a1_1]] rfl (by (try simp only [mT,mC,mN]);first | done | rfl | (simp only [lD,lT];rfl)) ?_;(with_reducible refine (slices_Index_2_int64_2_int64.calls k _ _ l0 a1_0 a1_1 t354 _ ?side1 ?side2 A3.out).mono ?_);(case side1 => exact cO ((Kd.C_below HR0.out HB.out)));(case side2 => exact HC0.out);rintro e w6 ⟨rfl,hb⟩;refine ⟨_,rfl,?_⟩;replace BK353:=kb BK353 hb;replace HB:=sb hb;(try clear hb);(try clear hb2);(try clear hk);(try clear hi)))
 go_ret
 exact ⟨by first | rfl | (simp [errW_none,errW_some] <;> rfl) | (simp [*,errW_none,errW_some] <;> rfl),ib⟩
def impl_ringEdges.l0 : Nat → List Int → List (S67) → List Int → Int → Int → Option ((List (S67)))
 | 0,_,_,_,_,_ => none
 | k + 1,x0,x3,x8,x9,x10 => if x10 < x9 then (if 0 ≤ x10 then (if x10 < (x8.length : Int) then (if (x0.length : Int) = 0 then (none) else (if 0 ≤ (Int.tmod (wrap64 (x10 + 1)) (x0.length : Int)) then (if (Int.tmod (wrap64 (x10 + 1)) (x0.length : Int)) < (x0.length : Int) then (if x3.length < 8796093022208 then (impl_ringEdges.l0 k x0 (x3 ++ [(⟨mn (rd x8 x10) (rd x0 (Int.tmod (wrap64 (x10 + 1)) (x0.length : Int))),mx (rd x8 x10) (rd x0 (Int.tmod (wrap64 (x10 + 1)) (x0.length : Int)))⟩ : S67)]) x8 x9 (wrap64 (x10 + 1))) else (none)) else (none)) else (none))) else (none)) else (none)) else (some x3)
def impl_ringEdges.f (k : Nat) (l0 : List Int) : Option ((List (S67))):=impl_ringEdges.l0 k l0 (([] : List (S67))) l0 (l0.length : Int) 0
theorem impl_ringEdges.calls (k : Nat) (A0 : Option Addr) (c0 : Nat) (l0 : List Int) (r : List (S67)) (w : World) (hr0 : Kd.C (Kd.int .i64) w A0 l0.length l0) (hc0 : l0.length ≤ c0) (h : impl_ringEdges.f k l0 = some r) :
  Calls Try.prog 34 #[.slice A0 l0.length c0] w fun e w' => ∃ v0_ : Value,e = .returned (v0_) ∧ Kd.R k67 67 w' w.heap.size (fun _ => True) v0_ r ∧ Below w.heap.size w w':=by
 have hu67:=Try.underlying67
 have HR0:=Aside0.mk hr0
 have HC0:=Aside0.mk hc0
 clear hr0 hc0
 have HB:=Aside0.mk (Below.refl w.heap.size w)
 have H : (impl_ringEdges.l0 k l0 (([] : List (S67))) l0 (l0.length : Int) 0) = some r:=h
 clear h
 obtain ⟨y355,hy355⟩ : ∃ y_ : List (S67),y_ = (([] : List (S67))):=⟨_,rfl⟩
 replace H : (impl_ringEdges.l0 k l0 y355 l0 (l0.length : Int) 0) = some r:=by first | (rw [hy355];with_reducible exact H) | (have H2_:=(Option.bind_some _ _).symm.trans H;rw [hy355];with_reducible exact H2_) | (have H2_:=(Option.bind_some _ _).symm.trans H;with_reducible exact H2_) | with_reducible exact H | (rw [hy355];exact H) | exact H
 have Ny355:=Aside0.mk hy355
 clear hy355
 have H':=Aside0.mk H
 clear H
 go_enter Try.func34,Try.ntmps34
 go_wp2_with (first | ((with_reducible refine gate_dst (N:=7) rfl ?_);refine Kd.R_lit k67 _ 67 ?hg (N:=7) ?hd (xs:=([] : List (S67))) (inner:=[]) (ok:=fun _ => True) (okp:=fun _ => True) ?hr ?hp (fun _ hk => hk) trivial (Below.refl _ _) (Nat.le_refl _) (by simp) ?_;(case hd => rfl);(case hg => rfl);(case hr => first | (go_simp;done) | (go_simp;rfl));(case hp => exact (Reps.none _ _));intro v356 w2 ho3 hb hg_ hnew_;clear hg_ hnew_;(first | rw [← Ny355.out] at ho3 | (simp only [Int.reduceToNat] at ho3;rw [← Ny355.out] at ho3));have HO357:=Aside0.mk (Kd.R_lower ho3 (below_size ib));replace HB:=sb hb;clear hb ho3))
 go_loopg [3,10] k (fun kq v3 v10 w' => ∃ (x3_1 : List (S67)) (x10_1 : Int),v10 = .int .i64 x10_1 ∧ Aside0 (impl_ringEdges.l0 kq l0 x3_1 l0 (l0.length : Int) x10_1 = some r) ∧ Aside0 (kq ≤ k) ∧ Aside0 (Kd.R k67 67 w' w.heap.size (fun _ => True) v3 x3_1) ∧ Aside0 (Below w.heap.size w w'))
 case atStart => exact ⟨(y355),(0),(by first | rfl | (simp;done) | (simp [*];done)),H',⟨Nat.le_refl _⟩,⟨rO HO357.out⟩,⟨ib⟩⟩
 case round =>
  clear H'
  try clear p2
  try clear c3
  obtain ⟨x3_1,x10_1,rfl,HA,HK1,HO_3,HB⟩:=hrel
  cases gk with
  | zero => exact absurd HA.out (by simp [impl_ringEdges.l0])
  | succ k1 =>
   have H:=HA.out
   clear HA
   simp only [impl_ringEdges.l0] at H
   by_cases c4 : x10_1 < (l0.length : Int)
   ·rw [if_pos c4] at H
    have c4b0 : decide (x10_1 < (l0.length : Int)) = true:=decide_eq_true c4
    clear c4
    by_cases c5 : 0 ≤ x10_1
    ·rw [if_pos c5] at H
     have c5b0 : decide (0 ≤ x10_1) = true:=decide_eq_true c5
     clear c5
     by_cases c6 : x10_1 < (l0.length : Int)
     ·rw [if_pos c6] at H
      have c6b0 : decide (x10_1 < (l0.length : Int)) = true:=decide_eq_true c6
      clear c6
      by_cases c7 : (l0.length : Int) = 0
      ·rw [if_pos c7] at H
       exact absurd H (by simp)
      ·rw [if_neg c7] at H
       have c7b0 : ((l0.length : Int) == 0) = false:=beq_eq_false_iff_ne.mpr c7
       have c7b1 : ((l0.length : Int) != 0) = true:=bne_iff_ne.mpr c7
       have c7b2 : ¬ (l0 = []):=fun h_ => c7 (by rw [h_];rfl)
       obtain ⟨ji8,hji8⟩ : ∃ j_ : Int,(Int.tmod (wrap64 (x10_1 + 1)) (l0.length : Int)) = j_:=⟨_,rfl⟩
       replace H : (if 0 ≤ (ji8) then (if (ji8) < (l0.length : Int) then (if x3_1.length < 8796093022208 then (impl_ringEdges.l0 k1 l0 (x3_1 ++ [(⟨mn (rd l0 x10_1) (rd l0 (ji8)),mx (rd l0 x10_1) (rd l0 (ji8))⟩ : S67)]) l0 (l0.length : Int) (wrap64 (x10_1 + 1))) else (none)) else (none)) else (none)) = some r:=by first | (rw [hji8] at H;exact H) | (simp only [hji8] at H ⊢;exact H)
       by_cases c9 : 0 ≤ (ji8)
       ·rw [if_pos c9] at H
        have c9b0 : decide (0 ≤ (ji8)) = true:=decide_eq_true c9
        clear c9
        by_cases c10 : (ji8) < (l0.length : Int)
        ·rw [if_pos c10] at H
         have c10b0 : decide ((ji8) < (l0.length : Int)) = true:=decide_eq_true c10
         clear c10
         obtain ⟨ji11,hji11⟩ : ∃ j_ : Int,(mn (rd l0 x10_1) (rd l0 (ji8))) = j_:=⟨_,rfl⟩
         replace H : (if x3_1.length < 8796093022208 then (impl_ringEdges.l0 k1 l0 (x3_1 ++ [(⟨ji11,mx (rd l0 x10_1) (rd l0 (ji8))⟩ : S67)]) l0 (l0.length : Int) (wrap64 (x10_1 + 1))) else (none)) = some r:=by first | (rw [hji11] at H;exact H) | (simp only [hji11] at H ⊢;exact H)
         have hji11_ : (if (rd l0 (ji8)) < (rd l0 x10_1) then (rd l0 (ji8)) else (rd l0 x10_1)) = ji11:=hji11
         obtain ⟨ji12,hji12⟩ : ∃ j_ : Int,(mx (rd l0 x10_1) (rd l0 (ji8))) = j_:=⟨_,rfl⟩
         replace H : (if x3_1.length < 8796093022208 then (impl_ringEdges.l0 k1 l0 (x3_1 ++ [(⟨ji11,ji12⟩ : S67)]) l0 (l0.length : Int) (wrap64 (x10_1 + 1))) else (none)) = some r:=by first | (rw [hji12] at H;exact H) | (simp only [hji12] at H ⊢;exact H)
         have hji12_ : (if (rd l0 x10_1) < (rd l0 (ji8)) then (rd l0 (ji8)) else (rd l0 x10_1)) = ji12:=hji12
         by_cases c13 : x3_1.length < 8796093022208
         ·rw [if_pos c13] at H
          have LMc13:=Aside0.mk c13
          clear c13
          obtain ⟨y360,hy360⟩ : ∃ y_ : List (S67),y_ = (x3_1 ++ [(⟨ji11,ji12⟩ : S67)]):=⟨_,rfl⟩
          replace H : (impl_ringEdges.l0 k1 l0 y360 l0 (l0.length : Int) (wrap64 (x10_1 + 1))) = some r:=by first | (rw [hy360];with_reducible exact H) | (have H2_:=(Option.bind_some _ _).symm.trans H;rw [hy360];with_reducible exact H2_) | (have H2_:=(Option.bind_some _ _).symm.trans H;with_reducible exact H2_) | with_reducible exact H | (rw [hy360];exact H) | exact H
          have Ny360:=Aside0.mk hy360
          clear hy360
          have H':=Aside0.mk H
          clear H
          have p358 : 0 ≤ (x10_1 : Int):=da
          have q358 : x10_1 < (l0.length : Int):=da
          obtain ⟨ad358,e358,hx358_0⟩:=Kd.at_int HR0.out x10_1 p358 q358
          cases e358
          replace hx358_0:=cq HB.out hx358_0
          replace p358:=eq_true p358
          replace q358:=eq_true q358
          have p359 : 0 ≤ ((ji8) : Int):=da
          have q359 : (ji8) < (l0.length : Int):=da
          obtain ⟨ad359,e359,hx359_0⟩:=Kd.at_int HR0.out (ji8) p359 q359
          obtain rfl : ad358 = ad359:=(by injection e359)
          replace hx359_0:=cq HB.out hx359_0
          replace p359:=eq_true p359
          replace q359:=eq_true q359
          go_wp2_with (first | ((with_reducible refine gate_builtin (b:=.append) (xs:=#[.tmp 23,.tmp 31]) rfl ?_);at_builtin;refine Kd.R_append k67 (w0:=w) w.heap.size rfl (.tmp 23) (.tmp 31) 62 67 (.agg #[(.int .i64 0),(.int .i64 0)]) 16 rfl Try.underlying62 info67 rfl (by decide) (by omega) u3 x3_1 (⟨ji11,ji12⟩ : S67) [.int .i64 ji11,.int .i64 ji12] (fun _ => True) (fun _ => False) rfl rfl ?aP (fun _ hk => hk.elim) ?aF ?aO ?aB ?aS ?aL ?_;(case aP => exact k67_mkM _ _ _ (⟨ji11,ji12⟩ : S67));(case aB => exact ib);(case aF => exact (fun _ _ => trivial));(case aO => exact (rO HO_3.out));(case aS => exact (below_size ib));(case aL => have:=LMc13.out;omega);intro v361 w14 ho hb hg hat;rw [← Ny360.out] at ho;replace HB:=Aside0.mk (hb);have HO362:=Aside0.mk (ho);clear HO_3;clear ho hb hg hat))
          go_roundg k1
          case measure => have:=HK1.out;omega
          case rel => exact ⟨(y360),(wrap64 (x10_1 + 1)),(by first | rfl | (simp;done) | (simp [*];done)),H',⟨by have:=HK1.out;omega⟩,⟨rO HO362.out⟩,⟨ib⟩⟩
         ·rw [if_neg c13] at H
          exact absurd H (by simp)
        ·rw [if_neg c10] at H
         exact absurd H (by simp)
       ·rw [if_neg c9] at H
        exact absurd H (by simp)
     ·first | (exfalso;have z_:=of_decide_eq_true c4b0;omega) | (rw [if_neg c6] at H;exact absurd H (by simp))
    ·rw [if_neg c5] at H
     exact absurd H (by simp)
   ·rw [if_neg c4] at H
    have c4b0 : decide (x10_1 < (l0.length : Int)) = false:=decide_eq_false c4
    clear c4
    obtain rfl:=Option.some.inj H
    go_wp2
    go_ret
    exact ⟨_,by first | rfl | (simp [errW_none,errW_some] <;> rfl) | (simp [*,errW_none,errW_some] <;> rfl),rO HO_3.out,ib⟩
def slices_ContainsFunc_2_int64_2_int64.ix : Nat → List (S67) → List (List (S67)) × Int → Int → Option (Int)
 | 0,_,_,_ => none
 | k + 1,x0,cl,x8 => if x8 < (x0.length : Int) then (if 0 ≤ x8 then (if 0 ≤ cl.2 then (if cl.2 < (cl.1.length : Int) then ((slices_Contains_2_int64_2_int64.f k (rd_L8 cl.1 cl.2) ((rd_T67 x0 x8).f0) ((rd_T67 x0 x8).f1)).bind fun t => (if t = true then (some x8) else (slices_ContainsFunc_2_int64_2_int64.ix k x0 cl (wrap64 (x8 + 1))))) else (none)) else (none)) else (none)) else (some (-1))
def slices_ContainsFunc_2_int64_2_int64.f (k : Nat) (l0 : List (S67)) (cl : List (List (S67)) × Int) : Option (Bool):=(slices_ContainsFunc_2_int64_2_int64.ix k l0 cl 0).bind fun t => some (decide (t ≥ 0))
theorem slices_ContainsFunc_2_int64_2_int64.clo (k : Nat) (a0 a1 : Int) (es : List (List (S67))) (m : Int) (r : Bool) (w : World) (gE gM : Nat) (AE : Option Addr) (cE : Nat) (h0 : 0 ≤ m) (h1 : m < (es.length : Int)) (hE : w.cell? ⟨gE,0,none⟩ = some (.slice AE es.length cE)) (hEr : Kd.C (Kd.slice 67 k67) w AE es.length es) (hM : w.cell? ⟨gM,0,none⟩ = some (.int .i64 m)) (h : slices_Contains_2_int64_2_int64.f k (rd_L8 es m) a0 a1 = some r) :
  Calls Try.prog 48 #[.agg #[.int .i64 a0,.int .i64 a1],.pointer (some ⟨gE,0,none⟩),.pointer (some ⟨gM,0,none⟩)] w fun e w' => e = .returned (.bool r) ∧ Below w.heap.size w w':=by
 have hu67:=Try.underlying67
 obtain ⟨adE,AI,cI,eE,hx0,hlI,hiI⟩:=at_L8 hEr m h0 h1
 cases eE
 have HX:=Aside0.mk hx0
 have HR0:=Aside0.mk hiI
 have HC0:=Aside0.mk hlI
 have HE:=Aside0.mk hE
 have HM:=Aside0.mk hM
 clear hiI hlI hE hM hEr hx0
 have HB:=Aside0.mk (Below.refl w.heap.size w)
 have A1:=Aside0.mk h
 clear h
 replace h0:=eq_true h0
 replace h1:=eq_true h1
 go_enter Try.func48,Try.ntmps48
 go_wp2_with (first | ((with_reducible refine gate_dst (N:=3) rfl ?_);refine bx (cs:=#[.int .i64 a0,.int .i64 a1]) (t:=67) ?_;intro gb hg w3 hbox hb;have BK:=Aside0.mk hbox;have HBn_:=sb hb;clear HB;have HB:=HBn_;clear HBn_;have hcz_0 : w3.cell? ⟨gb,0,none⟩ = some (.int .i64 a0):=(blk_cell BK.out 0).trans rfl;have hcz_1 : w3.cell? ⟨gb,1,none⟩ = some (.int .i64 a1):=(blk_cell BK.out 1).trans rfl;have he_:=(HB.out.cell (bL w _ HE.out)).trans HE.out;have hm_:=(HB.out.cell (bL w _ HM.out)).trans HM.out;have hx_:=(HB.out.cell (bL w _ HX.out)).trans HX.out;clear hg hbox hb))
 have HBn_:=Aside0.mk (below_drew1 HB.out)
 clear HB
 have HB:=HBn_
 clear HBn_
 have BKD:=Aside0.mk (blk_drew BK.out)
 refine start_ (n:=7) (S:=fun w' => w'.cell? ⟨gE,0,none⟩ = some (.slice (some adE) es.length cE) ∧ w'.cell? ⟨gM,0,none⟩ = some (.int .i64 m) ∧ w'.cell? (adE.add m.toNat) = some (.slice AI (rd_L8 es m).length cI) ∧ w'.cell? ⟨gb,0,none⟩ = some (.int .i64 a0) ∧ w'.cell? ⟨gb,1,none⟩ = some (.int .i64 a1)) (ds:=[]) #[fF,fF,fF,fF,fF,fF,fF] (by kernel_rfl) rfl rfl ⟨he_,hm_,hx_,hcz_0,hcz_1⟩ (fun hHeld => ?_)
 refine take_ (i:=0) (N:=some 5) (v:=?_) (a':=?_) #[tT,fF,fF,fF,fF,fF,fF] rfl rfl (by kernel_rfl) (fun _ _ _ h => h) (Or.inl ⟨by rfl,?_⟩) hHeld ?_ ?_
 rotate_left
 ·rintro w' ⟨s0_,s1_,s2_,s3_,s4_⟩
  go_simp
  with_reducible rfl
 rotate_left
 ·exact pa
 refine take_ (i:=1) (N:=some 6) (v:=?_) (a':=?_) #[tT,tT,fF,fF,fF,fF,fF] rfl rfl (by kernel_rfl) (fun _ _ _ h => h) (Or.inl ⟨by rfl,?_⟩) hHeld ?_ ?_
 rotate_left
 ·rintro w' ⟨s0_,s1_,s2_,s3_,s4_⟩
  go_simp
  with_reducible rfl
 rotate_left
 ·exact pa
 refine pure_ (i:=2) (N:=some 7) (v:=?_) (a':=?_) #[tT,tT,tT,fF,fF,fF,fF] rfl rfl (by kernel_rfl) (fun _ _ _ h => h) (Or.inl ⟨by rfl,?_⟩) ?_ ?_
 rotate_left
 ·intro w'
  go_simp
  with_reducible rfl
 rotate_left
 ·exact pa
 refine take_ (i:=3) (N:=some 8) (v:=?_) (a':=?_) #[tT,tT,tT,tT,fF,fF,fF] rfl rfl (by kernel_rfl) (fun _ _ _ h => h) (Or.inl ⟨by rfl,?_⟩) hHeld ?_ ?_
 rotate_left
 ·rintro w' ⟨s0_,s1_,s2_,s3_,s4_⟩
  go_simp
  with_reducible rfl
 rotate_left
 ·exact pa
 refine take_ (i:=4) (N:=some 9) (v:=?_) (a':=?_) #[tT,tT,tT,tT,tT,fF,fF] rfl rfl (by kernel_rfl) (fun _ _ _ h => h) (Or.inl ⟨by rfl,?_⟩) hHeld ?_ ?_
 rotate_left
 ·rintro w' ⟨s0_,s1_,s2_,s3_,s4_⟩
  go_simp
  with_reducible rfl
 rotate_left
 ·exact pa
 refine one_ (i:=5) (N:=some 10) #[tT,tT,tT,tT,tT,tT,fF] rfl rfl (by kernel_rfl) (by decide) (fun K hK => ?_)
 refine goes_ Try.func49 (by kernel_rfl) rfl #[.slice AI (rd_L8 es m).length cI,.agg #[.int .i64 a0,.int .i64 a1]] (by rfl) rfl rfl (by (try simp only [mT,mC,mN]);first | done | rfl | (simp only [lD,lT];rfl)) ?_
 with_reducible refine (slices_Contains_2_int64_2_int64.calls k _ _ (rd_L8 es m) a0 a1 r _ (Kd.C_below HR0.out ib) HC0.out A1.out).mono ?_
 rintro e w5 ⟨rfl,hb⟩
 refine ⟨_,rfl,?_⟩
 have HBn_:=sb hb
 clear HB
 have HB:=HBn_
 clear HBn_
 refine hK.out _ _ ⟨(HB.out.cell (bL w _ HE.out)).trans HE.out,(HB.out.cell (bL w _ HM.out)).trans HM.out,(HB.out.cell (bL w _ HX.out)).trans HX.out,(blk_cell (blk_below BKD.out hb) 0).trans rfl,(blk_cell (blk_below BKD.out hb) 1).trans rfl⟩ (fun hHeld => ?_)
 clear hK K hb
 refine norm_ (a':=?_) ?_ ?_
 rotate_left
 ·show Act.put _ (some 10) _ = _
  simp only [Act.put,List.setIfInBounds_toArray,List.set_cons_zero,List.set_cons_succ,i64_w,i32_w]
  rfl
 refine pure_ (i:=6) (N:=some 4) (v:=?_) (a':=?_) #[tT,tT,tT,tT,tT,tT,tT] rfl rfl (by kernel_rfl) (fun _ _ _ h => h) (Or.inl ⟨by rfl,?_⟩) ?_ ?_
 rotate_left
 ·intro w'
  go_simp
  with_reducible rfl
 rotate_left
 ·exact pa
 refine done_ (by kernel_rfl) ?_
 try go_wp2
 go_ret
 exact ⟨rfl,ib⟩
theorem slices_ContainsFunc_2_int64_2_int64.index (k : Nat) (A0 : Option Addr) (c0 : Nat) (l0 : List (S67)) (cl : List (List (S67)) × Int) (r : Int) (w : World) {gE gM : Nat} {AE : Option Addr} {cE : Nat} (hr0 : Kd.C k67 w A0 l0.length l0) (hc0 : l0.length ≤ c0) (hE : w.cell? ⟨gE,0,none⟩ = some (.slice AE cl.1.length cE)) (hEr : Kd.C (Kd.slice 67 k67) w AE cl.1.length cl.1) (hM : w.cell? ⟨gM,0,none⟩ = some (.int .i64 cl.2)) (h : slices_ContainsFunc_2_int64_2_int64.ix k l0 cl 0 = some r) :
  Calls Try.prog 68 #[.slice A0 l0.length c0,.func (.func 48) #[] #[.pointer (some ⟨gE,0,none⟩),.pointer (some ⟨gM,0,none⟩)]] w fun e w' => e = .returned (.int .i64 r) ∧ Below w.heap.size w w':=by
 have hu67:=Try.underlying67
 have HR0:=Aside0.mk hr0
 have HC0:=Aside0.mk hc0
 have HE:=Aside0.mk hE
 have HM:=Aside0.mk hM
 have HER:=Aside0.mk hEr
 clear hr0 hc0 hE hM hEr
 have HB:=Aside0.mk (Below.refl w.heap.size w)
 have H':=Aside0.mk h
 clear h
 go_enter Try.func68,Try.ntmps68
 go_wp2
 repeat (go_quiet (fail);try go_wp2)
 go_loopg [5,8] k (fun kq v5 v8 w' => ∃ (x8_1 : Int),v8 = .int .i64 x8_1 ∧ Aside0 (slices_ContainsFunc_2_int64_2_int64.ix kq l0 cl x8_1 = some r) ∧ Aside0 (kq ≤ k) ∧ Aside0 (Below w.heap.size w w'))
 case atStart => exact ⟨(0),(by first | rfl | (simp;done) | (simp [*];done)),H',⟨Nat.le_refl _⟩,⟨ib⟩⟩
 case round =>
  clear H'
  obtain ⟨x8_1,rfl,HA,HK1,HB⟩:=hrel
  cases gk with
  | zero => exact absurd HA.out (by simp [slices_ContainsFunc_2_int64_2_int64.ix])
  | succ k1 =>
   have H:=HA.out
   clear HA
   simp only [slices_ContainsFunc_2_int64_2_int64.ix] at H
   by_cases c4 : x8_1 < (l0.length : Int)
   ·rw [if_pos c4] at H
    have c4b0 : decide (x8_1 < (l0.length : Int)) = true:=decide_eq_true c4
    by_cases c5 : 0 ≤ x8_1
    ·rw [if_pos c5] at H
     have c5b0 : decide (0 ≤ x8_1) = true:=decide_eq_true c5
     by_cases m0 : 0 ≤ cl.2
     ·rw [if_pos m0] at H
      by_cases m1 : cl.2 < (cl.1.length : Int)
      ·rw [if_pos m1] at H
       obtain ⟨t,A1,H⟩:=bE.mp H
       obtain ⟨ad367,e367,hx367_0,hx367_1⟩:=at_T67 HR0.out x8_1 c5 c4
       cases e367
       replace hx367_0:=cq HB.out hx367_0
       replace hx367_1:=cq HB.out hx367_1
       have HCL:=Aside0.mk (fun (W : World) (hb : Below w.heap.size w W) => slices_ContainsFunc_2_int64_2_int64.clo k1 (rd_T67 l0 x8_1).f0 (rd_T67 l0 x8_1).f1 cl.1 cl.2 t W gE gM AE cE m0 m1 ((hb.cell (bL w _ HE.out)).trans HE.out) (Kd.C_below HER.out hb) ((hb.cell (bL w _ HM.out)).trans HM.out) A1)
       clear A1 m0 m1
       replace c5:=eq_true c5
       replace c4:=eq_true c4
       cases t with
       | true =>
        rw [if_pos rfl] at H
        obtain rfl:=Option.some.inj H
        go_wp2_with (go_at_call 48;refine (HCL.out _ ib).mono ?_;rintro e w5 ⟨rfl,hb⟩;have HBn_:=sb hb;clear HB;have HB:=HBn_;clear HBn_ hb)
        repeat (go_quiet (fail);try go_wp2)
        go_ret
        exact ⟨rfl,ib⟩
       | false =>
        rw [if_neg (by decide)] at H
        have H':=Aside0.mk H
        clear H
        go_wp2_with (go_at_call 48;refine (HCL.out _ ib).mono ?_;rintro e w5 ⟨rfl,hb⟩;have HBn_:=sb hb;clear HB;have HB:=HBn_;clear HBn_ hb)
        repeat (go_quiet (fail);try go_wp2)
        go_roundg k1
        case measure => have:=HK1.out;omega
        case rel => exact ⟨(wrap64 (x8_1 + 1)),(by first | rfl | (simp;done) | (simp [*];done)),H',⟨by have:=HK1.out;omega⟩,⟨ib⟩⟩
      ·rw [if_neg m1] at H
       exact absurd H (by simp)
     ·rw [if_neg m0] at H
      exact absurd H (by simp)
    ·rw [if_neg c5] at H
     exact absurd H (by simp)
   ·rw [if_neg c4] at H
    have c4b0 : decide (x8_1 < (l0.length : Int)) = false:=decide_eq_false c4
    clear c4
    obtain rfl:=Option.some.inj H
    go_wp2
    repeat (go_quiet (fail);try go_wp2)
    go_ret
    exact ⟨rfl,ib⟩
theorem slices_ContainsFunc_2_int64_2_int64.calls (k : Nat) (A0 : Option Addr) (c0 : Nat) (l0 : List (S67)) (cl : List (List (S67)) × Int) (r : Bool) (w : World) {gE gM : Nat} (hr0 : Kd.C k67 w A0 l0.length l0) (hc0 : l0.length ≤ c0) (hcl : ∃ (AE : Option Addr) (cE : Nat),w.cell? ⟨gE,0,none⟩ = some (.slice AE cl.1.length cE) ∧ Kd.C (Kd.slice 67 k67) w AE cl.1.length cl.1) (hM : w.cell? ⟨gM,0,none⟩ = some (.int .i64 cl.2)) (h : slices_ContainsFunc_2_int64_2_int64.f k l0 cl = some r) :
  Calls Try.prog 47 #[.slice A0 l0.length c0,.func (.func 48) #[] #[.pointer (some ⟨gE,0,none⟩),.pointer (some ⟨gM,0,none⟩)]] w fun e w' => e = .returned (.bool r) ∧ Below w.heap.size w w':=by
 obtain ⟨AE,cE,hE,hEr⟩:=hcl
 have HB:=Aside0.mk (Below.refl w.heap.size w)
 obtain ⟨t,h2,ht⟩:=bE.mp (show (slices_ContainsFunc_2_int64_2_int64.ix k l0 cl 0).bind (fun t => some (decide (t ≥ 0))) = some r from h)
 obtain rfl:=Option.some.inj ht
 have HC:=Aside0.mk (slices_ContainsFunc_2_int64_2_int64.index k A0 c0 l0 cl t w hr0 hc0 hE hEr hM h2)
 clear h h2 hr0 hc0 hE hEr hM ht
 go_enter Try.func47,Try.ntmps47
 go_wp2_with (first | ((with_reducible refine gate_callee (f:=68) rfl ?_);refine goesL_ _ rfl rfl Try.func68 (by kernel_rfl) rfl #[.slice A0 l0.length c0,.func (.func 48) #[] #[.pointer (some ⟨gE,0,none⟩),.pointer (some ⟨gM,0,none⟩)]] rfl (by (try simp only [mT,mC,mN]);first | done | rfl | (simp only [lD,lT];rfl)) ?_;(with_reducible refine HC.out.mono ?_);rintro e w5 ⟨rfl,hb⟩;refine ⟨_,rfl,?_⟩;have HBn_:=sb hb;clear HB;have HB:=HBn_;clear HBn_ hb))
 go_ret
 exact ⟨by first | rfl | (simp;done) | (simp [*];done),ib⟩
end Go.Proofs.Ytpeebobdbaemiaa.PFnExactNeighboursOf
