/- Contracts of functions that FnExactEdgesOf reaches, out of the lines of the kit's print. -/
import Derived.Test.YtpeebobdbaemiaaQFnExactEdgesOfx0
namespace Go.Proofs.Ytpeebobdbaemiaa.PFnExactEdgesOf
set_option maxHeartbeats 8000000
set_option maxRecDepth 100000
open Go.RowKit Go.Proofs.YtpeebobdbaemiaaW.PrintWords Go.Proofs.YtpeebobdbaemiaaW.PrintLast Go.Proofs.YtpeebobdbaemiaaW.PrintMore
open Bool renaming true → tT, false → fF
open Go.World renaming block_lt_of_cell? → bL
open List renaming length_take → lT, length_drop → lD, map_toArray → mT, map_cons → mC, map_nil → mN
attribute [local go_sem] max2_int min2_int max_two min_two max_three min_three max_four min_four
set_option linter.unusedVariables false
set_option linter.unusedSimpArgs false
def impl_ringEdges.l0 : Nat → List Int → List (S67) → List Int → Int → Int → Option ((List (S67)))
 | 0,_,_,_,_,_ => none
 | k + 1,x0,x3,x8,x9,x10 => if x10 < x9 then (if 0 ≤ x10 then (if x10 < (x8.length : Int) then (if (x0.length : Int) = 0 then (none) else (if 0 ≤ (Int.tmod (wrap64 (x10 + 1)) (x0.length : Int)) then (if (Int.tmod (wrap64 (x10 + 1)) (x0.length : Int)) < (x0.length : Int) then (if x3.length < 8796093022208 then (impl_ringEdges.l0 k x0 (x3 ++ [(⟨mn (rd x8 x10) (rd x0 (Int.tmod (wrap64 (x10 + 1)) (x0.length : Int))),mx (rd x8 x10) (rd x0 (Int.tmod (wrap64 (x10 + 1)) (x0.length : Int)))⟩ : S67)]) x8 x9 (wrap64 (x10 + 1))) else (none)) else (none)) else (none))) else (none)) else (none)) else (some x3)
def impl_ringEdges.f (k : Nat) (l0 : List Int) : Option ((List (S67))):=impl_ringEdges.l0 k l0 (([] : List (S67))) l0 (l0.length : Int) 0
theorem impl_ringEdges.calls (k : Nat) (A0 : Option Addr) (c0 : Nat) (l0 : List Int) (r : List (S67)) (w : World) (hr0 : Kd.C (Kd.int .i64) w A0 l0.length l0) (hc0 : l0.length ≤ c0) (h : impl_ringEdges.f k l0 = some r) :
  Calls Try.prog 34 #[.slice A0 l0.length c0] w fun e w' => ∃ v0_ : Value,e = .returned (v0_) ∧ Kd.R k67 67 w' w.heap.size (fun _ => True) v0_ r ∧ Below w.heap.size w w':=by
 have hu67:=Try.underlying67
 have HR0:=Aside0.mk hr0
 have HC0:=Aside0.mk hc0
 clear hr0 hc0
 have HB:=Aside0.mk (Below.refl w.heap.size w)
 have H : (impl_ringEdges.l0 k l0 (([] : List (S67))) l0 (l0.length : Int) 0) = some r:=h
 clear h
 obtain ⟨y372,hy372⟩ : ∃ y_ : List (S67),y_ = (([] : List (S67))):=⟨_,rfl⟩
 replace H : (impl_ringEdges.l0 k l0 y372 l0 (l0.length : Int) 0) = some r:=by first | (rw [hy372];with_reducible exact H) | (have H2_:=(Option.bind_some _ _).symm.trans H;rw [hy372];with_reducible exact H2_) | (have H2_:=(Option.bind_some _ _).symm.trans H;with_reducible exact H2_) | with_reducible exact H | (rw [hy372];exact H) | exact H
 have Ny372:=Aside0.mk hy372
 clear hy372
 have H':=Aside0.mk H
 clear H
 go_enter Try.func34,Try.ntmps34
 go_wp2_with (first | ((with_reducible refine gate_dst (N:=7) rfl ?_);refine Kd.R_lit k67 _ 67 ?hg (N:=7) ?hd (xs:=([] : List (S67))) (inner:=[]) (ok:=fun _ => True) (okp:=fun _ => True) ?hr ?hp (fun _ hk => hk) trivial (Below.refl _ _) (Nat.le_refl _) (by simp) ?_;(case hd => rfl);(case hg => rfl);(case hr => first | (go_simp;done) | (go_simp;rfl));(case hp => exact (Reps.none _ _));intro v373 w2 ho3 hb hg_ hnew_;clear hg_ hnew_;(first | rw [← Ny372.out] at ho3 | (simp only [Int.reduceToNat] at ho3;rw [← Ny372.out] at ho3));have HO374:=Aside0.mk (Kd.R_lower ho3 (below_size ib));replace HB:=sb hb;clear hb ho3))
 go_loopg [3,10] k (fun kq v3 v10 w' => ∃ (x3_1 : List (S67)) (x10_1 : Int),v10 = .int .i64 x10_1 ∧ Aside0 (impl_ringEdges.l0 kq l0 x3_1 l0 (l0.length : Int) x10_1 = some r) ∧ Aside0 (kq ≤ k) ∧ Aside0 (Kd.R k67 67 w' w.heap.size (fun _ => True) v3 x3_1) ∧ Aside0 (Below w.heap.size w w'))
 case atStart => exact ⟨(y372),(0),(by first | rfl | (simp;done) | (simp [*];done)),H',⟨Nat.le_refl _⟩,⟨rO HO374.out⟩,⟨ib⟩⟩
 case round =>
  clear H'
  try clear p2
  try clear c3
  obtain ⟨x3_1,x10_1,rfl,HA,HK1,HO_3,HB⟩:=hrel
  cases gk with
  | zero => exact absurd HA.out (by simp [impl_ringEdges.l0])
  | succ k1 =>
   have H:=HA.out
   clear HA
   simp only [impl_ringEdges.l0] at H
   by_cases c4 : x10_1 < (l0.length : Int)
   ·rw [if_pos c4] at H
    have c4b0 : decide (x10_1 < (l0.length : Int)) = true:=decide_eq_true c4
    clear c4
    by_cases c5 : 0 ≤ x10_1
    ·rw [if_pos c5] at H
     have c5b0 : decide (0 ≤ x10_1) = true:=decide_eq_true c5
     clear c5
     by_cases c6 : x10_1 < (l0.length : Int)
     ·rw [if_pos c6] at H
      have c6b0 : decide (x10_1 < (l0.length : Int)) = true:=decide_eq_true c6
      clear c6
      by_cases c7 : (l0.length : Int) = 0
      ·rw [if_pos c7] at H
       exact absurd H (by simp)
      ·rw [if_neg c7] at H
       have c7b0 : ((l0.length : Int) == 0) = false:=beq_eq_false_iff_ne.mpr c7
       have c7b1 : ((l0.length : Int) != 0) = true:=bne_iff_ne.mpr c7
       have c7b2 : ¬ (l0 = []):=fun h_ => c7 (by rw [h_];rfl)
       obtain ⟨ji8,hji8⟩ : ∃ j_ : Int,(Int.tmod (wrap64 (x10_1 + 1)) (l0.length : Int)) = j_:=⟨_,rfl⟩
       replace H : (if 0 ≤ (ji8) then (if (ji8) < (l0.length : Int) then (if x3_1.length < 8796093022208 then (impl_ringEdges.l0 k1 l0 (x3_1 ++ [(⟨mn (rd l0 x10_1) (rd l0 (ji8)),mx (rd l0 x10_1) (rd l0 (ji8))⟩ : S67)]) l0 (l0.length : Int) (wrap64 (x10_1 + 1))) else (none)) else (none)) else (none)) = some r:=by first | (rw [hji8] at H;exact H) | (simp only [hji8] at H ⊢;exact H)
       by_cases c9 : 0 ≤ (ji8)
       ·rw [if_pos c9] at H
        have c9b0 : decide (0 ≤ (ji8)) = true:=decide_eq_true c9
        clear c9
        by_cases c10 : (ji8) < (l0.length : Int)
        ·rw [if_pos c10] at H
         have c10b0 : decide ((ji8) < (l0.length : Int)) = true:=decide_eq_true c10
         clear c10
         obtain ⟨ji11,hji11⟩ : ∃ j_ : Int,(mn (rd l0 x10_1) (rd l0 (ji8))) = j_:=⟨_,rfl⟩
         replace H : (if x3_1.length < 8796093022208 then (impl_ringEdges.l0 k1 l0 (x3_1 ++ [(⟨ji11,mx (rd l0 x10_1) (rd l0 (ji8))⟩ : S67)]) l0 (l0.length : Int) (wrap64 (x10_1 + 1))) else (none)) = some r:=by first | (rw [hji11] at H;exact H) | (simp only [hji11] at H ⊢;exact H)
         have hji11_ : (if (rd l0 (ji8)) < (rd l0 x10_1) then (rd l0 (ji8)) else (rd l0 x10_1)) = ji11:=hji11
         obtain ⟨ji12,hji12⟩ : ∃ j_ : Int,(mx (rd l0 x10_1) (rd l0 (ji8))) = j_:=⟨_,rfl⟩
         replace H : (if x3_1.length < 8796093022208 then (impl_ringEdges.l0 k1 l0 (x3_1 ++ [(⟨ji11,ji12⟩ : S67)]) l0 (l0.length : Int) (wrap64 (x10_1 + 1))) else (none)) = some r:=by first | (rw [hji12] at H;exact H) | (simp only [hji12] at H ⊢;exact H)
         have hji12_ : (if (rd l0 x10_1) < (rd l0 (ji8)) then (rd l0 (ji8)) else (rd l0 x10_1)) = ji12:=hji12
         by_cases c13 : x3_1.length < 8796093022208
         ·rw [if_pos c13] at H
          have LMc13:=Aside0.mk c13
          clear c13
          obtain ⟨y377,hy377⟩ : ∃ y_ : List (S67),y_ = (x3_1 ++ [(⟨ji11,ji12⟩ : S67)]):=⟨_,rfl⟩
          replace H : (impl_ringEdges.l0 k1 l0 y377 l0 (l0.length : Int) (wrap64 (x10_1 + 1))) = some r:=by first | (rw [hy377];with_reducible exact H) | (have H2_:=(Option.bind_some _ _).symm.trans H;rw [hy377];with_reducible exact H2_) | (have H2_:=(Option.bind_some _ _).symm.trans H;with_reducible exact H2_) | with_reducible exact H | (rw [hy377];exact H) | exact H
          have Ny377:=Aside0.mk hy377
          clear hy377
          have H':=Aside0.mk H
          clear H
          have p375 : 0 ≤ (x10_1 : Int):=da
          have q375 : x10_1 < (l0.length : Int):=da
          obtain ⟨ad375,e375,hx375_0⟩:=Kd.at_int HR0.out x10_1 p375 q375
          cases e375
          replace hx375_0:=cq HB.out hx375_0
          replace p375:=eq_true p375
          replace q375:=eq_true q375
          have p376 : 0 ≤ ((ji8) : Int):=da
          have q376 : (ji8) < (l0.length : Int):=da
          obtain ⟨ad376,e376,hx376_0⟩:=Kd.at_int HR0.out (ji8) p376 q376
          obtain rfl : ad375 = ad376:=(by injection e376)
          replace hx376_0:=cq HB.out hx376_0
          replace p376:=eq_true p376
          replace q376:=eq_true q376
          go_wp2_with (first | ((with_reducible refine gate_builtin (b:=.append) (xs:=#[.tmp 23,.tmp 31]) rfl ?_);at_builtin;refine Kd.R_append k67 (w0:=w) w.heap.size rfl (.tmp 23) (.tmp 31) 62 67 (.agg #[(.int .i64 0),(.int .i64 0)]) 16 rfl Try.underlying62 info67 rfl (by decide) (by omega) u3 x3_1 (⟨ji11,ji12⟩ : S67) [.int .i64 ji11,.int .i64 ji12] (fun _ => True) (fun _ => False) rfl rfl ?aP (fun _ hk => hk.elim) ?aF ?aO ?aB ?aS ?aL ?_;(case aP => exact k67_mkM _ _ _ (⟨ji11,ji12⟩ : S67));(case aB => exact ib);(case aF => exact (fun _ _ => trivial));(case aO => exact (rO HO_3.out));(case aS => exact (below_size ib));(case aL => have:=LMc13.out;omega);intro v378 w14 ho hb hg hat;rw [← Ny377.out] at ho;replace HB:=Aside0.mk (hb);have HO379:=Aside0.mk (ho);clear HO_3;clear ho hb hg hat))
          go_roundg k1
          case measure => have:=HK1.out;omega
          case rel => exact ⟨(y377),(wrap64 (x10_1 + 1)),(by first | rfl | (simp;done) | (simp [*];done)),H',⟨by have:=HK1.out;omega⟩,⟨rO HO379.out⟩,⟨ib⟩⟩
         ·rw [if_neg c13] at H
          exact absurd H (by simp)
        ·rw [if_neg c10] at H
         exact absurd H (by simp)
       ·rw [if_neg c9] at H
        exact absurd H (by simp)
     ·first | (exfalso;have z_:=of_decide_eq_true c4b0;omega) | (rw [if_neg c6] at H;exact absurd H (by simp))
    ·rw [if_neg c5] at H
     exact absurd H (by simp)
   ·rw [if_neg c4] at H
    have c4b0 : decide (x10_1 < (l0.length : Int)) = false:=decide_eq_false c4
    clear c4
    obtain rfl:=Option.some.inj H
    go_wp2
    go_ret
    exact ⟨_,by first | rfl | (simp [errW_none,errW_some] <;> rfl) | (simp [*,errW_none,errW_some] <;> rfl),rO HO_3.out,ib⟩
def cmp_isNaN_int64.f (a0 : Int) : Option (Bool):=some (a0 != a0)
theorem cmp_isNaN_int64.calls (a0 : Int) (r : Bool) (w : World) (h : cmp_isNaN_int64.f a0 = some r) :
  Calls Try.prog 98 #[.int .i64 a0] w fun e w' => e = .returned (.bool r) ∧ Drawn0 w w':=by
 have H : (some (a0 != a0)) = some r:=h
 clear h
 obtain rfl:=Option.some.inj H
 go_enter Try.func98,Try.ntmps98
 go_wp2
 go_ret
 exact ⟨by first | rfl | (simp;done) | (simp [*];done),by repeat (first | exact Drawn0.refl _ | apply Drawn0.step)⟩
def cmp_Compare_int64.f (a0 : Int) (a1 : Int) : Option (Int):=(cmp_isNaN_int64.f a0).bind fun t380 => ((cmp_isNaN_int64.f a1).bind fun t381 => (if t380 = true then (if t381 = true then (some 0) else (some (-1))) else (if t381 = true then (some 1) else (if a0 < a1 then (some (-1)) else (if a0 > a1 then (some 1) else (some 0))))))
theorem cmp_Compare_int64.calls (a0 : Int) (a1 : Int) (r : Int) (w : World) (h : cmp_Compare_int64.f a0 a1 = some r) :
  Calls Try.prog 85 #[.int .i64 a0,.int .i64 a1] w fun e w' => e = .returned (.int .i64 r) ∧ Drawn0 w w':=by
 have H : ((cmp_isNaN_int64.f a0).bind fun t380 => ((cmp_isNaN_int64.f a1).bind fun t381 => (if t380 = true then (if t381 = true then (some 0) else (some (-1))) else (if t381 = true then (some 1) else (if a0 < a1 then (some (-1)) else (if a0 > a1 then (some 1) else (some 0))))))) = some r:=h
 clear h
 replace H:=Option.bind_eq_some_iff.mp H
 obtain ⟨t380,A30,H⟩:=H
 replace H : ((cmp_isNaN_int64.f a1).bind fun t381 => (if t380 = true then (if t381 = true then (some 0) else (some (-1))) else (if t381 = true then (some 1) else (if a0 < a1 then (some (-1)) else (if a0 > a1 then (some 1) else (some 0)))))) = some r:=H
 have A3:=Aside0.mk A30
 clear A30
 replace H:=Option.bind_eq_some_iff.mp H
 obtain ⟨t381,A40,H⟩:=H
 replace H : (if t380 = true then (if t381 = true then (some 0) else (some (-1))) else (if t381 = true then (some 1) else (if a0 < a1 then (some (-1)) else (if a0 > a1 then (some 1) else (some 0))))) = some r:=H
 have A4:=Aside0.mk A40
 clear A40
 by_cases c5 : t380 = true
 ·subst c5
  have H1 : (if t381 = true then (some 0) else (some (-1))) = some r:=by rw [if_pos rfl] at H;exact H
  clear H
  have H:=H1
  clear H1
  by_cases c6 : t381 = true
  ·subst c6
   have H1 : (some 0) = some r:=by rw [if_pos rfl] at H;exact H
   clear H
   have H:=H1
   clear H1
   obtain rfl:=Option.some.inj H
   go_enter Try.func85,Try.ntmps85
   go_wp2_with (first | ((with_reducible refine gate_callee (f:=98) rfl ?_);refine goesL_ (some 8) rfl rfl Try.func98 (by kernel_rfl) rfl #[.int .i64 a0] rfl (by (try simp only [mT,mC,mN]);first | done | rfl | (simp only [lD,lT];rfl)) ?_;(with_reducible refine (cmp_isNaN_int64.calls a0 true _ A3.out).mono ?_);rintro e w' ⟨rfl,⟨nd,rfl⟩⟩;refine ⟨_,rfl,?_⟩) | ((with_reducible refine gate_callee (f:=98) rfl ?_);refine goesL_ (some 10) rfl rfl Try.func98 (by kernel_rfl) rfl #[.int .i64 a1] rfl (by (try simp only [mT,mC,mN]);first | done | rfl | (simp only [lD,lT];rfl)) ?_;(with_reducible refine (cmp_isNaN_int64.calls a1 true _ A4.out).mono ?_);rintro e w' ⟨rfl,⟨nd,rfl⟩⟩;refine ⟨_,rfl,?_⟩))
   go_ret
   exact ⟨by first | rfl | (simp;done) | (simp [*];done),by repeat (first | exact Drawn0.refl _ | apply Drawn0.step)⟩
  ·replace c6:=Bool.eq_false_iff.mpr c6
   subst c6
   have H1 : (some (-1)) = some r:=by rw [if_neg (show ¬ (false = true) by decide)] at H;exact H
   clear H
   have H:=H1
   clear H1
   obtain rfl:=Option.some.inj H
   go_enter Try.func85,Try.ntmps85
   go_wp2_with (first | ((with_reducible refine gate_callee (f:=98) rfl ?_);refine goesL_ (some 8) rfl rfl Try.func98 (by kernel_rfl) rfl #[.int .i64 a0] rfl (by (try simp only [mT,mC,mN]);first | done | rfl | (simp only [lD,lT];rfl)) ?_;(with_reducible refine (cmp_isNaN_int64.calls a0 true _ A3.out).mono ?_);rintro e w' ⟨rfl,⟨nd,rfl⟩⟩;refine ⟨_,rfl,?_⟩) | ((with_reducible refine gate_callee (f:=98) rfl ?_);refine goesL_ (some 10) rfl rfl Try.func98 (by kernel_rfl) rfl #[.int .i64 a1] rfl (by (try simp only [mT,mC,mN]);first | done | rfl | (simp only [lD,lT];rfl)) ?_;(with_reducible refine (cmp_isNaN_int64.calls a1 false _ A4.out).mono ?_);rintro e w' ⟨rfl,⟨nd,rfl⟩⟩;refine ⟨_,rfl,?_⟩))
   go_ret
   exact ⟨by first | rfl | (simp;done) | (simp [*];done),by repeat (first | exact Drawn0.refl _ | apply Drawn0.step)⟩
 ·replace c5:=Bool.eq_false_iff.mpr c5
  subst c5
  have H1 : (if t381 = true then (some 1) else (if a0 < a1 then (some (-1)) else (if a0 > a1 then (some 1) else (some 0)))) = some r:=by rw [if_neg (show ¬ (false = true) by decide)] at H;exact H
  clear H
  have H:=H1
  clear H1
  by_cases c7 : t381 = true
  ·subst c7
   have H1 : (some 1) = some r:=by rw [if_pos rfl] at H;exact H
   clear H
   have H:=H1
   clear H1
   obtain rfl:=Option.some.inj H
   go_enter Try.func85,Try.ntmps85
   go_wp2_with (first | ((with_reducible refine gate_callee (f:=98) rfl ?_);refine goesL_ (some 8) rfl rfl Try.func98 (by kernel_rfl) rfl #[.int .i64 a0] rfl (by (try simp only [mT,mC,mN]);first | done | rfl | (simp only [lD,lT];rfl)) ?_;(with_reducible refine (cmp_isNaN_int64.calls a0 false _ A3.out).mono ?_);rintro e w' ⟨rfl,⟨nd,rfl⟩⟩;refine ⟨_,rfl,?_⟩) | ((with_reducible refine gate_callee (f:=98) rfl ?_);refine goesL_ (some 10) rfl rfl Try.func98 (by kernel_rfl) rfl #[.int .i64 a1] rfl (by (try simp only [mT,mC,mN]);first | done | rfl | (simp only [lD,lT];rfl)) ?_;(with_reducible refine (cmp_isNaN_int64.calls a1 true _ A4.out).mono ?_);rintro e w' ⟨rfl,⟨nd,rfl⟩⟩;refine ⟨_,rfl,?_⟩))
   go_ret
   exact ⟨by first | rfl | (simp;done) | (simp [*];done),by repeat (first | exact Drawn0.refl _ | apply Drawn0.step)⟩
  ·replace c7:=Bool.eq_false_iff.mpr c7
   subst c7
   have H1 : (if a0 < a1 then (some (-1)) else (if a0 > a1 then (some 1) else (some 0))) = some r:=by rw [if_neg (show ¬ (false = true) by decide)] at H;exact H
   clear H
   have H:=H1
   clear H1
   by_cases c8 : a0 < a1
   ·rw [if_pos c8] at H
    have c8b0 : decide (a0 < a1) = true:=decide_eq_true c8
    clear c8
    obtain rfl:=Option.some.inj H
    go_enter Try.func85,Try.ntmps85
    go_wp2_with (first | ((with_reducible refine gate_callee (f:=98) rfl ?_);refine goesL_ (some 8) rfl rfl Try.func98 (by kernel_rfl) rfl #[.int .i64 a0] rfl (by (try simp only [mT,mC,mN]);first | done | rfl | (simp only [lD,lT];rfl)) ?_;(with_reducible refine (cmp_isNaN_int64.calls a0 false _ A3.out).mono ?_);rintro e w' ⟨rfl,⟨nd,rfl⟩⟩;refine ⟨_,rfl,?_⟩) | ((with_reducible refine gate_callee (f:=98) rfl ?_);refine goesL_ (some 10) rfl rfl Try.func98 (by kernel_rfl) rfl #[.int .i64 a1] rfl (by (try simp only [mT,mC,mN]);first | done | rfl | (simp only [lD,lT];rfl)) ?_;(with_reducible refine (cmp_isNaN_int64.calls a1 false _ A4.out).mono ?_);rintro e w' ⟨rfl,⟨nd,rfl⟩⟩;refine ⟨_,rfl,?_⟩))
    go_ret
    exact ⟨by first | rfl | (simp;done) | (simp [*];done),by repeat (first | exact Drawn0.refl _ | apply Drawn0.step)⟩
   ·rw [if_neg c8] at H
    have c8b0 : decide (a0 < a1) = false:=decide_eq_false c8
    clear c8
    by_cases c9 : a0 > a1
    ·rw [if_pos c9] at H
     have c9b0 : decide (a1 < a0) = true:=decide_eq_true c9
     clear c9
     obtain rfl:=Option.some.inj H
     go_enter Try.func85,Try.ntmps85
     go_wp2_with (first | ((with_reducible refine gate_callee (f:=98) rfl ?_);refine goesL_ (some 8) rfl rfl Try.func98 (by kernel_rfl) rfl #[.int .i64 a0] rfl (by (try simp only [mT,mC,mN]);first | done | rfl | (simp only [lD,lT];rfl)) ?_;(with_reducible refine (cmp_isNaN_int64.calls a0 false _ A3.out).mono ?_);rintro e w' ⟨rfl,⟨nd,rfl⟩⟩;refine ⟨_,rfl,?_⟩) | ((with_reducible refine gate_callee (f:=98) rfl ?_);refine goesL_ (some 10) rfl rfl Try.func98 (by kernel_rfl) rfl #[.int .i64 a1] rfl (by (try simp only [mT,mC,mN]);first | done | rfl | (simp only [lD,lT];rfl)) ?_;(with_reducible refine (cmp_isNaN_int64.calls a1 false _ A4.out).mono ?_);rintro e w' ⟨rfl,⟨nd,rfl⟩⟩;refine ⟨_,rfl,?_⟩))
     go_ret
     exact ⟨by first | rfl | (simp;done) | (simp [*];done),by repeat (first | exact Drawn0.refl _ | apply Drawn0.step)⟩
    ·rw [if_neg c9] at H
     have c9b0 : decide (a1 < a0) = false:=decide_eq_false c9
     clear c9
     obtain rfl:=Option.some.inj H
     go_enter Try.func85,Try.ntmps85
     go_wp2_with (first | ((with_reducible refine gate_callee (f:=98) rfl ?_);refine goesL_ (some 8) rfl rfl Try.func98 (by kernel_rfl) rfl #[.int .i64 a0] rfl (by (try simp only [mT,mC,mN]);first | done | rfl | (simp only [lD,lT];rfl)) ?_;(with_reducible refine (cmp_isNaN_int64.calls a0 false _ A3.out).mono ?_);rintro e w' ⟨rfl,⟨nd,rfl⟩⟩;refine ⟨_,rfl,?_⟩) | ((with_reducible refine gate_callee (f:=98) rfl ?_);refine goesL_ (some 10) rfl rfl Try.func98 (by kernel_rfl) rfl #[.int .i64 a1] rfl (by (try simp only [mT,mC,mN]);first | done | rfl | (simp only [lD,lT];rfl)) ?_;(with_reducible refine (cmp_isNaN_int64.calls a1 false _ A4.out).mono ?_);rintro e w' ⟨rfl,⟨nd,rfl⟩⟩;refine ⟨_,rfl,?_⟩))
     go_ret
     exact ⟨by first | rfl | (simp;done) | (simp [*];done),by repeat (first | exact Drawn0.refl _ | apply Drawn0.step)⟩
def slices_Compare_int64_int64.l0 : Nat → List Int → List Int → List Int → Int → Int → Option (Int)
 | 0,_,_,_,_,_ => none
 | k + 1,x0,x1,x9,x10,x11 => if x11 < x10 then (if 0 ≤ x11 then (if x11 < (x9.length : Int) then (if x11 ≥ (x1.length : Int) then (some 1) else (if x11 < (x1.length : Int) then ((cmp_Compare_int64.f (rd x9 x11) (rd x1 x11)).bind fun t384 => (if t384 = 0 then (slices_Compare_int64_int64.l0 k x0 x1 x9 x10 (wrap64 (x11 + 1))) else (some t384))) else (none))) else (none)) else (none)) else (if (x0.length : Int) < (x1.length : Int) then (some (-1)) else (some 0))
def slices_Compare_int64_int64.f (k : Nat) (l0 : List Int) (l1 : List Int) : Option (Int):=slices_Compare_int64_int64.l0 k l0 l1 l0 (l0.length : Int) 0
theorem slices_Compare_int64_int64.calls (k : Nat) (A0 : Option Addr) (c0 : Nat) (l0 : List Int) (A1 : Option Addr) (c1 : Nat) (l1 : List Int) (r : Int) (w : World) (hr0 : Kd.C (Kd.int .i64) w A0 l0.length l0) (hc0 : l0.length ≤ c0) (hr1 : Kd.C (Kd.int .i64) w A1 l1.length l1) (hc1 : l1.length ≤ c1) (h : slices_Compare_int64_int64.f k l0 l1 = some r) :
  Calls Try.prog 59 #[.slice A0 l0.length c0,.slice A1 l1.length c1] w fun e w' => e = .returned (.int .i64 r) ∧ Drawn0 w w':=by
 have HR0:=Aside0.mk hr0
 have HC0:=Aside0.mk hc0
 clear hr0 hc0
 have HR1:=Aside0.mk hr1
 have HC1:=Aside0.mk hc1
 clear hr1 hc1
 have H : (slices_Compare_int64_int64.l0 k l0 l1 l0 (l0.length : Int) 0) = some r:=h
 clear h
 have H':=Aside0.mk H
 clear H
 go_enter Try.func59,Try.ntmps59
 go_wp2
 go_loopg [11] k (fun kq v11 w' => ∃ (x11_1 : Int),v11 = .int .i64 x11_1 ∧ Aside0 (slices_Compare_int64_int64.l0 kq l0 l1 l0 (l0.length : Int) x11_1 = some r) ∧ Aside0 (kq ≤ k) ∧ Drawn0 w w')
 case atStart => exact ⟨(0),(by first | rfl | (simp;done) | (simp [*];done)),H',⟨Nat.le_refl _⟩,by repeat (first | exact Drawn0.refl _ | apply Drawn0.step)⟩
 case round =>
  clear H'
  try clear c1
  try clear p2
  obtain ⟨x11_1,rfl,HA,HK1,⟨m1,rfl⟩⟩:=hrel
  cases gk with
  | zero => exact absurd HA.out (by simp [slices_Compare_int64_int64.l0])
  | succ k1 =>
   have H:=HA.out
   clear HA
   simp only [slices_Compare_int64_int64.l0] at H
   by_cases c3 : x11_1 < (l0.length : Int)
   ·rw [if_pos c3] at H
    have c3b0 : decide (x11_1 < (l0.length : Int)) = true:=decide_eq_true c3
    clear c3
    by_cases c4 : 0 ≤ x11_1
    ·rw [if_pos c4] at H
     have c4b0 : decide (0 ≤ x11_1) = true:=decide_eq_true c4
     clear c4
     by_cases c5 : x11_1 < (l0.length : Int)
     ·rw [if_pos c5] at H
      have c5b0 : decide (x11_1 < (l0.length : Int)) = true:=decide_eq_true c5
      clear c5
      by_cases c6 : x11_1 ≥ (l1.length : Int)
      ·rw [if_pos c6] at H
       have c6b0 : decide ((l1.length : Int) ≤ x11_1) = true:=decide_eq_true c6
       clear c6
       obtain rfl:=Option.some.inj H
       have p382 : 0 ≤ (x11_1 : Int):=da
       have q382 : x11_1 < (l0.length : Int):=da
       obtain ⟨ad382,e382,hx382_0⟩:=Kd.at_int HR0.out x11_1 p382 q382
       cases e382
       replace p382:=eq_true p382
       replace q382:=eq_true q382
       go_wp2
       go_ret
       exact ⟨by first | rfl | (simp;done) | (simp [*];done),by repeat (first | exact Drawn0.refl _ | apply Drawn0.step)⟩
      ·rw [if_neg c6] at H
       have c6b0 : decide ((l1.length : Int) ≤ x11_1) = false:=decide_eq_false c6
       clear c6
       by_cases c7 : x11_1 < (l1.length : Int)
       ·rw [if_pos c7] at H
        have c7b0 : decide (x11_1 < (l1.length : Int)) = true:=decide_eq_true c7
        clear c7
        replace H:=Option.bind_eq_some_iff.mp H
        obtain ⟨t384,A80,H⟩:=H
        replace H : (if t384 = 0 then (slices_Compare_int64_int64.l0 k1 l0 l1 l0 (l0.length : Int) (wrap64 (x11_1 + 1))) else (some t384)) = some r:=H
        have A8:=Aside0.mk A80
        clear A80
        by_cases c9 : t384 = 0
        ·rw [if_pos c9] at H
         have c9b0 : (t384 == 0) = true:=beq_iff_eq.mpr c9
         have c9b1 : (t384 != 0) = false:=bne_eq_false_iff_eq.mpr c9
         clear c9
         have H':=Aside0.mk H
         clear H
         have p382 : 0 ≤ (x11_1 : Int):=da
         have q382 : x11_1 < (l0.length : Int):=da
         obtain ⟨ad382,e382,hx382_0⟩:=Kd.at_int HR0.out x11_1 p382 q382
         cases e382
         replace p382:=eq_true p382
         replace q382:=eq_true q382
         have p383 : 0 ≤ (x11_1 : Int):=da
         have q383 : x11_1 < (l1.length : Int):=da
         obtain ⟨ad383,e383,hx383_0⟩:=Kd.at_int HR1.out x11_1 p383 q383
         cases e383
         replace p383:=eq_true p383
         replace q383:=eq_true q383
         go_wp2_with (first | ((with_reducible refine gate_callee (f:=85) rfl ?_);refine goesL_ (some 26) rfl rfl Try.func85 (by kernel_rfl) rfl #[.int .i64 (rd l0 x11_1),.int .i64 (rd l1 x11_1)] rfl (by (try simp only [mT,mC,mN]);first | done | rfl | (simp only [lD,lT];rfl)) ?_;(with_reducible refine (cmp_Compare_int64.calls (rd l0 x11_1) (rd l1 x11_1) t384 _ A8.out).mono ?_);rintro e w' ⟨rfl,⟨nd,rfl⟩⟩;refine ⟨_,rfl,?_⟩))
         go_roundg k1
         case measure => have:=HK1.out;omega
         case rel => exact ⟨(wrap64 (x11_1 + 1)),(by first | rfl | (simp;done) | (simp [*];done)),H',⟨by have:=HK1.out;omega⟩,by repeat (first | exact Drawn0.refl _ | apply Drawn0.step)⟩
        ·rw [if_neg c9] at H
         have c9b0 : (t384 == 0) = false:=beq_eq_false_iff_ne.mpr c9
         have c9b1 : (t384 != 0) = true:=bne_iff_ne.mpr c9
         obtain rfl:=Option.some.inj H
         have p382 : 0 ≤ (x11_1 : Int):=da
         have q382 : x11_1 < (l0.length : Int):=da
         obtain ⟨ad382,e382,hx382_0⟩:=Kd.at_int HR0.out x11_1 p382 q382
         cases e382
         replace p382:=eq_true p382
         replace q382:=eq_true q382
         have p383 : 0 ≤ (x11_1 : Int):=da
         have q383 : x11_1 < (l1.length : Int):=da
         obtain ⟨ad383,e383,hx383_0⟩:=Kd.at_int HR1.out x11_1 p383 q383
         cases e383
         replace p383:=eq_true p383
         replace q383:=eq_true q383
         go_wp2_with (first | ((with_reducible refine gate_callee (f:=85) rfl ?_);refine goesL_ (some 26) rfl rfl Try.func85 (by kernel_rfl) rfl #[.int .i64 (rd l0 x11_1),.int .i64 (rd l1 x11_1)] rfl (by (try simp only [mT,mC,mN]);first | done | rfl | (simp only [lD,lT];rfl)) ?_;(with_reducible refine (cmp_Compare_int64.calls (rd l0 x11_1) (rd l1 x11_1) t384 _ A8.out).mono ?_);rintro e w' ⟨rfl,⟨nd,rfl⟩⟩;refine ⟨_,rfl,?_⟩))
         go_ret
         exact ⟨by first | rfl | (simp;done) | (simp [*];done),by repeat (first | exact Drawn0.refl _ | apply Drawn0.step)⟩
       ·first | (exfalso;have z_:=of_decide_eq_false c6b0;omega) | (rw [if_neg c7] at H;exact absurd H (by simp))
     ·first | (exfalso;have z_:=of_decide_eq_true c3b0;omega) | (rw [if_neg c5] at H;exact absurd H (by simp))
    ·rw [if_neg c4] at H
     exact absurd H (by simp)
   ·rw [if_neg c3] at H
    have c3b0 : decide (x11_1 < (l0.length : Int)) = false:=decide_eq_false c3
    clear c3
    by_cases c10 : (l0.length : Int) < (l1.length : Int)
    ·rw [if_pos c10] at H
     have c10b0 : decide ((l0.length : Int) < (l1.length : Int)) = true:=decide_eq_true c10
     have c10b1 : decide (l0.length < l1.length) = true:=decide_eq_true (Int.ofNat_lt.mp c10)
     clear c10
     obtain rfl:=Option.some.inj H
     go_wp2
     go_ret
     exact ⟨by first | rfl | (simp;done) | (simp [*];done),by repeat (first | exact Drawn0.refl _ | apply Drawn0.step)⟩
    ·rw [if_neg c10] at H
     have c10b0 : decide ((l0.length : Int) < (l1.length : Int)) = false:=decide_eq_false c10
     have c10b1 : decide (l0.length < l1.length) = false:=decide_eq_false (fun h => c10 (Int.ofNat_lt.mpr h))
     clear c10
     obtain rfl:=Option.some.inj H
     go_wp2
     go_ret
     exact ⟨by first | rfl | (simp;done) | (simp [*];done),by repeat (first | exact Drawn0.refl _ | apply Drawn0.step)⟩
def slices_SortFunc_2_int64_2_int64.enc (x : S67) : List Value:=[.int .i64 x.f0,.int .i64 x.f1]
def slices_SortFunc_2_int64_2_int64.cf (x y : S67) : Int:=if x.f0 < y.f0 then -1 else if y.f0 < x.f0 then 1 else if x.f1 < y.f1 then -1 else if y.f1 < x.f1 then 1 else 0
def slices_SortFunc_2_int64_2_int64.f (l0 : List (S67)) (cl : Unit) : Option (List (S67)):=if l0.length < 4611686018427387904 then some (l0.mergeSort fun x y => decide (0 ≤ slices_SortFunc_2_int64_2_int64.cf y x)) else none
theorem slices_SortFunc_2_int64_2_int64.cf_eq (x y : S67) : slices_Compare_int64_int64.f 3 [x.f0,x.f1] [y.f0,y.f1] = some (slices_SortFunc_2_int64_2_int64.cf x y):=by
 have e1 : wrap64 (0 + 1) = 1:=by kernel_rfl
 have e2 : wrap64 (1 + 1) = 2:=by kernel_rfl
 have n1 : ∀ a b : Int,cmp_Compare_int64.f a b = some (if a < b then (-1) else if b < a then 1 else 0):=by
  intro a b
  simp only [cmp_Compare_int64.f,cmp_isNaN_int64.f,Option.bind_some,bne_self_eq_false,Bool.false_eq_true,if_false,gt_iff_lt]
  by_cases h : a < b
  ·simp [h]
  ·by_cases h2 : b < a <;> simp [h,h2]
 simp only [slices_Compare_int64_int64.f,slices_Compare_int64_int64.l0,n1,Option.bind_some,e1,e2,rd,slices_SortFunc_2_int64_2_int64.cf,List.length_cons,List.length_nil]
 by_cases h1 : x.f0 < y.f0
 ·simp [h1]
 ·by_cases h2 : y.f0 < x.f0
  ·simp [h1,h2]
  ·by_cases h3 : x.f1 < y.f1
   ·simp [h1,h2,h3]
   ·by_cases h4 : y.f1 < x.f1 <;> simp [h1,h2,h3,h4]
theorem slices_SortFunc_2_int64_2_int64.lt_iff (x y : S67) : Go.Proofs.ltOf slices_SortFunc_2_int64_2_int64.cf x y = decide (x.f0 < y.f0 ∨ x.f0 = y.f0 ∧ x.f1 < y.f1):=by
 unfold Go.Proofs.ltOf slices_SortFunc_2_int64_2_int64.cf
 apply decide_eq_decide.2
 split
 ·constructor <;> intro <;> omega
 ·split
  ·constructor <;> intro <;> omega
  ·split
   ·constructor <;> intro <;> omega
   ·split <;> constructor <;> intro <;> omega
theorem slices_SortFunc_2_int64_2_int64.swo : Go.Sort.SWO (Go.Proofs.ltOf slices_SortFunc_2_int64_2_int64.cf) where
 irrefl x:=by rw [slices_SortFunc_2_int64_2_int64.lt_iff];simp
 trans x y z h1 h2:=by rw [slices_SortFunc_2_int64_2_int64.lt_iff] at *;simp at *;omega
 ntrans x y z h1 h2:=by rw [slices_SortFunc_2_int64_2_int64.lt_iff] at *;simp at *;omega
theorem slices_SortFunc_2_int64_2_int64.tot (x y : S67) (h1 : Go.Proofs.ltOf slices_SortFunc_2_int64_2_int64.cf x y = false) (h2 : Go.Proofs.ltOf slices_SortFunc_2_int64_2_int64.cf y x = false) : x = y:=by
 rw [slices_SortFunc_2_int64_2_int64.lt_iff] at *
 cases x;cases y
 simp at *
 omega
theorem slices_SortFunc_2_int64_2_int64.boxrow {W : World} {g : Nat} {a b : Int} (h : W.heap[g]? = some (.cells #[.int .i64 a,.int .i64 b] 67 (0,0))) : Kd.C (Kd.int .i64) W (some ⟨g,0,none⟩) [a,b].length [a,b]:=by
 refine Kd.C_of_reads (d:=(0 : Int)) ⟨rfl,by simp,fun _ => ⟨_,rfl,fun j hj => ?_⟩⟩
 have hj2 : j < 2:=hj
 rcases (by omega : j = 0 ∨ j = 1) with rfl | rfl
 ·exact (blk_cell h 0).trans rfl
 ·exact (blk_cell h 1).trans rfl
theorem slices_SortFunc_2_int64_2_int64.clo (x y : S67) (W : World) :
  Calls Try.prog 36 (#[.agg (slices_SortFunc_2_int64_2_int64.enc x).toArray,.agg (slices_SortFunc_2_int64_2_int64.enc y).toArray] ++ #[]) W fun e w' => e = .returned (.int .i64 (slices_SortFunc_2_int64_2_int64.cf x y)) ∧ ∃ q os',w' = Go.Sort.grow (W.drewN q) os':=by
 have hcon:=fun A0 A1 (W' : World) h0 h1 => slices_Compare_int64_int64.calls 3 A0 2 [x.f0,x.f1] A1 2 [y.f0,y.f1] (slices_SortFunc_2_int64_2_int64.cf x y) W' h0 (Nat.le_refl _) h1 (Nat.le_refl _) (slices_SortFunc_2_int64_2_int64.cf_eq x y)
 show Calls Try.prog 36 #[.agg #[.int .i64 x.f0,.int .i64 x.f1],.agg #[.int .i64 y.f0,.int .i64 y.f1]] W _
 obtain ⟨x0,x1⟩:=x
 obtain ⟨y0,y1⟩:=y
 generalize slices_SortFunc_2_int64_2_int64.cf ⟨x0,x1⟩ ⟨y0,y1⟩ = r at hcon ⊢
 go_enter Try.func36,Try.ntmps36
 go_wp2
 have hb0 : ((W.alloc (.cells #[.int .i64 x0,.int .i64 x1] 67 (0,0))).alloc (.cells #[.int .i64 y0,.int .i64 y1] 67 (0,0))).heap[W.heap.size]? = some (.cells #[.int .i64 x0,.int .i64 x1] 67 (0,0)):=blk_alloc (blk_new W _) _
 have hb1 : ((W.alloc (.cells #[.int .i64 x0,.int .i64 x1] 67 (0,0))).alloc (.cells #[.int .i64 y0,.int .i64 y1] 67 (0,0))).heap[W.heap.size + 1]? = some (.cells #[.int .i64 y0,.int .i64 y1] 67 (0,0)):=by
  have h:=blk_new (W.alloc (.cells #[.int .i64 x0,.int .i64 x1] 67 (0,0))) (.cells #[.int .i64 y0,.int .i64 y1] 67 (0,0))
  have hs : (W.alloc (.cells #[.int .i64 x0,.int .i64 x1] 67 (0,0))).heap.size = W.heap.size + 1:=by rw [Go.Sort.alloc_eq_grow,Go.Sort.size_grow];rfl
  rw [hs] at h
  exact h
 have hg : (W.alloc (.cells #[.int .i64 x0,.int .i64 x1] 67 (0,0))).alloc (.cells #[.int .i64 y0,.int .i64 y1] 67 (0,0)) = Go.Sort.grow W #[.cells #[.int .i64 x0,.int .i64 x1] 67 (0,0),.cells #[.int .i64 y0,.int .i64 y1] 67 (0,0)]:=by
  rw [Go.Sort.alloc_eq_grow,Go.Sort.alloc_eq_grow,Go.Sort.grow_grow]
  rfl
 have HC0:=Aside0.mk (slices_SortFunc_2_int64_2_int64.boxrow hb0)
 have HC1:=Aside0.mk (slices_SortFunc_2_int64_2_int64.boxrow hb1)
 have HG:=Aside0.mk hg
 clear hb0 hb1 hg
 generalize (W.alloc (.cells #[.int .i64 x0,.int .i64 x1] 67 (0,0))).alloc (.cells #[.int .i64 y0,.int .i64 y1] 67 (0,0)) = W2 at HC0 HC1 HG ⊢
 go_quiet (first | (go_at_call 59;refine Calls.quiet_of (v:=.int .i64 r) ((hcon _ _ _ (Kd.C_drewN HC0.out _) (Kd.C_drewN HC1.out _)).mono ?_);rintro e w' ⟨rfl,hd⟩;exact ⟨rfl,hd.out⟩))
 go_wp2
 go_ret
 refine ⟨rfl,nq,_,by rw [HG.out];rfl⟩
theorem slices_SortFunc_2_int64_2_int64.flat_get (d : Array S67) (j c : Nat) (hj : j < d.size) (hc : c < 2) : letI : Inhabited S67:=⟨z67⟩;(Go.Sort.flatK slices_SortFunc_2_int64_2_int64.enc 2 d)[j * 2 + c]! = (slices_SortFunc_2_int64_2_int64.enc (d.toList.getD j z67))[c]!:=by
 letI : Inhabited S67:=⟨z67⟩
 rw [Go.Sort.get_flatK _ _ _ _ (by omega),show (j * 2 + c) / 2 = j by omega,show (j * 2 + c) % 2 = c by omega]
 congr 2
 rw [getElem!_pos d j hj]
 simp [List.getD,hj]
theorem slices_SortFunc_2_int64_2_int64.holds {w : World} {base g c n : Nat} {ok : Nat → Prop} {xs : List S67} (h : Kd.R k67 67 w base ok (.slice (some ⟨g,0,none⟩) n c) xs) : letI : Inhabited S67:=⟨z67⟩;Go.Sort.HoldsK slices_SortFunc_2_int64_2_int64.enc 2 w g 0 xs.toArray:=by
 letI : Inhabited S67:=⟨z67⟩
 obtain ⟨hok,inner,ho,hr⟩:=h
 rcases ho.2 with ⟨he,_⟩ | ⟨g',cap,cur,he,hb,hh,hn,hm,hs,ht⟩
 ·cases he
 ·obtain ⟨rfl,rfl,rfl⟩ : g = g' ∧ n = xs.length ∧ c = cap:=by injection he with h1 h2 h3;injection h1 with h1;injection h1 with h1;exact ⟨h1,h2,h3⟩
  intro j hj
  rw [Go.Sort.size_flatK] at hj
  have hj' : j < xs.length * 2:=by simpa using hj
  have hcs : cur.size = c * 2:=hs
  have hlt : j < cur.size:=by omega
  have ej : j = j / 2 * 2 + j % 2:=by omega
  have hd : j / 2 < xs.length:=by omega
  have hE:=hr.2 (j / 2) (xs.getD (j / 2) z67) (by simp [List.getD,hd])
  have hE:=k67_openM hE
  have hg : (Go.Sort.flatK slices_SortFunc_2_int64_2_int64.enc 2 xs.toArray)[j]! = (slices_SortFunc_2_int64_2_int64.enc (xs.getD (j / 2) z67))[j % 2]!:=by
   have h:=slices_SortFunc_2_int64_2_int64.flat_get xs.toArray (j / 2) (j % 2) (by simpa using hd) (by omega)
   rw [← ej] at h
   exact h
  have hin : inner[j]? = some ((slices_SortFunc_2_int64_2_int64.enc (xs.getD (j / 2) z67))[j % 2]!):=by
   have hz : ((inner.drop (j / 2 * 2)).take 2)[j % 2]? = inner[j]?:=by
    rw [List.getElem?_take_of_lt (by omega),List.getElem?_drop,← ej]
   rw [← hz]
   have hsz : k67.sz = 2:=rfl
   rw [hsz] at hE
   rw [hE]
   rcases (by omega : j % 2 = 0 ∨ j % 2 = 1) with h | h <;> rw [h] <;> rfl
  have hcur : cur[j]? = some ((slices_SortFunc_2_int64_2_int64.enc (xs.getD (j / 2) z67))[j % 2]!):=by
   rw [← hin,← ht,List.getElem?_take_of_lt (by show j < xs.length * 2;omega),Array.getElem?_toList]
  refine ⟨?_,?_⟩
  ·rw [hg]
   simp [World.cell?,hh,hcur]
  ·simp [World.frozen?,hh]
theorem slices_SortFunc_2_int64_2_int64.heap_at {w : World} {g m : Nat} {d : Array S67} {os : Array Obj} (hg : g < w.heap.size) : letI : Inhabited S67:=⟨z67⟩;∀ k,k < w.heap.size → (Go.Proofs.sortWorldK slices_SortFunc_2_int64_2_int64.enc 2 w g 0 m d os).heap[k]? = if g = k then (w.heap[k]?).map (Go.Sort.onCells (Go.Sort.putCells id 0 (Go.Sort.flatK slices_SortFunc_2_int64_2_int64.enc 2 d))) else w.heap[k]?:=by
 letI : Inhabited S67:=⟨z67⟩
 intro k hk
 have hz : (Go.Sort.putRowK slices_SortFunc_2_int64_2_int64.enc 2 (Go.Sort.ahead w m) g 0 d).heap = w.heap.modify g (Go.Sort.onCells (Go.Sort.putCells id 0 (Go.Sort.flatK slices_SortFunc_2_int64_2_int64.enc 2 d))):=rfl
 unfold Go.Proofs.sortWorldK
 rw [Go.Sort.heap_grow_old _ _ (by rw [hz,Array.size_modify];exact hk),hz,Array.getElem?_modify]
theorem slices_SortFunc_2_int64_2_int64.size_at {w : World} {g m : Nat} {d : Array S67} {os : Array Obj} : letI : Inhabited S67:=⟨z67⟩;w.heap.size ≤ (Go.Proofs.sortWorldK slices_SortFunc_2_int64_2_int64.enc 2 w g 0 m d os).heap.size:=by
 letI : Inhabited S67:=⟨z67⟩
 have hz : (Go.Sort.putRowK slices_SortFunc_2_int64_2_int64.enc 2 (Go.Sort.ahead w m) g 0 d).heap = w.heap.modify g (Go.Sort.onCells (Go.Sort.putCells id 0 (Go.Sort.flatK slices_SortFunc_2_int64_2_int64.enc 2 d))):=rfl
 unfold Go.Proofs.sortWorldK
 rw [Go.Sort.size_grow,hz,Array.size_modify]
 omega
theorem slices_SortFunc_2_int64_2_int64.row {w : World} {base g c n m : Nat} {ok : Nat → Prop} {xs ys : List S67} {os : Array Obj} (h : Kd.R k67 67 w base ok (.slice (some ⟨g,0,none⟩) n c) xs) (hl : ys.length = xs.length) : letI : Inhabited S67:=⟨z67⟩;Kd.R k67 67 (Go.Proofs.sortWorldK slices_SortFunc_2_int64_2_int64.enc 2 w g 0 m ys.toArray os) base ok (.slice (some ⟨g,0,none⟩) n c) ys:=by
 letI : Inhabited S67:=⟨z67⟩
 have hlt:=Kd.R_lt h g rfl
 obtain ⟨hok,inner,ho,hr⟩:=h
 rcases ho.2 with ⟨he,_⟩ | ⟨g',cap,cur,he,hb,hh,hn,hm,hs,ht⟩
 ·cases he
 ·obtain ⟨rfl,rfl,rfl⟩ : g = g' ∧ n = xs.length ∧ c = cap:=by injection he with h1 h2 h3;injection h1 with h1;injection h1 with h1;exact ⟨h1,h2,h3⟩
  have hcs : cur.size = c * 2:=hs
  have hF : (Go.Sort.flatK slices_SortFunc_2_int64_2_int64.enc 2 ys.toArray).size = xs.length * 2:=by rw [Go.Sort.size_flatK];simp [hl]
  have hW:=slices_SortFunc_2_int64_2_int64.heap_at (m:=m) (d:=ys.toArray) (os:=os) hlt g hlt
  rw [if_pos rfl,hh] at hW
  have hP : (Go.Sort.putCells id 0 (Go.Sort.flatK slices_SortFunc_2_int64_2_int64.enc 2 ys.toArray) cur).size = cur.size:=by simp [Go.Sort.putCells]
  refine ⟨hok,(Go.Sort.flatK slices_SortFunc_2_int64_2_int64.enc 2 ys.toArray).toList,⟨?_,.inr ⟨g,c,_,by rw [hl],hb,hW,by omega,hm,by rw [hP];exact hs,?_⟩⟩,⟨?_,fun j p hj => ?_⟩⟩
  ·rw [Array.length_toList,hF,hl];rfl
  ·apply List.ext_getElem?
   intro i
   by_cases hi : i < xs.length * 2
   ·rw [List.getElem?_take_of_lt (by show i < ys.length * 2;omega),Array.getElem?_toList,Array.getElem?_toList]
    simp only [Go.Sort.putCells,Array.getElem?_mapIdx]
    rw [Array.getElem?_eq_getElem (by omega : i < cur.size),Array.getElem?_eq_getElem (by omega : i < (Go.Sort.flatK slices_SortFunc_2_int64_2_int64.enc 2 ys.toArray).size),Option.map_some,if_pos ⟨by omega,by omega⟩]
    rw [Nat.sub_zero,getElem!_pos _ i (by omega)]
    rfl
   ·rw [List.getElem?_eq_none (by rw [lT];show min (ys.length * 2) _ ≤ i;omega),List.getElem?_eq_none (by rw [Array.length_toList];omega)]
  ·rw [Array.length_toList,hF,hl];rfl
  ·have hjl : j < ys.length:=(List.getElem?_eq_some_iff.1 hj).1
   have hp : ys.getD j z67 = p:=by rw [List.getD,hj];rfl
   have h0:=slices_SortFunc_2_int64_2_int64.flat_get ys.toArray j 0 (by simpa using hjl) (by omega)
   have h1:=slices_SortFunc_2_int64_2_int64.flat_get ys.toArray j 1 (by simpa using hjl) (by omega)
   have e : (((Go.Sort.flatK slices_SortFunc_2_int64_2_int64.enc 2 ys.toArray).toList.drop (j * k67.sz)).take k67.sz) = [.int .i64 p.f0,.int .i64 p.f1]:=by
    show (((Go.Sort.flatK slices_SortFunc_2_int64_2_int64.enc 2 ys.toArray).toList.drop (j * 2)).take 2) = _
    rw [← hp]
    rw [getElem!_pos _ _ (by omega)] at h0 h1
    apply List.ext_getElem?
    intro i
    rcases (by omega : i = 0 ∨ i = 1 ∨ 2 ≤ i) with rfl | rfl | hi
    ·rw [List.getElem?_take_of_lt (by omega),List.getElem?_drop,Array.getElem?_toList,Array.getElem?_eq_getElem (by omega),h0]
     rfl
    ·rw [List.getElem?_take_of_lt (by omega),List.getElem?_drop,Array.getElem?_toList,Array.getElem?_eq_getElem (by omega),h1]
     rfl
    ·rw [List.getElem?_eq_none (by rw [lT];omega),List.getElem?_eq_none (by simpa using hi)]
   rw [e]
   exact k67_mkM _ _ _ _
theorem slices_SortFunc_2_int64_2_int64.calls (P0_ : Nat → Prop) (u9000_ : Value) (l0 : List S67) (cl : Unit) (r : List S67) (w0 w : World) (hB : Below w0.heap.size w0 w) (ho0 : Kd.R k67 67 w w0.heap.size P0_ u9000_ l0) (h : slices_SortFunc_2_int64_2_int64.f l0 cl = some r) :
  Calls Try.prog 35 #[u9000_,.func (.func 36) #[] #[]] w fun e w' => e = .returned (.tuple #[]) ∧ Kd.R k67 67 w' w0.heap.size (fun k_ => (P0_ k_ ∨ w.heap.size ≤ k_)) u9000_ r ∧ Below w0.heap.size w0 w' ∧ Kept w w' (fun k_ => P0_ k_):=by
 letI : Inhabited S67:=⟨z67⟩
 unfold slices_SortFunc_2_int64_2_int64.f at h
 split at h
 ·rename_i hlen
  have hr : (l0.mergeSort fun x y => !(Go.Proofs.ltOf slices_SortFunc_2_int64_2_int64.cf) y x) = r:=by
   rw [← Option.some.inj h]
   congr 1
   funext x y
   unfold Go.Proofs.ltOf
   by_cases hh : slices_SortFunc_2_int64_2_int64.cf y x < 0
   ·rw [decide_eq_true hh,decide_eq_false (by omega)];rfl
   ·rw [decide_eq_false hh,decide_eq_true (by omega)];rfl
  clear h
  rcases Nat.eq_zero_or_pos l0.length with hz | hpos
  ·have hnil : l0 = []:=List.length_eq_zero_iff.1 hz
   subst hnil
   have hr0 : r = []:=by rw [← hr];simp
   subst hr0
   obtain ⟨A,c,rfl⟩:=Kd.R_slice ho0
   refine (Go.Proofs.Try.slices_SortFunc_none (α:=Unit) A c _ w).mono ?_
   rintro e w' ⟨rfl,rfl⟩
   exact ⟨rfl,Kd.R_mono ho0 (fun k hk => .inl hk),hB,Kept.refl _ _⟩
  ·obtain ⟨g,cap,rfl,hb,hlt,cells,hcells⟩:=Kd.R_form ho0 hpos
   have eg : ∀ args w,(callFunc 36 args).run Try.prog w = .ok (.enter 36 args) w:=enters_of Try.func36 (by kernel_rfl) rfl
   have hcon:=Go.Proofs.Try.slices_SortFunc_total 2 Try.isAgg67 Try.sizeOf67 slices_SortFunc_2_int64_2_int64.enc (fun _ => rfl) (fun x v hv => by simp [slices_SortFunc_2_int64_2_int64.enc] at hv;rcases hv with rfl | rfl <;> rfl) slices_SortFunc_2_int64_2_int64.cf slices_SortFunc_2_int64_2_int64.swo 36 #[] g 0 cap l0.toArray w eg (fun _ _ _ _ x y => slices_SortFunc_2_int64_2_int64.clo x y _) (slices_SortFunc_2_int64_2_int64.holds ho0) hlt (by simpa using hlen) slices_SortFunc_2_int64_2_int64.tot
   have hsz : l0.toArray.size = l0.length:=by simp
   rw [hsz] at hcon
   refine hcon.mono ?_
   rintro e w' ⟨rfl,m,os,rfl⟩
   have ht : l0.toArray.toList = l0:=by simp
   rw [ht,hr]
   have hlr : r.length = l0.length:=by rw [← hr,List.length_mergeSort]
   have hP:=ho0.1 g rfl
   refine ⟨rfl,Kd.R_mono (slices_SortFunc_2_int64_2_int64.row ho0 hlr) (fun k hk => .inl hk),⟨hB.os,hB.tape,hB.output,Nat.le_trans hB.size slices_SortFunc_2_int64_2_int64.size_at,fun k hk => ?_⟩,⟨slices_SortFunc_2_int64_2_int64.size_at,fun i hi hn => ?_⟩⟩
   ·rw [slices_SortFunc_2_int64_2_int64.heap_at hlt k (Nat.lt_of_lt_of_le hk hB.size),if_neg (by omega)]
    exact hB.block k hk
   ·rw [slices_SortFunc_2_int64_2_int64.heap_at hlt i hi,if_neg (fun (e : g = i) => hn (e ▸ hP))]
 ·cases h
end Go.Proofs.Ytpeebobdbaemiaa.PFnExactEdgesOf
