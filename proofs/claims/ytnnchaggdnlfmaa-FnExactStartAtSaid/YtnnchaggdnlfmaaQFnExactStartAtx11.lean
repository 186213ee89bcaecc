/- Contracts of functions that FnExactStartAt reaches, out of the lines of the kit's print. -/
import Derived.Test.YtnnchaggdnlfmaaQFnExactStartAtx0
import Derived.Test.YtnnchaggdnlfmaaQFnExactStartAtx2
import Derived.Test.YtnnchaggdnlfmaaQFnExactStartAtx7
import Derived.Test.YtnnchaggdnlfmaaQFnExactStartAtx10
namespace Go.Proofs.Ytnnchaggdnlfmaa.PFnExactStartAt
open Go.RowKit Go.Proofs.YtnnchaggdnlfmaaW.PrintWords Go.Proofs.YtnnchaggdnlfmaaW.PrintLast Go.Proofs.YtnnchaggdnlfmaaW.PrintMore
open Bool renaming true → tT, false → fF
open Go.World renaming block_lt_of_cell? → bL
open List renaming length_take → lT, length_drop → lD, map_toArray → mT, map_cons → mC, map_nil → mN
open Option renaming bind_eq_some_iff → bE
attribute [local go_sem] max2_int min2_int max_two min_two max_three min_three max_four min_four
set_option linter.unusedVariables false
set_option linter.unusedSimpArgs false
mutual
def laws_FnExactStartAt.j0 : Nat → List (S75) → Int → List (S73) → Int → List (S73) → List (S73) → Int → Bool → Option (Bool)
 | 0,_,_,_,_,_,_,_,_ => none
 | k + 1,x0,x1,x6,x7,x8,x9,x10,x44 => if x44 = true then (some false) else ((laws_toPointS.f k x0).bind fun t280 => ((laws_eqPointS.f k x8 t280).bind fun t283 => (if t283 = true then ((laws_markPointS.f k x8 1).bind fun bt284 => (if bt284.1 < 0 then (laws_FnExactStartAt.j1 k x0 x1 x6 x7 x9 true) else ((laws_eqPointS.f k x9 x6).bind fun t286 => (if t286 = true then (laws_FnExactStartAt.j1 k x0 x1 x6 x7 x9 (x10 != x7)) else (laws_FnExactStartAt.j1 k x0 x1 x6 x7 x9 true))))) else (some false))))
def laws_FnExactStartAt.j1 : Nat → List (S75) → Int → List (S73) → Int → List (S73) → Bool → Option (Bool)
 | 0,_,_,_,_,_,_ => none
 | k + 1,x0,x1,x6,x7,x9,x65 => if x65 = true then (some false) else ((laws_markPointS.f k x9 1).bind fun bt287 => ((laws_heldPointS.f k bt287.2 1).bind fun t289 => (if t289 < 0 then (some false) else (if t289 = bt287.1 then ((laws_toPointS.f k x0).bind fun t290 => ((impl_StartAt.f k t290 x1).bind fun bt293 => ((laws_eqPointS.f k bt293.1 x6).bind fun t297 => (if t297 = true then (laws_FnExactStartAt.j2 k bt287.2 bt287.1 (bt293.2 != x7)) else (laws_FnExactStartAt.j2 k bt287.2 bt287.1 true))))) else (some false)))))
def laws_FnExactStartAt.j2 : Nat → List (S73) → Int → Bool → Option (Bool)
 | 0,_,_,_ => none
 | k + 1,x9,x12,x92 => if x92 = true then (some false) else ((laws_heldPointS.f k x9 1).bind fun t298 => (if t298 < 0 then (some false) else (if t298 = x12 then (some true) else (some false))))
end
def laws_FnExactStartAt.f (k : Nat) (l0 : List (S75)) (a1 : Int) : Option (Bool):=(laws_szPointS.f l0 1048576).bind fun t264 => (if t264 < 0 then (some true) else ((laws_toPointS.f k l0).bind fun t265 => ((spec_StartAt.f k t265 a1).bind fun bt268 => ((laws_toPointS.f k l0).bind fun t272 => ((impl_StartAt.f k t272 a1).bind fun bt275 => ((laws_eqPointS.f k bt275.1 bt268.1).bind fun t279 => (if t279 = true then (laws_FnExactStartAt.j0 k l0 a1 bt268.1 bt268.2 t272 bt275.1 bt275.2 (bt275.2 != bt268.2)) else (laws_FnExactStartAt.j0 k l0 a1 bt268.1 bt268.2 t272 bt275.1 bt275.2 true))))))))
set_option maxHeartbeats 8000000 in
set_option maxRecDepth 100000 in
theorem laws_FnExactStartAt.calls (k : Nat) (A0 : Option Addr) (c0 : Nat) (l0 : List (S75)) (a1 : Int) (w : World) (hr0 : Kd.C k75 w A0 l0.length l0) (hc0 : l0.length ≤ c0) (h : laws_FnExactStartAt.f k l0 a1 = some true) :
  Calls Try.prog 11 #[.slice A0 l0.length c0,.int .i64 a1] w fun e w' => e = .returned (.bool true) ∧ Below w.heap.size w w':=by
 have HR0:=Aside0.mk hr0
 have HC0:=Aside0.mk hc0
 clear hr0 hc0
 have HB:=Aside0.mk (Below.refl w.heap.size w)
 have H : ((laws_szPointS.f l0 1048576).bind fun t264 => (if t264 < 0 then (some true) else ((laws_toPointS.f k l0).bind fun t265 => ((spec_StartAt.f k t265 a1).bind fun bt268 => ((laws_toPointS.f k l0).bind fun t272 => ((impl_StartAt.f k t272 a1).bind fun bt275 => ((laws_eqPointS.f k bt275.1 bt268.1).bind fun t279 => (if t279 = true then (laws_FnExactStartAt.j0 k l0 a1 bt268.1 bt268.2 t272 bt275.1 bt275.2 (bt275.2 != bt268.2)) else (laws_FnExactStartAt.j0 k l0 a1 bt268.1 bt268.2 t272 bt275.1 bt275.2 true))))))))) = some true:=h
 clear h
 replace H:=bE.mp H
 obtain ⟨t264,A30,H⟩:=H
 replace H : (if t264 < 0 then (some true) else ((laws_toPointS.f k l0).bind fun t265 => ((spec_StartAt.f k t265 a1).bind fun bt268 => ((laws_toPointS.f k l0).bind fun t272 => ((impl_StartAt.f k t272 a1).bind fun bt275 => ((laws_eqPointS.f k bt275.1 bt268.1).bind fun t279 => (if t279 = true then (laws_FnExactStartAt.j0 k l0 a1 bt268.1 bt268.2 t272 bt275.1 bt275.2 (bt275.2 != bt268.2)) else (laws_FnExactStartAt.j0 k l0 a1 bt268.1 bt268.2 t272 bt275.1 bt275.2 true)))))))) = some true:=H
 have A3:=Aside0.mk A30
 clear A30
 by_cases c4 : t264 < 0
 ·rw [if_pos c4] at H
  have c4b0 : decide (t264 < 0) = true:=decide_eq_true c4
  clear c4
  clear H
  go_enter Try.func11,Try.ntmps11
  go_wp2_with (first | ((with_reducible refine gate_callee (f:=15) rfl ?_);refine goesL_ (some 18) rfl rfl Try.func15 (by kernel_rfl) rfl #[.slice A0 l0.length c0,.int .i64 1048576] rfl (by (try simp only [mT,mC,mN]);first | done | rfl | (simp only [lD,lT];rfl)) ?_;(with_reducible refine (laws_szPointS.calls _ _ l0 1048576 t264 _ ?side1 ?side2 A3.out).mono ?_);(case side1 => exact cO HR0.out);(case side2 => exact HC0.out);rintro e w' ⟨rfl,⟨nd,rfl⟩⟩;refine ⟨_,rfl,?_⟩))
  go_ret
  exact ⟨by first | rfl | (simp [errW_none,errW_some] <;> rfl) | (simp [*,errW_none,errW_some] <;> rfl),ib⟩
 ·rw [if_neg c4] at H
  have c4b0 : decide (t264 < 0) = false:=decide_eq_false c4
  clear c4
  replace H:=bE.mp H
  obtain ⟨t265,A50,H⟩:=H
  replace H : ((spec_StartAt.f k t265 a1).bind fun bt268 => ((laws_toPointS.f k l0).bind fun t272 => ((impl_StartAt.f k t272 a1).bind fun bt275 => ((laws_eqPointS.f k bt275.1 bt268.1).bind fun t279 => (if t279 = true then (laws_FnExactStartAt.j0 k l0 a1 bt268.1 bt268.2 t272 bt275.1 bt275.2 (bt275.2 != bt268.2)) else (laws_FnExactStartAt.j0 k l0 a1 bt268.1 bt268.2 t272 bt275.1 bt275.2 true)))))) = some true:=H
  have A5:=Aside0.mk A50
  clear A50
  replace H:=bE.mp H
  obtain ⟨⟨t268,t269⟩,A60,H⟩:=H
  replace H : ((laws_toPointS.f k l0).bind fun t272 => ((impl_StartAt.f k t272 a1).bind fun bt275 => ((laws_eqPointS.f k bt275.1 t268).bind fun t279 => (if t279 = true then (laws_FnExactStartAt.j0 k l0 a1 t268 t269 t272 bt275.1 bt275.2 (bt275.2 != t269)) else (laws_FnExactStartAt.j0 k l0 a1 t268 t269 t272 bt275.1 bt275.2 true))))) = some true:=H
  have A6:=Aside0.mk A60
  clear A60
  replace H:=bE.mp H
  obtain ⟨t272,A70,H⟩:=H
  replace H : ((impl_StartAt.f k t272 a1).bind fun bt275 => ((laws_eqPointS.f k bt275.1 t268).bind fun t279 => (if t279 = true then (laws_FnExactStartAt.j0 k l0 a1 t268 t269 t272 bt275.1 bt275.2 (bt275.2 != t269)) else (laws_FnExactStartAt.j0 k l0 a1 t268 t269 t272 bt275.1 bt275.2 true)))) = some true:=H
  have A7:=Aside0.mk A70
  clear A70
  replace H:=bE.mp H
  obtain ⟨⟨t275,t278⟩,A80,H⟩:=H
  replace H : ((laws_eqPointS.f k t275 t268).bind fun t279 => (if t279 = true then (laws_FnExactStartAt.j0 k l0 a1 t268 t269 t272 t275 t278 (t278 != t269)) else (laws_FnExactStartAt.j0 k l0 a1 t268 t269 t272 t275 t278 true))) = some true:=H
  have A8:=Aside0.mk A80
  clear A80
  have HC9:=Aside0.mk H
  clear H
  go_enter Try.func11,Try.ntmps11
  go_upto_region 8 with (first | ((with_reducible refine gate_callee (f:=15) rfl ?_);refine goesL_ (some 18) rfl rfl Try.func15 (by kernel_rfl) rfl #[.slice A0 l0.length c0,.int .i64 1048576] rfl (by (try simp only [mT,mC,mN]);first | done | rfl | (simp only [lD,lT];rfl)) ?_;(with_reducible refine (laws_szPointS.calls _ _ l0 1048576 t264 _ ?side1 ?side2 A3.out).mono ?_);(case side1 => exact cO HR0.out);(case side2 => exact HC0.out);rintro e w' ⟨rfl,⟨nd,rfl⟩⟩;refine ⟨_,rfl,?_⟩) | ((with_reducible refine gate_callee (f:=17) rfl ?_);refine goesL_ (some 23) rfl rfl Try.func17 (by kernel_rfl) rfl #[.slice A0 l0.length c0] rfl (by (try simp only [mT,mC,mN]);first | done | rfl | (simp only [lD,lT];rfl)) ?_;(with_reducible refine (laws_toPointS.calls k _ _ l0 t265 _ ?side1 ?side2 A5.out).mono ?_);(case side1 => exact cO HR0.out);(case side2 => exact HC0.out);rintro e w10 ⟨v266,rfl,ho0,hb⟩;refine ⟨_,rfl,?_⟩;have HO267:=Aside0.mk (Kd.R_lower ho0 (below_size ib));replace HB:=sb hb;(try clear hb);(try clear hb2);(try clear hk);(try clear hi);(try clear ho0);obtain ⟨Ao11,co11,eo11⟩:=Kd.R_slice HO267.out;subst eo11) | ((with_reducible refine gate_callee (f:=49) rfl ?_);refine goesL_ (some 25) rfl rfl Try.func49 (by kernel_rfl) rfl #[.slice Ao11 t265.length co11,.int .i64 a1] rfl (by (try simp only [mT,mC,mN]);first | done | rfl | (simp only [lD,lT];rfl)) ?_;(with_reducible refine (spec_StartAt.calls k _ _ t265 a1 t268 t269 _ ?side1 ?side2 A6.out).mono ?_);(case side1 => exact cO ((Kd.R_reads' HO267.out).2.2));(case side2 => exact (Kd.R_reads' HO267.out).2.1);rintro e w12 ⟨v270,rfl,ho0,hb⟩;refine ⟨_,rfl,?_⟩;have HO271:=Aside0.mk (Kd.R_lower (Kd.R_new' ho0 (Kd.R_lt (rO HO267.out))) (below_size ib));replace HO267:=Aside0.mk (Kd.R_elder' (rO HO267.out) (Kd.R_base ho0) hb);replace HB:=sb hb;(try clear hb);(try clear hb2);(try clear hk);(try clear hi);(try clear ho0)) | ((with_reducible refine gate_callee (f:=17) rfl ?_);refine goesL_ (some 29) rfl rfl Try.func17 (by kernel_rfl) rfl #[.slice A0 l0.length c0] rfl (by (try simp only [mT,mC,mN]);first | done | rfl | (simp only [lD,lT];rfl)) ?_;(with_reducible refine (laws_toPointS.calls k _ _ l0 t272 _ ?side1 ?side2 A7.out).mono ?_);(case side1 => exact cO ((Kd.C_below HR0.out HB.out)));(case side2 => exact HC0.out);rintro e w13 ⟨v273,rfl,ho0,hb⟩;refine ⟨_,rfl,?_⟩;have HO274:=Aside0.mk (Kd.R_lower (Kd.R_new' (Kd.R_new' ho0 (Kd.R_lt (rO HO267.out))) (Kd.R_lt (rO HO271.out))) (below_size ib));replace HO267:=Aside0.mk (Kd.R_elder' (rO HO267.out) (Kd.R_base ho0) hb);replace HO271:=Aside0.mk (Kd.R_elder' (rO HO271.out) (Kd.R_base ho0) hb);replace HB:=sb hb;(try clear hb);(try clear hb2);(try clear hk);(try clear hi);(try clear ho0);obtain ⟨Ao14,co14,eo14⟩:=Kd.R_slice HO274.out;subst eo14) | ((with_reducible refine gate_callee (f:=50) rfl ?_);refine goesL_ (some 33) rfl rfl Try.func50 (by kernel_rfl) rfl #[.slice Ao14 t272.length co14,.int .i64 a1] rfl (by (try simp only [mT,mC,mN]);first | done | rfl | (simp only [lD,lT];rfl)) ?_;(with_reducible refine (impl_StartAt.calls k (fun k_ => some k_ = (.slice Ao14 t272.length co14 : Value).ownBlock) _ _ t272 a1 t275 t278 _ ?side1 A8.out).mono ?_);(case side1 => exact Kd.R_V (Kd.R_tight rfl (HO274.out)));rintro e w15 ⟨v276,rfl,ho0,hb⟩;refine ⟨_,rfl,?_⟩;have HO277:=Aside0.mk (Kd.R_lower (Kd.R_new' (Kd.R_new' (Kd.R_new' (Kd.R_mono (ok':=fun k_ => True) ho0 (fun _ hk_ => trivial)) (Kd.R_lt (rO HO267.out))) (Kd.R_lt (rO HO271.out))) (Kd.R_lt (rO HO274.out))) (below_size ib));replace HO267:=Aside0.mk (Kd.R_elder' (rO HO267.out) (Kd.R_base ho0) hb);replace HO271:=Aside0.mk (Kd.R_elder' (rO HO271.out) (Kd.R_base ho0) hb);replace HO274:=Aside0.mk (Kd.R_elder' (rO HO274.out) (Kd.R_base ho0) hb);replace HB:=sb hb;(try clear hb);(try clear hb2);(try clear hk);(try clear hi);(try clear ho0)))
  (try simp only [Act.put,List.setIfInBounds_toArray,List.set_cons_zero,List.set_cons_succ])
  go_cut [44] (fun v44 wc => ∃ (kq : Nat) (x44_8 : Bool),v44 = .bool x44_8 ∧ Aside0 (laws_FnExactStartAt.j0 kq l0 a1 t268 t269 t272 t275 t278 x44_8 = some true) ∧ Aside0 (kq ≤ k) ∧ Aside0 (Kd.R k73 73 wc w.heap.size (fun k_ => some k_ ≠ ((.slice Ao14 t272.length co14) : Value).ownBlock ∧ some k_ ≠ (v276 : Value).ownBlock) v270 t268) ∧ Aside0 (Kd.R k73 73 wc w.heap.size (fun k_ => some k_ ≠ (v270 : Value).ownBlock ∧ some k_ ≠ (v276 : Value).ownBlock) (.slice Ao14 t272.length co14) t272) ∧ Aside0 (Kd.R k73 73 wc w.heap.size (fun k_ => some k_ ≠ (v270 : Value).ownBlock ∧ some k_ ≠ ((.slice Ao14 t272.length co14) : Value).ownBlock) v276 t275) ∧ Aside0 (Below w.heap.size w wc))
  case first =>
   have H:=HC9.out
   clear HC9
   replace H:=bE.mp H
   obtain ⟨t279,A160,H⟩:=H
   replace H : (if t279 = true then (laws_FnExactStartAt.j0 k l0 a1 t268 t269 t272 t275 t278 (t278 != t269)) else (laws_FnExactStartAt.j0 k l0 a1 t268 t269 t272 t275 t278 true)) = some true:=H
   have A16:=Aside0.mk A160
   clear A160
   by_cases c17 : t279 = true
   ·subst c17
    have H1 : (laws_FnExactStartAt.j0 k l0 a1 t268 t269 t272 t275 t278 (t278 != t269)) = some true:=by rw [if_pos rfl] at H;exact H
    clear H
    have H:=H1
    clear H1
    have H':=Aside0.mk H
    clear H
    obtain ⟨Ao18,co18,eo18⟩:=Kd.R_slice HO277.out
    subst eo18
    obtain ⟨Ao19,co19,eo19⟩:=Kd.R_slice HO271.out
    subst eo19
    go_wp2_with (first | ((with_reducible refine gate_callee (f:=19) rfl ?_);refine goesL_ (some 38) rfl rfl Try.func19 (by kernel_rfl) rfl #[.slice Ao18 t275.length co18,.slice Ao19 t268.length co19] rfl (by (try simp only [mT,mC,mN]);first | done | rfl | (simp only [lD,lT];rfl)) ?_;(with_reducible refine (laws_eqPointS.calls k _ _ t275 _ _ t268 true _ ?side1 ?side2 ?side3 ?side4 A16.out).mono ?_);(case side1 => exact cO ((Kd.R_reads' HO277.out).2.2));(case side2 => exact (Kd.R_reads' HO277.out).2.1);(case side3 => exact cO ((Kd.R_reads' HO271.out).2.2));(case side4 => exact (Kd.R_reads' HO271.out).2.1);rintro e w20 ⟨rfl,hb⟩;refine ⟨_,rfl,?_⟩;replace HO267:=Aside0.mk (Kd.R_below (rO HO267.out) hb);replace HO271:=Aside0.mk (Kd.R_below (rO HO271.out) hb);replace HO274:=Aside0.mk (Kd.R_below (rO HO274.out) hb);replace HO277:=Aside0.mk (Kd.R_below (rO HO277.out) hb);replace HB:=sb hb;(try clear hb);(try clear hb2);(try clear hk);(try clear hi)))
    go_meet
    case rel => exact ⟨_,((t278 != t269)),(by first | rfl | (simp;done) | (simp [*];done)),H',⟨by first | omega | exact Nat.le_refl _⟩,⟨rO (Kd.R_mono HO271.out (fun _ hk => ⟨hk.1.2,hk.2⟩))⟩,⟨rO (Kd.R_mono HO274.out (fun _ hk => ⟨hk.1.2,hk.2⟩))⟩,⟨rO (Kd.R_mono HO277.out (fun _ hk => ⟨hk.1.2,hk.2⟩))⟩,⟨ib⟩⟩
   ·replace c17:=Bool.eq_false_iff.mpr c17
    subst c17
    have H1 : (laws_FnExactStartAt.j0 k l0 a1 t268 t269 t272 t275 t278 true) = some true:=by rw [if_neg (show ¬ (false = true) by decide)] at H;exact H
    clear H
    have H:=H1
    clear H1
    have H':=Aside0.mk H
    clear H
    obtain ⟨Ao21,co21,eo21⟩:=Kd.R_slice HO277.out
    subst eo21
    obtain ⟨Ao22,co22,eo22⟩:=Kd.R_slice HO271.out
    subst eo22
    go_wp2_with (first | ((with_reducible refine gate_callee (f:=19) rfl ?_);refine goesL_ (some 38) rfl rfl Try.func19 (by kernel_rfl) rfl #[.slice Ao21 t275.length co21,.slice Ao22 t268.length co22] rfl (by (try simp only [mT,mC,mN]);first | done | rfl | (simp only [lD,lT];rfl)) ?_;(with_reducible refine (laws_eqPointS.calls k _ _ t275 _ _ t268 false _ ?side1 ?side2 ?side3 ?side4 A16.out).mono ?_);(case side1 => exact cO ((Kd.R_reads' HO277.out).2.2));(case side2 => exact (Kd.R_reads' HO277.out).2.1);(case side3 => exact cO ((Kd.R_reads' HO271.out).2.2));(case side4 => exact (Kd.R_reads' HO271.out).2.1);rintro e w23 ⟨rfl,hb⟩;refine ⟨_,rfl,?_⟩;replace HO267:=Aside0.mk (Kd.R_below (rO HO267.out) hb);replace HO271:=Aside0.mk (Kd.R_below (rO HO271.out) hb);replace HO274:=Aside0.mk (Kd.R_below (rO HO274.out) hb);replace HO277:=Aside0.mk (Kd.R_below (rO HO277.out) hb);replace HB:=sb hb;(try clear hb);(try clear hb2);(try clear hk);(try clear hi)))
    go_meet
    case rel => exact ⟨_,(true),(by first | rfl | (simp;done) | (simp [*];done)),H',⟨by first | omega | exact Nat.le_refl _⟩,⟨rO (Kd.R_mono HO271.out (fun _ hk => ⟨hk.1.2,hk.2⟩))⟩,⟨rO (Kd.R_mono HO274.out (fun _ hk => ⟨hk.1.2,hk.2⟩))⟩,⟨rO (Kd.R_mono HO277.out (fun _ hk => ⟨hk.1.2,hk.2⟩))⟩,⟨ib⟩⟩
  case rest =>
   clear HC9
   try clear c1
   try clear p2
   try clear c4
   try clear c4b0
   try clear c5
   try clear c11
   try clear c15
   try clear c17
   try clear c19
   obtain ⟨kq,x44_8,rfl,HA,HJ8,HO_6,HO_8,HO_9,HB⟩:=hcut
   cases kq with
   | zero => exact absurd HA.out (by simp [laws_FnExactStartAt.j0])
   | succ kj8 =>
    have H:=HA.out
    clear HA
    simp only [laws_FnExactStartAt.j0] at H
    by_cases c24 : x44_8 = true
    ·subst c24
     have H1 : (some false) = some true:=by rw [if_pos rfl] at H;exact H
     clear H
     have H:=H1
     clear H1
     cases H
    ·replace c24:=Bool.eq_false_iff.mpr c24
     subst c24
     have H1 : ((laws_toPointS.f kj8 l0).bind fun t280 => ((laws_eqPointS.f kj8 t272 t280).bind fun t283 => (if t283 = true then ((laws_markPointS.f kj8 t272 1).bind fun bt284 => (if bt284.1 < 0 then (laws_FnExactStartAt.j1 kj8 l0 a1 t268 t269 t275 true) else ((laws_eqPointS.f kj8 t275 t268).bind fun t286 => (if t286 = true then (laws_FnExactStartAt.j1 kj8 l0 a1 t268 t269 t275 (t278 != t269)) else (laws_FnExactStartAt.j1 kj8 l0 a1 t268 t269 t275 true))))) else (some false)))) = some true:=by rw [if_neg (show ¬ (false = true) by decide)] at H;exact H
     clear H
     have H:=H1
     clear H1
     replace H:=bE.mp H
     obtain ⟨t280,A250,H⟩:=H
     replace H : ((laws_eqPointS.f kj8 t272 t280).bind fun t283 => (if t283 = true then ((laws_markPointS.f kj8 t272 1).bind fun bt284 => (if bt284.1 < 0 then (laws_FnExactStartAt.j1 kj8 l0 a1 t268 t269 t275 true) else ((laws_eqPointS.f kj8 t275 t268).bind fun t286 => (if t286 = true then (laws_FnExactStartAt.j1 kj8 l0 a1 t268 t269 t275 (t278 != t269)) else (laws_FnExactStartAt.j1 kj8 l0 a1 t268 t269 t275 true))))) else (some false))) = some true:=H
     have A25:=Aside0.mk A250
     clear A250
     replace H:=bE.mp H
     obtain ⟨t283,A260,H⟩:=H
     replace H : (if t283 = true then ((laws_markPointS.f kj8 t272 1).bind fun bt284 => (if bt284.1 < 0 then (laws_FnExactStartAt.j1 kj8 l0 a1 t268 t269 t275 true) else ((laws_eqPointS.f kj8 t275 t268).bind fun t286 => (if t286 = true then (laws_FnExactStartAt.j1 kj8 l0 a1 t268 t269 t275 (t278 != t269)) else (laws_FnExactStartAt.j1 kj8 l0 a1 t268 t269 t275 true))))) else (some false)) = some true:=H
     have A26:=Aside0.mk A260
     clear A260
     by_cases c27 : t283 = true
     ·subst c27
      have H1 : ((laws_markPointS.f kj8 t272 1).bind fun bt284 => (if bt284.1 < 0 then (laws_FnExactStartAt.j1 kj8 l0 a1 t268 t269 t275 true) else ((laws_eqPointS.f kj8 t275 t268).bind fun t286 => (if t286 = true then (laws_FnExactStartAt.j1 kj8 l0 a1 t268 t269 t275 (t278 != t269)) else (laws_FnExactStartAt.j1 kj8 l0 a1 t268 t269 t275 true))))) = some true:=by rw [if_pos rfl] at H;exact H
      clear H
      have H:=H1
      clear H1
      replace H:=bE.mp H
      obtain ⟨⟨t284,t285⟩,A280,H⟩:=H
      replace H : (if t284 < 0 then (laws_FnExactStartAt.j1 kj8 l0 a1 t268 t269 t275 true) else ((laws_eqPointS.f kj8 t275 t268).bind fun t286 => (if t286 = true then (laws_FnExactStartAt.j1 kj8 l0 a1 t268 t269 t275 (t278 != t269)) else (laws_FnExactStartAt.j1 kj8 l0 a1 t268 t269 t275 true)))) = some true:=H
      have A28:=Aside0.mk A280
      clear A280
      have HC29:=Aside0.mk H
      clear H
      go_upto_region 14 with (first | ((with_reducible refine gate_callee (f:=17) rfl ?_);refine goesL_ (some 47) rfl rfl Try.func17 (by kernel_rfl) rfl #[.slice A0 l0.length c0] rfl (by (try simp only [mT,mC,mN]);first | done | rfl | (simp only [lD,lT];rfl)) ?_;(with_reducible refine (laws_toPointS.calls kj8 _ _ l0 t280 _ ?side1 ?side2 A25.out).mono ?_);(case side1 => exact cO ((Kd.C_below HR0.out HB.out)));(case side2 => exact HC0.out);rintro e w30 ⟨v281,rfl,ho0,hb⟩;refine ⟨_,rfl,?_⟩;have HO282:=Aside0.mk (Kd.R_lower (Kd.R_new' (Kd.R_new' (Kd.R_new' ho0 (Kd.R_lt (rO HO_6.out))) (Kd.R_lt (rO HO_8.out))) (Kd.R_lt (rO HO_9.out))) (below_size ib));replace HO_6:=Aside0.mk (Kd.R_elder' (rO HO_6.out) (Kd.R_base ho0) hb);replace HO_8:=Aside0.mk (Kd.R_elder' (rO HO_8.out) (Kd.R_base ho0) hb);replace HO_9:=Aside0.mk (Kd.R_elder' (rO HO_9.out) (Kd.R_base ho0) hb);replace HB:=sb hb;(try clear hb);(try clear hb2);(try clear hk);(try clear hi);(try clear ho0);obtain ⟨Ao31,co31,eo31⟩:=Kd.R_slice HO282.out;subst eo31) | ((with_reducible refine gate_callee (f:=19) rfl ?_);refine goesL_ (some 48) rfl rfl Try.func19 (by kernel_rfl) rfl #[.slice Ao14 t272.length co14,.slice Ao31 t280.length co31] rfl (by (try simp only [mT,mC,mN]);first | done | rfl | (simp only [lD,lT];rfl)) ?_;(with_reducible refine (laws_eqPointS.calls kj8 _ _ t272 _ _ t280 true _ ?side1 ?side2 ?side3 ?side4 A26.out).mono ?_);(case side1 => exact cO ((Kd.R_reads' HO_8.out).2.2));(case side2 => exact (Kd.R_reads' HO_8.out).2.1);(case side3 => exact cO ((Kd.R_reads' HO282.out).2.2));(case side4 => exact (Kd.R_reads' HO282.out).2.1);rintro e w32 ⟨rfl,hb⟩;refine ⟨_,rfl,?_⟩;replace HO_6:=Aside0.mk (Kd.R_below (rO HO_6.out) hb);replace HO_8:=Aside0.mk (Kd.R_below (rO HO_8.out) hb);replace HO_9:=Aside0.mk (Kd.R_below (rO HO_9.out) hb);replace HO282:=Aside0.mk (Kd.R_below (rO HO282.out) hb);replace HB:=sb hb;(try clear hb);(try clear hb2);(try clear hk);(try clear hi)) | ((with_reducible refine gate_callee (f:=23) rfl ?_);refine goesL_ (some 52) rfl rfl Try.func23 (by kernel_rfl) rfl #[.slice Ao14 t272.length co14,.int .i64 1] rfl (by (try simp only [mT,mC,mN]);first | done | rfl | (simp only [lD,lT];rfl)) ?_;(with_reducible refine (laws_markPointS.calls kj8 (fun k_ => some k_ = (.slice Ao14 t272.length co14 : Value).ownBlock) (.slice Ao14 t272.length co14) t272 1 t284 t285 w _ ?side1 ?side2 A28.out).mono ?_);(case side1 => repeat (first | (with_reducible first | exact HB.out | apply below_alloc | apply pw_below_drewN | apply below_drew1) | exact HB.out));(case side2 => exact Kd.R_tight rfl HO_8.out);rintro e w33 ⟨rfl,hy0,hb,hkp⟩;refine ⟨_,rfl,?_⟩;replace HO_6:=Aside0.mk (Kd.R_mono (ok':=fun k_ => some k_ ≠ (.slice Ao14 t272.length co14 : Value).ownBlock ∧ some k_ ≠ (v276 : Value).ownBlock ∧ some k_ ≠ (.slice Ao31 t280.length co31 : Value).ownBlock) (Kd.R_keptB (HO_6.out) hkp (fun k_ hk_ hs_ => (hk_.1.1) hs_)) (fun k_ hk_ => ⟨hk_.1.1.1,hk_.1.1.2,hk_.1.2⟩));replace HO_8:=Aside0.mk (Kd.R_reok rfl hy0 (fun k_ e_ => HO_8.out.1 k_ e_));replace HO_9:=Aside0.mk (Kd.R_mono (ok':=fun k_ => some k_ ≠ (v270 : Value).ownBlock ∧ some k_ ≠ (.slice Ao14 t272.length co14 : Value).ownBlock ∧ some k_ ≠ (.slice Ao31 t280.length co31 : Value).ownBlock) (Kd.R_keptB (HO_9.out) hkp (fun k_ hk_ hs_ => (hk_.1.2) hs_)) (fun k_ hk_ => ⟨hk_.1.1.1,hk_.1.1.2,hk_.1.2⟩));replace HO282:=Aside0.mk (Kd.R_mono (ok':=fun k_ => some k_ ≠ (v270 : Value).ownBlock ∧ some k_ ≠ (.slice Ao14 t272.length co14 : Value).ownBlock ∧ some k_ ≠ (v276 : Value).ownBlock) (Kd.R_keptB (HO282.out) hkp (fun k_ hk_ hs_ => (hk_.1.2) hs_)) (fun k_ hk_ => ⟨hk_.1.1.1.2,hk_.1.1.2,hk_.1.2⟩));replace HB:=Aside0.mk (hb);(try clear hb);(try clear hkp);(try clear hy0)))
      (try simp only [Act.put,List.setIfInBounds_toArray,List.set_cons_zero,List.set_cons_succ])
      go_cut [65] (fun v65 wc => ∃ (kq : Nat) (x65_28 : Bool),v65 = .bool x65_28 ∧ Aside0 (laws_FnExactStartAt.j1 kq l0 a1 t268 t269 t275 x65_28 = some true) ∧ Aside0 (kq ≤ kj8) ∧ Aside0 (Kd.R k73 73 wc w.heap.size (fun k_ => some k_ ≠ (v276 : Value).ownBlock) v270 t268) ∧ Aside0 (Kd.R k73 73 wc w.heap.size (fun k_ => some k_ ≠ (v270 : Value).ownBlock) v276 t275) ∧ Aside0 (Below w.heap.size w wc))
      case first =>
       have H:=HC29.out
       clear HC29
       by_cases c34 : t284 < 0
       ·rw [if_pos c34] at H
        have c34b0 : decide (t284 < 0) = true:=decide_eq_true c34
        clear c34
        (first | rw [c34b0] | (simp only [i64_w,i32_w];rw [c34b0]) | skip)
        have H':=Aside0.mk H
        clear H
        go_wp2
        go_meet
        case rel => exact ⟨_,(true),(by first | rfl | (simp;done) | (simp [*];done)),H',⟨by have:=HJ8.out;first | omega | exact Nat.le_refl _⟩,⟨rO (Kd.R_mono HO_6.out (fun _ hk => hk.2.1))⟩,⟨rO (Kd.R_mono HO_9.out (fun _ hk => hk.1))⟩,⟨ib⟩⟩
       ·rw [if_neg c34] at H
        have c34b0 : decide (t284 < 0) = false:=decide_eq_false c34
        clear c34
        (first | rw [c34b0] | (simp only [i64_w,i32_w];rw [c34b0]) | skip)
        replace H:=bE.mp H
        obtain ⟨t286,A350,H⟩:=H
        replace H : (if t286 = true then (laws_FnExactStartAt.j1 kj8 l0 a1 t268 t269 t275 (t278 != t269)) else (laws_FnExactStartAt.j1 kj8 l0 a1 t268 t269 t275 true)) = some true:=H
        have A35:=Aside0.mk A350
        clear A350
        by_cases c36 : t286 = true
        ·subst c36
         have H1 : (laws_FnExactStartAt.j1 kj8 l0 a1 t268 t269 t275 (t278 != t269)) = some true:=by rw [if_pos rfl] at H;exact H
         clear H
         have H:=H1
         clear H1
         have H':=Aside0.mk H
         clear H
         obtain ⟨Ao37,co37,eo37⟩:=Kd.R_slice HO_9.out
         subst eo37
         obtain ⟨Ao38,co38,eo38⟩:=Kd.R_slice HO_6.out
         subst eo38
         go_wp2_with (first | (go_at_call 19;(with_reducible refine (laws_eqPointS.calls kj8 _ _ t275 _ _ t268 true _ ?side1 ?side2 ?side3 ?side4 A35.out).mono ?_);(case side1 => exact cO ((Kd.R_reads' HO_9.out).2.2));(case side2 => exact (Kd.R_reads' HO_9.out).2.1);(case side3 => exact cO ((Kd.R_reads' HO_6.out).2.2));(case side4 => exact (Kd.R_reads' HO_6.out).2.1);rintro e w39 ⟨rfl,hb⟩;replace HO_6:=Aside0.mk (Kd.R_below (rO HO_6.out) hb);replace HO_8:=Aside0.mk (Kd.R_below (rO HO_8.out) hb);replace HO_9:=Aside0.mk (Kd.R_below (rO HO_9.out) hb);replace HO282:=Aside0.mk (Kd.R_below (rO HO282.out) hb);replace HB:=sb hb;(try clear hb);(try clear hb2);(try clear hk);(try clear hi)))
         go_meet
         case rel => exact ⟨_,((t278 != t269)),(by first | rfl | (simp;done) | (simp [*];done)),H',⟨by have:=HJ8.out;first | omega | exact Nat.le_refl _⟩,⟨rO (Kd.R_mono HO_6.out (fun _ hk => hk.2.1))⟩,⟨rO (Kd.R_mono HO_9.out (fun _ hk => hk.1))⟩,⟨ib⟩⟩
        ·replace c36:=Bool.eq_false_iff.mpr c36
         subst c36
         have H1 : (laws_FnExactStartAt.j1 kj8 l0 a1 t268 t269 t275 true) = some true:=by rw [if_neg (show ¬ (false = true) by decide)] at H;exact H
         clear H
         have H:=H1
         clear H1
         have H':=Aside0.mk H
         clear H
         obtain ⟨Ao40,co40,eo40⟩:=Kd.R_slice HO_9.out
         subst eo40
         obtain ⟨Ao41,co41,eo41⟩:=Kd.R_slice HO_6.out
         subst eo41
         go_wp2_with (first | (go_at_call 19;(with_reducible refine (laws_eqPointS.calls kj8 _ _ t275 _ _ t268 false _ ?side1 ?side2 ?side3 ?side4 A35.out).mono ?_);(case side1 => exact cO ((Kd.R_reads' HO_9.out).2.2));(case side2 => exact (Kd.R_reads' HO_9.out).2.1);(case side3 => exact cO ((Kd.R_reads' HO_6.out).2.2));(case side4 => exact (Kd.R_reads' HO_6.out).2.1);rintro e w42 ⟨rfl,hb⟩;replace HO_6:=Aside0.mk (Kd.R_below (rO HO_6.out) hb);replace HO_8:=Aside0.mk (Kd.R_below (rO HO_8.out) hb);replace HO_9:=Aside0.mk (Kd.R_below (rO HO_9.out) hb);replace HO282:=Aside0.mk (Kd.R_below (rO HO282.out) hb);replace HB:=sb hb;(try clear hb);(try clear hb2);(try clear hk);(try clear hi)))
         go_meet
         case rel => exact ⟨_,(true),(by first | rfl | (simp;done) | (simp [*];done)),H',⟨by have:=HJ8.out;first | omega | exact Nat.le_refl _⟩,⟨rO (Kd.R_mono HO_6.out (fun _ hk => hk.2.1))⟩,⟨rO (Kd.R_mono HO_9.out (fun _ hk => hk.1))⟩,⟨ib⟩⟩
      case rest =>
       clear HC29
       try clear c1
       try clear c2
       try clear p2
       try clear c3
       try clear c4
       try clear c4b0
       try clear c5
       try clear c11
       try clear c15
       try clear c17
       try clear c19
       try clear c23
       try clear c24
       try clear c27
       try clear c34
       try clear c34b0
       try clear c36
       try clear p2
       obtain ⟨kq,x65_28,rfl,HA,HJ28,HO_6,HO_9,HB⟩:=hcut
       cases kq with
       | zero => exact absurd HA.out (by simp [laws_FnExactStartAt.j1])
       | succ kj28 =>
        have H:=HA.out
        clear HA
        simp only [laws_FnExactStartAt.j1] at H
        by_cases c43 : x65_28 = true
        ·subst c43
         have H1 : (some false) = some true:=by rw [if_pos rfl] at H;exact H
         clear H
         have H:=H1
         clear H1
         cases H
        ·replace c43:=Bool.eq_false_iff.mpr c43
         subst c43
         have H1 : ((laws_markPointS.f kj28 t275 1).bind fun bt287 => ((laws_heldPointS.f kj28 bt287.2 1).bind fun t289 => (if t289 < 0 then (some false) else (if t289 = bt287.1 then ((laws_toPointS.f kj28 l0).bind fun t290 => ((impl_StartAt.f kj28 t290 a1).bind fun bt293 => ((laws_eqPointS.f kj28 bt293.1 t268).bind fun t297 => (if t297 = true then (laws_FnExactStartAt.j2 kj28 bt287.2 bt287.1 (bt293.2 != t269)) else (laws_FnExactStartAt.j2 kj28 bt287.2 bt287.1 true))))) else (some false))))) = some true:=by rw [if_neg (show ¬ (false = true) by decide)] at H;exact H
         clear H
         have H:=H1
         clear H1
         replace H:=bE.mp H
         obtain ⟨⟨t287,t288⟩,A440,H⟩:=H
         replace H : ((laws_heldPointS.f kj28 t288 1).bind fun t289 => (if t289 < 0 then (some false) else (if t289 = t287 then ((laws_toPointS.f kj28 l0).bind fun t290 => ((impl_StartAt.f kj28 t290 a1).bind fun bt293 => ((laws_eqPointS.f kj28 bt293.1 t268).bind fun t297 => (if t297 = true then (laws_FnExactStartAt.j2 kj28 t288 t287 (bt293.2 != t269)) else (laws_FnExactStartAt.j2 kj28 t288 t287 true))))) else (some false)))) = some true:=H
         have A44:=Aside0.mk A440
         clear A440
         replace H:=bE.mp H
         obtain ⟨t289,A450,H⟩:=H
         replace H : (if t289 < 0 then (some false) else (if t289 = t287 then ((laws_toPointS.f kj28 l0).bind fun t290 => ((impl_StartAt.f kj28 t290 a1).bind fun bt293 => ((laws_eqPointS.f kj28 bt293.1 t268).bind fun t297 => (if t297 = true then (laws_FnExactStartAt.j2 kj28 t288 t287 (bt293.2 != t269)) else (laws_FnExactStartAt.j2 kj28 t288 t287 true))))) else (some false))) = some true:=H
         have A45:=Aside0.mk A450
         clear A450
         by_cases c46 : t289 < 0
         ·rw [if_pos c46] at H
          have c46b0 : decide (t289 < 0) = true:=decide_eq_true c46
          clear c46
          cases H
         ·rw [if_neg c46] at H
          have c46b0 : decide (t289 < 0) = false:=decide_eq_false c46
          clear c46
          by_cases c49 : t289 = t287
          ·rw [if_pos c49] at H
           have c49b0 : (t289 == t287) = true:=beq_iff_eq.mpr c49
           have c49b1 : (t289 != t287) = false:=bne_eq_false_iff_eq.mpr c49
           clear c49
           replace H:=bE.mp H
           obtain ⟨t290,A500,H⟩:=H
           replace H : ((impl_StartAt.f kj28 t290 a1).bind fun bt293 => ((laws_eqPointS.f kj28 bt293.1 t268).bind fun t297 => (if t297 = true then (laws_FnExactStartAt.j2 kj28 t288 t287 (bt293.2 != t269)) else (laws_FnExactStartAt.j2 kj28 t288 t287 true)))) = some true:=H
           have A50:=Aside0.mk A500
           clear A500
           replace H:=bE.mp H
           obtain ⟨⟨t293,t296⟩,A510,H⟩:=H
           replace H : ((laws_eqPointS.f kj28 t293 t268).bind fun t297 => (if t297 = true then (laws_FnExactStartAt.j2 kj28 t288 t287 (t296 != t269)) else (laws_FnExactStartAt.j2 kj28 t288 t287 true))) = some true:=H
           have A51:=Aside0.mk A510
           clear A510
           have HC52:=Aside0.mk H
           clear H
           obtain ⟨Ao53,co53,eo53⟩:=Kd.R_slice HO_9.out
           subst eo53
           go_upto_region 25 with (first | ((with_reducible refine gate_callee (f:=23) rfl ?_);refine goesL_ (some 68) rfl rfl Try.func23 (by kernel_rfl) rfl #[.slice Ao53 t275.length co53,.int .i64 1] rfl (by (try simp only [mT,mC,mN]);first | done | rfl | (simp only [lD,lT];rfl)) ?_;(with_reducible refine (laws_markPointS.calls kj28 (fun k_ => some k_ = (.slice Ao53 t275.length co53 : Value).ownBlock) (.slice Ao53 t275.length co53) t275 1 t287 t288 w _ ?side1 ?side2 A44.out).mono ?_);(case side1 => repeat (first | (with_reducible first | exact HB.out | apply below_alloc | apply pw_below_drewN | apply below_drew1) | exact HB.out));(case side2 => exact Kd.R_tight rfl HO_9.out);rintro e w54 ⟨rfl,hy0,hb,hkp⟩;refine ⟨_,rfl,?_⟩;replace HO_6:=Aside0.mk (Kd.R_mono (ok':=fun k_ => some k_ ≠ (.slice Ao53 t275.length co53 : Value).ownBlock) (Kd.R_keptB (HO_6.out) hkp (fun k_ hk_ hs_ => (hk_) hs_)) (fun k_ hk_ => hk_.1));replace HO_9:=Aside0.mk (Kd.R_reok rfl hy0 (fun k_ e_ => HO_9.out.1 k_ e_));replace HB:=Aside0.mk (hb);(try clear hb);(try clear hkp);(try clear hy0)) | ((with_reducible refine gate_callee (f:=35) rfl ?_);refine goesL_ (some 71) rfl rfl Try.func35 (by kernel_rfl) rfl #[.slice Ao53 t288.length co53,.int .i64 1] rfl (by (try simp only [mT,mC,mN]);first | done | (rw [show t288.length = t275.length from (Kd.R_reads' HO_9.out).1.symm] <;> rfl) | rfl | (simp only [lD,lT];rfl)) ?_;(with_reducible refine (laws_heldPointS.calls kj28 _ _ t288 1 t289 _ ?side1 ?side2 A45.out).mono ?_);(case side1 => exact cO ((Kd.R_reads' HO_9.out).2.2));(case side2 => rw [show t288.length = t275.length from (Kd.R_reads' HO_9.out).1.symm];exact (Kd.R_reads' HO_9.out).2.1);rintro e w' ⟨rfl,⟨nd,rfl⟩⟩;refine ⟨_,rfl,?_⟩) | ((with_reducible refine gate_callee (f:=17) rfl ?_);refine goesL_ (some 79) rfl rfl Try.func17 (by kernel_rfl) rfl #[.slice A0 l0.length c0] rfl (by (try simp only [mT,mC,mN]);first | done | rfl | (simp only [lD,lT];rfl)) ?_;(with_reducible refine (laws_toPointS.calls kj28 _ _ l0 t290 _ ?side1 ?side2 A50.out).mono ?_);(case side1 => exact cO ((Kd.C_below HR0.out ib)));(case side2 => exact HC0.out);rintro e w55 ⟨v291,rfl,ho0,hb⟩;refine ⟨_,rfl,?_⟩;have HO292:=Aside0.mk (Kd.R_lower (Kd.R_new' (Kd.R_new' ho0 (Kd.R_lt (rO HO_6.out))) (Kd.R_lt (rO HO_9.out))) (below_size ib));replace HO_6:=Aside0.mk (Kd.R_elder' (rO HO_6.out) (Kd.R_base ho0) hb);replace HO_9:=Aside0.mk (Kd.R_elder' (rO HO_9.out) (Kd.R_base ho0) hb);replace HB:=sb hb;(try clear hb);(try clear hb2);(try clear hk);(try clear hi);(try clear ho0);obtain ⟨Ao56,co56,eo56⟩:=Kd.R_slice HO292.out;subst eo56) | ((with_reducible refine gate_callee (f:=50) rfl ?_);refine goesL_ (some 81) rfl rfl Try.func50 (by kernel_rfl) rfl #[.slice Ao56 t290.length co56,.int .i64 a1] rfl (by (try simp only [mT,mC,mN]);first | done | rfl | (simp only [lD,lT];rfl)) ?_;(with_reducible refine (impl_StartAt.calls kj28 (fun k_ => some k_ = (.slice Ao56 t290.length co56 : Value).ownBlock) _ _ t290 a1 t293 t296 _ ?side1 A51.out).mono ?_);(case side1 => exact Kd.R_V (Kd.R_tight rfl (HO292.out)));rintro e w57 ⟨v294,rfl,ho0,hb⟩;refine ⟨_,rfl,?_⟩;have HO295:=Aside0.mk (Kd.R_lower (Kd.R_new' (Kd.R_new' (Kd.R_new' (Kd.R_mono (ok':=fun k_ => True) ho0 (fun _ hk_ => trivial)) (Kd.R_lt (rO HO_6.out))) (Kd.R_lt (rO HO_9.out))) (Kd.R_lt (rO HO292.out))) (below_size ib));replace HO_6:=Aside0.mk (Kd.R_elder' (rO HO_6.out) (Kd.R_base ho0) hb);replace HO_9:=Aside0.mk (Kd.R_elder' (rO HO_9.out) (Kd.R_base ho0) hb);replace HO292:=Aside0.mk (Kd.R_elder' (rO HO292.out) (Kd.R_base ho0) hb);replace HB:=sb hb;(try clear hb);(try clear hb2);(try clear hk);(try clear hi);(try clear ho0)))
           (try simp only [Act.put,List.setIfInBounds_toArray,List.set_cons_zero,List.set_cons_succ])
           go_cut [92] (fun v92 wc => ∃ (kq : Nat) (x92_51 : Bool),v92 = .bool x92_51 ∧ Aside0 (laws_FnExactStartAt.j2 kq t288 t287 x92_51 = some true) ∧ Aside0 (kq ≤ kj28) ∧ Aside0 (Kd.R k73 73 wc w.heap.size (fun _ => True) (.slice Ao53 t275.length co53) t288) ∧ Aside0 (Below w.heap.size w wc))
           case first =>
            have H:=HC52.out
            clear HC52
            replace H:=bE.mp H
            obtain ⟨t297,A580,H⟩:=H
            replace H : (if t297 = true then (laws_FnExactStartAt.j2 kj28 t288 t287 (t296 != t269)) else (laws_FnExactStartAt.j2 kj28 t288 t287 true)) = some true:=H
            have A58:=Aside0.mk A580
            clear A580
            by_cases c59 : t297 = true
            ·subst c59
             have H1 : (laws_FnExactStartAt.j2 kj28 t288 t287 (t296 != t269)) = some true:=by rw [if_pos rfl] at H;exact H
             clear H
             have H:=H1
             clear H1
             have H':=Aside0.mk H
             clear H
             obtain ⟨Ao60,co60,eo60⟩:=Kd.R_slice HO295.out
             subst eo60
             obtain ⟨Ao61,co61,eo61⟩:=Kd.R_slice HO_6.out
             subst eo61
             go_wp2_with (first | ((with_reducible refine gate_callee (f:=19) rfl ?_);refine goesL_ (some 86) rfl rfl Try.func19 (by kernel_rfl) rfl #[.slice Ao60 t293.length co60,.slice Ao61 t268.length co61] rfl (by (try simp only [mT,mC,mN]);first | done | rfl | (simp only [lD,lT];rfl)) ?_;(with_reducible refine (laws_eqPointS.calls kj28 _ _ t293 _ _ t268 true _ ?side1 ?side2 ?side3 ?side4 A58.out).mono ?_);(case side1 => exact cO ((Kd.R_reads' HO295.out).2.2));(case side2 => exact (Kd.R_reads' HO295.out).2.1);(case side3 => exact cO ((Kd.R_reads' HO_6.out).2.2));(case side4 => exact (Kd.R_reads' HO_6.out).2.1);rintro e w62 ⟨rfl,hb⟩;refine ⟨_,rfl,?_⟩;replace HO_6:=Aside0.mk (Kd.R_below (rO HO_6.out) hb);replace HO_9:=Aside0.mk (Kd.R_below (rO HO_9.out) hb);replace HO292:=Aside0.mk (Kd.R_below (rO HO292.out) hb);replace HO295:=Aside0.mk (Kd.R_below (rO HO295.out) hb);replace HB:=sb hb;(try clear hb);(try clear hb2);(try clear hk);(try clear hi)))
             go_meet
             case rel => exact ⟨_,((t296 != t269)),(by first | rfl | (simp;done) | (simp [*];done)),H',⟨by have:=HJ8.out;have:=HJ28.out;first | omega | exact Nat.le_refl _⟩,⟨rO (Kd.R_mono HO_9.out (fun _ hk => trivial))⟩,⟨ib⟩⟩
            ·replace c59:=Bool.eq_false_iff.mpr c59
             subst c59
             have H1 : (laws_FnExactStartAt.j2 kj28 t288 t287 true) = some true:=by rw [if_neg (show ¬ (false = true) by decide)] at H;exact H
             clear H
             have H:=H1
             clear H1
             have H':=Aside0.mk H
             clear H
             obtain ⟨Ao63,co63,eo63⟩:=Kd.R_slice HO295.out
             subst eo63
             obtain ⟨Ao64,co64,eo64⟩:=Kd.R_slice HO_6.out
             subst eo64
             go_wp2_with (first | ((with_reducible refine gate_callee (f:=19) rfl ?_);refine goesL_ (some 86) rfl rfl Try.func19 (by kernel_rfl) rfl #[.slice Ao63 t293.length co63,.slice Ao64 t268.length co64] rfl (by (try simp only [mT,mC,mN]);first | done | rfl | (simp only [lD,lT];rfl)) ?_;(with_reducible refine (laws_eqPointS.calls kj28 _ _ t293 _ _ t268 false _ ?side1 ?side2 ?side3 ?side4 A58.out).mono ?_);(case side1 => exact cO ((Kd.R_reads' HO295.out).2.2));(case side2 => exact (Kd.R_reads' HO295.out).2.1);(case side3 => exact cO ((Kd.R_reads' HO_6.out).2.2));(case side4 => exact (Kd.R_reads' HO_6.out).2.1);rintro e w65 ⟨rfl,hb⟩;refine ⟨_,rfl,?_⟩;replace HO_6:=Aside0.mk (Kd.R_below (rO HO_6.out) hb);replace HO_9:=Aside0.mk (Kd.R_below (rO HO_9.out) hb);replace HO292:=Aside0.mk (Kd.R_below (rO HO292.out) hb);replace HO295:=Aside0.mk (Kd.R_below (rO HO295.out) hb);replace HB:=sb hb;(try clear hb);(try clear hb2);(try clear hk);(try clear hi)))
             go_meet
             case rel => exact ⟨_,(true),(by first | rfl | (simp;done) | (simp [*];done)),H',⟨by have:=HJ8.out;have:=HJ28.out;first | omega | exact Nat.le_refl _⟩,⟨rO (Kd.R_mono HO_9.out (fun _ hk => trivial))⟩,⟨ib⟩⟩
           case rest =>
            clear HC52
            try clear c1
            try clear c2
            try clear p2
            try clear c3
            try clear c4
            try clear c4b0
            try clear c5
            try clear c11
            try clear c15
            try clear c17
            try clear c19
            try clear c23
            try clear c24
            try clear c27
            try clear c34
            try clear c34b0
            try clear c35
            try clear c36
            try clear c43
            try clear c46
            try clear c46b0
            try clear c49
            try clear c49b0
            try clear c49b1
            try clear c50
            try clear c59
            try clear p2
            obtain ⟨kq,x92_51,rfl,HA,HJ51,HO_9,HB⟩:=hcut
            have hl9_51:=(Kd.R_reads' HO_9.out).1
            rw [hl9_51] at HO_9
            (try simp only [hl9_51])
            cases kq with
            | zero => exact absurd HA.out (by simp [laws_FnExactStartAt.j2])
            | succ kj51 =>
             have H:=HA.out
             clear HA
             simp only [laws_FnExactStartAt.j2] at H
             by_cases c66 : x92_51 = true
             ·subst c66
              have H1 : (some false) = some true:=by rw [if_pos rfl] at H;exact H
              clear H
              have H:=H1
              clear H1
              cases H
             ·replace c66:=Bool.eq_false_iff.mpr c66
              subst c66
              have H1 : ((laws_heldPointS.f kj51 t288 1).bind fun t298 => (if t298 < 0 then (some false) else (if t298 = t287 then (some true) else (some false)))) = some true:=by rw [if_neg (show ¬ (false = true) by decide)] at H;exact H
              clear H
              have H:=H1
              clear H1
              replace H:=bE.mp H
              obtain ⟨t298,A670,H⟩:=H
              replace H : (if t298 < 0 then (some false) else (if t298 = t287 then (some true) else (some false))) = some true:=H
              have A67:=Aside0.mk A670
              clear A670
              by_cases c68 : t298 < 0
              ·rw [if_pos c68] at H
               have c68b0 : decide (t298 < 0) = true:=decide_eq_true c68
               clear c68
               cases H
              ·rw [if_neg c68] at H
               have c68b0 : decide (t298 < 0) = false:=decide_eq_false c68
               clear c68
               by_cases c69 : t298 = t287
               ·rw [if_pos c69] at H
                have c69b0 : (t298 == t287) = true:=beq_iff_eq.mpr c69
                have c69b1 : (t298 != t287) = false:=bne_eq_false_iff_eq.mpr c69
                clear c69
                clear H
                go_wp2_with (first | ((with_reducible refine gate_callee (f:=35) rfl ?_);refine goesL_ (some 95) rfl rfl Try.func35 (by kernel_rfl) rfl #[.slice Ao53 t288.length co53,.int .i64 1] rfl (by (try simp only [mT,mC,mN]);first | done | rfl | (simp only [lD,lT];rfl)) ?_;(with_reducible refine (laws_heldPointS.calls kj51 _ _ t288 1 t298 _ ?side1 ?side2 A67.out).mono ?_);(case side1 => exact cO ((Kd.R_reads' HO_9.out).2.2));(case side2 => exact (Kd.R_reads' HO_9.out).2.1);rintro e w' ⟨rfl,⟨nd,rfl⟩⟩;refine ⟨_,rfl,?_⟩))
                go_ret
                exact ⟨by first | rfl | (simp [errW_none,errW_some] <;> rfl) | (simp [*,errW_none,errW_some] <;> rfl),ib⟩
               ·rw [if_neg c69] at H
                have c69b0 : (t298 == t287) = false:=beq_eq_false_iff_ne.mpr c69
                have c69b1 : (t298 != t287) = true:=bne_iff_ne.mpr c69
                cases H
          ·rw [if_neg c49] at H
           have c49b0 : (t289 == t287) = false:=beq_eq_false_iff_ne.mpr c49
           have c49b1 : (t289 != t287) = true:=bne_iff_ne.mpr c49
           cases H
     ·replace c27:=Bool.eq_false_iff.mpr c27
      subst c27
      have H1 : (some false) = some true:=by rw [if_neg (show ¬ (false = true) by decide)] at H;exact H
      clear H
      have H:=H1
      clear H1
      cases H
end Go.Proofs.Ytnnchaggdnlfmaa.PFnExactStartAt
