/- Contracts of functions that FnExactTriangulate reaches, out of the lines of the kit's print. -/
import Derived.Test.YtnnchaggdnlfmaaQFnExactTriangulatex0
import Derived.Test.YtnnchaggdnlfmaaQFnExactTriangulatex5
import Derived.Test.YtnnchaggdnlfmaaQFnExactTriangulatex8
namespace Go.Proofs.Ytnnchaggdnlfmaa.PFnExactTriangulate
set_option maxHeartbeats 8000000
set_option maxRecDepth 100000
open Go.RowKit Go.Proofs.YtnnchaggdnlfmaaW.PrintWords Go.Proofs.YtnnchaggdnlfmaaW.PrintLast Go.Proofs.YtnnchaggdnlfmaaW.PrintMore
open Bool renaming true → tT, false → fF
open Go.World renaming block_lt_of_cell? → bL
open List renaming length_take → lT, length_drop → lD, map_toArray → mT, map_cons → mC, map_nil → mN
open Option renaming bind_eq_some_iff → bE
attribute [local go_sem] max2_int min2_int max_two min_two max_three min_three max_four min_four
set_option linter.unusedVariables false
set_option linter.unusedSimpArgs false
def spec_Triangulate.f (k : Nat) (l0 : List (S73)) : Option ((List (List (S73))) × Int):=(spec_l03Ok.f k l0).bind fun t260 => (if t260 = true then ((spec_l04Triangles.f k l0).bind fun t261 => (some (t261,0))) else (some (([] : List (List (S73))),1)))
theorem spec_Triangulate.calls (k : Nat) (A0 : Option Addr) (c0 : Nat) (l0 : List (S73)) (r1 : List (List (S73))) (r2 : Int) (w : World) (hr0 : Kd.C k73 w A0 l0.length l0) (hc0 : l0.length ≤ c0) (h : spec_Triangulate.f k l0 = some (r1,r2)) :
  Calls Try.prog 26 #[.slice A0 l0.length c0] w fun e w' => ∃ v0_ : Value,e = .returned (.tuple #[v0_,.int .i64 r2]) ∧ Kd.S (Kd.slice 73 k73) 25 w' w.heap.size (fun _ => True) v0_ r1 ∧ Below w.heap.size w w':=by
 have HR0:=Aside0.mk hr0
 have HC0:=Aside0.mk hc0
 clear hr0 hc0
 have HB:=Aside0.mk (Below.refl w.heap.size w)
 have H : ((spec_l03Ok.f k l0).bind fun t260 => (if t260 = true then ((spec_l04Triangles.f k l0).bind fun t261 => (some (t261,0))) else (some (([] : List (List (S73))),1)))) = some (r1,r2):=h
 clear h
 replace H:=bE.mp H
 obtain ⟨t260,A20,H⟩:=H
 replace H : (if t260 = true then ((spec_l04Triangles.f k l0).bind fun t261 => (some (t261,0))) else (some (([] : List (List (S73))),1))) = some (r1,r2):=H
 have A2:=Aside0.mk A20
 clear A20
 by_cases c3 : t260 = true
 ·subst c3
  have H1 : ((spec_l04Triangles.f k l0).bind fun t261 => (some (t261,0))) = some (r1,r2):=by rw [if_pos rfl] at H;exact H
  clear H
  have H:=H1
  clear H1
  replace H:=bE.mp H
  obtain ⟨t261,A40,H⟩:=H
  replace H : (some (t261,0)) = some (r1,r2):=H
  have A4:=Aside0.mk A40
  clear A40
  simp only [Option.some.injEq,Prod.mk.injEq] at H
  obtain ⟨rfl,rfl⟩:=H
  go_enter Try.func26,Try.ntmps26
  go_wp2_with (first | ((with_reducible refine gate_callee (f:=57) rfl ?_);refine goesL_ (some 5) rfl rfl Try.func57 (by kernel_rfl) rfl #[.slice A0 l0.length c0] rfl (by (try simp only [mT,mC,mN]);first | done | rfl | (simp only [lD,lT];rfl)) ?_;(with_reducible refine (spec_l03Ok.calls k _ _ l0 true _ ?side1 ?side2 A2.out).mono ?_);(case side1 => exact cO HR0.out);(case side2 => exact HC0.out);rintro e w5 ⟨rfl,hb⟩;refine ⟨_,rfl,?_⟩;replace HB:=sb hb;(try clear hb);(try clear hb2);(try clear hk);(try clear hi)) | ((with_reducible refine gate_callee (f:=65) rfl ?_);refine goesL_ (some 8) rfl rfl Try.func65 (by kernel_rfl) rfl #[.slice A0 l0.length c0] rfl (by (try simp only [mT,mC,mN]);first | done | rfl | (simp only [lD,lT];rfl)) ?_;(with_reducible refine (spec_l04Triangles.calls k _ _ l0 t261 _ ?side1 ?side2 A4.out).mono ?_);(case side1 => exact cO ((Kd.C_below HR0.out HB.out)));(case side2 => exact HC0.out);rintro e w6 ⟨v262,rfl,ho0,hb⟩;refine ⟨_,rfl,?_⟩;have HO263:=Aside0.mk (Kd.S_lower ho0 (below_size ib));replace HB:=sb hb;(try clear hb);(try clear hb2);(try clear hk);(try clear hi);(try clear ho0)))
  go_ret2
  exact ⟨_,by first | rfl | (simp [errW_none,errW_some] <;> rfl) | (simp [*,errW_none,errW_some] <;> rfl),sO HO263.out,ib⟩
 ·replace c3:=Bool.eq_false_iff.mpr c3
  subst c3
  have H1 : (some (([] : List (List (S73))),1)) = some (r1,r2):=by rw [if_neg (show ¬ (false = true) by decide)] at H;exact H
  clear H
  have H:=H1
  clear H1
  simp only [Option.some.injEq,Prod.mk.injEq] at H
  obtain ⟨rfl,rfl⟩:=H
  go_enter Try.func26,Try.ntmps26
  go_wp2_with (first | ((with_reducible refine gate_callee (f:=57) rfl ?_);refine goesL_ (some 5) rfl rfl Try.func57 (by kernel_rfl) rfl #[.slice A0 l0.length c0] rfl (by (try simp only [mT,mC,mN]);first | done | rfl | (simp only [lD,lT];rfl)) ?_;(with_reducible refine (spec_l03Ok.calls k _ _ l0 false _ ?side1 ?side2 A2.out).mono ?_);(case side1 => exact cO HR0.out);(case side2 => exact HC0.out);rintro e w7 ⟨rfl,hb⟩;refine ⟨_,rfl,?_⟩;replace HB:=sb hb;(try clear hb);(try clear hb2);(try clear hk);(try clear hi)))
  go_ret2
  exact ⟨_,by first | rfl | (simp [errW_none,errW_some] <;> rfl) | (simp [*,errW_none,errW_some] <;> rfl),by first | exact Kd.S_nil _ _ _ _ _ | exact Kd.N_nil _ _ _ _ _ | exact Kd.V_nil _ _ _ _ _ | exact Kd.Q_nil _ _ _ _ _ | exact Kd.R_nil _ _ _ _ _,ib⟩
def impl_within.f (a0 : Int) (a1 : Int) (a2 : Int) : Option (Bool):=if a0 ≥ a1 then (some (decide (a0 ≤ a2))) else (some false)
theorem impl_within.calls (a0 : Int) (a1 : Int) (a2 : Int) (r : Bool) (w : World) (h : impl_within.f a0 a1 a2 = some r) :
  Calls Try.prog 62 #[.int .i64 a0,.int .i64 a1,.int .i64 a2] w fun e w' => e = .returned (.bool r) ∧ Drawn0 w w':=by
 have H : (if a0 ≥ a1 then (some (decide (a0 ≤ a2))) else (some false)) = some r:=h
 clear h
 by_cases c4 : a0 ≥ a1
 ·rw [if_pos c4] at H
  have c4b0 : decide (a1 ≤ a0) = true:=decide_eq_true c4
  clear c4
  obtain rfl:=Option.some.inj H
  go_enter Try.func62,Try.ntmps62
  go_wp2
  go_ret
  exact ⟨by first | rfl | (simp;done) | (simp [*];done),by repeat (first | exact Drawn0.refl _ | apply Drawn0.step)⟩
 ·rw [if_neg c4] at H
  have c4b0 : decide (a1 ≤ a0) = false:=decide_eq_false c4
  clear c4
  obtain rfl:=Option.some.inj H
  go_enter Try.func62,Try.ntmps62
  go_wp2
  go_ret
  exact ⟨by first | rfl | (simp;done) | (simp [*];done),by repeat (first | exact Drawn0.refl _ | apply Drawn0.step)⟩
def impl_ValidPoint.f (a0_0 : Int) (a0_1 : Int) : Option (Bool):=(impl_within.f a0_0 0 20000).bind fun t265 => (if t265 = true then ((impl_within.f a0_1 0 20000).bind fun t266 => (some t266)) else (some false))
theorem impl_ValidPoint.calls (a0_0 : Int) (a0_1 : Int) (r : Bool) (w : World) (h : impl_ValidPoint.f a0_0 a0_1 = some r) :
  Calls Try.prog 146 #[.agg #[.int .i64 a0_0,.int .i64 a0_1]] w fun e w' => e = .returned (.bool r) ∧ Below w.heap.size w w':=by
 have hu73:=Try.underlying73
 have HB:=Aside0.mk (Below.refl w.heap.size w)
 have H : ((impl_within.f a0_0 0 20000).bind fun t265 => (if t265 = true then ((impl_within.f a0_1 0 20000).bind fun t266 => (some t266)) else (some false))) = some r:=h
 clear h
 replace H:=bE.mp H
 obtain ⟨t265,A20,H⟩:=H
 replace H : (if t265 = true then ((impl_within.f a0_1 0 20000).bind fun t266 => (some t266)) else (some false)) = some r:=H
 have A2:=Aside0.mk A20
 clear A20
 by_cases c3 : t265 = true
 ·subst c3
  have H1 : ((impl_within.f a0_1 0 20000).bind fun t266 => (some t266)) = some r:=by rw [if_pos rfl] at H;exact H
  clear H
  have H:=H1
  clear H1
  replace H:=bE.mp H
  obtain ⟨t266,A40,H⟩:=H
  replace H : (some t266) = some r:=H
  have A4:=Aside0.mk A40
  clear A40
  obtain rfl:=Option.some.inj H
  go_enter Try.func146,Try.ntmps146
  go_wp2_with (first | ((with_reducible refine gate_dst (N:=1) rfl ?_);refine bx (cs:=#[.int .i64 a0_0,.int .i64 a0_1]) (t:=73) ?_;intro gb264 hg w5 hbox hb;have BK264:=Aside0.mk (hbox);have GW264:=zb hg;have GE264:=zb hg;replace HB:=sb hb;clear hb hbox hg;have hcz6_0:=ck BK264 0;have hcz6_1:=ck BK264 1;have hfz6_0:=blk_frozen BK264.out 0;have hfz6_1:=blk_frozen BK264.out 1) | ((with_reducible refine gate_callee (f:=62) rfl ?_);refine goesL_ (some 5) rfl rfl Try.func62 (by kernel_rfl) rfl #[.int .i64 a0_0,.int .i64 0,.int .i64 20000] rfl (by (try simp only [mT,mC,mN]);first | done | rfl | (simp only [lD,lT];rfl)) ?_;(with_reducible refine (impl_within.calls a0_0 0 20000 true _ A2.out).mono ?_);rintro e w' ⟨rfl,⟨nd,rfl⟩⟩;refine ⟨_,rfl,?_⟩) | (go_at_call 62;(with_reducible refine (impl_within.calls a0_1 0 20000 t266 _ A4.out).mono ?_);rintro e w' ⟨rfl,⟨nd,rfl⟩⟩))
  go_ret
  exact ⟨by first | rfl | (simp [errW_none,errW_some] <;> rfl) | (simp [*,errW_none,errW_some] <;> rfl),ib⟩
 ·replace c3:=Bool.eq_false_iff.mpr c3
  subst c3
  have H1 : (some false) = some r:=by rw [if_neg (show ¬ (false = true) by decide)] at H;exact H
  clear H
  have H:=H1
  clear H1
  obtain rfl:=Option.some.inj H
  go_enter Try.func146,Try.ntmps146
  go_wp2_with (first | ((with_reducible refine gate_dst (N:=1) rfl ?_);refine bx (cs:=#[.int .i64 a0_0,.int .i64 a0_1]) (t:=73) ?_;intro gb264 hg w7 hbox hb;have BK264:=Aside0.mk (hbox);have GW264:=zb hg;have GE264:=zb hg;replace HB:=sb hb;clear hb hbox hg;have hcz8_0:=ck BK264 0;have hcz8_1:=ck BK264 1;have hfz8_0:=blk_frozen BK264.out 0;have hfz8_1:=blk_frozen BK264.out 1) | ((with_reducible refine gate_callee (f:=62) rfl ?_);refine goesL_ (some 5) rfl rfl Try.func62 (by kernel_rfl) rfl #[.int .i64 a0_0,.int .i64 0,.int .i64 20000] rfl (by (try simp only [mT,mC,mN]);first | done | rfl | (simp only [lD,lT];rfl)) ?_;(with_reducible refine (impl_within.calls a0_0 0 20000 false _ A2.out).mono ?_);rintro e w' ⟨rfl,⟨nd,rfl⟩⟩;refine ⟨_,rfl,?_⟩))
  go_ret
  exact ⟨by first | rfl | (simp [errW_none,errW_some] <;> rfl) | (simp [*,errW_none,errW_some] <;> rfl),ib⟩
def impl_validPoints.l0 : Nat → List (S73) → Int → Int → Option (Bool)
 | 0,_,_,_ => none
 | k + 1,x5,x6,x7 => if x7 < x6 then (if 0 ≤ x7 then (if x7 < (x5.length : Int) then ((impl_ValidPoint.f ((rd_T73 x5 x7).f0) ((rd_T73 x5 x7).f1)).bind fun t269 => (if t269 = true then (impl_validPoints.l0 k x5 x6 (wrap64 (x7 + 1))) else (some false))) else (none)) else (none)) else (some true)
def impl_validPoints.f (k : Nat) (l0 : List (S73)) : Option (Bool):=impl_validPoints.l0 k l0 (l0.length : Int) 0
theorem impl_validPoints.calls (k : Nat) (A0 : Option Addr) (c0 : Nat) (l0 : List (S73)) (r : Bool) (w : World) (hr0 : Kd.C k73 w A0 l0.length l0) (hc0 : l0.length ≤ c0) (h : impl_validPoints.f k l0 = some r) :
  Calls Try.prog 104 #[.slice A0 l0.length c0] w fun e w' => e = .returned (.bool r) ∧ Below w.heap.size w w':=by
 have hu73:=Try.underlying73
 have HR0:=Aside0.mk hr0
 have HC0:=Aside0.mk hc0
 clear hr0 hc0
 have HB:=Aside0.mk (Below.refl w.heap.size w)
 have H : (impl_validPoints.l0 k l0 (l0.length : Int) 0) = some r:=h
 clear h
 have H':=Aside0.mk H
 clear H
 go_enter Try.func104,Try.ntmps104
 go_wp2
 go_loopg [7] k (fun kq v7 w' => ∃ (x7_1 : Int),v7 = .int .i64 x7_1 ∧ Aside0 (impl_validPoints.l0 kq l0 (l0.length : Int) x7_1 = some r) ∧ Aside0 (kq ≤ k) ∧ Aside0 (Below w.heap.size w w'))
 case atStart => exact ⟨(0),(by first | rfl | (simp;done) | (simp [*];done)),H',⟨Nat.le_refl _⟩,⟨ib⟩⟩
 case round =>
  clear H'
  try clear c1
  obtain ⟨x7_1,rfl,HA,HK1,HB⟩:=hrel
  cases gk with
  | zero => exact absurd HA.out (by simp [impl_validPoints.l0])
  | succ k1 =>
   have H:=HA.out
   clear HA
   simp only [impl_validPoints.l0] at H
   by_cases c2 : x7_1 < (l0.length : Int)
   ·rw [if_pos c2] at H
    have c2b0 : decide (x7_1 < (l0.length : Int)) = true:=decide_eq_true c2
    clear c2
    by_cases c3 : 0 ≤ x7_1
    ·rw [if_pos c3] at H
     have c3b0 : decide (0 ≤ x7_1) = true:=decide_eq_true c3
     clear c3
     by_cases c4 : x7_1 < (l0.length : Int)
     ·rw [if_pos c4] at H
      have c4b0 : decide (x7_1 < (l0.length : Int)) = true:=decide_eq_true c4
      clear c4
      replace H:=bE.mp H
      obtain ⟨t269,A50,H⟩:=H
      replace H : (if t269 = true then (impl_validPoints.l0 k1 l0 (l0.length : Int) (wrap64 (x7_1 + 1))) else (some false)) = some r:=H
      have A5:=Aside0.mk A50
      clear A50
      by_cases c6 : t269 = true
      ·subst c6
       have H1 : (impl_validPoints.l0 k1 l0 (l0.length : Int) (wrap64 (x7_1 + 1))) = some r:=by rw [if_pos rfl] at H;exact H
       clear H
       have H:=H1
       clear H1
       have H':=Aside0.mk H
       clear H
       have p267 : 0 ≤ (x7_1 : Int):=da
       have q267 : x7_1 < (l0.length : Int):=da
       obtain ⟨ad267,e267,hx267_0,hx267_1⟩:=at_T73 HR0.out x7_1 p267 q267
       cases e267
       replace hx267_0:=cq HB.out hx267_0
       replace hx267_1:=cq HB.out hx267_1
       replace p267:=eq_true p267
       replace q267:=eq_true q267
       go_wp2_with (first | ((with_reducible refine gate_dst (N:=4) rfl ?_);refine bx (cs:=#[.int .i64 0,.int .i64 0]) (t:=73) ?_;intro gb268 hg w7 hbox hb;have BK268:=Aside0.mk (hbox);have GW268:=zb hg;have GE268:=zb hg;replace HB:=sb hb;clear hb hbox hg;have hcz8_0:=ck BK268 0;have hcz8_1:=ck BK268 1;have hfz8_0:=blk_frozen BK268.out 0;have hfz8_1:=blk_frozen BK268.out 1) | ((with_reducible refine gate_callee (f:=146) rfl ?_);refine goesL_ (some 12) rfl rfl Try.func146 (by kernel_rfl) rfl #[.agg #[.int .i64 ((rd_T73 l0 x7_1).f0),.int .i64 ((rd_T73 l0 x7_1).f1)]] rfl (by (try simp only [mT,mC,mN]);first | done | rfl | (simp only [lD,lT];rfl)) ?_;(with_reducible refine (impl_ValidPoint.calls ((rd_T73 l0 x7_1).f0) ((rd_T73 l0 x7_1).f1) true _ A5.out).mono ?_);rintro e w9 ⟨rfl,hb⟩;refine ⟨_,rfl,?_⟩;replace BK268:=Aside0.mk (blk_below (g:=gb268) (o:=.cells #[.int .i64 ((rd_T73 l0 x7_1).f0),.int .i64 ((rd_T73 l0 x7_1).f1)] 73 (0,0)) (by refine bP (cs:=#[.int .i64 ((rd_T73 l0 x7_1).f0),.int .i64 0]) 1 ?_;refine bP (cs:=#[.int .i64 0,.int .i64 0]) 0 ?_;exact bk BK268) hb);replace HB:=sb hb;(try clear hb);(try clear hb2);(try clear hk);(try clear hi)))
       go_roundg k1
       case measure => have:=HK1.out;omega
       case rel => exact ⟨(wrap64 (x7_1 + 1)),(by first | rfl | (simp;done) | (simp [*];done)),H',⟨by have:=HK1.out;omega⟩,⟨ib⟩⟩
      ·replace c6:=Bool.eq_false_iff.mpr c6
       subst c6
       have H1 : (some false) = some r:=by rw [if_neg (show ¬ (false = true) by decide)] at H;exact H
       clear H
       have H:=H1
       clear H1
       obtain rfl:=Option.some.inj H
       have p267 : 0 ≤ (x7_1 : Int):=da
       have q267 : x7_1 < (l0.length : Int):=da
       obtain ⟨ad267,e267,hx267_0,hx267_1⟩:=at_T73 HR0.out x7_1 p267 q267
       cases e267
       replace hx267_0:=cq HB.out hx267_0
       replace hx267_1:=cq HB.out hx267_1
       replace p267:=eq_true p267
       replace q267:=eq_true q267
       go_wp2_with (first | ((with_reducible refine gate_dst (N:=4) rfl ?_);refine bx (cs:=#[.int .i64 0,.int .i64 0]) (t:=73) ?_;intro gb268 hg w10 hbox hb;have BK268:=Aside0.mk (hbox);have GW268:=zb hg;have GE268:=zb hg;replace HB:=sb hb;clear hb hbox hg;have hcz11_0:=ck BK268 0;have hcz11_1:=ck BK268 1;have hfz11_0:=blk_frozen BK268.out 0;have hfz11_1:=blk_frozen BK268.out 1) | ((with_reducible refine gate_callee (f:=146) rfl ?_);refine goesL_ (some 12) rfl rfl Try.func146 (by kernel_rfl) rfl #[.agg #[.int .i64 ((rd_T73 l0 x7_1).f0),.int .i64 ((rd_T73 l0 x7_1).f1)]] rfl (by (try simp only [mT,mC,mN]);first | done | rfl | (simp only [lD,lT];rfl)) ?_;(with_reducible refine (impl_ValidPoint.calls ((rd_T73 l0 x7_1).f0) ((rd_T73 l0 x7_1).f1) false _ A5.out).mono ?_);rintro e w12 ⟨rfl,hb⟩;refine ⟨_,rfl,?_⟩;replace BK268:=Aside0.mk (blk_below (g:=gb268) (o:=.cells #[.int .i64 ((rd_T73 l0 x7_1).f0),.int .i64 ((rd_T73 l0 x7_1).f1)] 73 (0,0)) (by refine bP (cs:=#[.int .i64 ((rd_T73 l0 x7_1).f0),.int .i64 0]) 1 ?_;refine bP (cs:=#[.int .i64 0,.int .i64 0]) 0 ?_;exact bk BK268) hb);replace HB:=sb hb;(try clear hb);(try clear hb2);(try clear hk);(try clear hi)))
       go_ret
       exact ⟨by first | rfl | (simp [errW_none,errW_some] <;> rfl) | (simp [*,errW_none,errW_some] <;> rfl),ib⟩
     ·first | (exfalso;have z_:=of_decide_eq_true c2b0;omega) | (rw [if_neg c4] at H;exact absurd H (by simp))
    ·rw [if_neg c3] at H
     exact absurd H (by simp)
   ·rw [if_neg c2] at H
    have c2b0 : decide (x7_1 < (l0.length : Int)) = false:=decide_eq_false c2
    clear c2
    obtain rfl:=Option.some.inj H
    go_wp2
    go_ret
    exact ⟨by first | rfl | (simp [errW_none,errW_some] <;> rfl) | (simp [*,errW_none,errW_some] <;> rfl),ib⟩
def impl_side.f (a0_0 : Int) (a0_1 : Int) (a1_0 : Int) (a1_1 : Int) (a2_0 : Int) (a2_1 : Int) : Option (Int):=if (wrap64 ((wrap64 ((wrap64 (a1_0 - a0_0)) * (wrap64 (a2_1 - a0_1)))) - (wrap64 ((wrap64 (a1_1 - a0_1)) * (wrap64 (a2_0 - a0_0)))))) > 0 then (some 1) else (if (wrap64 ((wrap64 ((wrap64 (a1_0 - a0_0)) * (wrap64 (a2_1 - a0_1)))) - (wrap64 ((wrap64 (a1_1 - a0_1)) * (wrap64 (a2_0 - a0_0)))))) < 0 then (some (-1)) else (some 0))
theorem impl_side.calls (a0_0 : Int) (a0_1 : Int) (a1_0 : Int) (a1_1 : Int) (a2_0 : Int) (a2_1 : Int) (r : Int) (w : World) (h : impl_side.f a0_0 a0_1 a1_0 a1_1 a2_0 a2_1 = some r) :
  Calls Try.prog 147 #[.agg #[.int .i64 a0_0,.int .i64 a0_1],.agg #[.int .i64 a1_0,.int .i64 a1_1],.agg #[.int .i64 a2_0,.int .i64 a2_1]] w fun e w' => e = .returned (.int .i64 r) ∧ Below w.heap.size w w':=by
 have hu73:=Try.underlying73
 have HB:=Aside0.mk (Below.refl w.heap.size w)
 have H : (if (wrap64 ((wrap64 ((wrap64 (a1_0 - a0_0)) * (wrap64 (a2_1 - a0_1)))) - (wrap64 ((wrap64 (a1_1 - a0_1)) * (wrap64 (a2_0 - a0_0)))))) > 0 then (some 1) else (if (wrap64 ((wrap64 ((wrap64 (a1_0 - a0_0)) * (wrap64 (a2_1 - a0_1)))) - (wrap64 ((wrap64 (a1_1 - a0_1)) * (wrap64 (a2_0 - a0_0)))))) < 0 then (some (-1)) else (some 0))) = some r:=h
 clear h
 by_cases c4 : (wrap64 ((wrap64 ((wrap64 (a1_0 - a0_0)) * (wrap64 (a2_1 - a0_1)))) - (wrap64 ((wrap64 (a1_1 - a0_1)) * (wrap64 (a2_0 - a0_0)))))) > 0
 ·rw [if_pos c4] at H
  have c4b0 : decide (0 < (wrap64 ((wrap64 ((wrap64 (a1_0 - a0_0)) * (wrap64 (a2_1 - a0_1)))) - (wrap64 ((wrap64 (a1_1 - a0_1)) * (wrap64 (a2_0 - a0_0))))))) = true:=decide_eq_true c4
  clear c4
  obtain rfl:=Option.some.inj H
  go_enter Try.func147,Try.ntmps147
  go_wp2_with (first | ((with_reducible refine gate_dst (N:=3) rfl ?_);refine bx (cs:=#[.int .i64 a0_0,.int .i64 a0_1]) (t:=73) ?_;intro gb270 hg w5 hbox hb;have BK270:=Aside0.mk (hbox);have GW270:=zb hg;have GE270:=zb hg;replace HB:=sb hb;clear hb hbox hg) | ((with_reducible refine gate_dst (N:=4) rfl ?_);refine bx (cs:=#[.int .i64 a1_0,.int .i64 a1_1]) (t:=73) ?_;intro gb271 hg w6 hbox hb;have BK271:=Aside0.mk (hbox);have GW271:=zb hg;have GE271:=zb hg;replace HB:=sb hb;have NB270_271:=nl BK270 hg;have NB271_270:=ng BK270 hg;replace BK270:=kb BK270 hb;clear hb hbox hg) | ((with_reducible refine gate_dst (N:=5) rfl ?_);refine bx (cs:=#[.int .i64 a2_0,.int .i64 a2_1]) (t:=73) ?_;intro gb272 hg w7 hbox hb;have BK272:=Aside0.mk (hbox);have GW272:=zb hg;have GE272:=zb hg;replace HB:=sb hb;have NB270_272:=nl BK270 hg;have NB272_270:=ng BK270 hg;replace BK270:=kb BK270 hb;have NB271_272:=nl BK271 hg;have NB272_271:=ng BK271 hg;replace BK271:=kb BK271 hb;clear hb hbox hg;have hnb8:=NB271_270.out;have hnc8:=NB270_271.out;have hnb9:=NB271_272.out;have hnc9:=NB272_271.out;have hcz10_0:=ck BK271 0;have hcz10_1:=ck BK271 1;have hfz10_0:=blk_frozen BK271.out 0;have hfz10_1:=blk_frozen BK271.out 1;have hnb11:=NB270_272.out;have hnc11:=NB272_270.out;have hcz12_0:=ck BK270 0;have hcz12_1:=ck BK270 1;have hfz12_0:=blk_frozen BK270.out 0;have hfz12_1:=blk_frozen BK270.out 1;have hcz13_0:=ck BK272 0;have hcz13_1:=ck BK272 1;have hfz13_0:=blk_frozen BK272.out 0;have hfz13_1:=blk_frozen BK272.out 1))
  go_ret
  exact ⟨by first | rfl | (simp [errW_none,errW_some] <;> rfl) | (simp [*,errW_none,errW_some] <;> rfl),ib⟩
 ·rw [if_neg c4] at H
  have c4b0 : decide (0 < (wrap64 ((wrap64 ((wrap64 (a1_0 - a0_0)) * (wrap64 (a2_1 - a0_1)))) - (wrap64 ((wrap64 (a1_1 - a0_1)) * (wrap64 (a2_0 - a0_0))))))) = false:=decide_eq_false c4
  clear c4
  by_cases c14 : (wrap64 ((wrap64 ((wrap64 (a1_0 - a0_0)) * (wrap64 (a2_1 - a0_1)))) - (wrap64 ((wrap64 (a1_1 - a0_1)) * (wrap64 (a2_0 - a0_0)))))) < 0
  ·rw [if_pos c14] at H
   have c14b0 : decide ((wrap64 ((wrap64 ((wrap64 (a1_0 - a0_0)) * (wrap64 (a2_1 - a0_1)))) - (wrap64 ((wrap64 (a1_1 - a0_1)) * (wrap64 (a2_0 - a0_0)))))) < 0) = true:=decide_eq_true c14
   clear c14
   obtain rfl:=Option.some.inj H
   go_enter Try.func147,Try.ntmps147
   go_wp2_with (first | ((with_reducible refine gate_dst (N:=3) rfl ?_);refine bx (cs:=#[.int .i64 a0_0,.int .i64 a0_1]) (t:=73) ?_;intro gb270 hg w15 hbox hb;have BK270:=Aside0.mk (hbox);have GW270:=zb hg;have GE270:=zb hg;replace HB:=sb hb;clear hb hbox hg) | ((with_reducible refine gate_dst (N:=4) rfl ?_);refine bx (cs:=#[.int .i64 a1_0,.int .i64 a1_1]) (t:=73) ?_;intro gb271 hg w16 hbox hb;have BK271:=Aside0.mk (hbox);have GW271:=zb hg;have GE271:=zb hg;replace HB:=sb hb;have NB270_271:=nl BK270 hg;have NB271_270:=ng BK270 hg;replace BK270:=kb BK270 hb;clear hb hbox hg) | ((with_reducible refine gate_dst (N:=5) rfl ?_);refine bx (cs:=#[.int .i64 a2_0,.int .i64 a2_1]) (t:=73) ?_;intro gb272 hg w17 hbox hb;have BK272:=Aside0.mk (hbox);have GW272:=zb hg;have GE272:=zb hg;replace HB:=sb hb;have NB270_272:=nl BK270 hg;have NB272_270:=ng BK270 hg;replace BK270:=kb BK270 hb;have NB271_272:=nl BK271 hg;have NB272_271:=ng BK271 hg;replace BK271:=kb BK271 hb;clear hb hbox hg;have hnb18:=NB271_270.out;have hnc18:=NB270_271.out;have hnb19:=NB271_272.out;have hnc19:=NB272_271.out;have hcz20_0:=ck BK271 0;have hcz20_1:=ck BK271 1;have hfz20_0:=blk_frozen BK271.out 0;have hfz20_1:=blk_frozen BK271.out 1;have hnb21:=NB270_272.out;have hnc21:=NB272_270.out;have hcz22_0:=ck BK270 0;have hcz22_1:=ck BK270 1;have hfz22_0:=blk_frozen BK270.out 0;have hfz22_1:=blk_frozen BK270.out 1;have hcz23_0:=ck BK272 0;have hcz23_1:=ck BK272 1;have hfz23_0:=blk_frozen BK272.out 0;have hfz23_1:=blk_frozen BK272.out 1))
   go_ret
   exact ⟨by first | rfl | (simp [errW_none,errW_some] <;> rfl) | (simp [*,errW_none,errW_some] <;> rfl),ib⟩
  ·rw [if_neg c14] at H
   have c14b0 : decide ((wrap64 ((wrap64 ((wrap64 (a1_0 - a0_0)) * (wrap64 (a2_1 - a0_1)))) - (wrap64 ((wrap64 (a1_1 - a0_1)) * (wrap64 (a2_0 - a0_0)))))) < 0) = false:=decide_eq_false c14
   clear c14
   obtain rfl:=Option.some.inj H
   go_enter Try.func147,Try.ntmps147
   go_wp2_with (first | ((with_reducible refine gate_dst (N:=3) rfl ?_);refine bx (cs:=#[.int .i64 a0_0,.int .i64 a0_1]) (t:=73) ?_;intro gb270 hg w24 hbox hb;have BK270:=Aside0.mk (hbox);have GW270:=zb hg;have GE270:=zb hg;replace HB:=sb hb;clear hb hbox hg) | ((with_reducible refine gate_dst (N:=4) rfl ?_);refine bx (cs:=#[.int .i64 a1_0,.int .i64 a1_1]) (t:=73) ?_;intro gb271 hg w25 hbox hb;have BK271:=Aside0.mk (hbox);have GW271:=zb hg;have GE271:=zb hg;replace HB:=sb hb;have NB270_271:=nl BK270 hg;have NB271_270:=ng BK270 hg;replace BK270:=kb BK270 hb;clear hb hbox hg) | ((with_reducible refine gate_dst (N:=5) rfl ?_);refine bx (cs:=#[.int .i64 a2_0,.int .i64 a2_1]) (t:=73) ?_;intro gb272 hg w26 hbox hb;have BK272:=Aside0.mk (hbox);have GW272:=zb hg;have GE272:=zb hg;replace HB:=sb hb;have NB270_272:=nl BK270 hg;have NB272_270:=ng BK270 hg;replace BK270:=kb BK270 hb;have NB271_272:=nl BK271 hg;have NB272_271:=ng BK271 hg;replace BK271:=kb BK271 hb;clear hb hbox hg;have hnb27:=NB271_270.out;have hnc27:=NB270_271.out;have hnb28:=NB271_272.out;have hnc28:=NB272_271.out;have hcz29_0:=ck BK271 0;have hcz29_1:=ck BK271 1;have hfz29_0:=blk_frozen BK271.out 0;have hfz29_1:=blk_frozen BK271.out 1;have hnb30:=NB270_272.out;have hnc30:=NB272_270.out;have hcz31_0:=ck BK270 0;have hcz31_1:=ck BK270 1;have hfz31_0:=blk_frozen BK270.out 0;have hfz31_1:=blk_frozen BK270.out 1;have hcz32_0:=ck BK272 0;have hcz32_1:=ck BK272 1;have hfz32_0:=blk_frozen BK272.out 0;have hfz32_1:=blk_frozen BK272.out 1))
   go_ret
   exact ⟨by first | rfl | (simp [errW_none,errW_some] <;> rfl) | (simp [*,errW_none,errW_some] <;> rfl),ib⟩
def impl_on.f (a0_0 : Int) (a0_1 : Int) (a1_0 : Int) (a1_1 : Int) (a2_0 : Int) (a2_1 : Int) : Option (Bool):=(impl_side.f a0_0 a0_1 a1_0 a1_1 a2_0 a2_1).bind fun t276 => (if t276 = 0 then ((impl_within.f a2_0 (mn a0_0 a1_0) (mx a0_0 a1_0)).bind fun t277 => (if t277 = true then ((impl_within.f a2_1 (mn a0_1 a1_1) (mx a0_1 a1_1)).bind fun t278 => (some t278)) else (some false))) else (some false))
theorem impl_on.calls (a0_0 : Int) (a0_1 : Int) (a1_0 : Int) (a1_1 : Int) (a2_0 : Int) (a2_1 : Int) (r : Bool) (w : World) (h : impl_on.f a0_0 a0_1 a1_0 a1_1 a2_0 a2_1 = some r) :
  Calls Try.prog 105 #[.agg #[.int .i64 a0_0,.int .i64 a0_1],.agg #[.int .i64 a1_0,.int .i64 a1_1],.agg #[.int .i64 a2_0,.int .i64 a2_1]] w fun e w' => e = .returned (.bool r) ∧ Below w.heap.size w w':=by
 have hu73:=Try.underlying73
 have HB:=Aside0.mk (Below.refl w.heap.size w)
 have H : ((impl_side.f a0_0 a0_1 a1_0 a1_1 a2_0 a2_1).bind fun t276 => (if t276 = 0 then ((impl_within.f a2_0 (mn a0_0 a1_0) (mx a0_0 a1_0)).bind fun t277 => (if t277 = true then ((impl_within.f a2_1 (mn a0_1 a1_1) (mx a0_1 a1_1)).bind fun t278 => (some t278)) else (some false))) else (some false))) = some r:=h
 clear h
 replace H:=bE.mp H
 obtain ⟨t276,A40,H⟩:=H
 replace H : (if t276 = 0 then ((impl_within.f a2_0 (mn a0_0 a1_0) (mx a0_0 a1_0)).bind fun t277 => (if t277 = true then ((impl_within.f a2_1 (mn a0_1 a1_1) (mx a0_1 a1_1)).bind fun t278 => (some t278)) else (some false))) else (some false)) = some r:=H
 have A4:=Aside0.mk A40
 clear A40
 by_cases c5 : t276 = 0
 ·rw [if_pos c5] at H
  have c5b0 : (t276 == 0) = true:=beq_iff_eq.mpr c5
  have c5b1 : (t276 != 0) = false:=bne_eq_false_iff_eq.mpr c5
  clear c5
  obtain ⟨ji6,hji6⟩ : ∃ j_ : Int,(mn a0_0 a1_0) = j_:=⟨_,rfl⟩
  replace H : ((impl_within.f a2_0 (ji6) (mx a0_0 a1_0)).bind fun t277 => (if t277 = true then ((impl_within.f a2_1 (mn a0_1 a1_1) (mx a0_1 a1_1)).bind fun t278 => (some t278)) else (some false))) = some r:=by first | (rw [hji6] at H;exact H) | (simp only [hji6] at H ⊢;exact H)
  (try rw [hji6] at A4)
  have hji6_ : (if a1_0 < a0_0 then a1_0 else a0_0) = ji6:=hji6
  obtain ⟨ji7,hji7⟩ : ∃ j_ : Int,(mx a0_0 a1_0) = j_:=⟨_,rfl⟩
  replace H : ((impl_within.f a2_0 (ji6) (ji7)).bind fun t277 => (if t277 = true then ((impl_within.f a2_1 (mn a0_1 a1_1) (mx a0_1 a1_1)).bind fun t278 => (some t278)) else (some false))) = some r:=by first | (rw [hji7] at H;exact H) | (simp only [hji7] at H ⊢;exact H)
  (try rw [hji7] at A4)
  have hji7_ : (if a0_0 < a1_0 then a1_0 else a0_0) = ji7:=hji7
  replace H:=bE.mp H
  obtain ⟨t277,A80,H⟩:=H
  replace H : (if t277 = true then ((impl_within.f a2_1 (mn a0_1 a1_1) (mx a0_1 a1_1)).bind fun t278 => (some t278)) else (some false)) = some r:=H
  have A8:=Aside0.mk A80
  clear A80
  by_cases c9 : t277 = true
  ·subst c9
   have H1 : ((impl_within.f a2_1 (mn a0_1 a1_1) (mx a0_1 a1_1)).bind fun t278 => (some t278)) = some r:=by rw [if_pos rfl] at H;exact H
   clear H
   have H:=H1
   clear H1
   obtain ⟨ji10,hji10⟩ : ∃ j_ : Int,(mn a0_1 a1_1) = j_:=⟨_,rfl⟩
   replace H : ((impl_within.f a2_1 (ji10) (mx a0_1 a1_1)).bind fun t278 => (some t278)) = some r:=by first | (rw [hji10] at H;exact H) | (simp only [hji10] at H ⊢;exact H)
   (try rw [hji10] at A4)
   (try rw [hji10] at A8)
   have hji10_ : (if a1_1 < a0_1 then a1_1 else a0_1) = ji10:=hji10
   obtain ⟨ji11,hji11⟩ : ∃ j_ : Int,(mx a0_1 a1_1) = j_:=⟨_,rfl⟩
   replace H : ((impl_within.f a2_1 (ji10) (ji11)).bind fun t278 => (some t278)) = some r:=by first | (rw [hji11] at H;exact H) | (simp only [hji11] at H ⊢;exact H)
   (try rw [hji11] at A4)
   (try rw [hji11] at A8)
   have hji11_ : (if a0_1 < a1_1 then a1_1 else a0_1) = ji11:=hji11
   replace H:=bE.mp H
   obtain ⟨t278,A120,H⟩:=H
   replace H : (some t278) = some r:=H
   have A12:=Aside0.mk A120
   clear A120
   obtain rfl:=Option.some.inj H
   go_enter Try.func105,Try.ntmps105
   go_wp2_with (first | ((with_reducible refine gate_dst (N:=3) rfl ?_);(try (refine gate_guard (by rfl) ?_;dsimp only));refine bx (cs:=#[.int .i64 a0_0,.int .i64 a0_1]) (t:=73) ?_;intro gb273 hg w13 hbox hb;have BK273:=Aside0.mk (hbox);have GW273:=zb hg;have GE273:=zb hg;replace HB:=sb hb;clear hb hbox hg) | ((with_reducible refine gate_dst (N:=4) rfl ?_);(try (refine gate_guard (by rfl) ?_;dsimp only));refine bx (cs:=#[.int .i64 a1_0,.int .i64 a1_1]) (t:=73) ?_;intro gb274 hg w14 hbox hb;have BK274:=Aside0.mk (hbox);have GW274:=zb hg;have GE274:=zb hg;replace HB:=sb hb;have NB273_274:=nl BK273 hg;have NB274_273:=ng BK273 hg;replace BK273:=kb BK273 hb;clear hb hbox hg) | ((with_reducible refine gate_dst (N:=5) rfl ?_);(try (refine gate_guard (by rfl) ?_;dsimp only));refine bx (cs:=#[.int .i64 a2_0,.int .i64 a2_1]) (t:=73) ?_;intro gb275 hg w15 hbox hb;have BK275:=Aside0.mk (hbox);have GW275:=zb hg;have GE275:=zb hg;replace HB:=sb hb;have NB273_275:=nl BK273 hg;have NB275_273:=ng BK273 hg;replace BK273:=kb BK273 hb;have NB274_275:=nl BK274 hg;have NB275_274:=ng BK274 hg;replace BK274:=kb BK274 hb;clear hb hbox hg;have hnb16:=NB273_274.out;have hnc16:=NB274_273.out;have hnb17:=NB273_275.out;have hnc17:=NB275_273.out;have hcz18_0:=ck BK273 0;have hcz18_1:=ck BK273 1;have hfz18_0:=blk_frozen BK273.out 0;have hfz18_1:=blk_frozen BK273.out 1;have hnb19:=NB274_275.out;have hnc19:=NB275_274.out;have hcz20_0:=ck BK274 0;have hcz20_1:=ck BK274 1;have hfz20_0:=blk_frozen BK274.out 0;have hfz20_1:=blk_frozen BK274.out 1;have hcz21_0:=ck BK275 0;have hcz21_1:=ck BK275 1;have hfz21_0:=blk_frozen BK275.out 0;have hfz21_1:=blk_frozen BK275.out 1) | ((with_reducible refine gate_callee (f:=147) rfl ?_);refine goesL_ (some 10) rfl rfl Try.func147 (by kernel_rfl) rfl #[.agg #[.int .i64 a0_0,.int .i64 a0_1],.agg #[.int .i64 a1_0,.int .i64 a1_1],.agg #[.int .i64 a2_0,.int .i64 a2_1]] rfl (by (try simp only [mT,mC,mN]);first | done | rfl | (simp only [lD,lT];rfl)) ?_;(with_reducible refine (impl_side.calls a0_0 a0_1 a1_0 a1_1 a2_0 a2_1 t276 _ A4.out).mono ?_);rintro e w22 ⟨rfl,hb⟩;refine ⟨_,rfl,?_⟩;replace BK273:=kb BK273 hb;replace BK274:=kb BK274 hb;replace BK275:=kb BK275 hb;replace HB:=sb hb;(try clear hb);(try clear hb2);(try clear hk);(try clear hi);have hcz23_0:=ck BK275 0;have hcz23_1:=ck BK275 1;have hfz23_0:=blk_frozen BK275.out 0;have hfz23_1:=blk_frozen BK275.out 1;have hcz24_0:=ck BK273 0;have hcz24_1:=ck BK273 1;have hfz24_0:=blk_frozen BK273.out 0;have hfz24_1:=blk_frozen BK273.out 1;have hcz25_0:=ck BK274 0;have hcz25_1:=ck BK274 1;have hfz25_0:=blk_frozen BK274.out 0;have hfz25_1:=blk_frozen BK274.out 1) | (go_at_call 62;(with_reducible refine (impl_within.calls a2_0 ji6 ji7 true _ A8.out).mono ?_);rintro e w' ⟨rfl,⟨nd,rfl⟩⟩) | (go_at_call 62;(with_reducible refine (impl_within.calls a2_1 ji10 ji11 t278 _ A12.out).mono ?_);rintro e w' ⟨rfl,⟨nd,rfl⟩⟩))
   go_ret
   exact ⟨by first | rfl | (simp [errW_none,errW_some] <;> rfl) | (simp only [← hji6,← hji7,← hji10,← hji11];first | rfl | (simp [errW_none,errW_some] <;> rfl)) | (simp [*,errW_none,errW_some] <;> rfl),ib⟩
  ·replace c9:=Bool.eq_false_iff.mpr c9
   subst c9
   have H1 : (some false) = some r:=by rw [if_neg (show ¬ (false = true) by decide)] at H;exact H
   clear H
   have H:=H1
   clear H1
   obtain rfl:=Option.some.inj H
   go_enter Try.func105,Try.ntmps105
   go_wp2_with (first | ((with_reducible refine gate_dst (N:=3) rfl ?_);(try (refine gate_guard (by rfl) ?_;dsimp only));refine bx (cs:=#[.int .i64 a0_0,.int .i64 a0_1]) (t:=73) ?_;intro gb273 hg w26 hbox hb;have BK273:=Aside0.mk (hbox);have GW273:=zb hg;have GE273:=zb hg;replace HB:=sb hb;clear hb hbox hg) | ((with_reducible refine gate_dst (N:=4) rfl ?_);(try (refine gate_guard (by rfl) ?_;dsimp only));refine bx (cs:=#[.int .i64 a1_0,.int .i64 a1_1]) (t:=73) ?_;intro gb274 hg w27 hbox hb;have BK274:=Aside0.mk (hbox);have GW274:=zb hg;have GE274:=zb hg;replace HB:=sb hb;have NB273_274:=nl BK273 hg;have NB274_273:=ng BK273 hg;replace BK273:=kb BK273 hb;clear hb hbox hg) | ((with_reducible refine gate_dst (N:=5) rfl ?_);(try (refine gate_guard (by rfl) ?_;dsimp only));refine bx (cs:=#[.int .i64 a2_0,.int .i64 a2_1]) (t:=73) ?_;intro gb275 hg w28 hbox hb;have BK275:=Aside0.mk (hbox);have GW275:=zb hg;have GE275:=zb hg;replace HB:=sb hb;have NB273_275:=nl BK273 hg;have NB275_273:=ng BK273 hg;replace BK273:=kb BK273 hb;have NB274_275:=nl BK274 hg;have NB275_274:=ng BK274 hg;replace BK274:=kb BK274 hb;clear hb hbox hg;have hnb29:=NB273_274.out;have hnc29:=NB274_273.out;have hnb30:=NB273_275.out;have hnc30:=NB275_273.out;have hcz31_0:=ck BK273 0;have hcz31_1:=ck BK273 1;have hfz31_0:=blk_frozen BK273.out 0;have hfz31_1:=blk_frozen BK273.out 1;have hnb32:=NB274_275.out;have hnc32:=NB275_274.out;have hcz33_0:=ck BK274 0;have hcz33_1:=ck BK274 1;have hfz33_0:=blk_frozen BK274.out 0;have hfz33_1:=blk_frozen BK274.out 1;have hcz34_0:=ck BK275 0;have hcz34_1:=ck BK275 1;have hfz34_0:=blk_frozen BK275.out 0;have hfz34_1:=blk_frozen BK275.out 1) | ((with_reducible refine gate_callee (f:=147) rfl ?_);refine goesL_ (some 10) rfl rfl Try.func147 (by kernel_rfl) rfl #[.agg #[.int .i64 a0_0,.int .i64 a0_1],.agg #[.int .i64 a1_0,.int .i64 a1_1],.agg #[.int .i64 a2_0,.int .i64 a2_1]] rfl (by (try simp only [mT,mC,mN]);first | done | rfl | (simp only [lD,lT];rfl)) ?_;(with_reducible refine (impl_side.calls a0_0 a0_1 a1_0 a1_1 a2_0 a2_1 t276 _ A4.out).mono ?_);rintro e w35 ⟨rfl,hb⟩;refine ⟨_,rfl,?_⟩;replace BK273:=kb BK273 hb;replace BK274:=kb BK274 hb;replace BK275:=kb BK275 hb;replace HB:=sb hb;(try clear hb);(try clear hb2);(try clear hk);(try clear hi);have hcz36_0:=ck BK275 0;have hcz36_1:=ck BK275 1;have hfz36_0:=blk_frozen BK275.out 0;have hfz36_1:=blk_frozen BK275.out 1;have hcz37_0:=ck BK273 0;have hcz37_1:=ck BK273 1;have hfz37_0:=blk_frozen BK273.out 0;have hfz37_1:=blk_frozen BK273.out 1;have hcz38_0:=ck BK274 0;have hcz38_1:=ck BK274 1;have hfz38_0:=blk_frozen BK274.out 0;have hfz38_1:=blk_frozen BK274.out 1) | (go_at_call 62;(with_reducible refine (impl_within.calls a2_0 ji6 ji7 false _ A8.out).mono ?_);rintro e w' ⟨rfl,⟨nd,rfl⟩⟩))
   go_ret
   exact ⟨by first | rfl | (simp [errW_none,errW_some] <;> rfl) | (simp only [← hji6,← hji7];first | rfl | (simp [errW_none,errW_some] <;> rfl)) | (simp [*,errW_none,errW_some] <;> rfl),ib⟩
 ·rw [if_neg c5] at H
  have c5b0 : (t276 == 0) = false:=beq_eq_false_iff_ne.mpr c5
  have c5b1 : (t276 != 0) = true:=bne_iff_ne.mpr c5
  obtain rfl:=Option.some.inj H
  go_enter Try.func105,Try.ntmps105
  go_wp2_with (first | ((with_reducible refine gate_dst (N:=3) rfl ?_);(try (refine gate_guard (by rfl) ?_;dsimp only));refine bx (cs:=#[.int .i64 a0_0,.int .i64 a0_1]) (t:=73) ?_;intro gb273 hg w39 hbox hb;have BK273:=Aside0.mk (hbox);have GW273:=zb hg;have GE273:=zb hg;replace HB:=sb hb;clear hb hbox hg) | ((with_reducible refine gate_dst (N:=4) rfl ?_);(try (refine gate_guard (by rfl) ?_;dsimp only));refine bx (cs:=#[.int .i64 a1_0,.int .i64 a1_1]) (t:=73) ?_;intro gb274 hg w40 hbox hb;have BK274:=Aside0.mk (hbox);have GW274:=zb hg;have GE274:=zb hg;replace HB:=sb hb;have NB273_274:=nl BK273 hg;have NB274_273:=ng BK273 hg;replace BK273:=kb BK273 hb;clear hb hbox hg) | ((with_reducible refine gate_dst (N:=5) rfl ?_);(try (refine gate_guard (by rfl) ?_;dsimp only));refine bx (cs:=#[.int .i64 a2_0,.int .i64 a2_1]) (t:=73) ?_;intro gb275 hg w41 hbox hb;have BK275:=Aside0.mk (hbox);have GW275:=zb hg;have GE275:=zb hg;replace HB:=sb hb;have NB273_275:=nl BK273 hg;have NB275_273:=ng BK273 hg;replace BK273:=kb BK273 hb;have NB274_275:=nl BK274 hg;have NB275_274:=ng BK274 hg;replace BK274:=kb BK274 hb;clear hb hbox hg;have hnb42:=NB273_274.out;have hnc42:=NB274_273.out;have hnb43:=NB273_275.out;have hnc43:=NB275_273.out;have hcz44_0:=ck BK273 0;have hcz44_1:=ck BK273 1;have hfz44_0:=blk_frozen BK273.out 0;have hfz44_1:=blk_frozen BK273.out 1;have hnb45:=NB274_275.out;have hnc45:=NB275_274.out;have hcz46_0:=ck BK274 0;have hcz46_1:=ck BK274 1;have hfz46_0:=blk_frozen BK274.out 0;have hfz46_1:=blk_frozen BK274.out 1;have hcz47_0:=ck BK275 0;have hcz47_1:=ck BK275 1;have hfz47_0:=blk_frozen BK275.out 0;have hfz47_1:=blk_frozen BK275.out 1) | ((with_reducible refine gate_callee (f:=147) rfl ?_);refine goesL_ (some 10) rfl rfl Try.func147 (by kernel_rfl) rfl #[.agg #[.int .i64 a0_0,.int .i64 a0_1],.agg #[.int .i64 a1_0,.int .i64 a1_1],.agg #[.int .i64 a2_0,.int .i64 a2_1]] rfl (by (try simp only [mT,mC,mN]);first | done | rfl | (simp only [lD,lT];rfl)) ?_;(with_reducible refine (impl_side.calls a0_0 a0_1 a1_0 a1_1 a2_0 a2_1 t276 _ A4.out).mono ?_);rintro e w48 ⟨rfl,hb⟩;refine ⟨_,rfl,?_⟩;replace BK273:=kb BK273 hb;replace BK274:=kb BK274 hb;replace BK275:=kb BK275 hb;replace HB:=sb hb;(try clear hb);(try clear hb2);(try clear hk);(try clear hi)))
  go_ret
  exact ⟨by first | rfl | (simp [errW_none,errW_some] <;> rfl) | (simp [*,errW_none,errW_some] <;> rfl),ib⟩
end Go.Proofs.Ytnnchaggdnlfmaa.PFnExactTriangulate
