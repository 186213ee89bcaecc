/- Contracts of functions that FnExactEdgesOf reaches, out of the lines of the kit's print. -/
import Derived.Test.YtpeebobdbaemiaaQFnExactEdgesOfx0
import Derived.Test.YtpeebobdbaemiaaQFnExactEdgesOfx12
namespace Go.Proofs.Ytpeebobdbaemiaa.PFnExactEdgesOf
set_option maxHeartbeats 8000000
set_option maxRecDepth 100000
open Go.RowKit Go.Proofs.YtpeebobdbaemiaaW.PrintWords Go.Proofs.YtpeebobdbaemiaaW.PrintLast Go.Proofs.YtpeebobdbaemiaaW.PrintMore
open Bool renaming true → tT, false → fF
open Go.World renaming block_lt_of_cell? → bL
open List renaming length_take → lT, length_drop → lD, map_toArray → mT, map_cons → mC, map_nil → mN
open Option renaming bind_eq_some_iff → bE
attribute [local go_sem] max2_int min2_int max_two min_two max_three min_three max_four min_four
set_option linter.unusedVariables false
set_option linter.unusedSimpArgs false
def impl_ringPolygon.l0 : Nat → List (S78) → List (S78) → List Int → Int → Int → Option ((List (S78)) × Bool)
 | 0,_,_,_,_,_ => none
 | k + 1,x0,x6,x10,x11,x12 => if x12 < x11 then (if 0 ≤ x12 then (if x12 < (x10.length : Int) then ((impl_within.f (rd x10 x12) 0 (wrap64 ((x0.length : Int) - 1))).bind fun t297 => (if t297 = true then (if 0 ≤ (rd x10 x12) then (if (rd x10 x12) < (x0.length : Int) then (if x6.length < 8796093022208 then (impl_ringPolygon.l0 k x0 (x6 ++ [(⟨(rd_T78 x0 (rd x10 x12)).f0,(rd_T78 x0 (rd x10 x12)).f1⟩ : S78)]) x10 x11 (wrap64 (x12 + 1))) else (none)) else (none)) else (none)) else (some (([] : List (S78)),false)))) else (none)) else (none)) else (some (x6,true))
def impl_ringPolygon.f (k : Nat) (l0 : List (S78)) (l1 : List Int) : Option ((List (S78)) × Bool):=impl_ringPolygon.l0 k l0 (([] : List (S78))) l1 (l1.length : Int) 0
theorem impl_ringPolygon.calls (k : Nat) (A0 : Option Addr) (c0 : Nat) (l0 : List (S78)) (A1 : Option Addr) (c1 : Nat) (l1 : List Int) (r1 : List (S78)) (r2 : Bool) (w : World) (hr0 : Kd.C k78 w A0 l0.length l0) (hc0 : l0.length ≤ c0) (hr1 : Kd.C (Kd.int .i64) w A1 l1.length l1) (hc1 : l1.length ≤ c1) (h : impl_ringPolygon.f k l0 l1 = some (r1,r2)) :
  Calls Try.prog 55 #[.slice A0 l0.length c0,.slice A1 l1.length c1] w fun e w' => ∃ v0_ : Value,e = .returned (.tuple #[v0_,.bool r2]) ∧ Kd.R k78 78 w' w.heap.size (fun _ => True) v0_ r1 ∧ Below w.heap.size w w':=by
 have hu78:=Try.underlying78
 have HR0:=Aside0.mk hr0
 have HC0:=Aside0.mk hc0
 clear hr0 hc0
 have HR1:=Aside0.mk hr1
 have HC1:=Aside0.mk hc1
 clear hr1 hc1
 have HB:=Aside0.mk (Below.refl w.heap.size w)
 have H : (impl_ringPolygon.l0 k l0 (([] : List (S78))) l1 (l1.length : Int) 0) = some (r1,r2):=h
 clear h
 obtain ⟨y293,hy293⟩ : ∃ y_ : List (S78),y_ = (([] : List (S78))):=⟨_,rfl⟩
 replace H : (impl_ringPolygon.l0 k l0 y293 l1 (l1.length : Int) 0) = some (r1,r2):=by first | (rw [hy293];with_reducible exact H) | (have H2_:=(Option.bind_some _ _).symm.trans H;rw [hy293];with_reducible exact H2_) | (have H2_:=(Option.bind_some _ _).symm.trans H;with_reducible exact H2_) | with_reducible exact H | (rw [hy293];exact H) | exact H
 have Ny293:=Aside0.mk hy293
 clear hy293
 have H':=Aside0.mk H
 clear H
 go_enter Try.func55,Try.ntmps55
 go_wp2_with (first | ((with_reducible refine gate_dst (N:=9) rfl ?_);refine Kd.R_lit k78 _ 78 ?hg (N:=9) ?hd (xs:=([] : List (S78))) (inner:=[]) (ok:=fun _ => True) (okp:=fun _ => True) ?hr ?hp (fun _ hk => hk) trivial (Below.refl _ _) (Nat.le_refl _) (by simp) ?_;(case hd => rfl);(case hg => rfl);(case hr => first | (go_simp;done) | (go_simp;rfl));(case hp => exact (Reps.none _ _));intro v294 w3 ho4 hb hg_ hnew_;clear hg_ hnew_;(first | rw [← Ny293.out] at ho4 | (simp only [Int.reduceToNat] at ho4;rw [← Ny293.out] at ho4));have HO295:=Aside0.mk (Kd.R_lower ho4 (below_size ib));replace HB:=sb hb;clear hb ho4))
 go_loopg [6,12] k (fun kq v6 v12 w' => ∃ (x6_1 : List (S78)) (x12_1 : Int),v12 = .int .i64 x12_1 ∧ Aside0 (impl_ringPolygon.l0 kq l0 x6_1 l1 (l1.length : Int) x12_1 = some (r1,r2)) ∧ Aside0 (kq ≤ k) ∧ Aside0 (Kd.R k78 78 w' w.heap.size (fun _ => True) v6 x6_1) ∧ Aside0 (Below w.heap.size w w'))
 case atStart => exact ⟨(y293),(0),(by first | rfl | (simp;done) | (simp [*];done)),H',⟨Nat.le_refl _⟩,⟨rO HO295.out⟩,⟨ib⟩⟩
 case round =>
  clear H'
  try clear c1
  try clear p2
  obtain ⟨x6_1,x12_1,rfl,HA,HK1,HO_6,HB⟩:=hrel
  cases gk with
  | zero => exact absurd HA.out (by simp [impl_ringPolygon.l0])
  | succ k1 =>
   have H:=HA.out
   clear HA
   simp only [impl_ringPolygon.l0] at H
   by_cases c5 : x12_1 < (l1.length : Int)
   ·rw [if_pos c5] at H
    have c5b0 : decide (x12_1 < (l1.length : Int)) = true:=decide_eq_true c5
    clear c5
    by_cases c6 : 0 ≤ x12_1
    ·rw [if_pos c6] at H
     have c6b0 : decide (0 ≤ x12_1) = true:=decide_eq_true c6
     clear c6
     by_cases c7 : x12_1 < (l1.length : Int)
     ·rw [if_pos c7] at H
      have c7b0 : decide (x12_1 < (l1.length : Int)) = true:=decide_eq_true c7
      clear c7
      replace H:=bE.mp H
      obtain ⟨t297,A80,H⟩:=H
      replace H : (if t297 = true then (if 0 ≤ (rd l1 x12_1) then (if (rd l1 x12_1) < (l0.length : Int) then (if x6_1.length < 8796093022208 then (impl_ringPolygon.l0 k1 l0 (x6_1 ++ [(⟨(rd_T78 l0 (rd l1 x12_1)).f0,(rd_T78 l0 (rd l1 x12_1)).f1⟩ : S78)]) l1 (l1.length : Int) (wrap64 (x12_1 + 1))) else (none)) else (none)) else (none)) else (some (([] : List (S78)),false))) = some (r1,r2):=H
      have A8:=Aside0.mk A80
      clear A80
      by_cases c9 : t297 = true
      ·subst c9
       have H1 : (if 0 ≤ (rd l1 x12_1) then (if (rd l1 x12_1) < (l0.length : Int) then (if x6_1.length < 8796093022208 then (impl_ringPolygon.l0 k1 l0 (x6_1 ++ [(⟨(rd_T78 l0 (rd l1 x12_1)).f0,(rd_T78 l0 (rd l1 x12_1)).f1⟩ : S78)]) l1 (l1.length : Int) (wrap64 (x12_1 + 1))) else (none)) else (none)) else (none)) = some (r1,r2):=by rw [if_pos rfl] at H;exact H
       clear H
       have H:=H1
       clear H1
       by_cases c10 : 0 ≤ (rd l1 x12_1)
       ·rw [if_pos c10] at H
        have c10b0 : decide (0 ≤ (rd l1 x12_1)) = true:=decide_eq_true c10
        clear c10
        by_cases c11 : (rd l1 x12_1) < (l0.length : Int)
        ·rw [if_pos c11] at H
         have c11b0 : decide ((rd l1 x12_1) < (l0.length : Int)) = true:=decide_eq_true c11
         clear c11
         by_cases c12 : x6_1.length < 8796093022208
         ·rw [if_pos c12] at H
          have LMc12:=Aside0.mk c12
          clear c12
          obtain ⟨y299,hy299⟩ : ∃ y_ : List (S78),y_ = (x6_1 ++ [(⟨(rd_T78 l0 (rd l1 x12_1)).f0,(rd_T78 l0 (rd l1 x12_1)).f1⟩ : S78)]):=⟨_,rfl⟩
          replace H : (impl_ringPolygon.l0 k1 l0 y299 l1 (l1.length : Int) (wrap64 (x12_1 + 1))) = some (r1,r2):=by first | (rw [hy299];with_reducible exact H) | (have H2_:=(Option.bind_some _ _).symm.trans H;rw [hy299];with_reducible exact H2_) | (have H2_:=(Option.bind_some _ _).symm.trans H;with_reducible exact H2_) | with_reducible exact H | (rw [hy299];exact H) | exact H
          have Ny299:=Aside0.mk hy299
          clear hy299
          have H':=Aside0.mk H
          clear H
          have p296 : 0 ≤ (x12_1 : Int):=da
          have q296 : x12_1 < (l1.length : Int):=da
          obtain ⟨ad296,e296,hx296_0⟩:=Kd.at_int HR1.out x12_1 p296 q296
          cases e296
          replace hx296_0:=cq HB.out hx296_0
          replace p296:=eq_true p296
          replace q296:=eq_true q296
          go_wp2_with (first | ((with_reducible refine gate_callee (f:=46) rfl ?_);refine goesL_ (some 20) rfl rfl Try.func46 (by kernel_rfl) rfl #[.int .i64 (rd l1 x12_1),.int .i64 0,.int .i64 (wrap64 ((l0.length : Int) - 1))] rfl (by (try simp only [mT,mC,mN]);first | done | rfl | (simp only [lD,lT];rfl)) ?_;(with_reducible refine (impl_within.calls (rd l1 x12_1) 0 (wrap64 ((l0.length : Int) - 1)) true _ A8.out).mono ?_);rintro e w' ⟨rfl,⟨nd,rfl⟩⟩;refine ⟨_,rfl,?_⟩;have p298 : 0 ≤ ((rd l1 x12_1) : Int):=da;have q298 : (rd l1 x12_1) < (l0.length : Int):=da;obtain ⟨ad298,e298,hx298_0,hx298_1⟩:=at_T78 HR0.out (rd l1 x12_1) p298 q298;cases e298;replace hx298_0:=cq HB.out hx298_0;replace hx298_1:=cq HB.out hx298_1;replace p298:=eq_true p298;replace q298:=eq_true q298) | ((with_reducible refine gate_builtin (b:=.append) (xs:=#[.tmp 22,.tmp 27]) rfl ?_);at_builtin;refine Kd.R_append k78 (w0:=w) w.heap.size rfl (.tmp 22) (.tmp 27) 30 78 (.agg #[(.int .i64 0),(.int .i64 0)]) 16 rfl Try.underlying30 info78 rfl (by decide) (by omega) u6 x6_1 (⟨(rd_T78 l0 (rd l1 x12_1)).f0,(rd_T78 l0 (rd l1 x12_1)).f1⟩ : S78) [.int .i64 ((rd_T78 l0 (rd l1 x12_1)).f0),.int .i64 ((rd_T78 l0 (rd l1 x12_1)).f1)] (fun _ => True) (fun _ => False) rfl rfl ?aP (fun _ hk => hk.elim) ?aF ?aO ?aB ?aS ?aL ?_;(case aP => exact k78_mkM _ _ _ (⟨(rd_T78 l0 (rd l1 x12_1)).f0,(rd_T78 l0 (rd l1 x12_1)).f1⟩ : S78));(case aB => exact ib);(case aF => exact (fun _ _ => trivial));(case aO => exact (rO HO_6.out));(case aS => exact (below_size ib));(case aL => have:=LMc12.out;omega);intro v300 w13 ho hb hg hat;rw [← Ny299.out] at ho;replace HB:=Aside0.mk (hb);have HO301:=Aside0.mk (ho);clear HO_6;clear ho hb hg hat))
          go_roundg k1
          case measure => have:=HK1.out;omega
          case rel => exact ⟨(y299),(wrap64 (x12_1 + 1)),(by first | rfl | (simp;done) | (simp [*];done)),H',⟨by have:=HK1.out;omega⟩,⟨rO HO301.out⟩,⟨ib⟩⟩
         ·rw [if_neg c12] at H
          exact absurd H (by simp)
        ·rw [if_neg c11] at H
         exact absurd H (by simp)
       ·rw [if_neg c10] at H
        exact absurd H (by simp)
      ·replace c9:=Bool.eq_false_iff.mpr c9
       subst c9
       have H1 : (some (([] : List (S78)),false)) = some (r1,r2):=by rw [if_neg (show ¬ (false = true) by decide)] at H;exact H
       clear H
       have H:=H1
       clear H1
       simp only [Option.some.injEq,Prod.mk.injEq] at H
       obtain ⟨rfl,rfl⟩:=H
       have p296 : 0 ≤ (x12_1 : Int):=da
       have q296 : x12_1 < (l1.length : Int):=da
       obtain ⟨ad296,e296,hx296_0⟩:=Kd.at_int HR1.out x12_1 p296 q296
       cases e296
       replace hx296_0:=cq HB.out hx296_0
       replace p296:=eq_true p296
       replace q296:=eq_true q296
       go_wp2_with (first | ((with_reducible refine gate_callee (f:=46) rfl ?_);refine goesL_ (some 20) rfl rfl Try.func46 (by kernel_rfl) rfl #[.int .i64 (rd l1 x12_1),.int .i64 0,.int .i64 (wrap64 ((l0.length : Int) - 1))] rfl (by (try simp only [mT,mC,mN]);first | done | rfl | (simp only [lD,lT];rfl)) ?_;(with_reducible refine (impl_within.calls (rd l1 x12_1) 0 (wrap64 ((l0.length : Int) - 1)) false _ A8.out).mono ?_);rintro e w' ⟨rfl,⟨nd,rfl⟩⟩;refine ⟨_,rfl,?_⟩))
       go_ret2
       exact ⟨_,by first | rfl | (simp [errW_none,errW_some] <;> rfl) | (simp [*,errW_none,errW_some] <;> rfl),by first | exact Kd.R_nil _ _ _ _ _ | exact Kd.N_nil _ _ _ _ _ | exact Kd.V_nil _ _ _ _ _ | exact Kd.Q_nil _ _ _ _ _ | exact Kd.S_nil _ _ _ _ _,ib⟩
     ·first | (exfalso;have z_:=of_decide_eq_true c5b0;omega) | (rw [if_neg c7] at H;exact absurd H (by simp))
    ·rw [if_neg c6] at H
     exact absurd H (by simp)
   ·rw [if_neg c5] at H
    have c5b0 : decide (x12_1 < (l1.length : Int)) = false:=decide_eq_false c5
    clear c5
    simp only [Option.some.injEq,Prod.mk.injEq] at H
    obtain ⟨rfl,rfl⟩:=H
    go_wp2
    go_ret2
    exact ⟨_,by first | rfl | (simp [errW_none,errW_some] <;> rfl) | (simp [*,errW_none,errW_some] <;> rfl),rO HO_6.out,ib⟩
def impl_ValidPoint.f (a0_0 : Int) (a0_1 : Int) : Option (Bool):=(impl_within.f a0_0 0 20000).bind fun t303 => (if t303 = true then ((impl_within.f a0_1 0 20000).bind fun t304 => (some t304)) else (some false))
theorem impl_ValidPoint.calls (a0_0 : Int) (a0_1 : Int) (r : Bool) (w : World) (h : impl_ValidPoint.f a0_0 a0_1 = some r) :
  Calls Try.prog 90 #[.agg #[.int .i64 a0_0,.int .i64 a0_1]] w fun e w' => e = .returned (.bool r) ∧ Below w.heap.size w w':=by
 have hu78:=Try.underlying78
 have HB:=Aside0.mk (Below.refl w.heap.size w)
 have H : ((impl_within.f a0_0 0 20000).bind fun t303 => (if t303 = true then ((impl_within.f a0_1 0 20000).bind fun t304 => (some t304)) else (some false))) = some r:=h
 clear h
 replace H:=bE.mp H
 obtain ⟨t303,A20,H⟩:=H
 replace H : (if t303 = true then ((impl_within.f a0_1 0 20000).bind fun t304 => (some t304)) else (some false)) = some r:=H
 have A2:=Aside0.mk A20
 clear A20
 by_cases c3 : t303 = true
 ·subst c3
  have H1 : ((impl_within.f a0_1 0 20000).bind fun t304 => (some t304)) = some r:=by rw [if_pos rfl] at H;exact H
  clear H
  have H:=H1
  clear H1
  replace H:=bE.mp H
  obtain ⟨t304,A40,H⟩:=H
  replace H : (some t304) = some r:=H
  have A4:=Aside0.mk A40
  clear A40
  obtain rfl:=Option.some.inj H
  go_enter Try.func90,Try.ntmps90
  go_wp2_with (first | ((with_reducible refine gate_dst (N:=1) rfl ?_);refine bx (cs:=#[.int .i64 a0_0,.int .i64 a0_1]) (t:=78) ?_;intro gb302 hg w5 hbox hb;have BK302:=Aside0.mk (hbox);have GW302:=zb hg;have GE302:=zb hg;replace HB:=sb hb;clear hb hbox hg;have hcz6_0:=ck BK302 0;have hcz6_1:=ck BK302 1;have hfz6_0:=blk_frozen BK302.out 0;have hfz6_1:=blk_frozen BK302.out 1) | ((with_reducible refine gate_callee (f:=46) rfl ?_);refine goesL_ (some 5) rfl rfl Try.func46 (by kernel_rfl) rfl #[.int .i64 a0_0,.int .i64 0,.int .i64 20000] rfl (by (try simp only [mT,mC,mN]);first | done | rfl | (simp only [lD,lT];rfl)) ?_;(with_reducible refine (impl_within.calls a0_0 0 20000 true _ A2.out).mono ?_);rintro e w' ⟨rfl,⟨nd,rfl⟩⟩;refine ⟨_,rfl,?_⟩) | (go_at_call 46;(with_reducible refine (impl_within.calls a0_1 0 20000 t304 _ A4.out).mono ?_);rintro e w' ⟨rfl,⟨nd,rfl⟩⟩))
  go_ret
  exact ⟨by first | rfl | (simp [errW_none,errW_some] <;> rfl) | (simp [*,errW_none,errW_some] <;> rfl),ib⟩
 ·replace c3:=Bool.eq_false_iff.mpr c3
  subst c3
  have H1 : (some false) = some r:=by rw [if_neg (show ¬ (false = true) by decide)] at H;exact H
  clear H
  have H:=H1
  clear H1
  obtain rfl:=Option.some.inj H
  go_enter Try.func90,Try.ntmps90
  go_wp2_with (first | ((with_reducible refine gate_dst (N:=1) rfl ?_);refine bx (cs:=#[.int .i64 a0_0,.int .i64 a0_1]) (t:=78) ?_;intro gb302 hg w7 hbox hb;have BK302:=Aside0.mk (hbox);have GW302:=zb hg;have GE302:=zb hg;replace HB:=sb hb;clear hb hbox hg;have hcz8_0:=ck BK302 0;have hcz8_1:=ck BK302 1;have hfz8_0:=blk_frozen BK302.out 0;have hfz8_1:=blk_frozen BK302.out 1) | ((with_reducible refine gate_callee (f:=46) rfl ?_);refine goesL_ (some 5) rfl rfl Try.func46 (by kernel_rfl) rfl #[.int .i64 a0_0,.int .i64 0,.int .i64 20000] rfl (by (try simp only [mT,mC,mN]);first | done | rfl | (simp only [lD,lT];rfl)) ?_;(with_reducible refine (impl_within.calls a0_0 0 20000 false _ A2.out).mono ?_);rintro e w' ⟨rfl,⟨nd,rfl⟩⟩;refine ⟨_,rfl,?_⟩))
  go_ret
  exact ⟨by first | rfl | (simp [errW_none,errW_some] <;> rfl) | (simp [*,errW_none,errW_some] <;> rfl),ib⟩
def impl_validPoints.l0 : Nat → List (S78) → Int → Int → Option (Bool)
 | 0,_,_,_ => none
 | k + 1,x5,x6,x7 => if x7 < x6 then (if 0 ≤ x7 then (if x7 < (x5.length : Int) then ((impl_ValidPoint.f ((rd_T78 x5 x7).f0) ((rd_T78 x5 x7).f1)).bind fun t307 => (if t307 = true then (impl_validPoints.l0 k x5 x6 (wrap64 (x7 + 1))) else (some false))) else (none)) else (none)) else (some true)
def impl_validPoints.f (k : Nat) (l0 : List (S78)) : Option (Bool):=impl_validPoints.l0 k l0 (l0.length : Int) 0
theorem impl_validPoints.calls (k : Nat) (A0 : Option Addr) (c0 : Nat) (l0 : List (S78)) (r : Bool) (w : World) (hr0 : Kd.C k78 w A0 l0.length l0) (hc0 : l0.length ≤ c0) (h : impl_validPoints.f k l0 = some r) :
  Calls Try.prog 71 #[.slice A0 l0.length c0] w fun e w' => e = .returned (.bool r) ∧ Below w.heap.size w w':=by
 have hu78:=Try.underlying78
 have HR0:=Aside0.mk hr0
 have HC0:=Aside0.mk hc0
 clear hr0 hc0
 have HB:=Aside0.mk (Below.refl w.heap.size w)
 have H : (impl_validPoints.l0 k l0 (l0.length : Int) 0) = some r:=h
 clear h
 have H':=Aside0.mk H
 clear H
 go_enter Try.func71,Try.ntmps71
 go_wp2
 go_loopg [7] k (fun kq v7 w' => ∃ (x7_1 : Int),v7 = .int .i64 x7_1 ∧ Aside0 (impl_validPoints.l0 kq l0 (l0.length : Int) x7_1 = some r) ∧ Aside0 (kq ≤ k) ∧ Aside0 (Below w.heap.size w w'))
 case atStart => exact ⟨(0),(by first | rfl | (simp;done) | (simp [*];done)),H',⟨Nat.le_refl _⟩,⟨ib⟩⟩
 case round =>
  clear H'
  obtain ⟨x7_1,rfl,HA,HK1,HB⟩:=hrel
  cases gk with
  | zero => exact absurd HA.out (by simp [impl_validPoints.l0])
  | succ k1 =>
   have H:=HA.out
   clear HA
   simp only [impl_validPoints.l0] at H
   by_cases c2 : x7_1 < (l0.length : Int)
   ·rw [if_pos c2] at H
    have c2b0 : decide (x7_1 < (l0.length : Int)) = true:=decide_eq_true c2
    clear c2
    by_cases c3 : 0 ≤ x7_1
    ·rw [if_pos c3] at H
     have c3b0 : decide (0 ≤ x7_1) = true:=decide_eq_true c3
     clear c3
     by_cases c4 : x7_1 < (l0.length : Int)
     ·rw [if_pos c4] at H
      have c4b0 : decide (x7_1 < (l0.length : Int)) = true:=decide_eq_true c4
      clear c4
      replace H:=bE.mp H
      obtain ⟨t307,A50,H⟩:=H
      replace H : (if t307 = true then (impl_validPoints.l0 k1 l0 (l0.length : Int) (wrap64 (x7_1 + 1))) else (some false)) = some r:=H
      have A5:=Aside0.mk A50
      clear A50
      by_cases c6 : t307 = true
      ·subst c6
       have H1 : (impl_validPoints.l0 k1 l0 (l0.length : Int) (wrap64 (x7_1 + 1))) = some r:=by rw [if_pos rfl] at H;exact H
       clear H
       have H:=H1
       clear H1
       have H':=Aside0.mk H
       clear H
       have p305 : 0 ≤ (x7_1 : Int):=da
       have q305 : x7_1 < (l0.length : Int):=da
       obtain ⟨ad305,e305,hx305_0,hx305_1⟩:=at_T78 HR0.out x7_1 p305 q305
       cases e305
       replace hx305_0:=cq HB.out hx305_0
       replace hx305_1:=cq HB.out hx305_1
       replace p305:=eq_true p305
       replace q305:=eq_true q305
       go_wp2_with (first | ((with_reducible refine gate_dst (N:=4) rfl ?_);refine bx (cs:=#[.int .i64 0,.int .i64 0]) (t:=78) ?_;intro gb306 hg w7 hbox hb;have BK306:=Aside0.mk (hbox);have GW306:=zb hg;have GE306:=zb hg;replace HB:=sb hb;clear hb hbox hg;have hcz8_0:=ck BK306 0;have hcz8_1:=ck BK306 1;have hfz8_0:=blk_frozen BK306.out 0;have hfz8_1:=blk_frozen BK306.out 1) | ((with_reducible refine gate_callee (f:=90) rfl ?_);refine goesL_ (some 12) rfl rfl Try.func90 (by kernel_rfl) rfl #[.agg #[.int .i64 ((rd_T78 l0 x7_1).f0),.int .i64 ((rd_T78 l0 x7_1).f1)]] rfl (by (try simp only [mT,mC,mN]);first | done | rfl | (simp only [lD,lT];rfl)) ?_;(with_reducible refine (impl_ValidPoint.calls ((rd_T78 l0 x7_1).f0) ((rd_T78 l0 x7_1).f1) true _ A5.out).mono ?_);rintro e w9 ⟨rfl,hb⟩;refine ⟨_,rfl,?_⟩;replace BK306:=Aside0.mk (blk_below (g:=gb306) (o:=.cells #[.int .i64 ((rd_T78 l0 x7_1).f0),.int .i64 ((rd_T78 l0 x7_1).f1)] 78 (0,0)) (by refine bP (cs:=#[.int .i64 ((rd_T78 l0 x7_1).f0),.int .i64 0]) 1 ?_;refine bP (cs:=#[.int .i64 0,.int .i64 0]) 0 ?_;exact bk BK306) hb);replace HB:=sb hb;(try clear hb);(try clear hb2);(try clear hk);(try clear hi)))
       go_roundg k1
       case measure => have:=HK1.out;omega
       case rel => exact ⟨(wrap64 (x7_1 + 1)),(by first | rfl | (simp;done) | (simp [*];done)),H',⟨by have:=HK1.out;omega⟩,⟨ib⟩⟩
      ·replace c6:=Bool.eq_false_iff.mpr c6
       subst c6
       have H1 : (some false) = some r:=by rw [if_neg (show ¬ (false = true) by decide)] at H;exact H
       clear H
       have H:=H1
       clear H1
       obtain rfl:=Option.some.inj H
       have p305 : 0 ≤ (x7_1 : Int):=da
       have q305 : x7_1 < (l0.length : Int):=da
       obtain ⟨ad305,e305,hx305_0,hx305_1⟩:=at_T78 HR0.out x7_1 p305 q305
       cases e305
       replace hx305_0:=cq HB.out hx305_0
       replace hx305_1:=cq HB.out hx305_1
       replace p305:=eq_true p305
       replace q305:=eq_true q305
       go_wp2_with (first | ((with_reducible refine gate_dst (N:=4) rfl ?_);refine bx (cs:=#[.int .i64 0,.int .i64 0]) (t:=78) ?_;intro gb306 hg w10 hbox hb;have BK306:=Aside0.mk (hbox);have GW306:=zb hg;have GE306:=zb hg;replace HB:=sb hb;clear hb hbox hg;have hcz11_0:=ck BK306 0;have hcz11_1:=ck BK306 1;have hfz11_0:=blk_frozen BK306.out 0;have hfz11_1:=blk_frozen BK306.out 1) | ((with_reducible refine gate_callee (f:=90) rfl ?_);refine goesL_ (some 12) rfl rfl Try.func90 (by kernel_rfl) rfl #[.agg #[.int .i64 ((rd_T78 l0 x7_1).f0),.int .i64 ((rd_T78 l0 x7_1).f1)]] rfl (by (try simp only [mT,mC,mN]);first | done | rfl | (simp only [lD,lT];rfl)) ?_;(with_reducible refine (impl_ValidPoint.calls ((rd_T78 l0 x7_1).f0) ((rd_T78 l0 x7_1).f1) false _ A5.out).mono ?_);rintro e w12 ⟨rfl,hb⟩;refine ⟨_,rfl,?_⟩;replace BK306:=Aside0.mk (blk_below (g:=gb306) (o:=.cells #[.int .i64 ((rd_T78 l0 x7_1).f0),.int .i64 ((rd_T78 l0 x7_1).f1)] 78 (0,0)) (by refine bP (cs:=#[.int .i64 ((rd_T78 l0 x7_1).f0),.int .i64 0]) 1 ?_;refine bP (cs:=#[.int .i64 0,.int .i64 0]) 0 ?_;exact bk BK306) hb);replace HB:=sb hb;(try clear hb);(try clear hb2);(try clear hk);(try clear hi)))
       go_ret
       exact ⟨by first | rfl | (simp [errW_none,errW_some] <;> rfl) | (simp [*,errW_none,errW_some] <;> rfl),ib⟩
     ·first | (exfalso;have z_:=of_decide_eq_true c2b0;omega) | (rw [if_neg c4] at H;exact absurd H (by simp))
    ·rw [if_neg c3] at H
     exact absurd H (by simp)
   ·rw [if_neg c2] at H
    have c2b0 : decide (x7_1 < (l0.length : Int)) = false:=decide_eq_false c2
    clear c2
    obtain rfl:=Option.some.inj H
    go_wp2
    go_ret
    exact ⟨by first | rfl | (simp [errW_none,errW_some] <;> rfl) | (simp [*,errW_none,errW_some] <;> rfl),ib⟩
def impl_side.f (a0_0 : Int) (a0_1 : Int) (a1_0 : Int) (a1_1 : Int) (a2_0 : Int) (a2_1 : Int) : Option (Int):=if (wrap64 ((wrap64 ((wrap64 (a1_0 - a0_0)) * (wrap64 (a2_1 - a0_1)))) - (wrap64 ((wrap64 (a1_1 - a0_1)) * (wrap64 (a2_0 - a0_0)))))) > 0 then (some 1) else (if (wrap64 ((wrap64 ((wrap64 (a1_0 - a0_0)) * (wrap64 (a2_1 - a0_1)))) - (wrap64 ((wrap64 (a1_1 - a0_1)) * (wrap64 (a2_0 - a0_0)))))) < 0 then (some (-1)) else (some 0))
theorem impl_side.calls (a0_0 : Int) (a0_1 : Int) (a1_0 : Int) (a1_1 : Int) (a2_0 : Int) (a2_1 : Int) (r : Int) (w : World) (h : impl_side.f a0_0 a0_1 a1_0 a1_1 a2_0 a2_1 = some r) :
  Calls Try.prog 91 #[.agg #[.int .i64 a0_0,.int .i64 a0_1],.agg #[.int .i64 a1_0,.int .i64 a1_1],.agg #[.int .i64 a2_0,.int .i64 a2_1]] w fun e w' => e = .returned (.int .i64 r) ∧ Below w.heap.size w w':=by
 have hu78:=Try.underlying78
 have HB:=Aside0.mk (Below.refl w.heap.size w)
 have H : (if (wrap64 ((wrap64 ((wrap64 (a1_0 - a0_0)) * (wrap64 (a2_1 - a0_1)))) - (wrap64 ((wrap64 (a1_1 - a0_1)) * (wrap64 (a2_0 - a0_0)))))) > 0 then (some 1) else (if (wrap64 ((wrap64 ((wrap64 (a1_0 - a0_0)) * (wrap64 (a2_1 - a0_1)))) - (wrap64 ((wrap64 (a1_1 - a0_1)) * (wrap64 (a2_0 - a0_0)))))) < 0 then (some (-1)) else (some 0))) = some r:=h
 clear h
 by_cases c4 : (wrap64 ((wrap64 ((wrap64 (a1_0 - a0_0)) * (wrap64 (a2_1 - a0_1)))) - (wrap64 ((wrap64 (a1_1 - a0_1)) * (wrap64 (a2_0 - a0_0)))))) > 0
 ·rw [if_pos c4] at H
  have c4b0 : decide (0 < (wrap64 ((wrap64 ((wrap64 (a1_0 - a0_0)) * (wrap64 (a2_1 - a0_1)))) - (wrap64 ((wrap64 (a1_1 - a0_1)) * (wrap64 (a2_0 - a0_0))))))) = true:=decide_eq_true c4
  clear c4
  obtain rfl:=Option.some.inj H
  go_enter Try.func91,Try.ntmps91
  go_wp2_with (first | ((with_reducible refine gate_dst (N:=3) rfl ?_);refine bx (cs:=#[.int .i64 a0_0,.int .i64 a0_1]) (t:=78) ?_;intro gb308 hg w5 hbox hb;have BK308:=Aside0.mk (hbox);have GW308:=zb hg;have GE308:=zb hg;replace HB:=sb hb;clear hb hbox hg) | ((with_reducible refine gate_dst (N:=4) rfl ?_);refine bx (cs:=#[.int .i64 a1_0,.int .i64 a1_1]) (t:=78) ?_;intro gb309 hg w6 hbox hb;have BK309:=Aside0.mk (hbox);have GW309:=zb hg;have GE309:=zb hg;replace HB:=sb hb;have NB308_309:=nl BK308 hg;have NB309_308:=ng BK308 hg;replace BK308:=kb BK308 hb;clear hb hbox hg) | ((with_reducible refine gate_dst (N:=5) rfl ?_);refine bx (cs:=#[.int .i64 a2_0,.int .i64 a2_1]) (t:=78) ?_;intro gb310 hg w7 hbox hb;have BK310:=Aside0.mk (hbox);have GW310:=zb hg;have GE310:=zb hg;replace HB:=sb hb;have NB308_310:=nl BK308 hg;have NB310_308:=ng BK308 hg;replace BK308:=kb BK308 hb;have NB309_310:=nl BK309 hg;have NB310_309:=ng BK309 hg;replace BK309:=kb BK309 hb;clear hb hbox hg;have hnb8:=NB309_308.out;have hnc8:=NB308_309.out;have hnb9:=NB309_310.out;have hnc9:=NB310_309.out;have hcz10_0:=ck BK309 0;have hcz10_1:=ck BK309 1;have hfz10_0:=blk_frozen BK309.out 0;have hfz10_1:=blk_frozen BK309.out 1;have hnb11:=NB308_310.out;have hnc11:=NB310_308.out;have hcz12_0:=ck BK308 0;have hcz12_1:=ck BK308 1;have hfz12_0:=blk_frozen BK308.out 0;have hfz12_1:=blk_frozen BK308.out 1;have hcz13_0:=ck BK310 0;have hcz13_1:=ck BK310 1;have hfz13_0:=blk_frozen BK310.out 0;have hfz13_1:=blk_frozen BK310.out 1))
  go_ret
  exact ⟨by first | rfl | (simp [errW_none,errW_some] <;> rfl) | (simp [*,errW_none,errW_some] <;> rfl),ib⟩
 ·rw [if_neg c4] at H
  have c4b0 : decide (0 < (wrap64 ((wrap64 ((wrap64 (a1_0 - a0_0)) * (wrap64 (a2_1 - a0_1)))) - (wrap64 ((wrap64 (a1_1 - a0_1)) * (wrap64 (a2_0 - a0_0))))))) = false:=decide_eq_false c4
  clear c4
  by_cases c14 : (wrap64 ((wrap64 ((wrap64 (a1_0 - a0_0)) * (wrap64 (a2_1 - a0_1)))) - (wrap64 ((wrap64 (a1_1 - a0_1)) * (wrap64 (a2_0 - a0_0)))))) < 0
  ·rw [if_pos c14] at H
   have c14b0 : decide ((wrap64 ((wrap64 ((wrap64 (a1_0 - a0_0)) * (wrap64 (a2_1 - a0_1)))) - (wrap64 ((wrap64 (a1_1 - a0_1)) * (wrap64 (a2_0 - a0_0)))))) < 0) = true:=decide_eq_true c14
   clear c14
   obtain rfl:=Option.some.inj H
   go_enter Try.func91,Try.ntmps91
   go_wp2_with (first | ((with_reducible refine gate_dst (N:=3) rfl ?_);refine bx (cs:=#[.int .i64 a0_0,.int .i64 a0_1]) (t:=78) ?_;intro gb308 hg w15 hbox hb;have BK308:=Aside0.mk (hbox);have GW308:=zb hg;have GE308:=zb hg;replace HB:=sb hb;clear hb hbox hg) | ((with_reducible refine gate_dst (N:=4) rfl ?_);refine bx (cs:=#[.int .i64 a1_0,.int .i64 a1_1]) (t:=78) ?_;intro gb309 hg w16 hbox hb;have BK309:=Aside0.mk (hbox);have GW309:=zb hg;have GE309:=zb hg;replace HB:=sb hb;have NB308_309:=nl BK308 hg;have NB309_308:=ng BK308 hg;replace BK308:=kb BK308 hb;clear hb hbox hg) | ((with_reducible refine gate_dst (N:=5) rfl ?_);refine bx (cs:=#[.int .i64 a2_0,.int .i64 a2_1]) (t:=78) ?_;intro gb310 hg w17 hbox hb;have BK310:=Aside0.mk (hbox);have GW310:=zb hg;have GE310:=zb hg;replace HB:=sb hb;have NB308_310:=nl BK308 hg;have NB310_308:=ng BK308 hg;replace BK308:=kb BK308 hb;have NB309_310:=nl BK309 hg;have NB310_309:=ng BK309 hg;replace BK309:=kb BK309 hb;clear hb hbox hg;have hnb18:=NB309_308.out;have hnc18:=NB308_309.out;have hnb19:=NB309_310.out;have hnc19:=NB310_309.out;have hcz20_0:=ck BK309 0;have hcz20_1:=ck BK309 1;have hfz20_0:=blk_frozen BK309.out 0;have hfz20_1:=blk_frozen BK309.out 1;have hnb21:=NB308_310.out;have hnc21:=NB310_308.out;have hcz22_0:=ck BK308 0;have hcz22_1:=ck BK308 1;have hfz22_0:=blk_frozen BK308.out 0;have hfz22_1:=blk_frozen BK308.out 1;have hcz23_0:=ck BK310 0;have hcz23_1:=ck BK310 1;have hfz23_0:=blk_frozen BK310.out 0;have hfz23_1:=blk_frozen BK310.out 1))
   go_ret
   exact ⟨by first | rfl | (simp [errW_none,errW_some] <;> rfl) | (simp [*,errW_none,errW_some] <;> rfl),ib⟩
  ·rw [if_neg c14] at H
   have c14b0 : decide ((wrap64 ((wrap64 ((wrap64 (a1_0 - a0_0)) * (wrap64 (a2_1 - a0_1)))) - (wrap64 ((wrap64 (a1_1 - a0_1)) * (wrap64 (a2_0 - a0_0)))))) < 0) = false:=decide_eq_false c14
   clear c14
   obtain rfl:=Option.some.inj H
   go_enter Try.func91,Try.ntmps91
   go_wp2_with (first | ((with_reducible refine gate_dst (N:=3) rfl ?_);refine bx (cs:=#[.int .i64 a0_0,.int .i64 a0_1]) (t:=78) ?_;intro gb308 hg w24 hbox hb;have BK308:=Aside0.mk (hbox);have GW308:=zb hg;have GE308:=zb hg;replace HB:=sb hb;clear hb hbox hg) | ((with_reducible refine gate_dst (N:=4) rfl ?_);refine bx (cs:=#[.int .i64 a1_0,.int .i64 a1_1]) (t:=78) ?_;intro gb309 hg w25 hbox hb;have BK309:=Aside0.mk (hbox);have GW309:=zb hg;have GE309:=zb hg;replace HB:=sb hb;have NB308_309:=nl BK308 hg;have NB309_308:=ng BK308 hg;replace BK308:=kb BK308 hb;clear hb hbox hg) | ((with_reducible refine gate_dst (N:=5) rfl ?_);refine bx (cs:=#[.int .i64 a2_0,.int .i64 a2_1]) (t:=78) ?_;intro gb310 hg w26 hbox hb;have BK310:=Aside0.mk (hbox);have GW310:=zb hg;have GE310:=zb hg;replace HB:=sb hb;have NB308_310:=nl BK308 hg;have NB310_308:=ng BK308 hg;replace BK308:=kb BK308 hb;have NB309_310:=nl BK309 hg;have NB310_309:=ng BK309 hg;replace BK309:=kb BK309 hb;clear hb hbox hg;have hnb27:=NB309_308.out;have hnc27:=NB308_309.out;have hnb28:=NB309_310.out;have hnc28:=NB310_309.out;have hcz29_0:=ck BK309 0;have hcz29_1:=ck BK309 1;have hfz29_0:=blk_frozen BK309.out 0;have hfz29_1:=blk_frozen BK309.out 1;have hnb30:=NB308_310.out;have hnc30:=NB310_308.out;have hcz31_0:=ck BK308 0;have hcz31_1:=ck BK308 1;have hfz31_0:=blk_frozen BK308.out 0;have hfz31_1:=blk_frozen BK308.out 1;have hcz32_0:=ck BK310 0;have hcz32_1:=ck BK310 1;have hfz32_0:=blk_frozen BK310.out 0;have hfz32_1:=blk_frozen BK310.out 1))
   go_ret
   exact ⟨by first | rfl | (simp [errW_none,errW_some] <;> rfl) | (simp [*,errW_none,errW_some] <;> rfl),ib⟩
def impl_on.f (a0_0 : Int) (a0_1 : Int) (a1_0 : Int) (a1_1 : Int) (a2_0 : Int) (a2_1 : Int) : Option (Bool):=(impl_side.f a0_0 a0_1 a1_0 a1_1 a2_0 a2_1).bind fun t314 => (if t314 = 0 then ((impl_within.f a2_0 (mn a0_0 a1_0) (mx a0_0 a1_0)).bind fun t315 => (if t315 = true then ((impl_within.f a2_1 (mn a0_1 a1_1) (mx a0_1 a1_1)).bind fun t316 => (some t316)) else (some false))) else (some false))
theorem impl_on.calls (a0_0 : Int) (a0_1 : Int) (a1_0 : Int) (a1_1 : Int) (a2_0 : Int) (a2_1 : Int) (r : Bool) (w : World) (h : impl_on.f a0_0 a0_1 a1_0 a1_1 a2_0 a2_1 = some r) :
  Calls Try.prog 72 #[.agg #[.int .i64 a0_0,.int .i64 a0_1],.agg #[.int .i64 a1_0,.int .i64 a1_1],.agg #[.int .i64 a2_0,.int .i64 a2_1]] w fun e w' => e = .returned (.bool r) ∧ Below w.heap.size w w':=by
 have hu78:=Try.underlying78
 have HB:=Aside0.mk (Below.refl w.heap.size w)
 have H : ((impl_side.f a0_0 a0_1 a1_0 a1_1 a2_0 a2_1).bind fun t314 => (if t314 = 0 then ((impl_within.f a2_0 (mn a0_0 a1_0) (mx a0_0 a1_0)).bind fun t315 => (if t315 = true then ((impl_within.f a2_1 (mn a0_1 a1_1) (mx a0_1 a1_1)).bind fun t316 => (some t316)) else (some false))) else (some false))) = some r:=h
 clear h
 replace H:=bE.mp H
 obtain ⟨t314,A40,H⟩:=H
 replace H : (if t314 = 0 then ((impl_within.f a2_0 (mn a0_0 a1_0) (mx a0_0 a1_0)).bind fun t315 => (if t315 = true then ((impl_within.f a2_1 (mn a0_1 a1_1) (mx a0_1 a1_1)).bind fun t316 => (some t316)) else (some false))) else (some false)) = some r:=H
 have A4:=Aside0.mk A40
 clear A40
 by_cases c5 : t314 = 0
 ·rw [if_pos c5] at H
  have c5b0 : (t314 == 0) = true:=beq_iff_eq.mpr c5
  have c5b1 : (t314 != 0) = false:=bne_eq_false_iff_eq.mpr c5
  clear c5
  obtain ⟨ji6,hji6⟩ : ∃ j_ : Int,(mn a0_0 a1_0) = j_:=⟨_,rfl⟩
  replace H : ((impl_within.f a2_0 (ji6) (mx a0_0 a1_0)).bind fun t315 => (if t315 = true then ((impl_within.f a2_1 (mn a0_1 a1_1) (mx a0_1 a1_1)).bind fun t316 => (some t316)) else (some false))) = some r:=by first | (rw [hji6] at H;exact H) | (simp only [hji6] at H ⊢;exact H)
  (try rw [hji6] at A4)
  have hji6_ : (if a1_0 < a0_0 then a1_0 else a0_0) = ji6:=hji6
  obtain ⟨ji7,hji7⟩ : ∃ j_ : Int,(mx a0_0 a1_0) = j_:=⟨_,rfl⟩
  replace H : ((impl_within.f a2_0 (ji6) (ji7)).bind fun t315 => (if t315 = true then ((impl_within.f a2_1 (mn a0_1 a1_1) (mx a0_1 a1_1)).bind fun t316 => (some t316)) else (some false))) = some r:=by first | (rw [hji7] at H;exact H) | (simp only [hji7] at H ⊢;exact H)
  (try rw [hji7] at A4)
  have hji7_ : (if a0_0 < a1_0 then a1_0 else a0_0) = ji7:=hji7
  replace H:=bE.mp H
  obtain ⟨t315,A80,H⟩:=H
  replace H : (if t315 = true then ((impl_within.f a2_1 (mn a0_1 a1_1) (mx a0_1 a1_1)).bind fun t316 => (some t316)) else (some false)) = some r:=H
  have A8:=Aside0.mk A80
  clear A80
  by_cases c9 : t315 = true
  ·subst c9
   have H1 : ((impl_within.f a2_1 (mn a0_1 a1_1) (mx a0_1 a1_1)).bind fun t316 => (some t316)) = some r:=by rw [if_pos rfl] at H;exact H
   clear H
   have H:=H1
   clear H1
   obtain ⟨ji10,hji10⟩ : ∃ j_ : Int,(mn a0_1 a1_1) = j_:=⟨_,rfl⟩
   replace H : ((impl_within.f a2_1 (ji10) (mx a0_1 a1_1)).bind fun t316 => (some t316)) = some r:=by first | (rw [hji10] at H;exact H) | (simp only [hji10] at H ⊢;exact H)
   (try rw [hji10] at A4)
   (try rw [hji10] at A8)
   have hji10_ : (if a1_1 < a0_1 then a1_1 else a0_1) = ji10:=hji10
   obtain ⟨ji11,hji11⟩ : ∃ j_ : Int,(mx a0_1 a1_1) = j_:=⟨_,rfl⟩
   replace H : ((impl_within.f a2_1 (ji10) (ji11)).bind fun t316 => (some t316)) = some r:=by first | (rw [hji11] at H;exact H) | (simp only [hji11] at H ⊢;exact H)
   (try rw [hji11] at A4)
   (try rw [hji11] at A8)
   have hji11_ : (if a0_1 < a1_1 then a1_1 else a0_1) = ji11:=hji11
   replace H:=bE.mp H
   obtain ⟨t316,A120,H⟩:=H
   replace H : (some t316) = some r:=H
   have A12:=Aside0.mk A120
   clear A120
   obtain rfl:=Option.some.inj H
   go_enter Try.func72,Try.ntmps72
   go_wp2_with (first | ((with_reducible refine gate_dst (N:=3) rfl ?_);(try (refine gate_guard (by rfl) ?_;dsimp only));refine bx (cs:=#[.int .i64 a0_0,.int .i64 a0_1]) (t:=78) ?_;intro gb311 hg w13 hbox hb;have BK311:=Aside0.mk (hbox);have GW311:=zb hg;have GE311:=zb hg;replace HB:=sb hb;clear hb hbox hg) | ((with_reducible refine gate_dst (N:=4) rfl ?_);(try (refine gate_guard (by rfl) ?_;dsimp only));refine bx (cs:=#[.int .i64 a1_0,.int .i64 a1_1]) (t:=78) ?_;intro gb312 hg w14 hbox hb;have BK312:=Aside0.mk (hbox);have GW312:=zb hg;have GE312:=zb hg;replace HB:=sb hb;have NB311_312:=nl BK311 hg;have NB312_311:=ng BK311 hg;replace BK311:=kb BK311 hb;clear hb hbox hg) | ((with_reducible refine gate_dst (N:=5) rfl ?_);(try (refine gate_guard (by rfl) ?_;dsimp only));refine bx (cs:=#[.int .i64 a2_0,.int .i64 a2_1]) (t:=78) ?_;intro gb313 hg w15 hbox hb;have BK313:=Aside0.mk (hbox);have GW313:=zb hg;have GE313:=zb hg;replace HB:=sb hb;have NB311_313:=nl BK311 hg;have NB313_311:=ng BK311 hg;replace BK311:=kb BK311 hb;have NB312_313:=nl BK312 hg;have NB313_312:=ng BK312 hg;replace BK312:=kb BK312 hb;clear hb hbox hg;have hnb16:=NB311_312.out;have hnc16:=NB312_311.out;have hnb17:=NB311_313.out;have hnc17:=NB313_311.out;have hcz18_0:=ck BK311 0;have hcz18_1:=ck BK311 1;have hfz18_0:=blk_frozen BK311.out 0;have hfz18_1:=blk_frozen BK311.out 1;have hnb19:=NB312_313.out;have hnc19:=NB313_312.out;have hcz20_0:=ck BK312 0;have hcz20_1:=ck BK312 1;have hfz20_0:=blk_frozen BK312.out 0;have hfz20_1:=blk_frozen BK312.out 1;have hcz21_0:=ck BK313 0;have hcz21_1:=ck BK313 1;have hfz21_0:=blk_frozen BK313.out 0;have hfz21_1:=blk_frozen BK313.out 1) | ((with_reducible refine gate_callee (f:=91) rfl ?_);refine goesL_ (some 10) rfl rfl Try.func91 (by kernel_rfl) rfl #[.agg #[.int .i64 a0_0,.int .i64 a0_1],.agg #[.int .i64 a1_0,.int .i64 a1_1],.agg #[.int .i64 a2_0,.int .i64 a2_1]] rfl (by (try simp only [mT,mC,mN]);first | done | rfl | (simp only [lD,lT];rfl)) ?_;(with_reducible refine (impl_side.calls a0_0 a0_1 a1_0 a1_1 a2_0 a2_1 t314 _ A4.out).mono ?_);rintro e w22 ⟨rfl,hb⟩;refine ⟨_,rfl,?_⟩;replace BK311:=kb BK311 hb;replace BK312:=kb BK312 hb;replace BK313:=kb BK313 hb;replace HB:=sb hb;(try clear hb);(try clear hb2);(try clear hk);(try clear hi);have hcz23_0:=ck BK313 0;have hcz23_1:=ck BK313 1;have hfz23_0:=blk_frozen BK313.out 0;have hfz23_1:=blk_frozen BK313.out 1;have hcz24_0:=ck BK311 0;have hcz24_1:=ck BK311 1;have hfz24_0:=blk_frozen BK311.out 0;have hfz24_1:=blk_frozen BK311.out 1;have hcz25_0:=ck BK312 0;have hcz25_1:=ck BK312 1;have hfz25_0:=blk_frozen BK312.out 0;have hfz25_1:=blk_frozen BK312.out 1) | (go_at_call 46;(with_reducible refine (impl_within.calls a2_0 ji6 ji7 true _ A8.out).mono ?_);rintro e w' ⟨rfl,⟨nd,rfl⟩⟩) | (go_at_call 46;(with_reducible refine (impl_within.calls a2_1 ji10 ji11 t316 _ A12.out).mono ?_);rintro e w' ⟨rfl,⟨nd,rfl⟩⟩))
   go_ret
   exact ⟨by first | rfl | (simp [errW_none,errW_some] <;> rfl) | (simp only [← hji6,← hji7,← hji10,← hji11];first | rfl | (simp [errW_none,errW_some] <;> rfl)) | (simp [*,errW_none,errW_some] <;> rfl),ib⟩
  ·replace c9:=Bool.eq_false_iff.mpr c9
   subst c9
   have H1 : (some false) = some r:=by rw [if_neg (show ¬ (false = true) by decide)] at H;exact H
   clear H
   have H:=H1
   clear H1
   obtain rfl:=Option.some.inj H
   go_enter Try.func72,Try.ntmps72
   go_wp2_with (first | ((with_reducible refine gate_dst (N:=3) rfl ?_);(try (refine gate_guard (by rfl) ?_;dsimp only));refine bx (cs:=#[.int .i64 a0_0,.int .i64 a0_1]) (t:=78) ?_;intro gb311 hg w26 hbox hb;have BK311:=Aside0.mk (hbox);have GW311:=zb hg;have GE311:=zb hg;replace HB:=sb hb;clear hb hbox hg) | ((with_reducible refine gate_dst (N:=4) rfl ?_);(try (refine gate_guard (by rfl) ?_;dsimp only));refine bx (cs:=#[.int .i64 a1_0,.int .i64 a1_1]) (t:=78) ?_;intro gb312 hg w27 hbox hb;have BK312:=Aside0.mk (hbox);have GW312:=zb hg;have GE312:=zb hg;replace HB:=sb hb;have NB311_312:=nl BK311 hg;have NB312_311:=ng BK311 hg;replace BK311:=kb BK311 hb;clear hb hbox hg) | ((with_reducible refine gate_dst (N:=5) rfl ?_);(try (refine gate_guard (by rfl) ?_;dsimp only));refine bx (cs:=#[.int .i64 a2_0,.int .i64 a2_1]) (t:=78) ?_;intro gb313 hg w28 hbox hb;have BK313:=Aside0.mk (hbox);have GW313:=zb hg;have GE313:=zb hg;replace HB:=sb hb;have NB311_313:=nl BK311 hg;have NB313_311:=ng BK311 hg;replace BK311:=kb BK311 hb;have NB312_313:=nl BK312 hg;have NB313_312:=ng BK312 hg;replace BK312:=kb BK312 hb;clear hb hbox hg;have hnb29:=NB311_312.out;have hnc29:=NB312_311.out;have hnb30:=NB311_313.out;have hnc30:=NB313_311.out;have hcz31_0:=ck BK311 0;have hcz31_1:=ck BK311 1;have hfz31_0:=blk_frozen BK311.out 0;have hfz31_1:=blk_frozen BK311.out 1;have hnb32:=NB312_313.out;have hnc32:=NB313_312.out;have hcz33_0:=ck BK312 0;have hcz33_1:=ck BK312 1;have hfz33_0:=blk_frozen BK312.out 0;have hfz33_1:=blk_frozen BK312.out 1;have hcz34_0:=ck BK313 0;have hcz34_1:=ck BK313 1;have hfz34_0:=blk_frozen BK313.out 0;have hfz34_1:=blk_frozen BK313.out 1) | ((with_reducible refine gate_callee (f:=91) rfl ?_);refine goesL_ (some 10) rfl rfl Try.func91 (by kernel_rfl) rfl #[.agg #[.int .i64 a0_0,.int .i64 a0_1],.agg #[.int .i64 a1_0,.int .i64 a1_1],.agg #[.int .i64 a2_0,.int .i64 a2_1]] rfl (by (try simp only [mT,mC,mN]);first | done | rfl | (simp only [lD,lT];rfl)) ?_;(with_reducible refine (impl_side.calls a0_0 a0_1 a1_0 a1_1 a2_0 a2_1 t314 _ A4.out).mono ?_);rintro e w35 ⟨rfl,hb⟩;refine ⟨_,rfl,?_⟩;replace BK311:=kb BK311 hb;replace BK312:=kb BK312 hb;replace BK313:=kb BK313 hb;replace HB:=sb hb;(try clear hb);(try clear hb2);(try clear hk);(try clear hi);have hcz36_0:=ck BK313 0;have hcz36_1:=ck BK313 1;have hfz36_0:=blk_frozen BK313.out 0;have hfz36_1:=blk_frozen BK313.out 1;have hcz37_0:=ck BK311 0;have hcz37_1:=ck BK311 1;have hfz37_0:=blk_frozen BK311.out 0;have hfz37_1:=blk_frozen BK311.out 1;have hcz38_0:=ck BK312 0;have hcz38_1:=ck BK312 1;have hfz38_0:=blk_frozen BK312.out 0;have hfz38_1:=blk_frozen BK312.out 1) | (go_at_call 46;(with_reducible refine (impl_within.calls a2_0 ji6 ji7 false _ A8.out).mono ?_);rintro e w' ⟨rfl,⟨nd,rfl⟩⟩))
   go_ret
   exact ⟨by first | rfl | (simp [errW_none,errW_some] <;> rfl) | (simp only [← hji6,← hji7];first | rfl | (simp [errW_none,errW_some] <;> rfl)) | (simp [*,errW_none,errW_some] <;> rfl),ib⟩
 ·rw [if_neg c5] at H
  have c5b0 : (t314 == 0) = false:=beq_eq_false_iff_ne.mpr c5
  have c5b1 : (t314 != 0) = true:=bne_iff_ne.mpr c5
  obtain rfl:=Option.some.inj H
  go_enter Try.func72,Try.ntmps72
  go_wp2_with (first | ((with_reducible refine gate_dst (N:=3) rfl ?_);(try (refine gate_guard (by rfl) ?_;dsimp only));refine bx (cs:=#[.int .i64 a0_0,.int .i64 a0_1]) (t:=78) ?_;intro gb311 hg w39 hbox hb;have BK311:=Aside0.mk (hbox);have GW311:=zb hg;have GE311:=zb hg;replace HB:=sb hb;clear hb hbox hg) | ((with_reducible refine gate_dst (N:=4) rfl ?_);(try (refine gate_guard (by rfl) ?_;dsimp only));refine bx (cs:=#[.int .i64 a1_0,.int .i64 a1_1]) (t:=78) ?_;intro gb312 hg w40 hbox hb;have BK312:=Aside0.mk (hbox);have GW312:=zb hg;have GE312:=zb hg;replace HB:=sb hb;have NB311_312:=nl BK311 hg;have NB312_311:=ng BK311 hg;replace BK311:=kb BK311 hb;clear hb hbox hg) | ((with_reducible refine gate_dst (N:=5) rfl ?_);(try (refine gate_guard (by rfl) ?_;dsimp only));refine bx (cs:=#[.int .i64 a2_0,.int .i64 a2_1]) (t:=78) ?_;intro gb313 hg w41 hbox hb;have BK313:=Aside0.mk (hbox);have GW313:=zb hg;have GE313:=zb hg;replace HB:=sb hb;have NB311_313:=nl BK311 hg;have NB313_311:=ng BK311 hg;replace BK311:=kb BK311 hb;have NB312_313:=nl BK312 hg;have NB313_312:=ng BK312 hg;replace BK312:=kb BK312 hb;clear hb hbox hg;have hnb42:=NB311_312.out;have hnc42:=NB312_311.out;have hnb43:=NB311_313.out;have hnc43:=NB313_311.out;have hcz44_0:=ck BK311 0;have hcz44_1:=ck BK311 1;have hfz44_0:=blk_frozen BK311.out 0;have hfz44_1:=blk_frozen BK311.out 1;have hnb45:=NB312_313.out;have hnc45:=NB313_312.out;have hcz46_0:=ck BK312 0;have hcz46_1:=ck BK312 1;have hfz46_0:=blk_frozen BK312.out 0;have hfz46_1:=blk_frozen BK312.out 1;have hcz47_0:=ck BK313 0;have hcz47_1:=ck BK313 1;have hfz47_0:=blk_frozen BK313.out 0;have hfz47_1:=blk_frozen BK313.out 1) | ((with_reducible refine gate_callee (f:=91) rfl ?_);refine goesL_ (some 10) rfl rfl Try.func91 (by kernel_rfl) rfl #[.agg #[.int .i64 a0_0,.int .i64 a0_1],.agg #[.int .i64 a1_0,.int .i64 a1_1],.agg #[.int .i64 a2_0,.int .i64 a2_1]] rfl (by (try simp only [mT,mC,mN]);first | done | rfl | (simp only [lD,lT];rfl)) ?_;(with_reducible refine (impl_side.calls a0_0 a0_1 a1_0 a1_1 a2_0 a2_1 t314 _ A4.out).mono ?_);rintro e w48 ⟨rfl,hb⟩;refine ⟨_,rfl,?_⟩;replace BK311:=kb BK311 hb;replace BK312:=kb BK312 hb;replace BK313:=kb BK313 hb;replace HB:=sb hb;(try clear hb);(try clear hb2);(try clear hk);(try clear hi)))
  go_ret
  exact ⟨by first | rfl | (simp [errW_none,errW_some] <;> rfl) | (simp [*,errW_none,errW_some] <;> rfl),ib⟩
end Go.Proofs.Ytpeebobdbaemiaa.PFnExactEdgesOf
