/- Contracts of functions that FnExactFacesOfEdge reaches, out of the lines of the kit's print. -/
import Derived.Test.YtnnchaggdnlfmaaQFnExactFacesOfEdgex0
import Derived.Test.YtnnchaggdnlfmaaQFnExactFacesOfEdgex2
import Derived.Test.YtnnchaggdnlfmaaQFnExactFacesOfEdgex12
import Derived.Test.YtnnchaggdnlfmaaQFnExactFacesOfEdgex16
namespace Go.Proofs.Ytnnchaggdnlfmaa.PFnExactFacesOfEdge
set_option maxHeartbeats 8000000
set_option maxRecDepth 100000
open Go.RowKit Go.Proofs.YtnnchaggdnlfmaaW.PrintWords Go.Proofs.YtnnchaggdnlfmaaW.PrintLast Go.Proofs.YtnnchaggdnlfmaaW.PrintMore
open Bool renaming true → tT, false → fF
open Go.World renaming block_lt_of_cell? → bL
open List renaming length_take → lT, length_drop → lD, map_toArray → mT, map_cons → mC, map_nil → mN
open Option renaming bind_eq_some_iff → bE
attribute [local go_sem] max2_int min2_int max_two min_two max_three min_three max_four min_four
set_option linter.unusedVariables false
set_option linter.unusedSimpArgs false
attribute [local go_sem high] eqA108
def slices_Index_2_int64_2_int64.l0 : Nat → List (S108) → Int → Int → Int → Int → Option (Int)
 | 0,_,_,_,_,_ => none
 | k + 1,x0,x7,x8,x367000,x367001 => if x8 < x7 then (if 0 ≤ x8 then (if x8 < (x0.length : Int) then (if (x367000 == ((rd_T108 x0 x8).f0) && (x367001 == ((rd_T108 x0 x8).f1))) = true then (some x8) else (slices_Index_2_int64_2_int64.l0 k x0 x7 (wrap64 (x8 + 1)) x367000 x367001)) else (none)) else (none)) else (some (-1))
def slices_Index_2_int64_2_int64.f (k : Nat) (l0 : List (S108)) (a1_0 : Int) (a1_1 : Int) : Option (Int):=slices_Index_2_int64_2_int64.l0 k l0 (l0.length : Int) 0 a1_0 a1_1
theorem slices_Index_2_int64_2_int64.calls (k : Nat) (A0 : Option Addr) (c0 : Nat) (l0 : List (S108)) (a1_0 : Int) (a1_1 : Int) (r : Int) (w : World) (hr0 : Kd.C k108 w A0 l0.length l0) (hc0 : l0.length ≤ c0) (h : slices_Index_2_int64_2_int64.f k l0 a1_0 a1_1 = some r) :
  Calls Try.prog 142 #[.slice A0 l0.length c0,.agg #[.int .i64 a1_0,.int .i64 a1_1]] w fun e w' => e = .returned (.int .i64 r) ∧ Below w.heap.size w w':=by
 have hu108:=Try.underlying108
 have HR0:=Aside0.mk hr0
 have HC0:=Aside0.mk hc0
 clear hr0 hc0
 have HB:=Aside0.mk (Below.refl w.heap.size w)
 have H : (slices_Index_2_int64_2_int64.l0 k l0 (l0.length : Int) 0 a1_0 a1_1) = some r:=h
 clear h
 have H':=Aside0.mk H
 clear H
 go_enter Try.func142,Try.ntmps142
 go_wp2_with (first | ((with_reducible refine gate_dst (N:=3) rfl ?_);refine bx (cs:=#[.int .i64 a1_0,.int .i64 a1_1]) (t:=108) ?_;intro gb366 hg w3 hbox hb;have BK366:=Aside0.mk (hbox);have GW366:=zb hg;have GE366:=zb hg;replace HB:=sb hb;clear hb hbox hg))
 repeat (go_quiet (first | ((with_reducible refine gate_dst (N:=3) rfl ?_);refine bx (cs:=#[.int .i64 a1_0,.int .i64 a1_1]) (t:=108) ?_;intro gb366 hg w3 hbox hb;have BK366:=Aside0.mk (hbox);have GW366:=zb hg;have GE366:=zb hg;replace HB:=sb hb;clear hb hbox hg));try go_wp2_with (first | ((with_reducible refine gate_dst (N:=3) rfl ?_);refine bx (cs:=#[.int .i64 a1_0,.int .i64 a1_1]) (t:=108) ?_;intro gb366 hg w3 hbox hb;have BK366:=Aside0.mk (hbox);have GW366:=zb hg;have GE366:=zb hg;replace HB:=sb hb;clear hb hbox hg)))
 go_loopg [8] k (fun kq v8 w' => ∃ (x8_1 : Int),v8 = .int .i64 x8_1 ∧ Aside0 (slices_Index_2_int64_2_int64.l0 kq l0 (l0.length : Int) x8_1 a1_0 a1_1 = some r) ∧ Aside0 (kq ≤ k) ∧ Aside0 (w'.heap[gb366]? = some (.cells #[.int .i64 a1_0,.int .i64 a1_1] 108 (0,0))) ∧ Aside0 (Below w.heap.size w w'))
 case atStart => exact ⟨(0),(by first | rfl | (simp;done) | (simp [*];done)),H',⟨Nat.le_refl _⟩,⟨by exact bk BK366⟩,⟨ib⟩⟩
 case round =>
  clear H'
  try clear c1
  try clear p2
  obtain ⟨x8_1,rfl,HA,HK1,BK366,HB⟩:=hrel
  cases gk with
  | zero => exact absurd HA.out (by simp [slices_Index_2_int64_2_int64.l0])
  | succ k1 =>
   have H:=HA.out
   clear HA
   simp only [slices_Index_2_int64_2_int64.l0] at H
   by_cases c4 : x8_1 < (l0.length : Int)
   ·rw [if_pos c4] at H
    have c4b0 : decide (x8_1 < (l0.length : Int)) = true:=decide_eq_true c4
    clear c4
    by_cases c5 : 0 ≤ x8_1
    ·rw [if_pos c5] at H
     have c5b0 : decide (0 ≤ x8_1) = true:=decide_eq_true c5
     clear c5
     by_cases c6 : x8_1 < (l0.length : Int)
     ·rw [if_pos c6] at H
      have c6b0 : decide (x8_1 < (l0.length : Int)) = true:=decide_eq_true c6
      clear c6
      by_cases c7 : (a1_0 == ((rd_T108 l0 x8_1).f0) && (a1_1 == ((rd_T108 l0 x8_1).f1))) = true
      ·rw [if_pos c7] at H
       have c7b0 : (a1_0 == ((rd_T108 l0 x8_1).f0) && (a1_1 == ((rd_T108 l0 x8_1).f1))) = true:=c7
       (try (have c7b1 : decide (a1_0 = ((rd_T108 l0 x8_1).f0) && (a1_1 == ((rd_T108 l0 x8_1).f1))) = true:=by simpa using c7))
       (try (have c7b2 : (a1_0 == ((rd_T108 l0 x8_1).f0) && (a1_1 == ((rd_T108 l0 x8_1).f1))) = true:=by simpa using c7))
       clear c7
       obtain rfl:=Option.some.inj H
       have hcz8_0 : wr.cell? ⟨gb366,0,none⟩ = some (.int .i64 a1_0):=(blk_cell BK366.out 0).trans rfl
       have hcz8_1 : wr.cell? ⟨gb366,1,none⟩ = some (.int .i64 a1_1):=(blk_cell BK366.out 1).trans rfl
       have hfz8_0:=blk_frozen BK366.out 0
       have hfz8_1:=blk_frozen BK366.out 1
       have p367 : 0 ≤ (x8_1 : Int):=da
       have q367 : x8_1 < (l0.length : Int):=da
       obtain ⟨ad367,e367,hx367_0,hx367_1⟩:=at_T108 HR0.out x8_1 p367 q367
       cases e367
       replace hx367_0:=cq HB.out hx367_0
       replace hx367_1:=cq HB.out hx367_1
       replace p367:=eq_true p367
       replace q367:=eq_true q367
       go_wp2
       repeat (go_quiet (fail);try go_wp2)
       go_ret
       exact ⟨by first | rfl | (simp [errW_none,errW_some] <;> rfl) | (simp [*,errW_none,errW_some] <;> rfl),ib⟩
      ·rw [if_neg c7] at H
       have c7b0 : (a1_0 == ((rd_T108 l0 x8_1).f0) && (a1_1 == ((rd_T108 l0 x8_1).f1))) = false:=by simpa using c7
       (try (have c7b1 : decide (a1_0 = ((rd_T108 l0 x8_1).f0) && (a1_1 == ((rd_T108 l0 x8_1).f1))) = false:=by simpa using c7))
       (try (have c7b2 : (a1_0 == ((rd_T108 l0 x8_1).f0) && (a1_1 == ((rd_T108 l0 x8_1).f1))) = false:=by simpa using c7))
       (try (have c7b3 : ¬ (a1_0 = ((rd_T108 l0 x8_1).f0) && (a1_1 == ((rd_T108 l0 x8_1).f1))):=by simpa using c7))
       clear c7
       have H':=Aside0.mk H
       clear H
       have hcz9_0 : wr.cell? ⟨gb366,0,none⟩ = some (.int .i64 a1_0):=(blk_cell BK366.out 0).trans rfl
       have hcz9_1 : wr.cell? ⟨gb366,1,none⟩ = some (.int .i64 a1_1):=(blk_cell BK366.out 1).trans rfl
       have hfz9_0:=blk_frozen BK366.out 0
       have hfz9_1:=blk_frozen BK366.out 1
       have p367 : 0 ≤ (x8_1 : Int):=da
       have q367 : x8_1 < (l0.length : Int):=da
       obtain ⟨ad367,e367,hx367_0,hx367_1⟩:=at_T108 HR0.out x8_1 p367 q367
       cases e367
       replace hx367_0:=cq HB.out hx367_0
       replace hx367_1:=cq HB.out hx367_1
       replace p367:=eq_true p367
       replace q367:=eq_true q367
       go_wp2
       repeat (go_quiet (fail);try go_wp2)
       go_roundg k1
       case measure => have:=HK1.out;omega
       case rel => exact ⟨(wrap64 (x8_1 + 1)),(by first | rfl | (simp;done) | (simp [*];done)),H',⟨by have:=HK1.out;omega⟩,⟨by exact bk BK366⟩,⟨ib⟩⟩
     ·first | (exfalso;have z_:=of_decide_eq_true c4b0;omega) | (rw [if_neg c6] at H;exact absurd H (by simp))
    ·rw [if_neg c5] at H
     exact absurd H (by simp)
   ·rw [if_neg c4] at H
    have c4b0 : decide (x8_1 < (l0.length : Int)) = false:=decide_eq_false c4
    clear c4
    obtain rfl:=Option.some.inj H
    go_wp2
    repeat (go_quiet (fail);try go_wp2)
    go_ret
    exact ⟨by first | rfl | (simp [errW_none,errW_some] <;> rfl) | (simp [*,errW_none,errW_some] <;> rfl),ib⟩
def slices_Contains_2_int64_2_int64.f (k : Nat) (l0 : List (S108)) (a1_0 : Int) (a1_1 : Int) : Option (Bool):=(slices_Index_2_int64_2_int64.f k l0 a1_0 a1_1).bind fun t369 => (some (decide (t369 ≥ 0)))
theorem slices_Contains_2_int64_2_int64.calls (k : Nat) (A0 : Option Addr) (c0 : Nat) (l0 : List (S108)) (a1_0 : Int) (a1_1 : Int) (r : Bool) (w : World) (hr0 : Kd.C k108 w A0 l0.length l0) (hc0 : l0.length ≤ c0) (h : slices_Contains_2_int64_2_int64.f k l0 a1_0 a1_1 = some r) :
  Calls Try.prog 96 #[.slice A0 l0.length c0,.agg #[.int .i64 a1_0,.int .i64 a1_1]] w fun e w' => e = .returned (.bool r) ∧ Below w.heap.size w w':=by
 have hu108:=Try.underlying108
 have HR0:=Aside0.mk hr0
 have HC0:=Aside0.mk hc0
 clear hr0 hc0
 have HB:=Aside0.mk (Below.refl w.heap.size w)
 have H : ((slices_Index_2_int64_2_int64.f k l0 a1_0 a1_1).bind fun t369 => (some (decide (t369 ≥ 0)))) = some r:=h
 clear h
 replace H:=bE.mp H
 obtain ⟨t369,A30,H⟩:=H
 replace H : (some (decide (t369 ≥ 0))) = some r:=H
 have A3:=Aside0.mk A30
 clear A30
 obtain rfl:=Option.some.inj H
 go_enter Try.func96,Try.ntmps96
 go_wp2_with (first | ((with_reducible refine gate_dst (N:=3) rfl ?_);refine bx (cs:=#[.int .i64 a1_0,.int .i64 a1_1]) (t:=108) ?_;intro gb368 hg w4 hbox hb;have BK368:=Aside0.mk (hbox);have GW368:=zb hg;have GE368:=zb hg;replace HB:=sb hb;clear hb hbox hg;have hcz5_0:=ck BK368 0;have hcz5_1:=ck BK368 1;have hfz5_0:=blk_frozen BK368.out 0;have hfz5_1:=blk_frozen BK368.out 1) | ((with_reducible refine gate_callee (f:=142) rfl ?_);refine goesL_ (some 7) rfl rfl Try.func142 (by kernel_rfl) rfl #[.slice A0 l0.length c0,.agg #[.int .i64 a1_0,.int .i64 a1_1]] rfl (by (try simp only [mT,mC,mN]);first | done | rfl | (simp only [lD,lT];rfl)) ?_;(with_reducible refine (slices_Index_2_int64_2_int64.calls k _ _ l0 a1_0 a1_1 t369 _ ?side1 ?side2 A3.out).mono ?_);(case side1 => exact cO ((Kd.C_below HR0.out HB.out)));(case side2 => exact HC0.out);rintro e w6 ⟨rfl,hb⟩;refine ⟨_,rfl,?_⟩;replace BK368:=kb BK368 hb;replace HB:=sb hb;(try clear hb);(try clear hb2);(try clear hk);(try clear hi)))
 go_ret
 exact ⟨by first | rfl | (simp [errW_none,errW_some] <;> rfl) | (simp [*,errW_none,errW_some] <;> rfl),ib⟩
def impl_ringEdges.l0 : Nat → List Int → List (S108) → List Int → Int → Int → Option ((List (S108)))
 | 0,_,_,_,_,_ => none
 | k + 1,x0,x3,x8,x9,x10 => if x10 < x9 then (if 0 ≤ x10 then (if x10 < (x8.length : Int) then (if (x0.length : Int) = 0 then (none) else (if 0 ≤ (Int.tmod (wrap64 (x10 + 1)) (x0.length : Int)) then (if (Int.tmod (wrap64 (x10 + 1)) (x0.length : Int)) < (x0.length : Int) then (if x3.length < 8796093022208 then (impl_ringEdges.l0 k x0 (x3 ++ [(⟨mn (rd x8 x10) (rd x0 (Int.tmod (wrap64 (x10 + 1)) (x0.length : Int))),mx (rd x8 x10) (rd x0 (Int.tmod (wrap64 (x10 + 1)) (x0.length : Int)))⟩ : S108)]) x8 x9 (wrap64 (x10 + 1))) else (none)) else (none)) else (none))) else (none)) else (none)) else (some x3)
def impl_ringEdges.f (k : Nat) (l0 : List Int) : Option ((List (S108))):=impl_ringEdges.l0 k l0 (([] : List (S108))) l0 (l0.length : Int) 0
theorem impl_ringEdges.calls (k : Nat) (A0 : Option Addr) (c0 : Nat) (l0 : List Int) (r : List (S108)) (w : World) (hr0 : Kd.C (Kd.int .i64) w A0 l0.length l0) (hc0 : l0.length ≤ c0) (h : impl_ringEdges.f k l0 = some r) :
  Calls Try.prog 97 #[.slice A0 l0.length c0] w fun e w' => ∃ v0_ : Value,e = .returned (v0_) ∧ Kd.R k108 108 w' w.heap.size (fun _ => True) v0_ r ∧ Below w.heap.size w w':=by
 have hu108:=Try.underlying108
 have HR0:=Aside0.mk hr0
 have HC0:=Aside0.mk hc0
 clear hr0 hc0
 have HB:=Aside0.mk (Below.refl w.heap.size w)
 have H : (impl_ringEdges.l0 k l0 (([] : List (S108))) l0 (l0.length : Int) 0) = some r:=h
 clear h
 obtain ⟨y370,hy370⟩ : ∃ y_ : List (S108),y_ = (([] : List (S108))):=⟨_,rfl⟩
 replace H : (impl_ringEdges.l0 k l0 y370 l0 (l0.length : Int) 0) = some r:=by first | (rw [hy370];with_reducible exact H) | (have H2_:=(Option.bind_some _ _).symm.trans H;rw [hy370];with_reducible exact H2_) | (have H2_:=(Option.bind_some _ _).symm.trans H;with_reducible exact H2_) | with_reducible exact H | (rw [hy370];exact H) | exact H
 have Ny370:=Aside0.mk hy370
 clear hy370
 have H':=Aside0.mk H
 clear H
 go_enter Try.func97,Try.ntmps97
 go_wp2_with (first | ((with_reducible refine gate_dst (N:=7) rfl ?_);refine Kd.R_lit k108 _ 108 ?hg (N:=7) ?hd (xs:=([] : List (S108))) (inner:=[]) (ok:=fun _ => True) (okp:=fun _ => True) ?hr ?hp (fun _ hk => hk) trivial (Below.refl _ _) (Nat.le_refl _) (by simp) ?_;(case hd => rfl);(case hg => rfl);(case hr => first | (go_simp;done) | (go_simp;rfl));(case hp => exact (Reps.none _ _));intro v371 w2 ho3 hb hg_ hnew_;clear hg_ hnew_;(first | rw [← Ny370.out] at ho3 | (simp only [Int.reduceToNat] at ho3;rw [← Ny370.out] at ho3));have HO372:=Aside0.mk (Kd.R_lower ho3 (below_size ib));replace HB:=sb hb;clear hb ho3))
 go_loopg [3,10] k (fun kq v3 v10 w' => ∃ (x3_1 : List (S108)) (x10_1 : Int),v10 = .int .i64 x10_1 ∧ Aside0 (impl_ringEdges.l0 kq l0 x3_1 l0 (l0.length : Int) x10_1 = some r) ∧ Aside0 (kq ≤ k) ∧ Aside0 (Kd.R k108 108 w' w.heap.size (fun _ => True) v3 x3_1) ∧ Aside0 (Below w.heap.size w w'))
 case atStart => exact ⟨(y370),(0),(by first | rfl | (simp;done) | (simp [*];done)),H',⟨Nat.le_refl _⟩,⟨rO HO372.out⟩,⟨ib⟩⟩
 case round =>
  clear H'
  try clear p2
  obtain ⟨x3_1,x10_1,rfl,HA,HK1,HO_3,HB⟩:=hrel
  cases gk with
  | zero => exact absurd HA.out (by simp [impl_ringEdges.l0])
  | succ k1 =>
   have H:=HA.out
   clear HA
   simp only [impl_ringEdges.l0] at H
   by_cases c4 : x10_1 < (l0.length : Int)
   ·rw [if_pos c4] at H
    have c4b0 : decide (x10_1 < (l0.length : Int)) = true:=decide_eq_true c4
    clear c4
    by_cases c5 : 0 ≤ x10_1
    ·rw [if_pos c5] at H
     have c5b0 : decide (0 ≤ x10_1) = true:=decide_eq_true c5
     clear c5
     by_cases c6 : x10_1 < (l0.length : Int)
     ·rw [if_pos c6] at H
      have c6b0 : decide (x10_1 < (l0.length : Int)) = true:=decide_eq_true c6
      clear c6
      by_cases c7 : (l0.length : Int) = 0
      ·rw [if_pos c7] at H
       exact absurd H (by simp)
      ·rw [if_neg c7] at H
       have c7b0 : ((l0.length : Int) == 0) = false:=beq_eq_false_iff_ne.mpr c7
       have c7b1 : ((l0.length : Int) != 0) = true:=bne_iff_ne.mpr c7
       have c7b2 : ¬ (l0 = []):=fun h_ => c7 (by rw [h_];rfl)
       obtain ⟨ji8,hji8⟩ : ∃ j_ : Int,(Int.tmod (wrap64 (x10_1 + 1)) (l0.length : Int)) = j_:=⟨_,rfl⟩
       replace H : (if 0 ≤ (ji8) then (if (ji8) < (l0.length : Int) then (if x3_1.length < 8796093022208 then (impl_ringEdges.l0 k1 l0 (x3_1 ++ [(⟨mn (rd l0 x10_1) (rd l0 (ji8)),mx (rd l0 x10_1) (rd l0 (ji8))⟩ : S108)]) l0 (l0.length : Int) (wrap64 (x10_1 + 1))) else (none)) else (none)) else (none)) = some r:=by first | (rw [hji8] at H;exact H) | (simp only [hji8] at H ⊢;exact H)
       by_cases c9 : 0 ≤ (ji8)
       ·rw [if_pos c9] at H
        have c9b0 : decide (0 ≤ (ji8)) = true:=decide_eq_true c9
        clear c9
        by_cases c10 : (ji8) < (l0.length : Int)
        ·rw [if_pos c10] at H
         have c10b0 : decide ((ji8) < (l0.length : Int)) = true:=decide_eq_true c10
         clear c10
         obtain ⟨ji11,hji11⟩ : ∃ j_ : Int,(mn (rd l0 x10_1) (rd l0 (ji8))) = j_:=⟨_,rfl⟩
         replace H : (if x3_1.length < 8796093022208 then (impl_ringEdges.l0 k1 l0 (x3_1 ++ [(⟨ji11,mx (rd l0 x10_1) (rd l0 (ji8))⟩ : S108)]) l0 (l0.length : Int) (wrap64 (x10_1 + 1))) else (none)) = some r:=by first | (rw [hji11] at H;exact H) | (simp only [hji11] at H ⊢;exact H)
         have hji11_ : (if (rd l0 (ji8)) < (rd l0 x10_1) then (rd l0 (ji8)) else (rd l0 x10_1)) = ji11:=hji11
         obtain ⟨ji12,hji12⟩ : ∃ j_ : Int,(mx (rd l0 x10_1) (rd l0 (ji8))) = j_:=⟨_,rfl⟩
         replace H : (if x3_1.length < 8796093022208 then (impl_ringEdges.l0 k1 l0 (x3_1 ++ [(⟨ji11,ji12⟩ : S108)]) l0 (l0.length : Int) (wrap64 (x10_1 + 1))) else (none)) = some r:=by first | (rw [hji12] at H;exact H) | (simp only [hji12] at H ⊢;exact H)
         have hji12_ : (if (rd l0 x10_1) < (rd l0 (ji8)) then (rd l0 (ji8)) else (rd l0 x10_1)) = ji12:=hji12
         by_cases c13 : x3_1.length < 8796093022208
         ·rw [if_pos c13] at H
          have LMc13:=Aside0.mk c13
          clear c13
          obtain ⟨y375,hy375⟩ : ∃ y_ : List (S108),y_ = (x3_1 ++ [(⟨ji11,ji12⟩ : S108)]):=⟨_,rfl⟩
          replace H : (impl_ringEdges.l0 k1 l0 y375 l0 (l0.length : Int) (wrap64 (x10_1 + 1))) = some r:=by first | (rw [hy375];with_reducible exact H) | (have H2_:=(Option.bind_some _ _).symm.trans H;rw [hy375];with_reducible exact H2_) | (have H2_:=(Option.bind_some _ _).symm.trans H;with_reducible exact H2_) | with_reducible exact H | (rw [hy375];exact H) | exact H
          have Ny375:=Aside0.mk hy375
          clear hy375
          have H':=Aside0.mk H
          clear H
          have p373 : 0 ≤ (x10_1 : Int):=da
          have q373 : x10_1 < (l0.length : Int):=da
          obtain ⟨ad373,e373,hx373_0⟩:=Kd.at_int HR0.out x10_1 p373 q373
          cases e373
          replace hx373_0:=cq HB.out hx373_0
          replace p373:=eq_true p373
          replace q373:=eq_true q373
          have p374 : 0 ≤ ((ji8) : Int):=da
          have q374 : (ji8) < (l0.length : Int):=da
          obtain ⟨ad374,e374,hx374_0⟩:=Kd.at_int HR0.out (ji8) p374 q374
          obtain rfl : ad373 = ad374:=(by injection e374)
          replace hx374_0:=cq HB.out hx374_0
          replace p374:=eq_true p374
          replace q374:=eq_true q374
          go_wp2_with (first | ((with_reducible refine gate_builtin (b:=.append) (xs:=#[.tmp 23,.tmp 31]) rfl ?_);at_builtin;refine Kd.R_append k108 (w0:=w) w.heap.size rfl (.tmp 23) (.tmp 31) 107 108 (.agg #[(.int .i64 0),(.int .i64 0)]) 16 rfl Try.underlying107 info108 rfl (by decide) (by omega) u3 x3_1 (⟨ji11,ji12⟩ : S108) [.int .i64 ji11,.int .i64 ji12] (fun _ => True) (fun _ => False) rfl rfl ?aP (fun _ hk => hk.elim) ?aF ?aO ?aB ?aS ?aL ?_;(case aP => exact k108_mkM _ _ _ (⟨ji11,ji12⟩ : S108));(case aB => exact ib);(case aF => exact (fun _ _ => trivial));(case aO => exact (rO HO_3.out));(case aS => exact (below_size ib));(case aL => have:=LMc13.out;omega);intro v376 w14 ho hb hg hat;rw [← Ny375.out] at ho;replace HB:=Aside0.mk (hb);have HO377:=Aside0.mk (ho);clear HO_3;clear ho hb hg hat))
          go_roundg k1
          case measure => have:=HK1.out;omega
          case rel => exact ⟨(y375),(wrap64 (x10_1 + 1)),(by first | rfl | (simp;done) | (simp [*];done)),H',⟨by have:=HK1.out;omega⟩,⟨rO HO377.out⟩,⟨ib⟩⟩
         ·rw [if_neg c13] at H
          exact absurd H (by simp)
        ·rw [if_neg c10] at H
         exact absurd H (by simp)
       ·rw [if_neg c9] at H
        exact absurd H (by simp)
     ·first | (exfalso;have z_:=of_decide_eq_true c4b0;omega) | (rw [if_neg c6] at H;exact absurd H (by simp))
    ·rw [if_neg c5] at H
     exact absurd H (by simp)
   ·rw [if_neg c4] at H
    have c4b0 : decide (x10_1 < (l0.length : Int)) = false:=decide_eq_false c4
    clear c4
    obtain rfl:=Option.some.inj H
    go_wp2
    go_ret
    exact ⟨_,by first | rfl | (simp [errW_none,errW_some] <;> rfl) | (simp [*,errW_none,errW_some] <;> rfl),rO HO_3.out,ib⟩
mutual
def impl_FacesOfEdge.j0 : Nat → Int → Int → Bool → Int → Int → List (S73) → List (S103) → Option (List Int × Int)
 | 0,_,_,_,_,_,_,_ => none
 | k + 1,x1,x2,x29,x379000,x379001,x379002,x379003 => if x29 = true then (some (([] : List Int),2)) else (impl_FacesOfEdge.l0 k x1 x2 (([] : List Int)) x379003 (x379003.length : Int) 0)
def impl_FacesOfEdge.l0 : Nat → Int → Int → List Int → List (S103) → Int → Int → Option (List Int × Int)
 | 0,_,_,_,_,_,_ => none
 | k + 1,x1,x2,x8,x32,x33,x34 => if x34 < x33 then (if 0 ≤ x34 then (if x34 < (x32.length : Int) then ((impl_ringEdges.f k ((rd_T103 x32 x34).f1)).bind fun t387 => ((slices_Contains_2_int64_2_int64.f k t387 (mn x1 x2) (mx x1 x2)).bind fun t390 => (if t390 = true then (if x8.length < 17592186044416 then (impl_FacesOfEdge.l0 k x1 x2 (x8 ++ [x34]) x32 x33 (wrap64 (x34 + 1))) else (none)) else (impl_FacesOfEdge.l0 k x1 x2 x8 x32 x33 (wrap64 (x34 + 1)))))) else (none)) else (none)) else (some (x8,0))
end
def impl_FacesOfEdge.f (k : Nat) (a0_0 : Int) (a0_1 : Int) (l0_2 : List (S73)) (l0_3 : List (S103)) (a1 : Int) (a2 : Int) : Option (List Int × Int):=(impl_ValidDrawing.f k a0_0 a0_1 l0_2 l0_3).bind fun t379 => (if t379 = true then ((impl_within.f a1 0 (wrap64 ((l0_2.length : Int) - 1))).bind fun t380 => (if t380 = true then ((impl_within.f a2 0 (wrap64 ((l0_2.length : Int) - 1))).bind fun t381 => (impl_FacesOfEdge.j0 k a1 a2 (!t381) a0_0 a0_1 l0_2 l0_3)) else (impl_FacesOfEdge.j0 k a1 a2 true a0_0 a0_1 l0_2 l0_3))) else (some (([] : List Int),1)))
theorem impl_FacesOfEdge.calls (k : Nat) (a0_0 : Int) (a0_1 : Int) (A0_2 : Option Addr) (c0_2 : Nat) (l0_2 : List (S73)) (A0_3 : Option Addr) (c0_3 : Nat) (l0_3 : List (S103)) (a1 : Int) (a2 : Int) (r1 : List Int) (r2 : Int) (w : World) (hr0_2 : Kd.C k73 w A0_2 l0_2.length l0_2) (hc0_2 : l0_2.length ≤ c0_2) (hr0_3 : Kd.C k103 w A0_3 l0_3.length l0_3) (hc0_3 : l0_3.length ≤ c0_3) (h : impl_FacesOfEdge.f k a0_0 a0_1 l0_2 l0_3 a1 a2 = some (r1,r2)) :
  Calls Try.prog 56 #[.agg #[.int .i64 a0_0,.int .i64 a0_1,.slice A0_2 l0_2.length c0_2,.slice A0_3 l0_3.length c0_3],.int .i64 a1,.int .i64 a2] w fun e w' => ∃ v0_ : Value,e = .returned (.tuple #[v0_,.int .i64 r2]) ∧ Kd.R (Kd.int .i64) 2 w' w.heap.size (fun _ => True) v0_ r1 ∧ Below w.heap.size w w':=by
 have hu51:=Try.underlying51
 have hu103:=Try.underlying103
 have hu108:=Try.underlying108
 have HR0_2:=Aside0.mk hr0_2
 have HC0_2:=Aside0.mk hc0_2
 clear hr0_2 hc0_2
 have HR0_3:=Aside0.mk hr0_3
 have HC0_3:=Aside0.mk hc0_3
 clear hr0_3 hc0_3
 have HB:=Aside0.mk (Below.refl w.heap.size w)
 have H : ((impl_ValidDrawing.f k a0_0 a0_1 l0_2 l0_3).bind fun t379 => (if t379 = true then ((impl_within.f a1 0 (wrap64 ((l0_2.length : Int) - 1))).bind fun t380 => (if t380 = true then ((impl_within.f a2 0 (wrap64 ((l0_2.length : Int) - 1))).bind fun t381 => (impl_FacesOfEdge.j0 k a1 a2 (!t381) a0_0 a0_1 l0_2 l0_3)) else (impl_FacesOfEdge.j0 k a1 a2 true a0_0 a0_1 l0_2 l0_3))) else (some (([] : List Int),1)))) = some (r1,r2):=h
 clear h
 replace H:=bE.mp H
 obtain ⟨t379,A40,H⟩:=H
 replace H : (if t379 = true then ((impl_within.f a1 0 (wrap64 ((l0_2.length : Int) - 1))).bind fun t380 => (if t380 = true then ((impl_within.f a2 0 (wrap64 ((l0_2.length : Int) - 1))).bind fun t381 => (impl_FacesOfEdge.j0 k a1 a2 (!t381) a0_0 a0_1 l0_2 l0_3)) else (impl_FacesOfEdge.j0 k a1 a2 true a0_0 a0_1 l0_2 l0_3))) else (some (([] : List Int),1))) = some (r1,r2):=H
 have A4:=Aside0.mk A40
 clear A40
 by_cases c5 : t379 = true
 ·subst c5
  have H1 : ((impl_within.f a1 0 (wrap64 ((l0_2.length : Int) - 1))).bind fun t380 => (if t380 = true then ((impl_within.f a2 0 (wrap64 ((l0_2.length : Int) - 1))).bind fun t381 => (impl_FacesOfEdge.j0 k a1 a2 (!t381) a0_0 a0_1 l0_2 l0_3)) else (impl_FacesOfEdge.j0 k a1 a2 true a0_0 a0_1 l0_2 l0_3))) = some (r1,r2):=by rw [if_pos rfl] at H;exact H
  clear H
  have H:=H1
  clear H1
  have HC6:=Aside0.mk H
  clear H
  go_enter Try.func56,Try.ntmps56
  go_upto_region 3 with (first | ((with_reducible refine gate_dst (N:=3) rfl ?_);(try (refine gate_guard (by rfl) ?_;dsimp only));refine bx (cs:=#[.int .i64 a0_0,.int .i64 a0_1,.slice A0_2 l0_2.length c0_2,.slice A0_3 l0_3.length c0_3]) (t:=51) ?_;intro gb378 hg w7 hbox hb;have BK378:=Aside0.mk (hbox);have GW378:=zb hg;have GE378:=zb hg;replace HB:=sb hb;clear hb hbox hg;have hcz8_0:=ck BK378 0;have hcz8_1:=ck BK378 1;have hcz8_2:=ck BK378 2;have hcz8_3:=ck BK378 3;have hfz8_0:=blk_frozen BK378.out 0;have hfz8_1:=blk_frozen BK378.out 1;have hfz8_2:=blk_frozen BK378.out 2;have hfz8_3:=blk_frozen BK378.out 3) | ((with_reducible refine gate_callee (f:=77) rfl ?_);refine goesL_ (some 12) rfl rfl Try.func77 (by kernel_rfl) rfl #[.agg #[.int .i64 a0_0,.int .i64 a0_1,.slice A0_2 l0_2.length c0_2,.slice A0_3 l0_3.length c0_3]] rfl (by (try simp only [mT,mC,mN]);first | done | rfl | (simp only [lD,lT];rfl)) ?_;(with_reducible refine (impl_ValidDrawing.calls k a0_0 a0_1 _ _ l0_2 _ _ l0_3 true _ ?side1 ?side2 ?side3 ?side4 A4.out).mono ?_);(case side1 => repeat (first | exact (Kd.C_below HR0_2.out HB.out) | exact HR0_2.out | (with_reducible refine Kd.C_alloc ?_ _) | (with_reducible refine Kd.C_drewN ?_ _) | (with_reducible refine Kd.C_drew ?_)));(case side2 => exact HC0_2.out);(case side3 => repeat (first | exact (Kd.C_below HR0_3.out HB.out) | exact HR0_3.out | (with_reducible refine Kd.C_alloc ?_ _) | (with_reducible refine Kd.C_drewN ?_ _) | (with_reducible refine Kd.C_drew ?_)));(case side4 => exact HC0_3.out);rintro e w9 ⟨rfl,hb⟩;refine ⟨_,rfl,?_⟩;replace BK378:=kb BK378 hb;replace HB:=sb hb;(try clear hb);(try clear hb2);(try clear hk);(try clear hi)))
  (try simp only [Act.put,List.setIfInBounds_toArray,List.set_cons_zero,List.set_cons_succ])
  go_cut [29] (fun v29 wc => ∃ (kq : Nat) (x29_5 : Bool),v29 = .bool x29_5 ∧ Aside0 (impl_FacesOfEdge.j0 kq a1 a2 x29_5 a0_0 a0_1 l0_2 l0_3 = some (r1,r2)) ∧ Aside0 (kq ≤ k) ∧ Aside0 (wc.heap[gb378]? = some (.cells #[.int .i64 a0_0,.int .i64 a0_1,(.slice A0_2 l0_2.length c0_2),(.slice A0_3 l0_3.length c0_3)] 51 (0,0))) ∧ Aside0 (Below w.heap.size w wc))
  case first =>
   have H:=HC6.out
   clear HC6
   replace H:=bE.mp H
   obtain ⟨t380,A100,H⟩:=H
   replace H : (if t380 = true then ((impl_within.f a2 0 (wrap64 ((l0_2.length : Int) - 1))).bind fun t381 => (impl_FacesOfEdge.j0 k a1 a2 (!t381) a0_0 a0_1 l0_2 l0_3)) else (impl_FacesOfEdge.j0 k a1 a2 true a0_0 a0_1 l0_2 l0_3)) = some (r1,r2):=H
   have A10:=Aside0.mk A100
   clear A100
   by_cases c11 : t380 = true
   ·subst c11
    have H1 : ((impl_within.f a2 0 (wrap64 ((l0_2.length : Int) - 1))).bind fun t381 => (impl_FacesOfEdge.j0 k a1 a2 (!t381) a0_0 a0_1 l0_2 l0_3)) = some (r1,r2):=by rw [if_pos rfl] at H;exact H
    clear H
    have H:=H1
    clear H1
    replace H:=bE.mp H
    obtain ⟨t381,A120,H⟩:=H
    replace H : (impl_FacesOfEdge.j0 k a1 a2 (!t381) a0_0 a0_1 l0_2 l0_3) = some (r1,r2):=H
    have A12:=Aside0.mk A120
    clear A120
    have H':=Aside0.mk H
    clear H
    have hcz13_0:=ck BK378 0
    have hcz13_1:=ck BK378 1
    have hcz13_2:=ck BK378 2
    have hcz13_3:=ck BK378 3
    have hfz13_0:=blk_frozen BK378.out 0
    have hfz13_1:=blk_frozen BK378.out 1
    have hfz13_2:=blk_frozen BK378.out 2
    have hfz13_3:=blk_frozen BK378.out 3
    go_wp2_with (first | ((with_reducible refine gate_callee (f:=62) rfl ?_);refine goesL_ (some 19) rfl rfl Try.func62 (by kernel_rfl) rfl #[.int .i64 a1,.int .i64 0,.int .i64 (wrap64 ((l0_2.length : Int) - 1))] rfl (by (try simp only [mT,mC,mN]);first | done | rfl | (simp only [lD,lT];rfl)) ?_;(with_reducible refine (impl_within.calls a1 0 (wrap64 ((l0_2.length : Int) - 1)) true _ A10.out).mono ?_);rintro e w' ⟨rfl,⟨nd,rfl⟩⟩;refine ⟨_,rfl,?_⟩) | (go_at_call 62;(with_reducible refine (impl_within.calls a2 0 (wrap64 ((l0_2.length : Int) - 1)) t381 _ A12.out).mono ?_);rintro e w' ⟨rfl,⟨nd,rfl⟩⟩))
    go_meet
    case rel => exact ⟨_,(!t381),(by first | rfl | (simp;done) | (simp [*];done)),H',⟨by first | omega | exact Nat.le_refl _⟩,⟨by exact bk BK378⟩,⟨ib⟩⟩
   ·replace c11:=Bool.eq_false_iff.mpr c11
    subst c11
    have H1 : (impl_FacesOfEdge.j0 k a1 a2 true a0_0 a0_1 l0_2 l0_3) = some (r1,r2):=by rw [if_neg (show ¬ (false = true) by decide)] at H;exact H
    clear H
    have H:=H1
    clear H1
    have H':=Aside0.mk H
    clear H
    have hcz14_0:=ck BK378 0
    have hcz14_1:=ck BK378 1
    have hcz14_2:=ck BK378 2
    have hcz14_3:=ck BK378 3
    have hfz14_0:=blk_frozen BK378.out 0
    have hfz14_1:=blk_frozen BK378.out 1
    have hfz14_2:=blk_frozen BK378.out 2
    have hfz14_3:=blk_frozen BK378.out 3
    go_wp2_with (first | ((with_reducible refine gate_callee (f:=62) rfl ?_);refine goesL_ (some 19) rfl rfl Try.func62 (by kernel_rfl) rfl #[.int .i64 a1,.int .i64 0,.int .i64 (wrap64 ((l0_2.length : Int) - 1))] rfl (by (try simp only [mT,mC,mN]);first | done | rfl | (simp only [lD,lT];rfl)) ?_;(with_reducible refine (impl_within.calls a1 0 (wrap64 ((l0_2.length : Int) - 1)) false _ A10.out).mono ?_);rintro e w' ⟨rfl,⟨nd,rfl⟩⟩;refine ⟨_,rfl,?_⟩))
    go_meet
    case rel => exact ⟨_,(true),(by first | rfl | (simp;done) | (simp [*];done)),H',⟨by first | omega | exact Nat.le_refl _⟩,⟨by exact bk BK378⟩,⟨ib⟩⟩
  case rest =>
   clear HC6
   try clear c1
   try clear p2
   try clear c5
   try clear c6
   try clear p6
   try clear c7
   try clear c11
   try clear hcz13_0
   try clear hcz13_1
   try clear hcz13_2
   try clear hcz13_3
   try clear hcz14_0
   try clear hcz14_1
   try clear hcz14_2
   try clear hcz14_3
   try clear hcz8_0
   try clear hcz8_1
   try clear hcz8_2
   try clear hcz8_3
   try clear hfz13_0
   try clear hfz13_1
   try clear hfz13_2
   try clear hfz13_3
   try clear hfz14_0
   try clear hfz14_1
   try clear hfz14_2
   try clear hfz14_3
   try clear hfz8_0
   try clear hfz8_1
   try clear hfz8_2
   try clear hfz8_3
   obtain ⟨kq,x29_5,rfl,HA,HJ5,BK378,HB⟩:=hcut
   cases kq with
   | zero => exact absurd HA.out (by simp [impl_FacesOfEdge.j0])
   | succ kj5 =>
    have H:=HA.out
    clear HA
    simp only [impl_FacesOfEdge.j0] at H
    by_cases c15 : x29_5 = true
    ·subst c15
     have H1 : (some (([] : List Int),2)) = some (r1,r2):=by rw [if_pos rfl] at H;exact H
     clear H
     have H:=H1
     clear H1
     simp only [Option.some.injEq,Prod.mk.injEq] at H
     obtain ⟨rfl,rfl⟩:=H
     go_wp2
     go_ret2
     exact ⟨_,by first | rfl | (simp [errW_none,errW_some] <;> rfl) | (simp [*,errW_none,errW_some] <;> rfl),by first | exact Kd.R_nil _ _ _ _ _ | exact Kd.N_nil _ _ _ _ _ | exact Kd.V_nil _ _ _ _ _ | exact Kd.Q_nil _ _ _ _ _ | exact Kd.S_nil _ _ _ _ _,ib⟩
    ·replace c15:=Bool.eq_false_iff.mpr c15
     subst c15
     have H1 : (impl_FacesOfEdge.l0 kj5 a1 a2 (([] : List Int)) l0_3 (l0_3.length : Int) 0) = some (r1,r2):=by rw [if_neg (show ¬ (false = true) by decide)] at H;exact H
     clear H
     have H:=H1
     clear H1
     obtain ⟨y382,hy382⟩ : ∃ y_ : List Int,y_ = (([] : List Int)):=⟨_,rfl⟩
     replace H : (impl_FacesOfEdge.l0 kj5 a1 a2 y382 l0_3 (l0_3.length : Int) 0) = some (r1,r2):=by first | (rw [hy382];with_reducible exact H) | (have H2_:=(Option.bind_some _ _).symm.trans H;rw [hy382];with_reducible exact H2_) | (have H2_:=(Option.bind_some _ _).symm.trans H;with_reducible exact H2_) | with_reducible exact H | (rw [hy382];exact H) | exact H
     have Ny382:=Aside0.mk hy382
     clear hy382
     have H':=Aside0.mk H
     clear H
     go_wp2_with (first | ((with_reducible refine gate_dst (N:=30) rfl ?_);(try (refine gate_guard (by rfl) ?_;dsimp only));refine Kd.R_lit (Kd.int .i64) _ 2 ?hg (N:=30) ?hd (xs:=([] : List Int)) (inner:=[]) (ok:=fun _ => True) (okp:=fun _ => True) ?hr ?hp (fun _ hk => hk) trivial (Below.refl _ _) (Nat.le_refl _) (by simp) ?_;(case hd => rfl);(case hg => rfl);(case hr => first | (go_simp;done) | (go_simp;rfl));(case hp => exact (Reps.none _ _));intro v383 w16 ho17 hb hg_ hnew_;clear hg_ hnew_;(first | rw [← Ny382.out] at ho17 | (simp only [Int.reduceToNat] at ho17;rw [← Ny382.out] at ho17));have HO384:=Aside0.mk (Kd.R_lower ho17 (below_size ib));replace BK378:=kb BK378 hb;replace HB:=sb hb;clear hb ho17;have hcz18_0:=ck BK378 0;have hcz18_1:=ck BK378 1;have hcz18_2:=ck BK378 2;have hcz18_3:=ck BK378 3;have hfz18_0:=blk_frozen BK378.out 0;have hfz18_1:=blk_frozen BK378.out 1;have hfz18_2:=blk_frozen BK378.out 2;have hfz18_3:=blk_frozen BK378.out 3))
     go_loopg [8,34] kj5 (fun kq v8 v34 w' => ∃ (x8_2 : List Int) (x34_2 : Int),v34 = .int .i64 x34_2 ∧ Aside0 (impl_FacesOfEdge.l0 kq a1 a2 x8_2 l0_3 (l0_3.length : Int) x34_2 = some (r1,r2)) ∧ Aside0 (kq ≤ kj5) ∧ Aside0 (Kd.R (Kd.int .i64) 2 w' w.heap.size (fun _ => True) v8 x8_2) ∧ Aside0 (w'.heap[gb378]? = some (.cells #[.int .i64 a0_0,.int .i64 a0_1,(.slice A0_2 l0_2.length c0_2),(.slice A0_3 l0_3.length c0_3)] 51 (0,0))) ∧ Aside0 (Below w.heap.size w w'))
     case atStart => exact ⟨(y382),(0),(by first | rfl | (simp;done) | (simp [*];done)),H',⟨Nat.le_refl _⟩,⟨rO HO384.out⟩,⟨by exact bk BK378⟩,⟨ib⟩⟩
     case round =>
      clear H'
      try clear c1
      try clear p2
      try clear c5
      try clear c6
      try clear p6
      try clear c7
      try clear c11
      try clear c15
      try clear hcz13_0
      try clear hcz13_1
      try clear hcz13_2
      try clear hcz13_3
      try clear hcz14_0
      try clear hcz14_1
      try clear hcz14_2
      try clear hcz14_3
      try clear hcz18_0
      try clear hcz18_1
      try clear hcz18_2
      try clear hcz18_3
      try clear hcz8_0
      try clear hcz8_1
      try clear hcz8_2
      try clear hcz8_3
      try clear hfz13_0
      try clear hfz13_1
      try clear hfz13_2
      try clear hfz13_3
      try clear hfz14_0
      try clear hfz14_1
      try clear hfz14_2
      try clear hfz14_3
      try clear hfz18_0
      try clear hfz18_1
      try clear hfz18_2
      try clear hfz18_3
      try clear hfz8_0
      try clear hfz8_1
      try clear hfz8_2
      try clear hfz8_3
      try clear p2
      try clear p6
      obtain ⟨x8_2,x34_2,rfl,HA,HK2,HO_8,BK378,HB⟩:=hrel
      cases gk with
      | zero => exact absurd HA.out (by simp [impl_FacesOfEdge.l0])
      | succ k2 =>
       have H:=HA.out
       clear HA
       simp only [impl_FacesOfEdge.l0] at H
       by_cases c19 : x34_2 < (l0_3.length : Int)
       ·rw [if_pos c19] at H
        have c19b0 : decide (x34_2 < (l0_3.length : Int)) = true:=decide_eq_true c19
        clear c19
        by_cases c20 : 0 ≤ x34_2
        ·rw [if_pos c20] at H
         have c20b0 : decide (0 ≤ x34_2) = true:=decide_eq_true c20
         clear c20
         by_cases c21 : x34_2 < (l0_3.length : Int)
         ·rw [if_pos c21] at H
          have c21b0 : decide (x34_2 < (l0_3.length : Int)) = true:=decide_eq_true c21
          clear c21
          replace H:=bE.mp H
          obtain ⟨t387,A220,H⟩:=H
          replace H : ((slices_Contains_2_int64_2_int64.f k2 t387 (mn a1 a2) (mx a1 a2)).bind fun t390 => (if t390 = true then (if x8_2.length < 17592186044416 then (impl_FacesOfEdge.l0 k2 a1 a2 (x8_2 ++ [x34_2]) l0_3 (l0_3.length : Int) (wrap64 (x34_2 + 1))) else (none)) else (impl_FacesOfEdge.l0 k2 a1 a2 x8_2 l0_3 (l0_3.length : Int) (wrap64 (x34_2 + 1))))) = some (r1,r2):=H
          have A22:=Aside0.mk A220
          clear A220
          obtain ⟨ji23,hji23⟩ : ∃ j_ : Int,(mn a1 a2) = j_:=⟨_,rfl⟩
          replace H : ((slices_Contains_2_int64_2_int64.f k2 t387 (ji23) (mx a1 a2)).bind fun t390 => (if t390 = true then (if x8_2.length < 17592186044416 then (impl_FacesOfEdge.l0 k2 a1 a2 (x8_2 ++ [x34_2]) l0_3 (l0_3.length : Int) (wrap64 (x34_2 + 1))) else (none)) else (impl_FacesOfEdge.l0 k2 a1 a2 x8_2 l0_3 (l0_3.length : Int) (wrap64 (x34_2 + 1))))) = some (r1,r2):=by first | (rw [hji23] at H;exact H) | (simp only [hji23] at H ⊢;exact H)
          (try rw [hji23] at A22)
          have hji23_ : (if a2 < a1 then a2 else a1) = ji23:=hji23
          obtain ⟨ji24,hji24⟩ : ∃ j_ : Int,(mx a1 a2) = j_:=⟨_,rfl⟩
          replace H : ((slices_Contains_2_int64_2_int64.f k2 t387 (ji23) (ji24)).bind fun t390 => (if t390 = true then (if x8_2.length < 17592186044416 then (impl_FacesOfEdge.l0 k2 a1 a2 (x8_2 ++ [x34_2]) l0_3 (l0_3.length : Int) (wrap64 (x34_2 + 1))) else (none)) else (impl_FacesOfEdge.l0 k2 a1 a2 x8_2 l0_3 (l0_3.length : Int) (wrap64 (x34_2 + 1))))) = some (r1,r2):=by first | (rw [hji24] at H;exact H) | (simp only [hji24] at H ⊢;exact H)
          (try rw [hji24] at A22)
          have hji24_ : (if a1 < a2 then a2 else a1) = ji24:=hji24
          replace H:=bE.mp H
          obtain ⟨t390,A250,H⟩:=H
          replace H : (if t390 = true then (if x8_2.length < 17592186044416 then (impl_FacesOfEdge.l0 k2 a1 a2 (x8_2 ++ [x34_2]) l0_3 (l0_3.length : Int) (wrap64 (x34_2 + 1))) else (none)) else (impl_FacesOfEdge.l0 k2 a1 a2 x8_2 l0_3 (l0_3.length : Int) (wrap64 (x34_2 + 1)))) = some (r1,r2):=H
          have A25:=Aside0.mk A250
          clear A250
          by_cases c26 : t390 = true
          ·subst c26
           have H1 : (if x8_2.length < 17592186044416 then (impl_FacesOfEdge.l0 k2 a1 a2 (x8_2 ++ [x34_2]) l0_3 (l0_3.length : Int) (wrap64 (x34_2 + 1))) else (none)) = some (r1,r2):=by rw [if_pos rfl] at H;exact H
           clear H
           have H:=H1
           clear H1
           by_cases c27 : x8_2.length < 17592186044416
           ·rw [if_pos c27] at H
            have LMc27:=Aside0.mk c27
            clear c27
            obtain ⟨y391,hy391⟩ : ∃ y_ : List Int,y_ = (x8_2 ++ [x34_2]):=⟨_,rfl⟩
            replace H : (impl_FacesOfEdge.l0 k2 a1 a2 y391 l0_3 (l0_3.length : Int) (wrap64 (x34_2 + 1))) = some (r1,r2):=by first | (rw [hy391];with_reducible exact H) | (have H2_:=(Option.bind_some _ _).symm.trans H;rw [hy391];with_reducible exact H2_) | (have H2_:=(Option.bind_some _ _).symm.trans H;with_reducible exact H2_) | with_reducible exact H | (rw [hy391];exact H) | exact H
            have Ny391:=Aside0.mk hy391
            clear hy391
            have H':=Aside0.mk H
            clear H
            have p385 : 0 ≤ (x34_2 : Int):=da
            have q385 : x34_2 < (l0_3.length : Int):=da
            obtain ⟨ad385,A385_1,c385_1,e385,hx385_0,hx385_1,hl385_1,hi385_1⟩:=at_T103 HR0_3.out x34_2 p385 q385
            cases e385
            replace hx385_0:=cq HB.out hx385_0
            replace hx385_1:=cq HB.out hx385_1
            have HR385_1:=Aside0.mk hi385_1
            have HC385_1:=Aside0.mk hl385_1
            clear hi385_1 hl385_1
            replace p385:=eq_true p385
            replace q385:=eq_true q385
            go_wp2_with (first | ((with_reducible refine gate_dst (N:=10) rfl ?_);(try (refine gate_guard (by rfl) ?_;dsimp only));refine bx (cs:=#[.string (⟨#[]⟩ : ByteArray),.slice none 0 0]) (t:=103) ?_;intro gb386 hg w28 hbox hb;replace HO_8:=Aside0.mk (Kd.R_below (rO HO_8.out) hb);have BK386:=Aside0.mk (hbox);have GW386:=zb hg;have GE386:=zb hg;replace HB:=sb hb;have NB378_386:=nl BK378 hg;have NB386_378:=ng BK378 hg;replace BK378:=kb BK378 hb;clear hb hbox hg;have hnb29:=NB386_378.out;have hnc29:=NB378_386.out;have hcz30_0:=ck BK386 0;have hcz30_1:=ck BK386 1;have hfz30_0:=blk_frozen BK386.out 0;have hfz30_1:=blk_frozen BK386.out 1) | ((with_reducible refine gate_callee (f:=97) rfl ?_);refine goesL_ (some 41) rfl rfl Try.func97 (by kernel_rfl) rfl #[.slice A385_1 ((rd_T103 l0_3 x34_2).f1).length c385_1] rfl (by (try simp only [mT,mC,mN]);first | done | rfl | (simp only [lD,lT];rfl)) ?_;(with_reducible refine (impl_ringEdges.calls k2 _ _ ((rd_T103 l0_3 x34_2).f1) t387 _ ?side1 ?side2 A22.out).mono ?_);(case side1 => exact Kd.C_below HR385_1.out ib);(case side2 => exact HC385_1.out);rintro e w31 ⟨v388,rfl,ho0,hb⟩;refine ⟨_,rfl,?_⟩;replace HO_8:=Aside0.mk (Kd.R_below (rO ((Kd.R_mono (Kd.R_far (p:=⟨gb386,1,none⟩) (Kd.R_far (p:=⟨gb386,0,none⟩) (Kd.R_types HO_8.out BK386.out (by decide)) (fun _ hk => hk.2) (.string ((rd_T103 l0_3 x34_2).f0))) (fun _ hk => hk.2) (.slice A385_1 ((rd_T103 l0_3 x34_2).f1).length c385_1)) (fun _ h_ => h_.1)))) hb);have HO389:=Aside0.mk (Kd.R_lower ho0 (below_size ib));replace BK378:=Aside0.mk (blk_below (g:=gb378) (o:=.cells #[.int .i64 a0_0,.int .i64 a0_1,.slice A0_2 l0_2.length c0_2,.slice (some ad385) l0_3.length c0_3] 51 (0,0)) (by refine bF NB378_386.out ?_;refine bF NB378_386.out ?_;exact bk BK378) hb);replace BK386:=Aside0.mk (blk_below (g:=gb386) (o:=.cells #[.string ((rd_T103 l0_3 x34_2).f0),.slice A385_1 ((rd_T103 l0_3 x34_2).f1).length c385_1] 103 (0,0)) (by refine bP (cs:=#[.string ((rd_T103 l0_3 x34_2).f0),.slice none 0 0]) 1 ?_;refine bP (cs:=#[.string (⟨#[]⟩ : ByteArray),.slice none 0 0]) 0 ?_;exact bk BK386) hb);replace HB:=sb hb;(try clear hb);(try clear hb2);(try clear hk);(try clear hi);(try clear ho0);obtain ⟨Ao32,co32,eo32⟩:=Kd.R_slice HO389.out;subst eo32) | ((with_reducible refine gate_callee (f:=96) rfl ?_);refine goesL_ (some 49) rfl rfl Try.func96 (by kernel_rfl) rfl #[.slice Ao32 t387.length co32,.agg #[.int .i64 ji23,.int .i64 ji24]] rfl (by (try simp only [mT,mC,mN]);first | done | (simp only [hji23,hji24];rfl) | rfl | (simp only [lD,lT];rfl)) ?_;(with_reducible refine (slices_Contains_2_int64_2_int64.calls k2 _ _ t387 ji23 ji24 true _ ?side1 ?side2 A25.out).mono ?_);(case side1 => exact cO ((Kd.R_reads' HO389.out).2.2));(case side2 => exact (Kd.R_reads' HO389.out).2.1);rintro e w33 ⟨rfl,hb⟩;refine ⟨_,rfl,?_⟩;replace HO_8:=Aside0.mk (Kd.R_below (rO HO_8.out) hb);replace HO389:=Aside0.mk (Kd.R_below (rO HO389.out) hb);replace BK378:=kb BK378 hb;replace BK386:=kb BK386 hb;replace HB:=sb hb;(try clear hb);(try clear hb2);(try clear hk);(try clear hi)) | ((with_reducible refine gate_builtin (b:=.append) (xs:=#[.tmp 50,.tmp 52]) rfl ?_);(try (refine gate_guard (by rfl) ?_;dsimp only));at_builtin;refine Kd.R_append (Kd.int .i64) (w0:=w) w.heap.size rfl (.tmp 50) (.tmp 52) 57 2 (.int .i64 0) 8 rfl Try.underlying57 info2 rfl (by decide) (by omega) u8 x8_2 x34_2 [.int .i64 x34_2] (fun _ => True) (fun _ => False) rfl rfl ?aP (fun _ hk => hk.elim) ?aF ?aO ?aB ?aS ?aL ?_;(case aP => exact rfl);(case aB => exact ib);(case aF => exact (fun _ _ => trivial));(case aO => exact (rO HO_8.out));(case aS => exact (below_size ib));(case aL => have:=LMc27.out;omega);intro v392 w34 ho hb hg hat;rw [← Ny391.out] at ho;replace BK378:=Aside0.mk (blk_grown (g:=gb378) (o:=.cells #[.int .i64 a0_0,.int .i64 a0_1,.slice A0_2 l0_2.length c0_2,.slice (some ad385) l0_3.length c0_3] 51 (0,0)) (bk BK378) hg (Kd.R_ne HO_8.out BK378.out (by decide)));replace BK386:=Aside0.mk (blk_grown (g:=gb386) (o:=.cells #[.string ((rd_T103 l0_3 x34_2).f0),.slice A385_1 ((rd_T103 l0_3 x34_2).f1).length c385_1] 103 (0,0)) (bk BK386) hg (Kd.R_ne HO_8.out BK386.out (by decide)));replace HO389:=Aside0.mk (Kd.R_over' (rO HO389.out) (Kd.R_typed (rO HO_8.out)) (by decide) hg);replace HB:=Aside0.mk (hb);have HO393:=Aside0.mk (ho);clear HO_8;clear ho hb hg hat))
            go_roundg k2
            case measure => have:=HJ5.out;have:=HK2.out;omega
            case rel => exact ⟨(y391),(wrap64 (x34_2 + 1)),(by first | rfl | (simp;done) | (simp [*];done)),H',⟨by have:=HJ5.out;have:=HK2.out;omega⟩,⟨rO HO393.out⟩,⟨by exact bk BK378⟩,⟨ib⟩⟩
           ·rw [if_neg c27] at H
            exact absurd H (by simp)
          ·replace c26:=Bool.eq_false_iff.mpr c26
           subst c26
           have H1 : (impl_FacesOfEdge.l0 k2 a1 a2 x8_2 l0_3 (l0_3.length : Int) (wrap64 (x34_2 + 1))) = some (r1,r2):=by rw [if_neg (show ¬ (false = true) by decide)] at H;exact H
           clear H
           have H:=H1
           clear H1
           have H':=Aside0.mk H
           clear H
           have p385 : 0 ≤ (x34_2 : Int):=da
           have q385 : x34_2 < (l0_3.length : Int):=da
           obtain ⟨ad385,A385_1,c385_1,e385,hx385_0,hx385_1,hl385_1,hi385_1⟩:=at_T103 HR0_3.out x34_2 p385 q385
           cases e385
           replace hx385_0:=cq HB.out hx385_0
           replace hx385_1:=cq HB.out hx385_1
           have HR385_1:=Aside0.mk hi385_1
           have HC385_1:=Aside0.mk hl385_1
           clear hi385_1 hl385_1
           replace p385:=eq_true p385
           replace q385:=eq_true q385
           go_wp2_with (first | ((with_reducible refine gate_dst (N:=10) rfl ?_);(try (refine gate_guard (by rfl) ?_;dsimp only));refine bx (cs:=#[.string (⟨#[]⟩ : ByteArray),.slice none 0 0]) (t:=103) ?_;intro gb386 hg w35 hbox hb;replace HO_8:=Aside0.mk (Kd.R_below (rO HO_8.out) hb);have BK386:=Aside0.mk (hbox);have GW386:=zb hg;have GE386:=zb hg;replace HB:=sb hb;have NB378_386:=nl BK378 hg;have NB386_378:=ng BK378 hg;replace BK378:=kb BK378 hb;clear hb hbox hg;have hnb36:=NB386_378.out;have hnc36:=NB378_386.out;have hcz37_0:=ck BK386 0;have hcz37_1:=ck BK386 1;have hfz37_0:=blk_frozen BK386.out 0;have hfz37_1:=blk_frozen BK386.out 1) | ((with_reducible refine gate_callee (f:=97) rfl ?_);refine goesL_ (some 41) rfl rfl Try.func97 (by kernel_rfl) rfl #[.slice A385_1 ((rd_T103 l0_3 x34_2).f1).length c385_1] rfl (by (try simp only [mT,mC,mN]);first | done | rfl | (simp only [lD,lT];rfl)) ?_;(with_reducible refine (impl_ringEdges.calls k2 _ _ ((rd_T103 l0_3 x34_2).f1) t387 _ ?side1 ?side2 A22.out).mono ?_);(case side1 => exact Kd.C_below HR385_1.out ib);(case side2 => exact HC385_1.out);rintro e w38 ⟨v388,rfl,ho0,hb⟩;refine ⟨_,rfl,?_⟩;replace HO_8:=Aside0.mk (Kd.R_below (rO ((Kd.R_mono (Kd.R_far (p:=⟨gb386,1,none⟩) (Kd.R_far (p:=⟨gb386,0,none⟩) (Kd.R_types HO_8.out BK386.out (by decide)) (fun _ hk => hk.2) (.string ((rd_T103 l0_3 x34_2).f0))) (fun _ hk => hk.2) (.slice A385_1 ((rd_T103 l0_3 x34_2).f1).length c385_1)) (fun _ h_ => h_.1)))) hb);have HO389:=Aside0.mk (Kd.R_lower ho0 (below_size ib));replace BK378:=Aside0.mk (blk_below (g:=gb378) (o:=.cells #[.int .i64 a0_0,.int .i64 a0_1,.slice A0_2 l0_2.length c0_2,.slice (some ad385) l0_3.length c0_3] 51 (0,0)) (by refine bF NB378_386.out ?_;refine bF NB378_386.out ?_;exact bk BK378) hb);replace BK386:=Aside0.mk (blk_below (g:=gb386) (o:=.cells #[.string ((rd_T103 l0_3 x34_2).f0),.slice A385_1 ((rd_T103 l0_3 x34_2).f1).length c385_1] 103 (0,0)) (by refine bP (cs:=#[.string ((rd_T103 l0_3 x34_2).f0),.slice none 0 0]) 1 ?_;refine bP (cs:=#[.string (⟨#[]⟩ : ByteArray),.slice none 0 0]) 0 ?_;exact bk BK386) hb);replace HB:=sb hb;(try clear hb);(try clear hb2);(try clear hk);(try clear hi);(try clear ho0);obtain ⟨Ao39,co39,eo39⟩:=Kd.R_slice HO389.out;subst eo39) | ((with_reducible refine gate_callee (f:=96) rfl ?_);refine goesL_ (some 49) rfl rfl Try.func96 (by kernel_rfl) rfl #[.slice Ao39 t387.length co39,.agg #[.int .i64 ji23,.int .i64 ji24]] rfl (by (try simp only [mT,mC,mN]);first | done | (simp only [hji23,hji24];rfl) | rfl | (simp only [lD,lT];rfl)) ?_;(with_reducible refine (slices_Contains_2_int64_2_int64.calls k2 _ _ t387 ji23 ji24 false _ ?side1 ?side2 A25.out).mono ?_);(case side1 => exact cO ((Kd.R_reads' HO389.out).2.2));(case side2 => exact (Kd.R_reads' HO389.out).2.1);rintro e w40 ⟨rfl,hb⟩;refine ⟨_,rfl,?_⟩;replace HO_8:=Aside0.mk (Kd.R_below (rO HO_8.out) hb);replace HO389:=Aside0.mk (Kd.R_below (rO HO389.out) hb);replace BK378:=kb BK378 hb;replace BK386:=kb BK386 hb;replace HB:=sb hb;(try clear hb);(try clear hb2);(try clear hk);(try clear hi)))
           go_roundg k2
           case measure => have:=HJ5.out;have:=HK2.out;omega
           case rel => exact ⟨(x8_2),(wrap64 (x34_2 + 1)),(by first | rfl | (simp;done) | (simp [*];done)),H',⟨by have:=HJ5.out;have:=HK2.out;omega⟩,⟨rO HO_8.out⟩,⟨by exact bk BK378⟩,⟨ib⟩⟩
         ·first | (exfalso;have z_:=of_decide_eq_true c19b0;omega) | (rw [if_neg c21] at H;exact absurd H (by simp))
        ·rw [if_neg c20] at H
         exact absurd H (by simp)
       ·rw [if_neg c19] at H
        have c19b0 : decide (x34_2 < (l0_3.length : Int)) = false:=decide_eq_false c19
        clear c19
        simp only [Option.some.injEq,Prod.mk.injEq] at H
        obtain ⟨rfl,rfl⟩:=H
        go_wp2
        go_ret2
        exact ⟨_,by first | rfl | (simp [errW_none,errW_some] <;> rfl) | (simp [*,errW_none,errW_some] <;> rfl),rO HO_8.out,ib⟩
 ·replace c5:=Bool.eq_false_iff.mpr c5
  subst c5
  have H1 : (some (([] : List Int),1)) = some (r1,r2):=by rw [if_neg (show ¬ (false = true) by decide)] at H;exact H
  clear H
  have H:=H1
  clear H1
  simp only [Option.some.injEq,Prod.mk.injEq] at H
  obtain ⟨rfl,rfl⟩:=H
  go_enter Try.func56,Try.ntmps56
  go_wp2_with (first | ((with_reducible refine gate_dst (N:=3) rfl ?_);(try (refine gate_guard (by rfl) ?_;dsimp only));refine bx (cs:=#[.int .i64 a0_0,.int .i64 a0_1,.slice A0_2 l0_2.length c0_2,.slice A0_3 l0_3.length c0_3]) (t:=51) ?_;intro gb378 hg w41 hbox hb;have BK378:=Aside0.mk (hbox);have GW378:=zb hg;have GE378:=zb hg;replace HB:=sb hb;clear hb hbox hg;have hcz42_0:=ck BK378 0;have hcz42_1:=ck BK378 1;have hcz42_2:=ck BK378 2;have hcz42_3:=ck BK378 3;have hfz42_0:=blk_frozen BK378.out 0;have hfz42_1:=blk_frozen BK378.out 1;have hfz42_2:=blk_frozen BK378.out 2;have hfz42_3:=blk_frozen BK378.out 3) | ((with_reducible refine gate_callee (f:=77) rfl ?_);refine goesL_ (some 12) rfl rfl Try.func77 (by kernel_rfl) rfl #[.agg #[.int .i64 a0_0,.int .i64 a0_1,.slice A0_2 l0_2.length c0_2,.slice A0_3 l0_3.length c0_3]] rfl (by (try simp only [mT,mC,mN]);first | done | rfl | (simp only [lD,lT];rfl)) ?_;(with_reducible refine (impl_ValidDrawing.calls k a0_0 a0_1 _ _ l0_2 _ _ l0_3 false _ ?side1 ?side2 ?side3 ?side4 A4.out).mono ?_);(case side1 => repeat (first | exact (Kd.C_below HR0_2.out HB.out) | exact HR0_2.out | (with_reducible refine Kd.C_alloc ?_ _) | (with_reducible refine Kd.C_drewN ?_ _) | (with_reducible refine Kd.C_drew ?_)));(case side2 => exact HC0_2.out);(case side3 => repeat (first | exact (Kd.C_below HR0_3.out HB.out) | exact HR0_3.out | (with_reducible refine Kd.C_alloc ?_ _) | (with_reducible refine Kd.C_drewN ?_ _) | (with_reducible refine Kd.C_drew ?_)));(case side4 => exact HC0_3.out);rintro e w43 ⟨rfl,hb⟩;refine ⟨_,rfl,?_⟩;replace BK378:=kb BK378 hb;replace HB:=sb hb;(try clear hb);(try clear hb2);(try clear hk);(try clear hi)))
  go_ret2
  exact ⟨_,by first | rfl | (simp [errW_none,errW_some] <;> rfl) | (simp [*,errW_none,errW_some] <;> rfl),by first | exact Kd.R_nil _ _ _ _ _ | exact Kd.N_nil _ _ _ _ _ | exact Kd.V_nil _ _ _ _ _ | exact Kd.Q_nil _ _ _ _ _ | exact Kd.S_nil _ _ _ _ _,ib⟩
end Go.Proofs.Ytnnchaggdnlfmaa.PFnExactFacesOfEdge
