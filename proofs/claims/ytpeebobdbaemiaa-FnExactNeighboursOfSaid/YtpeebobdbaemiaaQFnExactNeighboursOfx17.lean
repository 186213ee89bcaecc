/- Contracts of functions that FnExactNeighboursOf reaches, out of the lines of the kit's print. -/
import Derived.Test.YtpeebobdbaemiaaQFnExactNeighboursOfx0
import Derived.Test.YtpeebobdbaemiaaQFnExactNeighboursOfx15
import Derived.Test.YtpeebobdbaemiaaQFnExactNeighboursOfx16
namespace Go.Proofs.Ytpeebobdbaemiaa.PFnExactNeighboursOf
set_option maxHeartbeats 8000000
set_option maxRecDepth 100000
open Go.RowKit Go.Proofs.YtpeebobdbaemiaaW.PrintWords Go.Proofs.YtpeebobdbaemiaaW.PrintLast Go.Proofs.YtpeebobdbaemiaaW.PrintMore
open Bool renaming true → tT, false → fF
open Go.World renaming block_lt_of_cell? → bL
open List renaming length_take → lT, length_drop → lD, map_toArray → mT, map_cons → mC, map_nil → mN
open Option renaming bind_eq_some_iff → bE
attribute [local go_sem] max2_int min2_int max_two min_two max_three min_three max_four min_four
set_option linter.unusedVariables false
set_option linter.unusedSimpArgs false
def impl_NeighboursOf.f (k : Nat) (a0_0 : Int) (a0_1 : Int) (l0_2 : List (S78)) (l0_3 : List (S64)) (a1 : Int) : Option (List Int × Int):=(impl_faceIndex.f k a0_0 a0_1 l0_2 l0_3 (([a1] : List Int))).bind fun t391 => (if t391 = 0 then ((impl_neighbours.f k a0_0 a0_1 l0_2 l0_3).bind fun t392 => (if 0 ≤ a1 then (if a1 < (t392.length : Int) then (some (rd_L3 t392 a1,0)) else (none)) else (none))) else (some (([] : List Int),t391)))
theorem impl_NeighboursOf.calls (k : Nat) (a0_0 : Int) (a0_1 : Int) (A0_2 : Option Addr) (c0_2 : Nat) (l0_2 : List (S78)) (A0_3 : Option Addr) (c0_3 : Nat) (l0_3 : List (S64)) (a1 : Int) (r1 : List Int) (r2 : Int) (w : World) (hr0_2 : Kd.C k78 w A0_2 l0_2.length l0_2) (hc0_2 : l0_2.length ≤ c0_2) (hr0_3 : Kd.C k64 w A0_3 l0_3.length l0_3) (hc0_3 : l0_3.length ≤ c0_3) (h : impl_NeighboursOf.f k a0_0 a0_1 l0_2 l0_3 a1 = some (r1,r2)) :
  Calls Try.prog 8 #[.agg #[.int .i64 a0_0,.int .i64 a0_1,.slice A0_2 l0_2.length c0_2,.slice A0_3 l0_3.length c0_3],.int .i64 a1] w fun e w' => ∃ v0_ : Value,e = .returned (.tuple #[v0_,.int .i64 r2]) ∧ Kd.R (Kd.int .i64) 2 w' w.heap.size (fun _ => True) v0_ r1 ∧ Below w.heap.size w w':=by
 have hu33:=Try.underlying33
 have HR0_2:=Aside0.mk hr0_2
 have HC0_2:=Aside0.mk hc0_2
 clear hr0_2 hc0_2
 have HR0_3:=Aside0.mk hr0_3
 have HC0_3:=Aside0.mk hc0_3
 clear hr0_3 hc0_3
 have HB:=Aside0.mk (Below.refl w.heap.size w)
 have H : ((impl_faceIndex.f k a0_0 a0_1 l0_2 l0_3 (([a1] : List Int))).bind fun t391 => (if t391 = 0 then ((impl_neighbours.f k a0_0 a0_1 l0_2 l0_3).bind fun t392 => (if 0 ≤ a1 then (if a1 < (t392.length : Int) then (some (rd_L3 t392 a1,0)) else (none)) else (none))) else (some (([] : List Int),t391)))) = some (r1,r2):=h
 clear h
 obtain ⟨y388,hy388⟩ : ∃ y_ : List Int,y_ = (([a1] : List Int)):=⟨_,rfl⟩
 replace H : ((impl_faceIndex.f k a0_0 a0_1 l0_2 l0_3 y388).bind fun t391 => (if t391 = 0 then ((impl_neighbours.f k a0_0 a0_1 l0_2 l0_3).bind fun t392 => (if 0 ≤ a1 then (if a1 < (t392.length : Int) then (some (rd_L3 t392 a1,0)) else (none)) else (none))) else (some (([] : List Int),t391)))) = some (r1,r2):=by first | (rw [hy388];with_reducible exact H) | (have H2_:=(Option.bind_some _ _).symm.trans H;rw [hy388];with_reducible exact H2_) | (have H2_:=(Option.bind_some _ _).symm.trans H;with_reducible exact H2_) | with_reducible exact H | (rw [hy388];exact H) | exact H
 have Ny388:=Aside0.mk hy388
 clear hy388
 replace H:=bE.mp H
 obtain ⟨t391,A30,H⟩:=H
 replace H : (if t391 = 0 then ((impl_neighbours.f k a0_0 a0_1 l0_2 l0_3).bind fun t392 => (if 0 ≤ a1 then (if a1 < (t392.length : Int) then (some (rd_L3 t392 a1,0)) else (none)) else (none))) else (some (([] : List Int),t391))) = some (r1,r2):=H
 have A3:=Aside0.mk A30
 clear A30
 by_cases c4 : t391 = 0
 ·rw [if_pos c4] at H
  have c4b0 : (t391 == 0) = true:=beq_iff_eq.mpr c4
  have c4b1 : (t391 != 0) = false:=bne_eq_false_iff_eq.mpr c4
  clear c4
  replace H:=bE.mp H
  obtain ⟨t392,A50,H⟩:=H
  replace H : (if 0 ≤ a1 then (if a1 < (t392.length : Int) then (some (rd_L3 t392 a1,0)) else (none)) else (none)) = some (r1,r2):=H
  have A5:=Aside0.mk A50
  clear A50
  by_cases c6 : 0 ≤ a1
  ·rw [if_pos c6] at H
   have c6b0 : decide (0 ≤ a1) = true:=decide_eq_true c6
   clear c6
   by_cases c7 : a1 < (t392.length : Int)
   ·rw [if_pos c7] at H
    have c7b0 : decide (a1 < (t392.length : Int)) = true:=decide_eq_true c7
    clear c7
    simp only [Option.some.injEq,Prod.mk.injEq] at H
    obtain ⟨rfl,rfl⟩:=H
    go_enter Try.func8,Try.ntmps8
    go_wp2_with (first | ((with_reducible refine gate_dst (N:=2) rfl ?_);refine bx (cs:=#[.int .i64 a0_0,.int .i64 a0_1,.slice A0_2 l0_2.length c0_2,.slice A0_3 l0_3.length c0_3]) (t:=33) ?_;intro gb387 hg w8 hbox hb;have BK387:=Aside0.mk (hbox);have GW387:=zb hg;have GE387:=zb hg;replace HB:=sb hb;clear hb hbox hg;have hcz9_0:=ck BK387 0;have hcz9_1:=ck BK387 1;have hcz9_2:=ck BK387 2;have hcz9_3:=ck BK387 3;have hfz9_0:=blk_frozen BK387.out 0;have hfz9_1:=blk_frozen BK387.out 1;have hfz9_2:=blk_frozen BK387.out 2;have hfz9_3:=blk_frozen BK387.out 3) | ((with_reducible refine gate_dst (N:=9) rfl ?_);refine Kd.R_lit (Kd.int .i64) _ 2 ?hg (N:=9) ?hd (xs:=([a1] : List Int)) (inner:=[.int .i64 a1]) (ok:=fun _ => True) (okp:=fun _ => True) ?hr ?hp (fun _ hk => hk) trivial (Below.refl _ _) (Nat.le_refl _) (by simp) ?_;(case hd => rfl);(case hg => rfl);(case hr => first | (go_simp;done) | (go_simp;rfl));(case hp => exact (Reps.one (show Kd.M (Kd.int .i64) _ _ _ a1 [.int .i64 a1] from rfl) (Reps.none _ _)));intro v389 w10 ho11 hb hg_ hnew_;clear hg_ hnew_;(first | rw [← Ny388.out] at ho11 | (simp only [Int.reduceToNat] at ho11;rw [← Ny388.out] at ho11));have HO390:=Aside0.mk (Kd.R_lower ho11 (below_size ib));replace BK387:=kb BK387 hb;replace HB:=sb hb;clear hb ho11;obtain ⟨Ao12,co12,eo12⟩:=Kd.R_slice HO390.out;subst eo12) | ((with_reducible refine gate_callee (f:=26) rfl ?_);refine goesL_ (some 10) rfl rfl Try.func26 (by kernel_rfl) rfl #[.agg #[.int .i64 a0_0,.int .i64 a0_1,.slice A0_2 l0_2.length c0_2,.slice A0_3 l0_3.length c0_3],.slice Ao12 y388.length co12] rfl (by (try simp only [mT,mC,mN]);first | done | rfl | (simp only [lD,lT];rfl)) ?_;(with_reducible refine (impl_faceIndex.calls k a0_0 a0_1 _ _ l0_2 _ _ l0_3 _ _ y388 t391 _ ?side1 ?side2 ?side3 ?side4 ?side5 ?side6 A3.out).mono ?_);(case side1 => repeat (first | exact (Kd.C_below HR0_2.out HB.out) | exact HR0_2.out | (with_reducible refine Kd.C_alloc ?_ _) | (with_reducible refine Kd.C_drewN ?_ _) | (with_reducible refine Kd.C_drew ?_)));(case side2 => exact HC0_2.out);(case side3 => repeat (first | exact (Kd.C_below HR0_3.out HB.out) | exact HR0_3.out | (with_reducible refine Kd.C_alloc ?_ _) | (with_reducible refine Kd.C_drewN ?_ _) | (with_reducible refine Kd.C_drew ?_)));(case side4 => exact HC0_3.out);(case side5 => exact cO ((Kd.R_reads' HO390.out).2.2));(case side6 => exact (Kd.R_reads' HO390.out).2.1);rintro e w13 ⟨rfl,hb⟩;refine ⟨_,rfl,?_⟩;replace HO390:=Aside0.mk (Kd.R_below (rO HO390.out) hb);replace BK387:=kb BK387 hb;replace HB:=sb hb;(try clear hb);(try clear hb2);(try clear hk);(try clear hi);have hcz14_0:=ck BK387 0;have hcz14_1:=ck BK387 1;have hcz14_2:=ck BK387 2;have hcz14_3:=ck BK387 3;have hfz14_0:=blk_frozen BK387.out 0;have hfz14_1:=blk_frozen BK387.out 1;have hfz14_2:=blk_frozen BK387.out 2;have hfz14_3:=blk_frozen BK387.out 3) | ((with_reducible refine gate_callee (f:=27) rfl ?_);refine goesL_ (some 15) rfl rfl Try.func27 (by kernel_rfl) rfl #[.agg #[.int .i64 a0_0,.int .i64 a0_1,.slice A0_2 l0_2.length c0_2,.slice A0_3 l0_3.length c0_3]] rfl (by (try simp only [mT,mC,mN]);first | done | rfl | (simp only [lD,lT];rfl)) ?_;(with_reducible refine (impl_neighbours.calls k a0_0 a0_1 _ _ l0_2 _ _ l0_3 t392 _ ?side1 ?side2 ?side3 ?side4 A5.out).mono ?_);(case side1 => repeat (first | exact (Kd.C_below HR0_2.out HB.out) | exact HR0_2.out | (with_reducible refine Kd.C_alloc ?_ _) | (with_reducible refine Kd.C_drewN ?_ _) | (with_reducible refine Kd.C_drew ?_)));(case side2 => exact HC0_2.out);(case side3 => repeat (first | exact (Kd.C_below HR0_3.out HB.out) | exact HR0_3.out | (with_reducible refine Kd.C_alloc ?_ _) | (with_reducible refine Kd.C_drewN ?_ _) | (with_reducible refine Kd.C_drew ?_)));(case side4 => exact HC0_3.out);rintro e w15 ⟨v393,rfl,ho0,hb⟩;refine ⟨_,rfl,?_⟩;have HO394:=Aside0.mk (Kd.S_lower (Kd.S_new' ho0 (Kd.R_lt (rO HO390.out))) (below_size ib));replace HO390:=Aside0.mk (Kd.R_below (rO HO390.out) hb);replace BK387:=kb BK387 hb;replace HB:=sb hb;(try clear hb);(try clear hb2);(try clear hk);(try clear hi);(try clear ho0);obtain ⟨Ao16,co16,eo16⟩:=Kd.S_slice HO394.out;subst eo16;have p395 : 0 ≤ (a1 : Int):=da;have q395 : a1 < (t392.length : Int):=da;obtain ⟨ad395,A395_0,c395_0,e395,hx395_0,hl395_0,hi395_0⟩:=at_L3 (Kd.S_reads' HO394.out).2.2 a1 p395 q395;cases e395;obtain ⟨ce395,hce395,hMe395,hcc395⟩:=Kd.S_get HO394.out [] a1 p395 (by first | exact q395 | exact da | (have e_:=(Kd.S_reads' HO394.out).1;omega));obtain ⟨ve395_0,rfl,ge395_0⟩:=hMe395;have hv395_0:=hcc395 0 _ rfl;rw [Nat.add_zero,show ((Kd.slice 2 (Kd.int .i64))).sz = 1 from rfl,Nat.mul_one] at hv395_0;replace hv395_0:=Option.some.inj (hv395_0.symm.trans hx395_0);rw [hv395_0] at ge395_0;have HL395_0:=Aside0.mk (show Kd.R (Kd.int .i64) 2 _ _ _ _ (rd_L3 t392 a1) from ge395_0);clear hv395_0 ge395_0;clear hcc395 hce395;have HR395_0:=Aside0.mk hi395_0;have HC395_0:=Aside0.mk hl395_0;clear hi395_0 hl395_0;replace p395:=eq_true p395;replace q395:=eq_true q395))
    go_ret2
    exact ⟨_,by first | rfl | (simp [errW_none,errW_some] <;> rfl) | (simp [*,errW_none,errW_some] <;> rfl),rO (Kd.R_mono HL395_0.out (fun _ hk => trivial)),ib⟩
   ·rw [if_neg c7] at H
    exact absurd H (by simp)
  ·rw [if_neg c6] at H
   exact absurd H (by simp)
 ·rw [if_neg c4] at H
  have c4b0 : (t391 == 0) = false:=beq_eq_false_iff_ne.mpr c4
  have c4b1 : (t391 != 0) = true:=bne_iff_ne.mpr c4
  simp only [Option.some.injEq,Prod.mk.injEq] at H
  obtain ⟨rfl,rfl⟩:=H
  go_enter Try.func8,Try.ntmps8
  go_wp2_with (first | ((with_reducible refine gate_dst (N:=2) rfl ?_);refine bx (cs:=#[.int .i64 a0_0,.int .i64 a0_1,.slice A0_2 l0_2.length c0_2,.slice A0_3 l0_3.length c0_3]) (t:=33) ?_;intro gb387 hg w17 hbox hb;have BK387:=Aside0.mk (hbox);have GW387:=zb hg;have GE387:=zb hg;replace HB:=sb hb;clear hb hbox hg;have hcz18_0:=ck BK387 0;have hcz18_1:=ck BK387 1;have hcz18_2:=ck BK387 2;have hcz18_3:=ck BK387 3;have hfz18_0:=blk_frozen BK387.out 0;have hfz18_1:=blk_frozen BK387.out 1;have hfz18_2:=blk_frozen BK387.out 2;have hfz18_3:=blk_frozen BK387.out 3) | ((with_reducible refine gate_dst (N:=9) rfl ?_);refine Kd.R_lit (Kd.int .i64) _ 2 ?hg (N:=9) ?hd (xs:=([a1] : List Int)) (inner:=[.int .i64 a1]) (ok:=fun _ => True) (okp:=fun _ => True) ?hr ?hp (fun _ hk => hk) trivial (Below.refl _ _) (Nat.le_refl _) (by simp) ?_;(case hd => rfl);(case hg => rfl);(case hr => first | (go_simp;done) | (go_simp;rfl));(case hp => exact (Reps.one (show Kd.M (Kd.int .i64) _ _ _ a1 [.int .i64 a1] from rfl) (Reps.none _ _)));intro v389 w19 ho20 hb hg_ hnew_;clear hg_ hnew_;(first | rw [← Ny388.out] at ho20 | (simp only [Int.reduceToNat] at ho20;rw [← Ny388.out] at ho20));have HO390:=Aside0.mk (Kd.R_lower ho20 (below_size ib));replace BK387:=kb BK387 hb;replace HB:=sb hb;clear hb ho20;obtain ⟨Ao21,co21,eo21⟩:=Kd.R_slice HO390.out;subst eo21) | ((with_reducible refine gate_callee (f:=26) rfl ?_);refine goesL_ (some 10) rfl rfl Try.func26 (by kernel_rfl) rfl #[.agg #[.int .i64 a0_0,.int .i64 a0_1,.slice A0_2 l0_2.length c0_2,.slice A0_3 l0_3.length c0_3],.slice Ao21 y388.length co21] rfl (by (try simp only [mT,mC,mN]);first | done | rfl | (simp only [lD,lT];rfl)) ?_;(with_reducible refine (impl_faceIndex.calls k a0_0 a0_1 _ _ l0_2 _ _ l0_3 _ _ y388 t391 _ ?side1 ?side2 ?side3 ?side4 ?side5 ?side6 A3.out).mono ?_);(case side1 => repeat (first | exact (Kd.C_below HR0_2.out HB.out) | exact HR0_2.out | (with_reducible refine Kd.C_alloc ?_ _) | (with_reducible refine Kd.C_drewN ?_ _) | (with_reducible refine Kd.C_drew ?_)));(case side2 => exact HC0_2.out);(case side3 => repeat (first | exact (Kd.C_below HR0_3.out HB.out) | exact HR0_3.out | (with_reducible refine Kd.C_alloc ?_ _) | (with_reducible refine Kd.C_drewN ?_ _) | (with_reducible refine Kd.C_drew ?_)));(case side4 => exact HC0_3.out);(case side5 => exact cO ((Kd.R_reads' HO390.out).2.2));(case side6 => exact (Kd.R_reads' HO390.out).2.1);rintro e w22 ⟨rfl,hb⟩;refine ⟨_,rfl,?_⟩;replace HO390:=Aside0.mk (Kd.R_below (rO HO390.out) hb);replace BK387:=kb BK387 hb;replace HB:=sb hb;(try clear hb);(try clear hb2);(try clear hk);(try clear hi)))
  go_ret2
  exact ⟨_,by first | rfl | (simp [errW_none,errW_some] <;> rfl) | (simp [*,errW_none,errW_some] <;> rfl),by first | exact Kd.R_nil _ _ _ _ _ | exact Kd.N_nil _ _ _ _ _ | exact Kd.V_nil _ _ _ _ _ | exact Kd.Q_nil _ _ _ _ _ | exact Kd.S_nil _ _ _ _ _,ib⟩
def laws_eqInt64S.l0 : Nat → List Int → List Int → Int → Option (Bool)
 | 0,_,_,_ => none
 | k + 1,x0,x1,x5 => if x5 < (x0.length : Int) then (if 0 ≤ x5 then (if x5 < (x1.length : Int) then (if (rd x0 x5) = (rd x1 x5) then (laws_eqInt64S.l0 k x0 x1 (wrap64 (x5 + 1))) else (some false)) else (none)) else (none)) else (some true)
def laws_eqInt64S.f (k : Nat) (l0 : List Int) (l1 : List Int) : Option (Bool):=if (l0.length : Int) = (l1.length : Int) then (laws_eqInt64S.l0 k l0 l1 0) else (some false)
theorem laws_eqInt64S.calls (k : Nat) (A0 : Option Addr) (c0 : Nat) (l0 : List Int) (A1 : Option Addr) (c1 : Nat) (l1 : List Int) (r : Bool) (w : World) (hr0 : Kd.C (Kd.int .i64) w A0 l0.length l0) (hc0 : l0.length ≤ c0) (hr1 : Kd.C (Kd.int .i64) w A1 l1.length l1) (hc1 : l1.length ≤ c1) (h : laws_eqInt64S.f k l0 l1 = some r) :
  Calls Try.prog 9 #[.slice A0 l0.length c0,.slice A1 l1.length c1] w fun e w' => e = .returned (.bool r) ∧ Drawn0 w w':=by
 have HR0:=Aside0.mk hr0
 have HC0:=Aside0.mk hc0
 clear hr0 hc0
 have HR1:=Aside0.mk hr1
 have HC1:=Aside0.mk hc1
 clear hr1 hc1
 have H : (if (l0.length : Int) = (l1.length : Int) then (laws_eqInt64S.l0 k l0 l1 0) else (some false)) = some r:=h
 clear h
 by_cases c3 : (l0.length : Int) = (l1.length : Int)
 ·rw [if_pos c3] at H
  have c3b0 : ((l0.length : Int) == (l1.length : Int)) = true:=beq_iff_eq.mpr c3
  have c3b1 : ((l0.length : Int) != (l1.length : Int)) = false:=bne_eq_false_iff_eq.mpr c3
  have c3b2 : (l0.length == l1.length) = true:=by first | simpa using c3 | (simp at c3 ⊢;omega)
  clear c3
  have H':=Aside0.mk H
  clear H
  go_enter Try.func9,Try.ntmps9
  go_wp2
  repeat (go_quiet (fail);try go_wp2)
  go_loopg [5] k (fun kq v5 w' => ∃ (x5_1 : Int),v5 = .int .i64 x5_1 ∧ Aside0 (laws_eqInt64S.l0 kq l0 l1 x5_1 = some r) ∧ Aside0 (kq ≤ k) ∧ Drawn0 w w')
  case atStart => exact ⟨(0),(by first | rfl | (simp;done) | (simp [*];done)),H',⟨Nat.le_refl _⟩,by repeat (first | exact Drawn0.refl _ | apply Drawn0.step)⟩
  case round =>
   clear H'
   try clear c1
   try clear p2
   try clear c3
   try clear c3b0
   try clear c3b1
   try clear c3b2
   obtain ⟨x5_1,rfl,HA,HK1,⟨m1,rfl⟩⟩:=hrel
   cases gk with
   | zero => exact absurd HA.out (by simp [laws_eqInt64S.l0])
   | succ k1 =>
    have H:=HA.out
    clear HA
    simp only [laws_eqInt64S.l0] at H
    by_cases c4 : x5_1 < (l0.length : Int)
    ·rw [if_pos c4] at H
     have c4b0 : decide (x5_1 < (l0.length : Int)) = true:=decide_eq_true c4
     clear c4
     by_cases c5 : 0 ≤ x5_1
     ·rw [if_pos c5] at H
      have c5b0 : decide (0 ≤ x5_1) = true:=decide_eq_true c5
      clear c5
      by_cases c6 : x5_1 < (l1.length : Int)
      ·rw [if_pos c6] at H
       have c6b0 : decide (x5_1 < (l1.length : Int)) = true:=decide_eq_true c6
       clear c6
       by_cases c7 : (rd l0 x5_1) = (rd l1 x5_1)
       ·rw [if_pos c7] at H
        have c7b0 : ((rd l0 x5_1) == (rd l1 x5_1)) = true:=beq_iff_eq.mpr c7
        have c7b1 : ((rd l0 x5_1) != (rd l1 x5_1)) = false:=bne_eq_false_iff_eq.mpr c7
        clear c7
        have H':=Aside0.mk H
        clear H
        have p396 : 0 ≤ (x5_1 : Int):=da
        have q396 : x5_1 < (l0.length : Int):=da
        obtain ⟨ad396,e396,hx396_0⟩:=Kd.at_int HR0.out x5_1 p396 q396
        cases e396
        replace p396:=eq_true p396
        replace q396:=eq_true q396
        have p397 : 0 ≤ (x5_1 : Int):=da
        have q397 : x5_1 < (l1.length : Int):=da
        obtain ⟨ad397,e397,hx397_0⟩:=Kd.at_int HR1.out x5_1 p397 q397
        cases e397
        replace p397:=eq_true p397
        replace q397:=eq_true q397
        go_wp2
        repeat (go_quiet (fail);try go_wp2)
        go_roundg k1
        case measure => have:=HK1.out;omega
        case rel => exact ⟨(wrap64 (x5_1 + 1)),(by first | rfl | (simp;done) | (simp [*];done)),H',⟨by have:=HK1.out;omega⟩,by repeat (first | exact Drawn0.refl _ | apply Drawn0.step)⟩
       ·rw [if_neg c7] at H
        have c7b0 : ((rd l0 x5_1) == (rd l1 x5_1)) = false:=beq_eq_false_iff_ne.mpr c7
        have c7b1 : ((rd l0 x5_1) != (rd l1 x5_1)) = true:=bne_iff_ne.mpr c7
        obtain rfl:=Option.some.inj H
        have p396 : 0 ≤ (x5_1 : Int):=da
        have q396 : x5_1 < (l0.length : Int):=da
        obtain ⟨ad396,e396,hx396_0⟩:=Kd.at_int HR0.out x5_1 p396 q396
        cases e396
        replace p396:=eq_true p396
        replace q396:=eq_true q396
        have p397 : 0 ≤ (x5_1 : Int):=da
        have q397 : x5_1 < (l1.length : Int):=da
        obtain ⟨ad397,e397,hx397_0⟩:=Kd.at_int HR1.out x5_1 p397 q397
        cases e397
        replace p397:=eq_true p397
        replace q397:=eq_true q397
        go_wp2
        repeat (go_quiet (fail);try go_wp2)
        go_ret
        exact ⟨by first | rfl | (simp;done) | (simp [*];done),by repeat (first | exact Drawn0.refl _ | apply Drawn0.step)⟩
      ·rw [if_neg c6] at H
       exact absurd H (by simp)
     ·rw [if_neg c5] at H
      exact absurd H (by simp)
    ·rw [if_neg c4] at H
     have c4b0 : decide (x5_1 < (l0.length : Int)) = false:=decide_eq_false c4
     clear c4
     obtain rfl:=Option.some.inj H
     go_wp2
     repeat (go_quiet (fail);try go_wp2)
     go_ret
     exact ⟨by first | rfl | (simp;done) | (simp [*];done),by repeat (first | exact Drawn0.refl _ | apply Drawn0.step)⟩
 ·rw [if_neg c3] at H
  have c3b0 : ((l0.length : Int) == (l1.length : Int)) = false:=beq_eq_false_iff_ne.mpr c3
  have c3b1 : ((l0.length : Int) != (l1.length : Int)) = true:=bne_iff_ne.mpr c3
  have c3b2 : (l0.length == l1.length) = false:=by first | simpa using c3 | (simp at c3 ⊢;omega)
  obtain rfl:=Option.some.inj H
  go_enter Try.func9,Try.ntmps9
  go_wp2
  repeat (go_quiet (fail);try go_wp2)
  go_ret
  exact ⟨by first | rfl | (simp;done) | (simp [*];done),by repeat (first | exact Drawn0.refl _ | apply Drawn0.step)⟩
def laws_eqPoint.f (a0_0 : Int) (a0_1 : Int) (a1_0 : Int) (a1_1 : Int) : Option (Bool):=if a0_0 = a1_0 then (if a0_1 = a1_1 then (some true) else (some false)) else (some false)
theorem laws_eqPoint.calls (a0_0 : Int) (a0_1 : Int) (a1_0 : Int) (a1_1 : Int) (r : Bool) (w : World) (h : laws_eqPoint.f a0_0 a0_1 a1_0 a1_1 = some r) :
  Calls Try.prog 50 #[.agg #[.int .i64 a0_0,.int .i64 a0_1],.agg #[.int .i64 a1_0,.int .i64 a1_1]] w fun e w' => e = .returned (.bool r) ∧ Below w.heap.size w w':=by
 have hu78:=Try.underlying78
 have HB:=Aside0.mk (Below.refl w.heap.size w)
 have H : (if a0_0 = a1_0 then (if a0_1 = a1_1 then (some true) else (some false)) else (some false)) = some r:=h
 clear h
 by_cases c3 : a0_0 = a1_0
 ·rw [if_pos c3] at H
  have c3b0 : (a0_0 == a1_0) = true:=beq_iff_eq.mpr c3
  have c3b1 : (a0_0 != a1_0) = false:=bne_eq_false_iff_eq.mpr c3
  clear c3
  by_cases c4 : a0_1 = a1_1
  ·rw [if_pos c4] at H
   have c4b0 : (a0_1 == a1_1) = true:=beq_iff_eq.mpr c4
   have c4b1 : (a0_1 != a1_1) = false:=bne_eq_false_iff_eq.mpr c4
   clear c4
   obtain rfl:=Option.some.inj H
   go_enter Try.func50,Try.ntmps50
   go_wp2_with (first | ((with_reducible refine gate_dst (N:=2) rfl ?_);refine bx (cs:=#[.int .i64 a0_0,.int .i64 a0_1]) (t:=78) ?_;intro gb398 hg w5 hbox hb;have BK398:=Aside0.mk (hbox);have GW398:=zb hg;have GE398:=zb hg;replace HB:=sb hb;clear hb hbox hg) | ((with_reducible refine gate_dst (N:=3) rfl ?_);refine bx (cs:=#[.int .i64 a1_0,.int .i64 a1_1]) (t:=78) ?_;intro gb399 hg w6 hbox hb;have BK399:=Aside0.mk (hbox);have GW399:=zb hg;have GE399:=zb hg;replace HB:=sb hb;have NB398_399:=nl BK398 hg;have NB399_398:=ng BK398 hg;replace BK398:=kb BK398 hb;clear hb hbox hg;have hnb7:=NB398_399.out;have hnc7:=NB399_398.out;have hcz8_0:=ck BK398 0;have hcz8_1:=ck BK398 1;have hfz8_0:=blk_frozen BK398.out 0;have hfz8_1:=blk_frozen BK398.out 1;have hcz9_0:=ck BK399 0;have hcz9_1:=ck BK399 1;have hfz9_0:=blk_frozen BK399.out 0;have hfz9_1:=blk_frozen BK399.out 1))
   go_ret
   exact ⟨by first | rfl | (simp [errW_none,errW_some] <;> rfl) | (simp [*,errW_none,errW_some] <;> rfl),ib⟩
  ·rw [if_neg c4] at H
   have c4b0 : (a0_1 == a1_1) = false:=beq_eq_false_iff_ne.mpr c4
   have c4b1 : (a0_1 != a1_1) = true:=bne_iff_ne.mpr c4
   obtain rfl:=Option.some.inj H
   go_enter Try.func50,Try.ntmps50
   go_wp2_with (first | ((with_reducible refine gate_dst (N:=2) rfl ?_);refine bx (cs:=#[.int .i64 a0_0,.int .i64 a0_1]) (t:=78) ?_;intro gb398 hg w10 hbox hb;have BK398:=Aside0.mk (hbox);have GW398:=zb hg;have GE398:=zb hg;replace HB:=sb hb;clear hb hbox hg) | ((with_reducible refine gate_dst (N:=3) rfl ?_);refine bx (cs:=#[.int .i64 a1_0,.int .i64 a1_1]) (t:=78) ?_;intro gb399 hg w11 hbox hb;have BK399:=Aside0.mk (hbox);have GW399:=zb hg;have GE399:=zb hg;replace HB:=sb hb;have NB398_399:=nl BK398 hg;have NB399_398:=ng BK398 hg;replace BK398:=kb BK398 hb;clear hb hbox hg;have hnb12:=NB398_399.out;have hnc12:=NB399_398.out;have hcz13_0:=ck BK398 0;have hcz13_1:=ck BK398 1;have hfz13_0:=blk_frozen BK398.out 0;have hfz13_1:=blk_frozen BK398.out 1;have hcz14_0:=ck BK399 0;have hcz14_1:=ck BK399 1;have hfz14_0:=blk_frozen BK399.out 0;have hfz14_1:=blk_frozen BK399.out 1))
   go_ret
   exact ⟨by first | rfl | (simp [errW_none,errW_some] <;> rfl) | (simp [*,errW_none,errW_some] <;> rfl),ib⟩
 ·rw [if_neg c3] at H
  have c3b0 : (a0_0 == a1_0) = false:=beq_eq_false_iff_ne.mpr c3
  have c3b1 : (a0_0 != a1_0) = true:=bne_iff_ne.mpr c3
  obtain rfl:=Option.some.inj H
  go_enter Try.func50,Try.ntmps50
  go_wp2_with (first | ((with_reducible refine gate_dst (N:=2) rfl ?_);refine bx (cs:=#[.int .i64 a0_0,.int .i64 a0_1]) (t:=78) ?_;intro gb398 hg w15 hbox hb;have BK398:=Aside0.mk (hbox);have GW398:=zb hg;have GE398:=zb hg;replace HB:=sb hb;clear hb hbox hg) | ((with_reducible refine gate_dst (N:=3) rfl ?_);refine bx (cs:=#[.int .i64 a1_0,.int .i64 a1_1]) (t:=78) ?_;intro gb399 hg w16 hbox hb;have BK399:=Aside0.mk (hbox);have GW399:=zb hg;have GE399:=zb hg;replace HB:=sb hb;have NB398_399:=nl BK398 hg;have NB399_398:=ng BK398 hg;replace BK398:=kb BK398 hb;clear hb hbox hg;have hnb17:=NB398_399.out;have hnc17:=NB399_398.out;have hcz18_0:=ck BK398 0;have hcz18_1:=ck BK398 1;have hfz18_0:=blk_frozen BK398.out 0;have hfz18_1:=blk_frozen BK398.out 1;have hcz19_0:=ck BK399 0;have hcz19_1:=ck BK399 1;have hfz19_0:=blk_frozen BK399.out 0;have hfz19_1:=blk_frozen BK399.out 1))
  go_ret
  exact ⟨by first | rfl | (simp [errW_none,errW_some] <;> rfl) | (simp [*,errW_none,errW_some] <;> rfl),ib⟩
def laws_eqPointS.l0 : Nat → List (S78) → List (S78) → Int → Option (Bool)
 | 0,_,_,_ => none
 | k + 1,x0,x1,x5 => if x5 < (x0.length : Int) then (if 0 ≤ x5 then (if x5 < (x1.length : Int) then ((laws_eqPoint.f ((rd_T78 x0 x5).f0) ((rd_T78 x0 x5).f1) ((rd_T78 x1 x5).f0) ((rd_T78 x1 x5).f1)).bind fun t402 => (if t402 = true then (laws_eqPointS.l0 k x0 x1 (wrap64 (x5 + 1))) else (some false))) else (none)) else (none)) else (some true)
def laws_eqPointS.f (k : Nat) (l0 : List (S78)) (l1 : List (S78)) : Option (Bool):=if (l0.length : Int) = (l1.length : Int) then (laws_eqPointS.l0 k l0 l1 0) else (some false)
def laws_eqPointS.T6 : Bool × List (List Nat × List Nat):=(true,[([],[]),([],[]),([0,1],[0,1]),([2],[2]),([],[]),([],[]),([4,5],[4,5]),([6],[6]),([3,7],[3,7]),([8],[8])])
def laws_eqPointS.B6 : List Nat:=[0,0,3,7,0,0,48,112,255,511]
theorem laws_eqPointS.tab6 : rtab .any (opsOf Try.f28 6) = laws_eqPointS.T6:=by kernel_rfl
theorem laws_eqPointS.bits6 : waitsOk laws_eqPointS.T6.2 laws_eqPointS.B6 = true:=by kernel_rfl
theorem laws_eqPointS.calls (k : Nat) (A0 : Option Addr) (c0 : Nat) (l0 : List (S78)) (A1 : Option Addr) (c1 : Nat) (l1 : List (S78)) (r : Bool) (w : World) (hr0 : Kd.C k78 w A0 l0.length l0) (hc0 : l0.length ≤ c0) (hr1 : Kd.C k78 w A1 l1.length l1) (hc1 : l1.length ≤ c1) (h : laws_eqPointS.f k l0 l1 = some r) :
  Calls Try.prog 28 #[.slice A0 l0.length c0,.slice A1 l1.length c1] w fun e w' => e = .returned (.bool r) ∧ Below w.heap.size w w':=by
 have hu78:=Try.underlying78
 have HR0:=Aside0.mk hr0
 have HC0:=Aside0.mk hc0
 clear hr0 hc0
 have HR1:=Aside0.mk hr1
 have HC1:=Aside0.mk hc1
 clear hr1 hc1
 have HB:=Aside0.mk (Below.refl w.heap.size w)
 have H : (if (l0.length : Int) = (l1.length : Int) then (laws_eqPointS.l0 k l0 l1 0) else (some false)) = some r:=h
 clear h
 by_cases c3 : (l0.length : Int) = (l1.length : Int)
 ·rw [if_pos c3] at H
  have c3b0 : ((l0.length : Int) == (l1.length : Int)) = true:=beq_iff_eq.mpr c3
  have c3b1 : ((l0.length : Int) != (l1.length : Int)) = false:=bne_eq_false_iff_eq.mpr c3
  have c3b2 : (l0.length == l1.length) = true:=by first | simpa using c3 | (simp at c3 ⊢;omega)
  clear c3
  have H':=Aside0.mk H
  clear H
  go_enter Try.func28,Try.ntmps28
  go_wp2
  go_loopg [5] k (fun kq v5 w' => ∃ (x5_1 : Int),v5 = .int .i64 x5_1 ∧ Aside0 (laws_eqPointS.l0 kq l0 l1 x5_1 = some r) ∧ Aside0 (kq ≤ k) ∧ Aside0 (Below w.heap.size w w'))
  case atStart => exact ⟨(0),(by first | rfl | (simp;done) | (simp [*];done)),H',⟨Nat.le_refl _⟩,⟨ib⟩⟩
  case round =>
   clear H'
   try clear c1
   try clear c2
   try clear p2
   try clear c3
   try clear c3b0
   try clear c3b1
   try clear c3b2
   obtain ⟨x5_1,rfl,HA,HK1,HB⟩:=hrel
   cases gk with
   | zero => exact absurd HA.out (by simp [laws_eqPointS.l0])
   | succ k1 =>
    have H:=HA.out
    clear HA
    simp only [laws_eqPointS.l0] at H
    by_cases c4 : x5_1 < (l0.length : Int)
    ·rw [if_pos c4] at H
     have c4b0 : decide (x5_1 < (l0.length : Int)) = true:=decide_eq_true c4
     clear c4
     by_cases c5 : 0 ≤ x5_1
     ·rw [if_pos c5] at H
      have c5b0 : decide (0 ≤ x5_1) = true:=decide_eq_true c5
      clear c5
      by_cases c6 : x5_1 < (l1.length : Int)
      ·rw [if_pos c6] at H
       have c6b0 : decide (x5_1 < (l1.length : Int)) = true:=decide_eq_true c6
       clear c6
       replace H:=bE.mp H
       obtain ⟨t402,A70,H⟩:=H
       replace H : (if t402 = true then (laws_eqPointS.l0 k1 l0 l1 (wrap64 (x5_1 + 1))) else (some false)) = some r:=H
       have A7:=Aside0.mk A70
       clear A70
       by_cases c8 : t402 = true
       ·subst c8
        have H1 : (laws_eqPointS.l0 k1 l0 l1 (wrap64 (x5_1 + 1))) = some r:=by rw [if_pos rfl] at H;exact H
        clear H
        have H:=H1
        clear H1
        have H':=Aside0.mk H
        clear H
        try go_wp2
        replace HB:=Aside0.mk (below_drew1 HB.out)
        have p400 : 0 ≤ (x5_1 : Int):=da
        have q400 : x5_1 < (l0.length : Int):=da
        obtain ⟨ad400,e400,hx400_0,hx400_1⟩:=at_T78 HR0.out x5_1 p400 q400
        have hw400_1:=hx400_1
        have hw400_0:=hx400_0
        cases e400
        replace hx400_0:=cq HB.out hx400_0
        replace hx400_1:=cq HB.out hx400_1
        replace p400:=eq_true p400
        replace q400:=eq_true q400
        have p401 : 0 ≤ (x5_1 : Int):=da
        have q401 : x5_1 < (l1.length : Int):=da
        obtain ⟨ad401,e401,hx401_0,hx401_1⟩:=at_T78 HR1.out x5_1 p401 q401
        have hw401_1:=hx401_1
        have hw401_0:=hx401_0
        cases e401
        replace hx401_0:=cq HB.out hx401_0
        replace hx401_1:=cq HB.out hx401_1
        replace p401:=eq_true p401
        replace q401:=eq_true q401
        refine start_ (n:=10) (S:=fun w' => w'.cell? (ad400.add ((x5_1).toNat * 2)) = some (.int .i64 ((rd_T78 l0 x5_1).f0)) ∧ w'.cell? ⟨(ad400.add ((x5_1).toNat * 2)).block,(ad400.add ((x5_1).toNat * 2)).off + 1,none⟩ = some (.int .i64 ((rd_T78 l0 x5_1).f1)) ∧ w'.cell? (ad401.add ((x5_1).toNat * 2)) = some (.int .i64 ((rd_T78 l1 x5_1).f0)) ∧ w'.cell? ⟨(ad401.add ((x5_1).toNat * 2)).block,(ad401.add ((x5_1).toNat * 2)).off + 1,none⟩ = some (.int .i64 ((rd_T78 l1 x5_1).f1))) (ds:=[]) #[fF,fF,fF,fF,fF,fF,fF,fF,fF,fF] (by kernel_rfl) rfl rfl ⟨cq HB.out hw400_0,cq HB.out hw400_1,cq HB.out hw401_0,cq HB.out hw401_1⟩ (fun hHeld => ?_);refine with_tabW laws_eqPointS.tab6 laws_eqPointS.bits6 (fun HT_ HW_ => ?_)
        generalize wr.drew = w9 at HB hx400_0 hx400_1 hx401_0 hx401_1 hHeld ⊢
        refine pu 0 17 HT_ ?_
        refine pu 1 18 HT_ ?_
        refine pu 2 19 HT_ ?_
        refine pu 4 21 HT_ ?_
        refine pu 5 22 HT_ ?_
        refine pu 6 23 HT_ ?_
        refine tk 3 20 HT_ HW_ hHeld ?_
        refine tk 7 24 HT_ HW_ hHeld ?_
        refine on 8 25 HT_ (fun K hK => ?_)
        refine goes_ Try.func50 (by kernel_rfl) rfl #[.agg #[.int .i64 ((rd_T78 l0 x5_1).f0),.int .i64 ((rd_T78 l0 x5_1).f1)],.agg #[.int .i64 ((rd_T78 l1 x5_1).f0),.int .i64 ((rd_T78 l1 x5_1).f1)]] (by rfl) rfl rfl (by (try simp only [mT,mC,mN]);first | done | rfl | (simp only [lD,lT];rfl)) ?_
        with_reducible refine (laws_eqPoint.calls ((rd_T78 l0 x5_1).f0) ((rd_T78 l0 x5_1).f1) ((rd_T78 l1 x5_1).f0) ((rd_T78 l1 x5_1).f1) true _ A7.out).mono ?_
        rintro e w10 ⟨rfl,hb⟩
        refine ⟨_,rfl,?_⟩
        replace HB:=sb hb
        (try clear hb)
        (try clear hb2)
        (try clear hk)
        (try clear hi)
        refine hK.out _ _ ⟨cq HB.out hw400_0,cq HB.out hw400_1,cq HB.out hw401_0,cq HB.out hw401_1⟩ (fun hHeld => ?_)
        clear hK K
        refine norm_ (a':=?_) ?_ ?_
        rotate_left
        ·show Act.put _ (some 25) _ = _
         simp only [Act.put,List.setIfInBounds_toArray,List.set_cons_zero,List.set_cons_succ,i64_w,i32_w]
         rfl
        refine pu 9 26 HT_ ?_
        refine done_ (done_of HT_.out (by kernel_rfl)) ?_
        try go_wp2
        go_roundg k1
        case measure => have:=HK1.out;omega
        case rel => exact ⟨(wrap64 (x5_1 + 1)),(by first | rfl | (simp;done) | (simp [*];done)),H',⟨by have:=HK1.out;omega⟩,⟨ib⟩⟩
       ·replace c8:=Bool.eq_false_iff.mpr c8
        subst c8
        have H1 : (some false) = some r:=by rw [if_neg (show ¬ (false = true) by decide)] at H;exact H
        clear H
        have H:=H1
        clear H1
        obtain rfl:=Option.some.inj H
        try go_wp2
        replace HB:=Aside0.mk (below_drew1 HB.out)
        have p400 : 0 ≤ (x5_1 : Int):=da
        have q400 : x5_1 < (l0.length : Int):=da
        obtain ⟨ad400,e400,hx400_0,hx400_1⟩:=at_T78 HR0.out x5_1 p400 q400
        have hw400_1:=hx400_1
        have hw400_0:=hx400_0
        cases e400
        replace hx400_0:=cq HB.out hx400_0
        replace hx400_1:=cq HB.out hx400_1
        replace p400:=eq_true p400
        replace q400:=eq_true q400
        have p401 : 0 ≤ (x5_1 : Int):=da
        have q401 : x5_1 < (l1.length : Int):=da
        obtain ⟨ad401,e401,hx401_0,hx401_1⟩:=at_T78 HR1.out x5_1 p401 q401
        have hw401_1:=hx401_1
        have hw401_0:=hx401_0
        cases e401
        replace hx401_0:=cq HB.out hx401_0
        replace hx401_1:=cq HB.out hx401_1
        replace p401:=eq_true p401
        replace q401:=eq_true q401
        refine start_ (n:=10) (S:=fun w' => w'.cell? (ad400.add ((x5_1).toNat * 2)) = some (.int .i64 ((rd_T78 l0 x5_1).f0)) ∧ w'.cell? ⟨(ad400.add ((x5_1).toNat * 2)).block,(ad400.add ((x5_1).toNat * 2)).off + 1,none⟩ = some (.int .i64 ((rd_T78 l0 x5_1).f1)) ∧ w'.cell? (ad401.add ((x5_1).toNat * 2)) = some (.int .i64 ((rd_T78 l1 x5_1).f0)) ∧ w'.cell? ⟨(ad401.add ((x5_1).toNat * 2)).block,(ad401.add ((x5_1).toNat * 2)).off + 1,none⟩ = some (.int .i64 ((rd_T78 l1 x5_1).f1))) (ds:=[]) #[fF,fF,fF,fF,fF,fF,fF,fF,fF,fF] (by kernel_rfl) rfl rfl ⟨cq HB.out hw400_0,cq HB.out hw400_1,cq HB.out hw401_0,cq HB.out hw401_1⟩ (fun hHeld => ?_);refine with_tabW laws_eqPointS.tab6 laws_eqPointS.bits6 (fun HT_ HW_ => ?_)
        generalize wr.drew = w11 at HB hx400_0 hx400_1 hx401_0 hx401_1 hHeld ⊢
        refine pu 0 17 HT_ ?_
        refine pu 1 18 HT_ ?_
        refine pu 2 19 HT_ ?_
        refine pu 4 21 HT_ ?_
        refine pu 5 22 HT_ ?_
        refine pu 6 23 HT_ ?_
        refine tk 3 20 HT_ HW_ hHeld ?_
        refine tk 7 24 HT_ HW_ hHeld ?_
        refine on 8 25 HT_ (fun K hK => ?_)
        refine goes_ Try.func50 (by kernel_rfl) rfl #[.agg #[.int .i64 ((rd_T78 l0 x5_1).f0),.int .i64 ((rd_T78 l0 x5_1).f1)],.agg #[.int .i64 ((rd_T78 l1 x5_1).f0),.int .i64 ((rd_T78 l1 x5_1).f1)]] (by rfl) rfl rfl (by (try simp only [mT,mC,mN]);first | done | rfl | (simp only [lD,lT];rfl)) ?_
        with_reducible refine (laws_eqPoint.calls ((rd_T78 l0 x5_1).f0) ((rd_T78 l0 x5_1).f1) ((rd_T78 l1 x5_1).f0) ((rd_T78 l1 x5_1).f1) false _ A7.out).mono ?_
        rintro e w12 ⟨rfl,hb⟩
        refine ⟨_,rfl,?_⟩
        replace HB:=sb hb
        (try clear hb)
        (try clear hb2)
        (try clear hk)
        (try clear hi)
        refine hK.out _ _ ⟨cq HB.out hw400_0,cq HB.out hw400_1,cq HB.out hw401_0,cq HB.out hw401_1⟩ (fun hHeld => ?_)
        clear hK K
        refine norm_ (a':=?_) ?_ ?_
        rotate_left
        ·show Act.put _ (some 25) _ = _
         simp only [Act.put,List.setIfInBounds_toArray,List.set_cons_zero,List.set_cons_succ,i64_w,i32_w]
         rfl
        refine pu 9 26 HT_ ?_
        refine done_ (done_of HT_.out (by kernel_rfl)) ?_
        try go_wp2
        go_ret
        exact ⟨by first | rfl | (simp [errW_none,errW_some] <;> rfl) | (simp [*,errW_none,errW_some] <;> rfl),ib⟩
      ·rw [if_neg c6] at H
       exact absurd H (by simp)
     ·rw [if_neg c5] at H
      exact absurd H (by simp)
    ·rw [if_neg c4] at H
     have c4b0 : decide (x5_1 < (l0.length : Int)) = false:=decide_eq_false c4
     clear c4
     obtain rfl:=Option.some.inj H
     go_wp2
     go_ret
     exact ⟨by first | rfl | (simp [errW_none,errW_some] <;> rfl) | (simp [*,errW_none,errW_some] <;> rfl),ib⟩
 ·rw [if_neg c3] at H
  have c3b0 : ((l0.length : Int) == (l1.length : Int)) = false:=beq_eq_false_iff_ne.mpr c3
  have c3b1 : ((l0.length : Int) != (l1.length : Int)) = true:=bne_iff_ne.mpr c3
  have c3b2 : (l0.length == l1.length) = false:=by first | simpa using c3 | (simp at c3 ⊢;omega)
  obtain rfl:=Option.some.inj H
  go_enter Try.func28,Try.ntmps28
  go_wp2
  go_ret
  exact ⟨by first | rfl | (simp [errW_none,errW_some] <;> rfl) | (simp [*,errW_none,errW_some] <;> rfl),ib⟩
def laws_eqFace.f (k : Nat) (a0_0 : ByteArray) (l0_1 : List Int) (a1_0 : ByteArray) (l1_1 : List Int) : Option (Bool):=if a0_0.toList = a1_0.toList then ((laws_eqInt64S.f k l0_1 l1_1).bind fun t405 => (if t405 = true then (some true) else (some false))) else (some false)
theorem laws_eqFace.calls (k : Nat) (a0_0 : ByteArray) (A0_1 : Option Addr) (c0_1 : Nat) (l0_1 : List Int) (a1_0 : ByteArray) (A1_1 : Option Addr) (c1_1 : Nat) (l1_1 : List Int) (r : Bool) (w : World) (hr0_1 : Kd.C (Kd.int .i64) w A0_1 l0_1.length l0_1) (hc0_1 : l0_1.length ≤ c0_1) (hr1_1 : Kd.C (Kd.int .i64) w A1_1 l1_1.length l1_1) (hc1_1 : l1_1.length ≤ c1_1) (h : laws_eqFace.f k a0_0 l0_1 a1_0 l1_1 = some r) :
  Calls Try.prog 51 #[.agg #[.string a0_0,.slice A0_1 l0_1.length c0_1],.agg #[.string a1_0,.slice A1_1 l1_1.length c1_1]] w fun e w' => e = .returned (.bool r) ∧ Below w.heap.size w w':=by
 have hu64:=Try.underlying64
 have HR0_1:=Aside0.mk hr0_1
 have HC0_1:=Aside0.mk hc0_1
 clear hr0_1 hc0_1
 have HR1_1:=Aside0.mk hr1_1
 have HC1_1:=Aside0.mk hc1_1
 clear hr1_1 hc1_1
 have HB:=Aside0.mk (Below.refl w.heap.size w)
 have H : (if a0_0.toList = a1_0.toList then ((laws_eqInt64S.f k l0_1 l1_1).bind fun t405 => (if t405 = true then (some true) else (some false))) else (some false)) = some r:=h
 clear h
 by_cases c3 : a0_0.toList = a1_0.toList
 ·rw [if_pos c3] at H
  have c3b0 : (a0_0.toList == a1_0.toList) = true:=beq_iff_eq.mpr c3
  have c3b1 : (a0_0.toList != a1_0.toList) = false:=bne_eq_false_iff_eq.mpr c3
  clear c3
  replace H:=bE.mp H
  obtain ⟨t405,A40,H⟩:=H
  replace H : (if t405 = true then (some true) else (some false)) = some r:=H
  have A4:=Aside0.mk A40
  clear A40
  by_cases c5 : t405 = true
  ·subst c5
   have H1 : (some true) = some r:=by rw [if_pos rfl] at H;exact H
   clear H
   have H:=H1
   clear H1
   obtain rfl:=Option.some.inj H
   go_enter Try.func51,Try.ntmps51
   go_wp2_with (first | ((with_reducible refine gate_dst (N:=2) rfl ?_);refine bx (cs:=#[.string a0_0,.slice A0_1 l0_1.length c0_1]) (t:=64) ?_;intro gb403 hg w6 hbox hb;have BK403:=Aside0.mk (hbox);have GW403:=zb hg;have GE403:=zb hg;replace HB:=sb hb;clear hb hbox hg) | ((with_reducible refine gate_dst (N:=3) rfl ?_);refine bx (cs:=#[.string a1_0,.slice A1_1 l1_1.length c1_1]) (t:=64) ?_;intro gb404 hg w7 hbox hb;have BK404:=Aside0.mk (hbox);have GW404:=zb hg;have GE404:=zb hg;replace HB:=sb hb;have NB403_404:=nl BK403 hg;have NB404_403:=ng BK403 hg;replace BK403:=kb BK403 hb;clear hb hbox hg;have hnb8:=NB403_404.out;have hnc8:=NB404_403.out;have hcz9_0:=ck BK403 0;have hcz9_1:=ck BK403 1;have hfz9_0:=blk_frozen BK403.out 0;have hfz9_1:=blk_frozen BK403.out 1;have hcz10_0:=ck BK404 0;have hcz10_1:=ck BK404 1;have hfz10_0:=blk_frozen BK404.out 0;have hfz10_1:=blk_frozen BK404.out 1) | ((with_reducible refine gate_callee (f:=9) rfl ?_);refine goesL_ (some 14) rfl rfl Try.func9 (by kernel_rfl) rfl #[.slice A0_1 l0_1.length c0_1,.slice A1_1 l1_1.length c1_1] rfl (by (try simp only [mT,mC,mN]);first | done | rfl | (simp only [lD,lT];rfl)) ?_;(with_reducible refine (laws_eqInt64S.calls k _ _ l0_1 _ _ l1_1 true _ ?side1 ?side2 ?side3 ?side4 A4.out).mono ?_);(case side1 => repeat (first | exact (Kd.C_below HR0_1.out HB.out) | exact HR0_1.out | (with_reducible refine Kd.C_alloc ?_ _) | (with_reducible refine Kd.C_drewN ?_ _) | (with_reducible refine Kd.C_drew ?_)));(case side2 => exact HC0_1.out);(case side3 => repeat (first | exact (Kd.C_below HR1_1.out HB.out) | exact HR1_1.out | (with_reducible refine Kd.C_alloc ?_ _) | (with_reducible refine Kd.C_drewN ?_ _) | (with_reducible refine Kd.C_drew ?_)));(case side4 => exact HC1_1.out);rintro e w' ⟨rfl,⟨nd,rfl⟩⟩;refine ⟨_,rfl,?_⟩))
   go_ret
   exact ⟨by first | rfl | (simp [errW_none,errW_some] <;> rfl) | (simp [*,errW_none,errW_some] <;> rfl),ib⟩
  ·replace c5:=Bool.eq_false_iff.mpr c5
   subst c5
   have H1 : (some false) = some r:=by rw [if_neg (show ¬ (false = true) by decide)] at H;exact H
   clear H
   have H:=H1
   clear H1
   obtain rfl:=Option.some.inj H
   go_enter Try.func51,Try.ntmps51
   go_wp2_with (first | ((with_reducible refine gate_dst (N:=2) rfl ?_);refine bx (cs:=#[.string a0_0,.slice A0_1 l0_1.length c0_1]) (t:=64) ?_;intro gb403 hg w11 hbox hb;have BK403:=Aside0.mk (hbox);have GW403:=zb hg;have GE403:=zb hg;replace HB:=sb hb;clear hb hbox hg) | ((with_reducible refine gate_dst (N:=3) rfl ?_);refine bx (cs:=#[.string a1_0,.slice A1_1 l1_1.length c1_1]) (t:=64) ?_;intro gb404 hg w12 hbox hb;have BK404:=Aside0.mk (hbox);have GW404:=zb hg;have GE404:=zb hg;replace HB:=sb hb;have NB403_404:=nl BK403 hg;have NB404_403:=ng BK403 hg;replace BK403:=kb BK403 hb;clear hb hbox hg;have hnb13:=NB403_404.out;have hnc13:=NB404_403.out;have hcz14_0:=ck BK403 0;have hcz14_1:=ck BK403 1;have hfz14_0:=blk_frozen BK403.out 0;have hfz14_1:=blk_frozen BK403.out 1;have hcz15_0:=ck BK404 0;have hcz15_1:=ck BK404 1;have hfz15_0:=blk_frozen BK404.out 0;have hfz15_1:=blk_frozen BK404.out 1) | ((with_reducible refine gate_callee (f:=9) rfl ?_);refine goesL_ (some 14) rfl rfl Try.func9 (by kernel_rfl) rfl #[.slice A0_1 l0_1.length c0_1,.slice A1_1 l1_1.length c1_1] rfl (by (try simp only [mT,mC,mN]);first | done | rfl | (simp only [lD,lT];rfl)) ?_;(with_reducible refine (laws_eqInt64S.calls k _ _ l0_1 _ _ l1_1 false _ ?side1 ?side2 ?side3 ?side4 A4.out).mono ?_);(case side1 => repeat (first | exact (Kd.C_below HR0_1.out HB.out) | exact HR0_1.out | (with_reducible refine Kd.C_alloc ?_ _) | (with_reducible refine Kd.C_drewN ?_ _) | (with_reducible refine Kd.C_drew ?_)));(case side2 => exact HC0_1.out);(case side3 => repeat (first | exact (Kd.C_below HR1_1.out HB.out) | exact HR1_1.out | (with_reducible refine Kd.C_alloc ?_ _) | (with_reducible refine Kd.C_drewN ?_ _) | (with_reducible refine Kd.C_drew ?_)));(case side4 => exact HC1_1.out);rintro e w' ⟨rfl,⟨nd,rfl⟩⟩;refine ⟨_,rfl,?_⟩))
   go_ret
   exact ⟨by first | rfl | (simp [errW_none,errW_some] <;> rfl) | (simp [*,errW_none,errW_some] <;> rfl),ib⟩
 ·rw [if_neg c3] at H
  have c3b0 : (a0_0.toList == a1_0.toList) = false:=beq_eq_false_iff_ne.mpr c3
  have c3b1 : (a0_0.toList != a1_0.toList) = true:=bne_iff_ne.mpr c3
  obtain rfl:=Option.some.inj H
  go_enter Try.func51,Try.ntmps51
  go_wp2_with (first | ((with_reducible refine gate_dst (N:=2) rfl ?_);refine bx (cs:=#[.string a0_0,.slice A0_1 l0_1.length c0_1]) (t:=64) ?_;intro gb403 hg w16 hbox hb;have BK403:=Aside0.mk (hbox);have GW403:=zb hg;have GE403:=zb hg;replace HB:=sb hb;clear hb hbox hg) | ((with_reducible refine gate_dst (N:=3) rfl ?_);refine bx (cs:=#[.string a1_0,.slice A1_1 l1_1.length c1_1]) (t:=64) ?_;intro gb404 hg w17 hbox hb;have BK404:=Aside0.mk (hbox);have GW404:=zb hg;have GE404:=zb hg;replace HB:=sb hb;have NB403_404:=nl BK403 hg;have NB404_403:=ng BK403 hg;replace BK403:=kb BK403 hb;clear hb hbox hg;have hnb18:=NB403_404.out;have hnc18:=NB404_403.out;have hcz19_0:=ck BK403 0;have hcz19_1:=ck BK403 1;have hfz19_0:=blk_frozen BK403.out 0;have hfz19_1:=blk_frozen BK403.out 1;have hcz20_0:=ck BK404 0;have hcz20_1:=ck BK404 1;have hfz20_0:=blk_frozen BK404.out 0;have hfz20_1:=blk_frozen BK404.out 1))
  go_ret
  exact ⟨by first | rfl | (simp [errW_none,errW_some] <;> rfl) | (simp [*,errW_none,errW_some] <;> rfl),ib⟩
end Go.Proofs.Ytpeebobdbaemiaa.PFnExactNeighboursOf
