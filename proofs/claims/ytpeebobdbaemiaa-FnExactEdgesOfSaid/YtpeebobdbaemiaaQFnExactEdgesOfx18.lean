/- Contracts of functions that FnExactEdgesOf reaches, out of the lines of the kit's print. -/
import Derived.Test.YtpeebobdbaemiaaQFnExactEdgesOfx0
import Derived.Test.YtpeebobdbaemiaaQFnExactEdgesOfx1
import Derived.Test.YtpeebobdbaemiaaQFnExactEdgesOfx4
import Derived.Test.YtpeebobdbaemiaaQFnExactEdgesOfx5
import Derived.Test.YtpeebobdbaemiaaQFnExactEdgesOfx16
import Derived.Test.YtpeebobdbaemiaaQFnExactEdgesOfx17
namespace Go.Proofs.Ytpeebobdbaemiaa.PFnExactEdgesOf
set_option maxHeartbeats 8000000
set_option maxRecDepth 100000
open Go.RowKit Go.Proofs.YtpeebobdbaemiaaW.PrintWords Go.Proofs.YtpeebobdbaemiaaW.PrintLast Go.Proofs.YtpeebobdbaemiaaW.PrintMore
open Bool renaming true → tT, false → fF
open Go.World renaming block_lt_of_cell? → bL
open Option renaming bind_eq_some_iff → bE
attribute [local go_sem] max2_int min2_int max_two min_two max_three min_three max_four min_four
set_option linter.unusedVariables false
set_option linter.unusedSimpArgs false
attribute [local go_sem high] eqA67
mutual
def impl_EdgesOf.l0 : Nat → List (S67) → List (S64) → Int → Int → Option ((List (List Int)) × Int)
 | 0,_,_,_,_ => none
 | k + 1,x4,x15,x16,x17 => if x17 < x16 then (if 0 ≤ x17 then (if x17 < (x15.length : Int) then ((impl_ringEdges.f k ((rd_T64 x15 x17).f1)).bind fun t392 => (if x4.length + t392.length < 8796093022208 then (impl_EdgesOf.l0 k (x4 ++ t392) x15 x16 (wrap64 (x17 + 1))) else (none))) else (none)) else (none)) else ((slices_SortFunc_2_int64_2_int64.f x4 ()).bind fun t398 => (impl_EdgesOf.l1 k t398 (([] : List (List Int))) t398 (x4.length : Int) 0))
def impl_EdgesOf.l1 : Nat → List (S67) → List (List Int) → List (S67) → Int → Int → Option ((List (List Int)) × Int)
 | 0,_,_,_,_,_ => none
 | k + 1,x4,x7,x30,x31,x32 => if x32 < x31 then (if 0 ≤ x32 then (if x32 < (x30.length : Int) then (if x32 = 0 then (if x7.length < 5864062014805 then (impl_EdgesOf.l1 k x4 (x7 ++ [(([(rd_T67 x30 x32).f0,(rd_T67 x30 x32).f1] : List Int))]) x30 x31 (wrap64 (x32 + 1))) else (none)) else (if 0 ≤ (wrap64 (x32 - 1)) then (if (wrap64 (x32 - 1)) < (x4.length : Int) then (if (!(((rd_T67 x30 x32).f0) == ((rd_T67 x4 (wrap64 (x32 - 1))).f0)) || (!(((rd_T67 x30 x32).f1) == ((rd_T67 x4 (wrap64 (x32 - 1))).f1)))) = true then (if x7.length < 5864062014805 then (impl_EdgesOf.l1 k x4 (x7 ++ [(([(rd_T67 x30 x32).f0,(rd_T67 x30 x32).f1] : List Int))]) x30 x31 (wrap64 (x32 + 1))) else (none)) else (impl_EdgesOf.l1 k x4 x7 x30 x31 (wrap64 (x32 + 1)))) else (none)) else (none))) else (none)) else (none)) else (some (x7,0))
end
def impl_EdgesOf.f (k : Nat) (a0_0 : Int) (a0_1 : Int) (l0_2 : List (S78)) (l0_3 : List (S64)) : Option ((List (List Int)) × Int):=(impl_ValidDrawing.f k a0_0 a0_1 l0_2 l0_3).bind fun t386 => (if t386 = true then (impl_EdgesOf.l0 k (([] : List (S67))) l0_3 (l0_3.length : Int) 0) else (some (([] : List (List Int)),1)))
theorem impl_EdgesOf.calls (k : Nat) (a0_0 : Int) (a0_1 : Int) (A0_2 : Option Addr) (c0_2 : Nat) (l0_2 : List (S78)) (A0_3 : Option Addr) (c0_3 : Nat) (l0_3 : List (S64)) (r1 : List (List Int)) (r2 : Int) (w : World) (hr0_2 : Kd.C k78 w A0_2 l0_2.length l0_2) (hc0_2 : l0_2.length ≤ c0_2) (hr0_3 : Kd.C k64 w A0_3 l0_3.length l0_3) (hc0_3 : l0_3.length ≤ c0_3) (h : impl_EdgesOf.f k a0_0 a0_1 l0_2 l0_3 = some (r1,r2)) :
  Calls Try.prog 15 #[.agg #[.int .i64 a0_0,.int .i64 a0_1,.slice A0_2 l0_2.length c0_2,.slice A0_3 l0_3.length c0_3]] w fun e w' => ∃ v0_ : Value,e = .returned (.tuple #[v0_,.int .i64 r2]) ∧ Kd.S (Kd.slice 2 (Kd.int .i64)) 27 w' w.heap.size (fun _ => True) v0_ r1 ∧ Below w.heap.size w w':=by
 have hu33:=Try.underlying33
 have hu64:=Try.underlying64
 have hu67:=Try.underlying67
 have HR0_2:=Aside0.mk hr0_2
 have HC0_2:=Aside0.mk hc0_2
 clear hr0_2 hc0_2
 have HR0_3:=Aside0.mk hr0_3
 have HC0_3:=Aside0.mk hc0_3
 clear hr0_3 hc0_3
 have HB:=Aside0.mk (Below.refl w.heap.size w)
 have H : ((impl_ValidDrawing.f k a0_0 a0_1 l0_2 l0_3).bind fun t386 => (if t386 = true then (impl_EdgesOf.l0 k (([] : List (S67))) l0_3 (l0_3.length : Int) 0) else (some (([] : List (List Int)),1)))) = some (r1,r2):=h
 clear h
 replace H:=bE.mp H
 obtain ⟨t386,A20,H⟩:=H
 replace H : (if t386 = true then (impl_EdgesOf.l0 k (([] : List (S67))) l0_3 (l0_3.length : Int) 0) else (some (([] : List (List Int)),1))) = some (r1,r2):=H
 have A2:=Aside0.mk A20
 clear A20
 by_cases c3 : t386 = true
 ·subst c3
  have H1 : (impl_EdgesOf.l0 k (([] : List (S67))) l0_3 (l0_3.length : Int) 0) = some (r1,r2):=by rw [if_pos rfl] at H;exact H
  clear H
  have H:=H1
  clear H1
  obtain ⟨y387,hy387⟩ : ∃ y_ : List (S67),y_ = (([] : List (S67))):=⟨_,rfl⟩
  replace H : (impl_EdgesOf.l0 k y387 l0_3 (l0_3.length : Int) 0) = some (r1,r2):=by first | (rw [hy387];with_reducible exact H) | (have H2_:=(Option.bind_some _ _).symm.trans H;rw [hy387];with_reducible exact H2_) | (have H2_:=(Option.bind_some _ _).symm.trans H;with_reducible exact H2_) | with_reducible exact H | (rw [hy387];exact H) | exact H
  have Ny387:=Aside0.mk hy387
  clear hy387
  have H':=Aside0.mk H
  clear H
  go_enter Try.func15,Try.ntmps15
  go_wp2_with (first | ((with_reducible refine gate_dst (N:=1) rfl ?_);refine bx (cs:=#[.int .i64 a0_0,.int .i64 a0_1,.slice A0_2 l0_2.length c0_2,.slice A0_3 l0_3.length c0_3]) (t:=33) ?_;intro gb385 hg w4 hbox hb;have BK385:=Aside0.mk (hbox);have GW385:=zb hg;have GE385:=zb hg;replace HB:=sb hb;clear hb hbox hg;have hcz5_0:=ck BK385 0;have hcz5_1:=ck BK385 1;have hcz5_2:=ck BK385 2;have hcz5_3:=ck BK385 3;have hfz5_0:=blk_frozen BK385.out 0;have hfz5_1:=blk_frozen BK385.out 1;have hfz5_2:=blk_frozen BK385.out 2;have hfz5_3:=blk_frozen BK385.out 3) | (go_at_call 33;(with_reducible refine (impl_ValidDrawing.calls k a0_0 a0_1 _ _ l0_2 _ _ l0_3 true _ ?side1 ?side2 ?side3 ?side4 A2.out).mono ?_);(case side1 => repeat (first | exact (Kd.C_below HR0_2.out HB.out) | exact HR0_2.out | (with_reducible refine Kd.C_alloc ?_ _) | (with_reducible refine Kd.C_drewN ?_ _) | (with_reducible refine Kd.C_drew ?_)));(case side2 => exact HC0_2.out);(case side3 => repeat (first | exact (Kd.C_below HR0_3.out HB.out) | exact HR0_3.out | (with_reducible refine Kd.C_alloc ?_ _) | (with_reducible refine Kd.C_drewN ?_ _) | (with_reducible refine Kd.C_drew ?_)));(case side4 => exact HC0_3.out);rintro e w6 ⟨rfl,hb⟩;replace BK385:=kb BK385 hb;replace HB:=sb hb;(try clear hb);(try clear hb2);(try clear hk);(try clear hi)) | ((with_reducible refine gate_dst (N:=13) rfl ?_);refine Kd.R_lit k67 _ 67 ?hg (N:=13) ?hd (xs:=([] : List (S67))) (inner:=[]) (ok:=fun _ => True) (okp:=fun _ => True) ?hr ?hp (fun _ hk => hk) trivial (Below.refl _ _) (Nat.le_refl _) (by simp) ?_;(case hd => rfl);(case hg => rfl);(case hr => first | (go_simp;done) | (go_simp;rfl));(case hp => exact (Reps.none _ _));intro v388 w7 ho8 hb hg_ hnew_;clear hg_ hnew_;(first | rw [← Ny387.out] at ho8 | (simp only [Int.reduceToNat] at ho8;rw [← Ny387.out] at ho8));have HO389:=Aside0.mk (Kd.R_lower ho8 (below_size ib));replace BK385:=kb BK385 hb;replace HB:=sb hb;clear hb ho8;have hcz9_0:=ck BK385 0;have hcz9_1:=ck BK385 1;have hcz9_2:=ck BK385 2;have hcz9_3:=ck BK385 3;have hfz9_0:=blk_frozen BK385.out 0;have hfz9_1:=blk_frozen BK385.out 1;have hfz9_2:=blk_frozen BK385.out 2;have hfz9_3:=blk_frozen BK385.out 3))
  repeat (go_quiet (first | ((with_reducible refine gate_dst (N:=1) rfl ?_);refine bx (cs:=#[.int .i64 a0_0,.int .i64 a0_1,.slice A0_2 l0_2.length c0_2,.slice A0_3 l0_3.length c0_3]) (t:=33) ?_;intro gb385 hg w4 hbox hb;have BK385:=Aside0.mk (hbox);have GW385:=zb hg;have GE385:=zb hg;replace HB:=sb hb;clear hb hbox hg;have hcz5_0:=ck BK385 0;have hcz5_1:=ck BK385 1;have hcz5_2:=ck BK385 2;have hcz5_3:=ck BK385 3;have hfz5_0:=blk_frozen BK385.out 0;have hfz5_1:=blk_frozen BK385.out 1;have hfz5_2:=blk_frozen BK385.out 2;have hfz5_3:=blk_frozen BK385.out 3) | (go_at_call 33;(with_reducible refine (impl_ValidDrawing.calls k a0_0 a0_1 _ _ l0_2 _ _ l0_3 true _ ?side1 ?side2 ?side3 ?side4 A2.out).mono ?_);(case side1 => repeat (first | exact (Kd.C_below HR0_2.out HB.out) | exact HR0_2.out | (with_reducible refine Kd.C_alloc ?_ _) | (with_reducible refine Kd.C_drewN ?_ _) | (with_reducible refine Kd.C_drew ?_)));(case side2 => exact HC0_2.out);(case side3 => repeat (first | exact (Kd.C_below HR0_3.out HB.out) | exact HR0_3.out | (with_reducible refine Kd.C_alloc ?_ _) | (with_reducible refine Kd.C_drewN ?_ _) | (with_reducible refine Kd.C_drew ?_)));(case side4 => exact HC0_3.out);rintro e w6 ⟨rfl,hb⟩;replace BK385:=kb BK385 hb;replace HB:=sb hb;(try clear hb);(try clear hb2);(try clear hk);(try clear hi)) | ((with_reducible refine gate_dst (N:=13) rfl ?_);refine Kd.R_lit k67 _ 67 ?hg (N:=13) ?hd (xs:=([] : List (S67))) (inner:=[]) (ok:=fun _ => True) (okp:=fun _ => True) ?hr ?hp (fun _ hk => hk) trivial (Below.refl _ _) (Nat.le_refl _) (by simp) ?_;(case hd => rfl);(case hg => rfl);(case hr => first | (go_simp;done) | (go_simp;rfl));(case hp => exact (Reps.none _ _));intro v388 w7 ho8 hb hg_ hnew_;clear hg_ hnew_;(first | rw [← Ny387.out] at ho8 | (simp only [Int.reduceToNat] at ho8;rw [← Ny387.out] at ho8));have HO389:=Aside0.mk (Kd.R_lower ho8 (below_size ib));replace BK385:=kb BK385 hb;replace HB:=sb hb;clear hb ho8;have hcz9_0:=ck BK385 0;have hcz9_1:=ck BK385 1;have hcz9_2:=ck BK385 2;have hcz9_3:=ck BK385 3;have hfz9_0:=blk_frozen BK385.out 0;have hfz9_1:=blk_frozen BK385.out 1;have hfz9_2:=blk_frozen BK385.out 2;have hfz9_3:=blk_frozen BK385.out 3));try go_wp2_with (first | ((with_reducible refine gate_dst (N:=1) rfl ?_);refine bx (cs:=#[.int .i64 a0_0,.int .i64 a0_1,.slice A0_2 l0_2.length c0_2,.slice A0_3 l0_3.length c0_3]) (t:=33) ?_;intro gb385 hg w4 hbox hb;have BK385:=Aside0.mk (hbox);have GW385:=zb hg;have GE385:=zb hg;replace HB:=sb hb;clear hb hbox hg;have hcz5_0:=ck BK385 0;have hcz5_1:=ck BK385 1;have hcz5_2:=ck BK385 2;have hcz5_3:=ck BK385 3;have hfz5_0:=blk_frozen BK385.out 0;have hfz5_1:=blk_frozen BK385.out 1;have hfz5_2:=blk_frozen BK385.out 2;have hfz5_3:=blk_frozen BK385.out 3) | (go_at_call 33;(with_reducible refine (impl_ValidDrawing.calls k a0_0 a0_1 _ _ l0_2 _ _ l0_3 true _ ?side1 ?side2 ?side3 ?side4 A2.out).mono ?_);(case side1 => repeat (first | exact (Kd.C_below HR0_2.out HB.out) | exact HR0_2.out | (with_reducible refine Kd.C_alloc ?_ _) | (with_reducible refine Kd.C_drewN ?_ _) | (with_reducible refine Kd.C_drew ?_)));(case side2 => exact HC0_2.out);(case side3 => repeat (first | exact (Kd.C_below HR0_3.out HB.out) | exact HR0_3.out | (with_reducible refine Kd.C_alloc ?_ _) | (with_reducible refine Kd.C_drewN ?_ _) | (with_reducible refine Kd.C_drew ?_)));(case side4 => exact HC0_3.out);rintro e w6 ⟨rfl,hb⟩;replace BK385:=kb BK385 hb;replace HB:=sb hb;(try clear hb);(try clear hb2);(try clear hk);(try clear hi)) | ((with_reducible refine gate_dst (N:=13) rfl ?_);refine Kd.R_lit k67 _ 67 ?hg (N:=13) ?hd (xs:=([] : List (S67))) (inner:=[]) (ok:=fun _ => True) (okp:=fun _ => True) ?hr ?hp (fun _ hk => hk) trivial (Below.refl _ _) (Nat.le_refl _) (by simp) ?_;(case hd => rfl);(case hg => rfl);(case hr => first | (go_simp;done) | (go_simp;rfl));(case hp => exact (Reps.none _ _));intro v388 w7 ho8 hb hg_ hnew_;clear hg_ hnew_;(first | rw [← Ny387.out] at ho8 | (simp only [Int.reduceToNat] at ho8;rw [← Ny387.out] at ho8));have HO389:=Aside0.mk (Kd.R_lower ho8 (below_size ib));replace BK385:=kb BK385 hb;replace HB:=sb hb;clear hb ho8;have hcz9_0:=ck BK385 0;have hcz9_1:=ck BK385 1;have hcz9_2:=ck BK385 2;have hcz9_3:=ck BK385 3;have hfz9_0:=blk_frozen BK385.out 0;have hfz9_1:=blk_frozen BK385.out 1;have hfz9_2:=blk_frozen BK385.out 2;have hfz9_3:=blk_frozen BK385.out 3)))
  go_loopg [4,17] k (fun kq v4 v17 w' => ∃ (x4_1 : List (S67)) (x17_1 : Int),v17 = .int .i64 x17_1 ∧ Aside0 (impl_EdgesOf.l0 kq x4_1 l0_3 (l0_3.length : Int) x17_1 = some (r1,r2)) ∧ Aside0 (kq ≤ k) ∧ Aside0 (Kd.R k67 67 w' w.heap.size (fun _ => True) v4 x4_1) ∧ Aside0 (w'.heap[gb385]? = some (.cells #[.int .i64 a0_0,.int .i64 a0_1,(.slice A0_2 l0_2.length c0_2),(.slice A0_3 l0_3.length c0_3)] 33 (0,0))) ∧ Aside0 (Below w.heap.size w w'))
  case atStart => exact ⟨(y387),(0),(by first | rfl | (simp;done) | (simp [*];done)),H',⟨Nat.le_refl _⟩,⟨rO HO389.out⟩,⟨by exact bk BK385⟩,⟨ib⟩⟩
  case round =>
   clear H'
   try clear c1
   try clear p2
   try clear c3
   try clear hcz5_0
   try clear hcz5_1
   try clear hcz5_2
   try clear hcz5_3
   try clear hcz9_0
   try clear hcz9_1
   try clear hcz9_2
   try clear hcz9_3
   try clear hfz5_0
   try clear hfz5_1
   try clear hfz5_2
   try clear hfz5_3
   try clear hfz9_0
   try clear hfz9_1
   try clear hfz9_2
   try clear hfz9_3
   obtain ⟨x4_1,x17_1,rfl,HA,HK1,HO_4,BK385,HB⟩:=hrel
   cases gk with
   | zero => exact absurd HA.out (by simp [impl_EdgesOf.l0])
   | succ k1 =>
    have H:=HA.out
    clear HA
    simp only [impl_EdgesOf.l0] at H
    by_cases c10 : x17_1 < (l0_3.length : Int)
    ·rw [if_pos c10] at H
     have c10b0 : decide (x17_1 < (l0_3.length : Int)) = true:=decide_eq_true c10
     clear c10
     by_cases c11 : 0 ≤ x17_1
     ·rw [if_pos c11] at H
      have c11b0 : decide (0 ≤ x17_1) = true:=decide_eq_true c11
      clear c11
      by_cases c12 : x17_1 < (l0_3.length : Int)
      ·rw [if_pos c12] at H
       have c12b0 : decide (x17_1 < (l0_3.length : Int)) = true:=decide_eq_true c12
       clear c12
       replace H:=bE.mp H
       obtain ⟨t392,A130,H⟩:=H
       replace H : (if x4_1.length + t392.length < 8796093022208 then (impl_EdgesOf.l0 k1 (x4_1 ++ t392) l0_3 (l0_3.length : Int) (wrap64 (x17_1 + 1))) else (none)) = some (r1,r2):=H
       have A13:=Aside0.mk A130
       clear A130
       by_cases c14 : x4_1.length + t392.length < 8796093022208
       ·rw [if_pos c14] at H
        have LMc14:=Aside0.mk c14
        clear c14
        obtain ⟨y395,hy395⟩ : ∃ y_ : List (S67),y_ = (x4_1 ++ t392):=⟨_,rfl⟩
        replace H : (impl_EdgesOf.l0 k1 y395 l0_3 (l0_3.length : Int) (wrap64 (x17_1 + 1))) = some (r1,r2):=by first | (rw [hy395];with_reducible exact H) | (have H2_:=(Option.bind_some _ _).symm.trans H;rw [hy395];with_reducible exact H2_) | (have H2_:=(Option.bind_some _ _).symm.trans H;with_reducible exact H2_) | with_reducible exact H | (rw [hy395];exact H) | exact H
        have Ny395:=Aside0.mk hy395
        clear hy395
        have H':=Aside0.mk H
        clear H
        have p390 : 0 ≤ (x17_1 : Int):=da
        have q390 : x17_1 < (l0_3.length : Int):=da
        obtain ⟨ad390,A390_1,c390_1,e390,hx390_0,hx390_1,hl390_1,hi390_1⟩:=at_T64 HR0_3.out x17_1 p390 q390
        cases e390
        replace hx390_0:=cq HB.out hx390_0
        replace hx390_1:=cq HB.out hx390_1
        have HR390_1:=Aside0.mk hi390_1
        have HC390_1:=Aside0.mk hl390_1
        clear hi390_1 hl390_1
        replace p390:=eq_true p390
        replace q390:=eq_true q390
        go_wp2_with (first | ((with_reducible refine gate_dst (N:=6) rfl ?_);refine bx (cs:=#[.string (⟨#[]⟩ : ByteArray),.slice none 0 0]) (t:=64) ?_;intro gb391 hg w15 hbox hb;replace HO_4:=Aside0.mk (Kd.R_below (rO HO_4.out) hb);have BK391:=Aside0.mk (hbox);have GW391:=zb hg;have GE391:=zb hg;replace HB:=sb hb;have NB385_391:=nl BK385 hg;have NB391_385:=ng BK385 hg;replace BK385:=kb BK385 hb;clear hb hbox hg;have hnb16:=NB391_385.out;have hnc16:=NB385_391.out;have hcz17_0:=ck BK391 0;have hcz17_1:=ck BK391 1;have hfz17_0:=blk_frozen BK391.out 0;have hfz17_1:=blk_frozen BK391.out 1) | (go_at_call 34;(with_reducible refine (impl_ringEdges.calls k1 _ _ ((rd_T64 l0_3 x17_1).f1) t392 _ ?side1 ?side2 A13.out).mono ?_);(case side1 => exact Kd.C_below HR390_1.out ib);(case side2 => exact HC390_1.out);rintro e w18 ⟨v393,rfl,ho0,hb⟩;have HO394:=Aside0.mk (Kd.R_lower (Kd.R_new' ho0 (Kd.R_lt (rO ((Kd.R_mono (Kd.R_far (p:=⟨gb391,1,none⟩) (Kd.R_far (p:=⟨gb391,0,none⟩) (Kd.R_types HO_4.out BK391.out (by decide)) (fun _ hk => hk.2) (.string ((rd_T64 l0_3 x17_1).f0))) (fun _ hk => hk.2) (.slice A390_1 ((rd_T64 l0_3 x17_1).f1).length c390_1)) (fun _ h_ => h_.1)))))) (below_size ib));replace HO_4:=Aside0.mk (Kd.R_elder' (rO ((Kd.R_mono (Kd.R_far (p:=⟨gb391,1,none⟩) (Kd.R_far (p:=⟨gb391,0,none⟩) (Kd.R_types HO_4.out BK391.out (by decide)) (fun _ hk => hk.2) (.string ((rd_T64 l0_3 x17_1).f0))) (fun _ hk => hk.2) (.slice A390_1 ((rd_T64 l0_3 x17_1).f1).length c390_1)) (fun _ h_ => h_.1)))) (Kd.R_base ho0) hb);replace BK385:=Aside0.mk (blk_below (g:=gb385) (o:=.cells #[.int .i64 a0_0,.int .i64 a0_1,.slice A0_2 l0_2.length c0_2,.slice (some ad390) l0_3.length c0_3] 33 (0,0)) (by refine bF NB385_391.out ?_;refine bF NB385_391.out ?_;exact bk BK385) hb);replace BK391:=Aside0.mk (blk_below (g:=gb391) (o:=.cells #[.string ((rd_T64 l0_3 x17_1).f0),.slice A390_1 ((rd_T64 l0_3 x17_1).f1).length c390_1] 64 (0,0)) (by refine bP (cs:=#[.string ((rd_T64 l0_3 x17_1).f0),.slice none 0 0]) 1 ?_;refine bP (cs:=#[.string (⟨#[]⟩ : ByteArray),.slice none 0 0]) 0 ?_;exact bk BK391) hb);replace HB:=sb hb;(try clear hb);(try clear hb2);(try clear hk);(try clear hi);(try clear ho0);obtain ⟨Ao20,co20,eo20⟩:=Kd.R_slice HO394.out;subst eo20) | ((with_reducible refine gate_builtin (b:=.append) (xs:=#[.tmp 21,.tmp 24]) rfl ?_);at_builtin;refine Kd.R_append_rows k67 (w0:=w) w.heap.size rfl (.tmp 21) (.tmp 24) 62 67 (.agg #[(.int .i64 0),(.int .i64 0)]) 16 rfl Try.underlying62 info67 rfl (by decide) (by omega) u4 x4_1 t392 _ _ _ (fun k_ => some k_ ≠ (.slice Ao20 t392.length co20 : Value).ownBlock) (fun _ => False) rfl rfl ?aO ?aR (fun _ _ h => h) (fun _ h => h.elim) ?aF ?aB ?aS ?aL ?_;(case aR => exact cO ((Kd.R_reads' HO394.out).2.2));(case aB => exact ib);(case aF => exact (fun k_ hk => Kd.fresh' (Kd.R_lt (rO HO394.out)) k_ hk));(case aO => exact (rO (Kd.R_mono HO_4.out (fun _ hk => hk.2))));(case aS => exact (below_size ib));(case aL => have:=LMc14.out;omega);intro v396 w19 ho hb hg hat;rw [← Ny395.out] at ho;replace BK385:=Aside0.mk (blk_grown (g:=gb385) (o:=.cells #[.int .i64 a0_0,.int .i64 a0_1,.slice A0_2 l0_2.length c0_2,.slice (some ad390) l0_3.length c0_3] 33 (0,0)) (bk BK385) hg (Kd.R_ne HO_4.out BK385.out (by decide)));replace BK391:=Aside0.mk (blk_grown (g:=gb391) (o:=.cells #[.string ((rd_T64 l0_3 x17_1).f0),.slice A390_1 ((rd_T64 l0_3 x17_1).f1).length c390_1] 64 (0,0)) (bk BK391) hg (Kd.R_ne HO_4.out BK391.out (by decide)));replace HO394:=Aside0.mk (Kd.R_after (ok:=(fun _ => True)) (rO HO394.out) hg hat);replace HB:=Aside0.mk (hb);have HO397:=Aside0.mk (ho);clear HO_4;clear ho hb hg hat))
        repeat (go_quiet (first | ((with_reducible refine gate_dst (N:=6) rfl ?_);refine bx (cs:=#[.string (⟨#[]⟩ : ByteArray),.slice none 0 0]) (t:=64) ?_;intro gb391 hg w15 hbox hb;replace HO_4:=Aside0.mk (Kd.R_below (rO HO_4.out) hb);have BK391:=Aside0.mk (hbox);have GW391:=zb hg;have GE391:=zb hg;replace HB:=sb hb;have NB385_391:=nl BK385 hg;have NB391_385:=ng BK385 hg;replace BK385:=kb BK385 hb;clear hb hbox hg;have hnb16:=NB391_385.out;have hnc16:=NB385_391.out;have hcz17_0:=ck BK391 0;have hcz17_1:=ck BK391 1;have hfz17_0:=blk_frozen BK391.out 0;have hfz17_1:=blk_frozen BK391.out 1) | (go_at_call 34;(with_reducible refine (impl_ringEdges.calls k1 _ _ ((rd_T64 l0_3 x17_1).f1) t392 _ ?side1 ?side2 A13.out).mono ?_);(case side1 => exact Kd.C_below HR390_1.out ib);(case side2 => exact HC390_1.out);rintro e w18 ⟨v393,rfl,ho0,hb⟩;have HO394:=Aside0.mk (Kd.R_lower (Kd.R_new' ho0 (Kd.R_lt (rO ((Kd.R_mono (Kd.R_far (p:=⟨gb391,1,none⟩) (Kd.R_far (p:=⟨gb391,0,none⟩) (Kd.R_types HO_4.out BK391.out (by decide)) (fun _ hk => hk.2) (.string ((rd_T64 l0_3 x17_1).f0))) (fun _ hk => hk.2) (.slice A390_1 ((rd_T64 l0_3 x17_1).f1).length c390_1)) (fun _ h_ => h_.1)))))) (below_size ib));replace HO_4:=Aside0.mk (Kd.R_elder' (rO ((Kd.R_mono (Kd.R_far (p:=⟨gb391,1,none⟩) (Kd.R_far (p:=⟨gb391,0,none⟩) (Kd.R_types HO_4.out BK391.out (by decide)) (fun _ hk => hk.2) (.string ((rd_T64 l0_3 x17_1).f0))) (fun _ hk => hk.2) (.slice A390_1 ((rd_T64 l0_3 x17_1).f1).length c390_1)) (fun _ h_ => h_.1)))) (Kd.R_base ho0) hb);replace BK385:=Aside0.mk (blk_below (g:=gb385) (o:=.cells #[.int .i64 a0_0,.int .i64 a0_1,.slice A0_2 l0_2.length c0_2,.slice (some ad390) l0_3.length c0_3] 33 (0,0)) (by refine bF NB385_391.out ?_;refine bF NB385_391.out ?_;exact bk BK385) hb);replace BK391:=Aside0.mk (blk_below (g:=gb391) (o:=.cells #[.string ((rd_T64 l0_3 x17_1).f0),.slice A390_1 ((rd_T64 l0_3 x17_1).f1).length c390_1] 64 (0,0)) (by refine bP (cs:=#[.string ((rd_T64 l0_3 x17_1).f0),.slice none 0 0]) 1 ?_;refine bP (cs:=#[.string (⟨#[]⟩ : ByteArray),.slice none 0 0]) 0 ?_;exact bk BK391) hb);replace HB:=sb hb;(try clear hb);(try clear hb2);(try clear hk);(try clear hi);(try clear ho0);obtain ⟨Ao20,co20,eo20⟩:=Kd.R_slice HO394.out;subst eo20) | ((with_reducible refine gate_builtin (b:=.append) (xs:=#[.tmp 21,.tmp 24]) rfl ?_);at_builtin;refine Kd.R_append_rows k67 (w0:=w) w.heap.size rfl (.tmp 21) (.tmp 24) 62 67 (.agg #[(.int .i64 0),(.int .i64 0)]) 16 rfl Try.underlying62 info67 rfl (by decide) (by omega) u4 x4_1 t392 _ _ _ (fun k_ => some k_ ≠ (.slice Ao20 t392.length co20 : Value).ownBlock) (fun _ => False) rfl rfl ?aO ?aR (fun _ _ h => h) (fun _ h => h.elim) ?aF ?aB ?aS ?aL ?_;(case aR => exact cO ((Kd.R_reads' HO394.out).2.2));(case aB => exact ib);(case aF => exact (fun k_ hk => Kd.fresh' (Kd.R_lt (rO HO394.out)) k_ hk));(case aO => exact (rO (Kd.R_mono HO_4.out (fun _ hk => hk.2))));(case aS => exact (below_size ib));(case aL => have:=LMc14.out;omega);intro v396 w19 ho hb hg hat;rw [← Ny395.out] at ho;replace BK385:=Aside0.mk (blk_grown (g:=gb385) (o:=.cells #[.int .i64 a0_0,.int .i64 a0_1,.slice A0_2 l0_2.length c0_2,.slice (some ad390) l0_3.length c0_3] 33 (0,0)) (bk BK385) hg (Kd.R_ne HO_4.out BK385.out (by decide)));replace BK391:=Aside0.mk (blk_grown (g:=gb391) (o:=.cells #[.string ((rd_T64 l0_3 x17_1).f0),.slice A390_1 ((rd_T64 l0_3 x17_1).f1).length c390_1] 64 (0,0)) (bk BK391) hg (Kd.R_ne HO_4.out BK391.out (by decide)));replace HO394:=Aside0.mk (Kd.R_after (ok:=(fun _ => True)) (rO HO394.out) hg hat);replace HB:=Aside0.mk (hb);have HO397:=Aside0.mk (ho);clear HO_4;clear ho hb hg hat));try go_wp2_with (first | ((with_reducible refine gate_dst (N:=6) rfl ?_);refine bx (cs:=#[.string (⟨#[]⟩ : ByteArray),.slice none 0 0]) (t:=64) ?_;intro gb391 hg w15 hbox hb;replace HO_4:=Aside0.mk (Kd.R_below (rO HO_4.out) hb);have BK391:=Aside0.mk (hbox);have GW391:=zb hg;have GE391:=zb hg;replace HB:=sb hb;have NB385_391:=nl BK385 hg;have NB391_385:=ng BK385 hg;replace BK385:=kb BK385 hb;clear hb hbox hg;have hnb16:=NB391_385.out;have hnc16:=NB385_391.out;have hcz17_0:=ck BK391 0;have hcz17_1:=ck BK391 1;have hfz17_0:=blk_frozen BK391.out 0;have hfz17_1:=blk_frozen BK391.out 1) | (go_at_call 34;(with_reducible refine (impl_ringEdges.calls k1 _ _ ((rd_T64 l0_3 x17_1).f1) t392 _ ?side1 ?side2 A13.out).mono ?_);(case side1 => exact Kd.C_below HR390_1.out ib);(case side2 => exact HC390_1.out);rintro e w18 ⟨v393,rfl,ho0,hb⟩;have HO394:=Aside0.mk (Kd.R_lower (Kd.R_new' ho0 (Kd.R_lt (rO ((Kd.R_mono (Kd.R_far (p:=⟨gb391,1,none⟩) (Kd.R_far (p:=⟨gb391,0,none⟩) (Kd.R_types HO_4.out BK391.out (by decide)) (fun _ hk => hk.2) (.string ((rd_T64 l0_3 x17_1).f0))) (fun _ hk => hk.2) (.slice A390_1 ((rd_T64 l0_3 x17_1).f1).length c390_1)) (fun _ h_ => h_.1)))))) (below_size ib));replace HO_4:=Aside0.mk (Kd.R_elder' (rO ((Kd.R_mono (Kd.R_far (p:=⟨gb391,1,none⟩) (Kd.R_far (p:=⟨gb391,0,none⟩) (Kd.R_types HO_4.out BK391.out (by decide)) (fun _ hk => hk.2) (.string ((rd_T64 l0_3 x17_1).f0))) (fun _ hk => hk.2) (.slice A390_1 ((rd_T64 l0_3 x17_1).f1).length c390_1)) (fun _ h_ => h_.1)))) (Kd.R_base ho0) hb);replace BK385:=Aside0.mk (blk_below (g:=gb385) (o:=.cells #[.int .i64 a0_0,.int .i64 a0_1,.slice A0_2 l0_2.length c0_2,.slice (some ad390) l0_3.length c0_3] 33 (0,0)) (by refine bF NB385_391.out ?_;refine bF NB385_391.out ?_;exact bk BK385) hb);replace BK391:=Aside0.mk (blk_below (g:=gb391) (o:=.cells #[.string ((rd_T64 l0_3 x17_1).f0),.slice A390_1 ((rd_T64 l0_3 x17_1).f1).length c390_1] 64 (0,0)) (by refine bP (cs:=#[.string ((rd_T64 l0_3 x17_1).f0),.slice none 0 0]) 1 ?_;refine bP (cs:=#[.string (⟨#[]⟩ : ByteArray),.slice none 0 0]) 0 ?_;exact bk BK391) hb);replace HB:=sb hb;(try clear hb);(try clear hb2);(try clear hk);(try clear hi);(try clear ho0);obtain ⟨Ao20,co20,eo20⟩:=Kd.R_slice HO394.out;subst eo20) | ((with_reducible refine gate_builtin (b:=.append) (xs:=#[.tmp 21,.tmp 24]) rfl ?_);at_builtin;refine Kd.R_append_rows k67 (w0:=w) w.heap.size rfl (.tmp 21) (.tmp 24) 62 67 (.agg #[(.int .i64 0),(.int .i64 0)]) 16 rfl Try.underlying62 info67 rfl (by decide) (by omega) u4 x4_1 t392 _ _ _ (fun k_ => some k_ ≠ (.slice Ao20 t392.length co20 : Value).ownBlock) (fun _ => False) rfl rfl ?aO ?aR (fun _ _ h => h) (fun _ h => h.elim) ?aF ?aB ?aS ?aL ?_;(case aR => exact cO ((Kd.R_reads' HO394.out).2.2));(case aB => exact ib);(case aF => exact (fun k_ hk => Kd.fresh' (Kd.R_lt (rO HO394.out)) k_ hk));(case aO => exact (rO (Kd.R_mono HO_4.out (fun _ hk => hk.2))));(case aS => exact (below_size ib));(case aL => have:=LMc14.out;omega);intro v396 w19 ho hb hg hat;rw [← Ny395.out] at ho;replace BK385:=Aside0.mk (blk_grown (g:=gb385) (o:=.cells #[.int .i64 a0_0,.int .i64 a0_1,.slice A0_2 l0_2.length c0_2,.slice (some ad390) l0_3.length c0_3] 33 (0,0)) (bk BK385) hg (Kd.R_ne HO_4.out BK385.out (by decide)));replace BK391:=Aside0.mk (blk_grown (g:=gb391) (o:=.cells #[.string ((rd_T64 l0_3 x17_1).f0),.slice A390_1 ((rd_T64 l0_3 x17_1).f1).length c390_1] 64 (0,0)) (bk BK391) hg (Kd.R_ne HO_4.out BK391.out (by decide)));replace HO394:=Aside0.mk (Kd.R_after (ok:=(fun _ => True)) (rO HO394.out) hg hat);replace HB:=Aside0.mk (hb);have HO397:=Aside0.mk (ho);clear HO_4;clear ho hb hg hat)))
        go_roundg k1
        case measure => have:=HK1.out;omega
        case rel => exact ⟨(y395),(wrap64 (x17_1 + 1)),(by first | rfl | (simp;done) | (simp [*];done)),H',⟨by have:=HK1.out;omega⟩,⟨rO (Kd.R_mono HO397.out (fun _ hk => trivial))⟩,⟨by exact bk BK385⟩,⟨ib⟩⟩
       ·rw [if_neg c14] at H
        exact absurd H (by simp)
      ·first | (exfalso;have z_:=of_decide_eq_true c10b0;omega) | (rw [if_neg c12] at H;exact absurd H (by simp))
     ·rw [if_neg c11] at H
      exact absurd H (by simp)
    ·rw [if_neg c10] at H
     have c10b0 : decide (x17_1 < (l0_3.length : Int)) = false:=decide_eq_false c10
     clear c10
     replace H:=bE.mp H
     obtain ⟨t398,A210,H⟩:=H
     replace H : (impl_EdgesOf.l1 k1 t398 (([] : List (List Int))) t398 (x4_1.length : Int) 0) = some (r1,r2):=H
     have A21:=Aside0.mk A210
     clear A210
     obtain ⟨y399,hy399⟩ : ∃ y_ : List (List Int),y_ = (([] : List (List Int))):=⟨_,rfl⟩
     replace H : (impl_EdgesOf.l1 k1 t398 y399 t398 (x4_1.length : Int) 0) = some (r1,r2):=by first | (rw [hy399];with_reducible exact H) | (have H2_:=(Option.bind_some _ _).symm.trans H;rw [hy399];with_reducible exact H2_) | (have H2_:=(Option.bind_some _ _).symm.trans H;with_reducible exact H2_) | with_reducible exact H | (rw [hy399];exact H) | exact H
     have Ny399:=Aside0.mk hy399
     clear hy399
     have H':=Aside0.mk H
     clear H
     obtain ⟨Ao22,co22,eo22⟩:=Kd.R_slice HO_4.out
     subst eo22
     go_wp2_with (first | (go_at_call 35;(with_reducible refine (slices_SortFunc_2_int64_2_int64.calls (fun k_ => some k_ = (.slice Ao22 x4_1.length co22 : Value).ownBlock) (.slice Ao22 x4_1.length co22) x4_1 () t398 w _ ?side1 ?side2 A21.out).mono ?_);(case side1 => repeat (first | (with_reducible first | exact HB.out | apply below_alloc | apply pw_below_drewN | apply below_drew1 | refine below_set ?_ GE385.out) | exact HB.out));(case side2 => exact Kd.R_tight rfl HO_4.out);rintro e w23 ⟨rfl,hy0,hb,hkp⟩;replace BK385:=Aside0.mk (blk_kept (bk BK385) hkp (fun hs_ => (fun e_ => (Kd.R_ne HO_4.out BK385.out (by decide)) e_) hs_));replace HO_4:=Aside0.mk (Kd.R_reok rfl hy0 (fun k_ e_ => HO_4.out.1 k_ e_));replace HB:=Aside0.mk (hb);(try clear hb);(try clear hkp);(try clear hy0)) | ((with_reducible refine gate_dst (N:=29) rfl ?_);refine Kd.S_lit (Kd.slice 2 (Kd.int .i64)) _ 27 ?hg (N:=29) ?hd (xs:=([] : List (List Int))) (inner:=[]) (ok:=fun _ => True) (okp:=fun _ => True) ?hr ?hp (fun _ hk => hk) trivial (Below.refl _ _) (Nat.le_refl _) (by simp) ?_;(case hd => rfl);(case hg => rfl);(case hr => first | (go_simp;done) | (go_simp;rfl));(case hp => exact (Reps.none _ _));intro v400 w24 ho25 hb hg_ hnew_;clear hg_ hnew_;(first | rw [← Ny399.out] at ho25 | (simp only [Int.reduceToNat] at ho25;rw [← Ny399.out] at ho25));replace HO_4:=Aside0.mk (Kd.R_below (rO HO_4.out) hb);have HO401:=Aside0.mk (Kd.S_lower ho25 (below_size ib));replace BK385:=kb BK385 hb;replace HB:=sb hb;clear hb ho25))
     repeat (go_quiet (first | (go_at_call 35;(with_reducible refine (slices_SortFunc_2_int64_2_int64.calls (fun k_ => some k_ = (.slice Ao22 x4_1.length co22 : Value).ownBlock) (.slice Ao22 x4_1.length co22) x4_1 () t398 w _ ?side1 ?side2 A21.out).mono ?_);(case side1 => repeat (first | (with_reducible first | exact HB.out | apply below_alloc | apply pw_below_drewN | apply below_drew1 | refine below_set ?_ GE385.out) | exact HB.out));(case side2 => exact Kd.R_tight rfl HO_4.out);rintro e w23 ⟨rfl,hy0,hb,hkp⟩;replace BK385:=Aside0.mk (blk_kept (bk BK385) hkp (fun hs_ => (fun e_ => (Kd.R_ne HO_4.out BK385.out (by decide)) e_) hs_));replace HO_4:=Aside0.mk (Kd.R_reok rfl hy0 (fun k_ e_ => HO_4.out.1 k_ e_));replace HB:=Aside0.mk (hb);(try clear hb);(try clear hkp);(try clear hy0)) | ((with_reducible refine gate_dst (N:=29) rfl ?_);refine Kd.S_lit (Kd.slice 2 (Kd.int .i64)) _ 27 ?hg (N:=29) ?hd (xs:=([] : List (List Int))) (inner:=[]) (ok:=fun _ => True) (okp:=fun _ => True) ?hr ?hp (fun _ hk => hk) trivial (Below.refl _ _) (Nat.le_refl _) (by simp) ?_;(case hd => rfl);(case hg => rfl);(case hr => first | (go_simp;done) | (go_simp;rfl));(case hp => exact (Reps.none _ _));intro v400 w24 ho25 hb hg_ hnew_;clear hg_ hnew_;(first | rw [← Ny399.out] at ho25 | (simp only [Int.reduceToNat] at ho25;rw [← Ny399.out] at ho25));replace HO_4:=Aside0.mk (Kd.R_below (rO HO_4.out) hb);have HO401:=Aside0.mk (Kd.S_lower ho25 (below_size ib));replace BK385:=kb BK385 hb;replace HB:=sb hb;clear hb ho25));try go_wp2_with (first | (go_at_call 35;(with_reducible refine (slices_SortFunc_2_int64_2_int64.calls (fun k_ => some k_ = (.slice Ao22 x4_1.length co22 : Value).ownBlock) (.slice Ao22 x4_1.length co22) x4_1 () t398 w _ ?side1 ?side2 A21.out).mono ?_);(case side1 => repeat (first | (with_reducible first | exact HB.out | apply below_alloc | apply pw_below_drewN | apply below_drew1 | refine below_set ?_ GE385.out) | exact HB.out));(case side2 => exact Kd.R_tight rfl HO_4.out);rintro e w23 ⟨rfl,hy0,hb,hkp⟩;replace BK385:=Aside0.mk (blk_kept (bk BK385) hkp (fun hs_ => (fun e_ => (Kd.R_ne HO_4.out BK385.out (by decide)) e_) hs_));replace HO_4:=Aside0.mk (Kd.R_reok rfl hy0 (fun k_ e_ => HO_4.out.1 k_ e_));replace HB:=Aside0.mk (hb);(try clear hb);(try clear hkp);(try clear hy0)) | ((with_reducible refine gate_dst (N:=29) rfl ?_);refine Kd.S_lit (Kd.slice 2 (Kd.int .i64)) _ 27 ?hg (N:=29) ?hd (xs:=([] : List (List Int))) (inner:=[]) (ok:=fun _ => True) (okp:=fun _ => True) ?hr ?hp (fun _ hk => hk) trivial (Below.refl _ _) (Nat.le_refl _) (by simp) ?_;(case hd => rfl);(case hg => rfl);(case hr => first | (go_simp;done) | (go_simp;rfl));(case hp => exact (Reps.none _ _));intro v400 w24 ho25 hb hg_ hnew_;clear hg_ hnew_;(first | rw [← Ny399.out] at ho25 | (simp only [Int.reduceToNat] at ho25;rw [← Ny399.out] at ho25));replace HO_4:=Aside0.mk (Kd.R_below (rO HO_4.out) hb);have HO401:=Aside0.mk (Kd.S_lower ho25 (below_size ib));replace BK385:=kb BK385 hb;replace HB:=sb hb;clear hb ho25)))
     go_loopg [7,32] k1 (fun kq v7 v32 w' => ∃ (x7_2 : List (List Int)) (x32_2 : Int),v32 = .int .i64 x32_2 ∧ Aside0 (impl_EdgesOf.l1 kq t398 x7_2 t398 (x4_1.length : Int) x32_2 = some (r1,r2)) ∧ Aside0 (kq ≤ k1) ∧ Aside0 (Kd.R k67 67 w' w.heap.size (fun _ => True) (.slice Ao22 x4_1.length co22) t398) ∧ Aside0 (Kd.S (Kd.slice 2 (Kd.int .i64)) 27 w' w.heap.size (fun _ => True) v7 x7_2) ∧ Aside0 (Kd.R k67 67 w' w.heap.size (fun _ => True) (.slice Ao22 x4_1.length co22) t398) ∧ Aside0 (w'.heap[gb385]? = some (.cells #[.int .i64 a0_0,.int .i64 a0_1,(.slice A0_2 l0_2.length c0_2),(.slice A0_3 l0_3.length c0_3)] 33 (0,0))) ∧ Aside0 (Below w.heap.size w w'))
     case atStart => exact ⟨(y399),(0),(by first | rfl | (simp;done) | (simp [*];done)),H',⟨Nat.le_refl _⟩,⟨rO HO_4.out⟩,⟨sO HO401.out⟩,⟨rO HO_4.out⟩,⟨by exact bk BK385⟩,⟨ib⟩⟩
     case round =>
      clear H'
      try clear c1
      try clear p2
      try clear c3
      try clear p3
      try clear q3
      try clear hx3
      try clear p6
      try clear c10
      try clear c10b0
      try clear c11
      try clear c11b0
      try clear c12
      try clear c12b0
      try clear c14
      try clear c15
      try clear c16
      try clear hcz17_0
      try clear hcz17_1
      try clear hcz5_0
      try clear hcz5_1
      try clear hcz5_2
      try clear hcz5_3
      try clear hcz9_0
      try clear hcz9_1
      try clear hcz9_2
      try clear hcz9_3
      try clear hfz17_0
      try clear hfz17_1
      try clear hfz5_0
      try clear hfz5_1
      try clear hfz5_2
      try clear hfz5_3
      try clear hfz9_0
      try clear hfz9_1
      try clear hfz9_2
      try clear hfz9_3
      try clear hx390_0
      try clear hx390_1
      try clear p2
      try clear p390
      try clear q390
      obtain ⟨x7_2,x32_2,rfl,HA,HK2,HO_4,HO_7,HO_30,BK385,HB⟩:=hrel
      have hl4_2:=(Kd.R_reads' HO_4.out).1
      rw [hl4_2] at HO_4
      (try simp only [hl4_2])
      (try simp only [hl4_2] at BK385)
      (try simp only [hl4_2] at HO_7)
      (try simp only [hl4_2] at HO_30)
      have hl30_2:=(Kd.R_reads' HO_30.out).1
      rw [hl30_2] at HO_30
      (try simp only [hl30_2])
      (try simp only [hl30_2] at BK385)
      (try simp only [hl30_2] at HO_4)
      (try simp only [hl30_2] at HO_7)
      cases gk with
      | zero => exact absurd HA.out (by simp [impl_EdgesOf.l1])
      | succ k2 =>
       have H:=HA.out
       clear HA
       simp only [impl_EdgesOf.l1] at H
       by_cases c26 : x32_2 < (x4_1.length : Int)
       ·rw [if_pos c26] at H
        have c26b0 : decide (x32_2 < (x4_1.length : Int)) = true:=decide_eq_true c26
        clear c26
        by_cases c27 : 0 ≤ x32_2
        ·rw [if_pos c27] at H
         have c27b0 : decide (0 ≤ x32_2) = true:=decide_eq_true c27
         clear c27
         by_cases c28 : x32_2 < (t398.length : Int)
         ·rw [if_pos c28] at H
          have c28b0 : decide (x32_2 < (t398.length : Int)) = true:=decide_eq_true c28
          clear c28
          by_cases c29 : x32_2 = 0
          ·rw [if_pos c29] at H
           have c29b0 : (x32_2 == 0) = true:=beq_iff_eq.mpr c29
           have c29b1 : (x32_2 != 0) = false:=bne_eq_false_iff_eq.mpr c29
           clear c29
           obtain ⟨y404,hy404⟩ : ∃ y_ : List Int,y_ = (([(rd_T67 t398 x32_2).f0,(rd_T67 t398 x32_2).f1] : List Int)):=⟨_,rfl⟩
           replace H : (if x7_2.length < 5864062014805 then (impl_EdgesOf.l1 k2 t398 (x7_2 ++ [y404]) t398 (x4_1.length : Int) (wrap64 (x32_2 + 1))) else (none)) = some (r1,r2):=by first | (rw [hy404];with_reducible exact H) | (have H2_:=(Option.bind_some _ _).symm.trans H;rw [hy404];with_reducible exact H2_) | (have H2_:=(Option.bind_some _ _).symm.trans H;with_reducible exact H2_) | with_reducible exact H | (rw [hy404];exact H) | exact H
           have Ny404:=Aside0.mk hy404
           clear hy404
           by_cases c30 : x7_2.length < 5864062014805
           ·rw [if_pos c30] at H
            have LMc30:=Aside0.mk c30
            clear c30
            obtain ⟨y407,hy407⟩ : ∃ y_ : List (List Int),y_ = (x7_2 ++ [y404]):=⟨_,rfl⟩
            replace H : (impl_EdgesOf.l1 k2 t398 y407 t398 (x4_1.length : Int) (wrap64 (x32_2 + 1))) = some (r1,r2):=by first | (rw [hy407];with_reducible exact H) | (have H2_:=(Option.bind_some _ _).symm.trans H;rw [hy407];with_reducible exact H2_) | (have H2_:=(Option.bind_some _ _).symm.trans H;with_reducible exact H2_) | with_reducible exact H | (rw [hy407];exact H) | exact H
            have Ny407:=Aside0.mk hy407
            clear hy407
            have H':=Aside0.mk H
            clear H
            have p402 : 0 ≤ (x32_2 : Int):=da
            have q402 : x32_2 < (t398.length : Int):=da
            obtain ⟨ad402,e402,hx402_0,hx402_1⟩:=at_T67 (Kd.R_reads' HO_30.out).2.2 x32_2 p402 q402
            cases e402
            replace p402:=eq_true p402
            replace q402:=eq_true q402
            go_wp2_with (first | ((with_reducible refine gate_dst (N:=9) rfl ?_);refine bx (cs:=#[.int .i64 0,.int .i64 0]) (t:=67) ?_;intro gb403 hg w31 hbox hb;replace HO_4:=Aside0.mk (Kd.R_below (Kd.R_elderB (rO HO_4.out) gb403 (Nat.le_of_eq hg.symm)) hb);replace HO_7:=Aside0.mk (Kd.S_below (sO HO_7.out) hb);replace HO_30:=Aside0.mk (Kd.R_below (Kd.R_elderB (rO HO_30.out) gb403 (Nat.le_of_eq hg.symm)) hb);have BK403:=Aside0.mk (hbox);have GW403:=zb hg;have GE403:=zb hg;replace HB:=sb hb;have NB385_403:=nl BK385 hg;have NB403_385:=ng BK385 hg;replace BK385:=kb BK385 hb;clear hb hbox hg;have hnb32:=NB403_385.out;have hnc32:=NB385_403.out;have hcz33_0:=ck BK403 0;have hcz33_1:=ck BK403 1;have hfz33_0:=blk_frozen BK403.out 0;have hfz33_1:=blk_frozen BK403.out 1) | ((with_reducible refine gate_dst (N:=53) rfl ?_);refine Kd.R_lit (Kd.int .i64) _ 2 ?hg (N:=53) ?hd (xs:=([(rd_T67 t398 x32_2).f0,(rd_T67 t398 x32_2).f1] : List Int)) (inner:=[.int .i64 ((rd_T67 t398 x32_2).f0),.int .i64 ((rd_T67 t398 x32_2).f1)]) (ok:=fun _ => True) (okp:=fun _ => True) ?hr ?hp (fun _ hk => hk) trivial (Below.refl _ _) (Nat.le_refl _) (by simp) ?_;(case hd => rfl);(case hg => rfl);(case hr => first | (go_simp;done) | (go_simp;rfl));(case hp => exact (Reps.one (show Kd.M (Kd.int .i64) _ _ _ ((rd_T67 t398 x32_2).f0) [.int .i64 ((rd_T67 t398 x32_2).f0)] from rfl) (Reps.one (show Kd.M (Kd.int .i64) _ _ _ ((rd_T67 t398 x32_2).f1) [.int .i64 ((rd_T67 t398 x32_2).f1)] from rfl) (Reps.none _ _))));intro v405 w34 ho35 hb hg_ hnew_;clear hg_ hnew_;(first | rw [← Ny404.out] at ho35 | (simp only [Int.reduceToNat] at ho35;rw [← Ny404.out] at ho35));replace HO_4:=Aside0.mk (Kd.R_below (rO ((Kd.R_mono (Kd.R_far (p:=⟨gb403,1,none⟩) (Kd.R_far (p:=⟨gb403,0,none⟩) (Kd.R_mono HO_4.out (fun k_ hk => (⟨hk,hk.2⟩ : _ ∧ k_ ≠ gb403))) (fun _ hk => hk.2) (.int .i64 ((rd_T67 t398 x32_2).f0))) (fun _ hk => hk.2) (.int .i64 ((rd_T67 t398 x32_2).f1))) (fun _ h_ => h_.1)))) hb);replace HO_7:=Aside0.mk (Kd.S_elder' (sO ((Kd.S_mono (Kd.S_far (p:=⟨gb403,1,none⟩) (Kd.S_far (p:=⟨gb403,0,none⟩) (Kd.S_types HO_7.out BK403.out (by decide)) (fun _ hk => hk.2) (.int .i64 ((rd_T67 t398 x32_2).f0))) (fun _ hk => hk.2) (.int .i64 ((rd_T67 t398 x32_2).f1))) (fun _ h_ => h_.1)))) (Kd.R_base ho35) hb);replace HO_30:=Aside0.mk (Kd.R_below (rO ((Kd.R_mono (Kd.R_far (p:=⟨gb403,1,none⟩) (Kd.R_far (p:=⟨gb403,0,none⟩) (Kd.R_mono HO_30.out (fun k_ hk => (⟨hk,hk.2⟩ : _ ∧ k_ ≠ gb403))) (fun _ hk => hk.2) (.int .i64 ((rd_T67 t398 x32_2).f0))) (fun _ hk => hk.2) (.int .i64 ((rd_T67 t398 x32_2).f1))) (fun _ h_ => h_.1)))) hb);have HO406:=Aside0.mk (Kd.R_lower ho35 (below_size ib));replace BK385:=Aside0.mk (blk_below (g:=gb385) (o:=.cells #[.int .i64 a0_0,.int .i64 a0_1,.slice A0_2 l0_2.length c0_2,.slice A0_3 l0_3.length c0_3] 33 (0,0)) (by refine bF NB385_403.out ?_;refine bF NB385_403.out ?_;exact bk BK385) hb);replace BK403:=Aside0.mk (blk_below (g:=gb403) (o:=.cells #[.int .i64 ((rd_T67 t398 x32_2).f0),.int .i64 ((rd_T67 t398 x32_2).f1)] 67 (0,0)) (by refine bP (cs:=#[.int .i64 ((rd_T67 t398 x32_2).f0),.int .i64 0]) 1 ?_;refine bP (cs:=#[.int .i64 0,.int .i64 0]) 0 ?_;exact bk BK403) hb);replace HB:=sb hb;clear hb ho35;obtain ⟨Ao37,co37,eo37⟩:=Kd.R_slice HO406.out;subst eo37) | ((with_reducible refine gate_builtin (b:=.append) (xs:=#[.tmp 48,.tmp 54]) rfl ?_);at_builtin;refine Kd.S_append (Kd.slice 2 (Kd.int .i64)) (w0:=w) w.heap.size rfl (.tmp 48) (.tmp 54) 40 27 (.slice none 0 0) 24 rfl Try.underlying40 info27 rfl (by decide) (by omega) u7 x7_2 y404 [.slice Ao37 y404.length co37] (fun _ => True) (fun k_ => some k_ = (.slice Ao37 y404.length co37 : Value).ownBlock) rfl rfl ?aP (fun k_ hk_ => ((Kd.R_mono (ok':=fun k_ => ((fun _ => True)) k_ ∧ some k_ ≠ (u7 : Value).ownBlock) (Kd.R_apart' (HO406.out) (Kd.S_typed HO_7.out) (by decide)) (fun k_ hk => ⟨trivial,hk.2⟩))).1 k_ hk_.symm) ?aF ?aO ?aB ?aS ?aL ?_;(case aP => exact Kd.M_row (Kd.R_mono (Kd.R_tight rfl (Kd.R_mono (ok':=fun k_ => ((fun _ => True)) k_ ∧ some k_ ≠ (u7 : Value).ownBlock) (Kd.R_apart' (HO406.out) (Kd.S_typed HO_7.out) (by decide)) (fun k_ hk => ⟨trivial,hk.2⟩))) (fun _ h_ => h_)));(case aB => exact ib);(case aF => exact (fun _ _ => trivial));(case aO => exact (sO (Kd.S_mono HO_7.out (fun k_ hk => ⟨trivial,fun e_ => hk.2 e_⟩))));(case aS => exact (below_size ib));(case aL => have:=LMc30.out;omega);intro v408 w36 ho hb hg hat;rw [← Ny407.out] at ho;replace HO_4:=Aside0.mk (Kd.R_over' (rO HO_4.out) (Kd.S_typed (sO HO_7.out)) (by decide) hg);replace HO_30:=Aside0.mk (Kd.R_over' (rO HO_30.out) (Kd.S_typed (sO HO_7.out)) (by decide) hg);replace BK385:=Aside0.mk (blk_grown (g:=gb385) (o:=.cells #[.int .i64 a0_0,.int .i64 a0_1,.slice A0_2 l0_2.length c0_2,.slice A0_3 l0_3.length c0_3] 33 (0,0)) (bk BK385) hg (Kd.S_ne HO_7.out BK385.out (by decide)));replace BK403:=Aside0.mk (blk_grown (g:=gb403) (o:=.cells #[.int .i64 ((rd_T67 t398 x32_2).f0),.int .i64 ((rd_T67 t398 x32_2).f1)] 67 (0,0)) (bk BK403) hg (Kd.S_ne HO_7.out BK403.out (by decide)));replace HB:=Aside0.mk (hb);have HO409:=Aside0.mk (ho);clear HO_7 HO406;clear ho hb hg hat))
            repeat (go_quiet (first | ((with_reducible refine gate_dst (N:=9) rfl ?_);refine bx (cs:=#[.int .i64 0,.int .i64 0]) (t:=67) ?_;intro gb403 hg w31 hbox hb;replace HO_4:=Aside0.mk (Kd.R_below (Kd.R_elderB (rO HO_4.out) gb403 (Nat.le_of_eq hg.symm)) hb);replace HO_7:=Aside0.mk (Kd.S_below (sO HO_7.out) hb);replace HO_30:=Aside0.mk (Kd.R_below (Kd.R_elderB (rO HO_30.out) gb403 (Nat.le_of_eq hg.symm)) hb);have BK403:=Aside0.mk (hbox);have GW403:=zb hg;have GE403:=zb hg;replace HB:=sb hb;have NB385_403:=nl BK385 hg;have NB403_385:=ng BK385 hg;replace BK385:=kb BK385 hb;clear hb hbox hg;have hnb32:=NB403_385.out;have hnc32:=NB385_403.out;have hcz33_0:=ck BK403 0;have hcz33_1:=ck BK403 1;have hfz33_0:=blk_frozen BK403.out 0;have hfz33_1:=blk_frozen BK403.out 1) | ((with_reducible refine gate_dst (N:=53) rfl ?_);refine Kd.R_lit (Kd.int .i64) _ 2 ?hg (N:=53) ?hd (xs:=([(rd_T67 t398 x32_2).f0,(rd_T67 t398 x32_2).f1] : List Int)) (inner:=[.int .i64 ((rd_T67 t398 x32_2).f0),.int .i64 ((rd_T67 t398 x32_2).f1)]) (ok:=fun _ => True) (okp:=fun _ => True) ?hr ?hp (fun _ hk => hk) trivial (Below.refl _ _) (Nat.le_refl _) (by simp) ?_;(case hd => rfl);(case hg => rfl);(case hr => first | (go_simp;done) | (go_simp;rfl));(case hp => exact (Reps.one (show Kd.M (Kd.int .i64) _ _ _ ((rd_T67 t398 x32_2).f0) [.int .i64 ((rd_T67 t398 x32_2).f0)] from rfl) (Reps.one (show Kd.M (Kd.int .i64) _ _ _ ((rd_T67 t398 x32_2).f1) [.int .i64 ((rd_T67 t398 x32_2).f1)] from rfl) (Reps.none _ _))));intro v405 w34 ho35 hb hg_ hnew_;clear hg_ hnew_;(first | rw [← Ny404.out] at ho35 | (simp only [Int.reduceToNat] at ho35;rw [← Ny404.out] at ho35));replace HO_4:=Aside0.mk (Kd.R_below (rO ((Kd.R_mono (Kd.R_far (p:=⟨gb403,1,none⟩) (Kd.R_far (p:=⟨gb403,0,none⟩) (Kd.R_mono HO_4.out (fun k_ hk => (⟨hk,hk.2⟩ : _ ∧ k_ ≠ gb403))) (fun _ hk => hk.2) (.int .i64 ((rd_T67 t398 x32_2).f0))) (fun _ hk => hk.2) (.int .i64 ((rd_T67 t398 x32_2).f1))) (fun _ h_ => h_.1)))) hb);replace HO_7:=Aside0.mk (Kd.S_elder' (sO ((Kd.S_mono (Kd.S_far (p:=⟨gb403,1,none⟩) (Kd.S_far (p:=⟨gb403,0,none⟩) (Kd.S_types HO_7.out BK403.out (by decide)) (fun _ hk => hk.2) (.int .i64 ((rd_T67 t398 x32_2).f0))) (fun _ hk => hk.2) (.int .i64 ((rd_T67 t398 x32_2).f1))) (fun _ h_ => h_.1)))) (Kd.R_base ho35) hb);replace HO_30:=Aside0.mk (Kd.R_below (rO ((Kd.R_mono (Kd.R_far (p:=⟨gb403,1,none⟩) (Kd.R_far (p:=⟨gb403,0,none⟩) (Kd.R_mono HO_30.out (fun k_ hk => (⟨hk,hk.2⟩ : _ ∧ k_ ≠ gb403))) (fun _ hk => hk.2) (.int .i64 ((rd_T67 t398 x32_2).f0))) (fun _ hk => hk.2) (.int .i64 ((rd_T67 t398 x32_2).f1))) (fun _ h_ => h_.1)))) hb);have HO406:=Aside0.mk (Kd.R_lower ho35 (below_size ib));replace BK385:=Aside0.mk (blk_below (g:=gb385) (o:=.cells #[.int .i64 a0_0,.int .i64 a0_1,.slice A0_2 l0_2.length c0_2,.slice A0_3 l0_3.length c0_3] 33 (0,0)) (by refine bF NB385_403.out ?_;refine bF NB385_403.out ?_;exact bk BK385) hb);replace BK403:=Aside0.mk (blk_below (g:=gb403) (o:=.cells #[.int .i64 ((rd_T67 t398 x32_2).f0),.int .i64 ((rd_T67 t398 x32_2).f1)] 67 (0,0)) (by refine bP (cs:=#[.int .i64 ((rd_T67 t398 x32_2).f0),.int .i64 0]) 1 ?_;refine bP (cs:=#[.int .i64 0,.int .i64 0]) 0 ?_;exact bk BK403) hb);replace HB:=sb hb;clear hb ho35;obtain ⟨Ao37,co37,eo37⟩:=Kd.R_slice HO406.out;subst eo37) | ((with_reducible refine gate_builtin (b:=.append) (xs:=#[.tmp 48,.tmp 54]) rfl ?_);at_builtin;refine Kd.S_append (Kd.slice 2 (Kd.int .i64)) (w0:=w) w.heap.size rfl (.tmp 48) (.tmp 54) 40 27 (.slice none 0 0) 24 rfl Try.underlying40 info27 rfl (by decide) (by omega) u7 x7_2 y404 [.slice Ao37 y404.length co37] (fun _ => True) (fun k_ => some k_ = (.slice Ao37 y404.length co37 : Value).ownBlock) rfl rfl ?aP (fun k_ hk_ => ((Kd.R_mono (ok':=fun k_ => ((fun _ => True)) k_ ∧ some k_ ≠ (u7 : Value).ownBlock) (Kd.R_apart' (HO406.out) (Kd.S_typed HO_7.out) (by decide)) (fun k_ hk => ⟨trivial,hk.2⟩))).1 k_ hk_.symm) ?aF ?aO ?aB ?aS ?aL ?_;(case aP => exact Kd.M_row (Kd.R_mono (Kd.R_tight rfl (Kd.R_mono (ok':=fun k_ => ((fun _ => True)) k_ ∧ some k_ ≠ (u7 : Value).ownBlock) (Kd.R_apart' (HO406.out) (Kd.S_typed HO_7.out) (by decide)) (fun k_ hk => ⟨trivial,hk.2⟩))) (fun _ h_ => h_)));(case aB => exact ib);(case aF => exact (fun _ _ => trivial));(case aO => exact (sO (Kd.S_mono HO_7.out (fun k_ hk => ⟨trivial,fun e_ => hk.2 e_⟩))));(case aS => exact (below_size ib));(case aL => have:=LMc30.out;omega);intro v408 w36 ho hb hg hat;rw [← Ny407.out] at ho;replace HO_4:=Aside0.mk (Kd.R_over' (rO HO_4.out) (Kd.S_typed (sO HO_7.out)) (by decide) hg);replace HO_30:=Aside0.mk (Kd.R_over' (rO HO_30.out) (Kd.S_typed (sO HO_7.out)) (by decide) hg);replace BK385:=Aside0.mk (blk_grown (g:=gb385) (o:=.cells #[.int .i64 a0_0,.int .i64 a0_1,.slice A0_2 l0_2.length c0_2,.slice A0_3 l0_3.length c0_3] 33 (0,0)) (bk BK385) hg (Kd.S_ne HO_7.out BK385.out (by decide)));replace BK403:=Aside0.mk (blk_grown (g:=gb403) (o:=.cells #[.int .i64 ((rd_T67 t398 x32_2).f0),.int .i64 ((rd_T67 t398 x32_2).f1)] 67 (0,0)) (bk BK403) hg (Kd.S_ne HO_7.out BK403.out (by decide)));replace HB:=Aside0.mk (hb);have HO409:=Aside0.mk (ho);clear HO_7 HO406;clear ho hb hg hat));try go_wp2_with (first | ((with_reducible refine gate_dst (N:=9) rfl ?_);refine bx (cs:=#[.int .i64 0,.int .i64 0]) (t:=67) ?_;intro gb403 hg w31 hbox hb;replace HO_4:=Aside0.mk (Kd.R_below (Kd.R_elderB (rO HO_4.out) gb403 (Nat.le_of_eq hg.symm)) hb);replace HO_7:=Aside0.mk (Kd.S_below (sO HO_7.out) hb);replace HO_30:=Aside0.mk (Kd.R_below (Kd.R_elderB (rO HO_30.out) gb403 (Nat.le_of_eq hg.symm)) hb);have BK403:=Aside0.mk (hbox);have GW403:=zb hg;have GE403:=zb hg;replace HB:=sb hb;have NB385_403:=nl BK385 hg;have NB403_385:=ng BK385 hg;replace BK385:=kb BK385 hb;clear hb hbox hg;have hnb32:=NB403_385.out;have hnc32:=NB385_403.out;have hcz33_0:=ck BK403 0;have hcz33_1:=ck BK403 1;have hfz33_0:=blk_frozen BK403.out 0;have hfz33_1:=blk_frozen BK403.out 1) | ((with_reducible refine gate_dst (N:=53) rfl ?_);refine Kd.R_lit (Kd.int .i64) _ 2 ?hg (N:=53) ?hd (xs:=([(rd_T67 t398 x32_2).f0,(rd_T67 t398 x32_2).f1] : List Int)) (inner:=[.int .i64 ((rd_T67 t398 x32_2).f0),.int .i64 ((rd_T67 t398 x32_2).f1)]) (ok:=fun _ => True) (okp:=fun _ => True) ?hr ?hp (fun _ hk => hk) trivial (Below.refl _ _) (Nat.le_refl _) (by simp) ?_;(case hd => rfl);(case hg => rfl);(case hr => first | (go_simp;done) | (go_simp;rfl));(case hp => exact (Reps.one (show Kd.M (Kd.int .i64) _ _ _ ((rd_T67 t398 x32_2).f0) [.int .i64 ((rd_T67 t398 x32_2).f0)] from rfl) (Reps.one (show Kd.M (Kd.int .i64) _ _ _ ((rd_T67 t398 x32_2).f1) [.int .i64 ((rd_T67 t398 x32_2).f1)] from rfl) (Reps.none _ _))));intro v405 w34 ho35 hb hg_ hnew_;clear hg_ hnew_;(first | rw [← Ny404.out] at ho35 | (simp only [Int.reduceToNat] at ho35;rw [← Ny404.out] at ho35));replace HO_4:=Aside0.mk (Kd.R_below (rO ((Kd.R_mono (Kd.R_far (p:=⟨gb403,1,none⟩) (Kd.R_far (p:=⟨gb403,0,none⟩) (Kd.R_mono HO_4.out (fun k_ hk => (⟨hk,hk.2⟩ : _ ∧ k_ ≠ gb403))) (fun _ hk => hk.2) (.int .i64 ((rd_T67 t398 x32_2).f0))) (fun _ hk => hk.2) (.int .i64 ((rd_T67 t398 x32_2).f1))) (fun _ h_ => h_.1)))) hb);replace HO_7:=Aside0.mk (Kd.S_elder' (sO ((Kd.S_mono (Kd.S_far (p:=⟨gb403,1,none⟩) (Kd.S_far (p:=⟨gb403,0,none⟩) (Kd.S_types HO_7.out BK403.out (by decide)) (fun _ hk => hk.2) (.int .i64 ((rd_T67 t398 x32_2).f0))) (fun _ hk => hk.2) (.int .i64 ((rd_T67 t398 x32_2).f1))) (fun _ h_ => h_.1)))) (Kd.R_base ho35) hb);replace HO_30:=Aside0.mk (Kd.R_below (rO ((Kd.R_mono (Kd.R_far (p:=⟨gb403,1,none⟩) (Kd.R_far (p:=⟨gb403,0,none⟩) (Kd.R_mono HO_30.out (fun k_ hk => (⟨hk,hk.2⟩ : _ ∧ k_ ≠ gb403))) (fun _ hk => hk.2) (.int .i64 ((rd_T67 t398 x32_2).f0))) (fun _ hk => hk.2) (.int .i64 ((rd_T67 t398 x32_2).f1))) (fun _ h_ => h_.1)))) hb);have HO406:=Aside0.mk (Kd.R_lower ho35 (below_size ib));replace BK385:=Aside0.mk (blk_below (g:=gb385) (o:=.cells #[.int .i64 a0_0,.int .i64 a0_1,.slice A0_2 l0_2.length c0_2,.slice A0_3 l0_3.length c0_3] 33 (0,0)) (by refine bF NB385_403.out ?_;refine bF NB385_403.out ?_;exact bk BK385) hb);replace BK403:=Aside0.mk (blk_below (g:=gb403) (o:=.cells #[.int .i64 ((rd_T67 t398 x32_2).f0),.int .i64 ((rd_T67 t398 x32_2).f1)] 67 (0,0)) (by refine bP (cs:=#[.int .i64 ((rd_T67 t398 x32_2).f0),.int .i64 0]) 1 ?_;refine bP (cs:=#[.int .i64 0,.int .i64 0]) 0 ?_;exact bk BK403) hb);replace HB:=sb hb;clear hb ho35;obtain ⟨Ao37,co37,eo37⟩:=Kd.R_slice HO406.out;subst eo37) | ((with_reducible refine gate_builtin (b:=.append) (xs:=#[.tmp 48,.tmp 54]) rfl ?_);at_builtin;refine Kd.S_append (Kd.slice 2 (Kd.int .i64)) (w0:=w) w.heap.size rfl (.tmp 48) (.tmp 54) 40 27 (.slice none 0 0) 24 rfl Try.underlying40 info27 rfl (by decide) (by omega) u7 x7_2 y404 [.slice Ao37 y404.length co37] (fun _ => True) (fun k_ => some k_ = (.slice Ao37 y404.length co37 : Value).ownBlock) rfl rfl ?aP (fun k_ hk_ => ((Kd.R_mono (ok':=fun k_ => ((fun _ => True)) k_ ∧ some k_ ≠ (u7 : Value).ownBlock) (Kd.R_apart' (HO406.out) (Kd.S_typed HO_7.out) (by decide)) (fun k_ hk => ⟨trivial,hk.2⟩))).1 k_ hk_.symm) ?aF ?aO ?aB ?aS ?aL ?_;(case aP => exact Kd.M_row (Kd.R_mono (Kd.R_tight rfl (Kd.R_mono (ok':=fun k_ => ((fun _ => True)) k_ ∧ some k_ ≠ (u7 : Value).ownBlock) (Kd.R_apart' (HO406.out) (Kd.S_typed HO_7.out) (by decide)) (fun k_ hk => ⟨trivial,hk.2⟩))) (fun _ h_ => h_)));(case aB => exact ib);(case aF => exact (fun _ _ => trivial));(case aO => exact (sO (Kd.S_mono HO_7.out (fun k_ hk => ⟨trivial,fun e_ => hk.2 e_⟩))));(case aS => exact (below_size ib));(case aL => have:=LMc30.out;omega);intro v408 w36 ho hb hg hat;rw [← Ny407.out] at ho;replace HO_4:=Aside0.mk (Kd.R_over' (rO HO_4.out) (Kd.S_typed (sO HO_7.out)) (by decide) hg);replace HO_30:=Aside0.mk (Kd.R_over' (rO HO_30.out) (Kd.S_typed (sO HO_7.out)) (by decide) hg);replace BK385:=Aside0.mk (blk_grown (g:=gb385) (o:=.cells #[.int .i64 a0_0,.int .i64 a0_1,.slice A0_2 l0_2.length c0_2,.slice A0_3 l0_3.length c0_3] 33 (0,0)) (bk BK385) hg (Kd.S_ne HO_7.out BK385.out (by decide)));replace BK403:=Aside0.mk (blk_grown (g:=gb403) (o:=.cells #[.int .i64 ((rd_T67 t398 x32_2).f0),.int .i64 ((rd_T67 t398 x32_2).f1)] 67 (0,0)) (bk BK403) hg (Kd.S_ne HO_7.out BK403.out (by decide)));replace HB:=Aside0.mk (hb);have HO409:=Aside0.mk (ho);clear HO_7 HO406;clear ho hb hg hat)))
            (try simp only [← hl4_2])
            go_roundg k2
            case measure => have:=HK1.out;have:=HK2.out;omega
            case rel => exact ⟨(y407),(wrap64 (x32_2 + 1)),(by first | rfl | (simp;done) | (simp [*];done)),H',⟨by have:=HK1.out;have:=HK2.out;omega⟩,⟨by (try simp only [hl4_2]);(try simp only [hl30_2]);(with_reducible repeat (first | apply Kd.R_alloc | apply Kd.R_drewN | apply Kd.R_drew));exact Kd.R_mono HO_4.out (fun _ hk => trivial)⟩,⟨by (try simp only [hl4_2]);(try simp only [hl30_2]);(with_reducible repeat (first | apply Kd.S_alloc | apply Kd.S_drewN | apply Kd.S_drew));exact HO409.out⟩,⟨by (try simp only [hl4_2]);(try simp only [hl30_2]);(with_reducible repeat (first | apply Kd.R_alloc | apply Kd.R_drewN | apply Kd.R_drew));exact Kd.R_mono HO_30.out (fun _ hk => trivial)⟩,⟨by (try simp only [hl4_2]);(try simp only [hl30_2]);exact bk BK385⟩,⟨ib⟩⟩
           ·rw [if_neg c30] at H
            exact absurd H (by simp)
          ·rw [if_neg c29] at H
           have c29b0 : (x32_2 == 0) = false:=beq_eq_false_iff_ne.mpr c29
           have c29b1 : (x32_2 != 0) = true:=bne_iff_ne.mpr c29
           obtain ⟨ji38,hji38⟩ : ∃ j_ : Int,(wrap64 (x32_2 - 1)) = j_:=⟨_,rfl⟩
           replace H : (if 0 ≤ (ji38) then (if (ji38) < (t398.length : Int) then (if (!(((rd_T67 t398 x32_2).f0) == ((rd_T67 t398 (ji38)).f0)) || (!(((rd_T67 t398 x32_2).f1) == ((rd_T67 t398 (ji38)).f1)))) = true then (if x7_2.length < 5864062014805 then (impl_EdgesOf.l1 k2 t398 (x7_2 ++ [(([(rd_T67 t398 x32_2).f0,(rd_T67 t398 x32_2).f1] : List Int))]) t398 (x4_1.length : Int) (wrap64 (x32_2 + 1))) else (none)) else (impl_EdgesOf.l1 k2 t398 x7_2 t398 (x4_1.length : Int) (wrap64 (x32_2 + 1)))) else (none)) else (none)) = some (r1,r2):=by first | (rw [hji38] at H;exact H) | (simp only [hji38] at H ⊢;exact H)
           have hji38w : (IntKind.i64.wrap (x32_2 - 1)) = ji38:=(i64_w _).trans hji38
           by_cases c39 : 0 ≤ (ji38)
           ·rw [if_pos c39] at H
            have c39b0 : decide (0 ≤ (ji38)) = true:=decide_eq_true c39
            clear c39
            by_cases c40 : (ji38) < (t398.length : Int)
            ·rw [if_pos c40] at H
             have c40b0 : decide ((ji38) < (t398.length : Int)) = true:=decide_eq_true c40
             clear c40
             by_cases c41 : (!(((rd_T67 t398 x32_2).f0) == ((rd_T67 t398 (ji38)).f0)) || (!(((rd_T67 t398 x32_2).f1) == ((rd_T67 t398 (ji38)).f1)))) = true
             ·rw [if_pos c41] at H
              have c41b0 : (!(((rd_T67 t398 x32_2).f0) == ((rd_T67 t398 (ji38)).f0)) || (!(((rd_T67 t398 x32_2).f1) == ((rd_T67 t398 (ji38)).f1)))) = true:=c41
              clear c41
              obtain ⟨y411,hy411⟩ : ∃ y_ : List Int,y_ = (([(rd_T67 t398 x32_2).f0,(rd_T67 t398 x32_2).f1] : List Int)):=⟨_,rfl⟩
              replace H : (if x7_2.length < 5864062014805 then (impl_EdgesOf.l1 k2 t398 (x7_2 ++ [y411]) t398 (x4_1.length : Int) (wrap64 (x32_2 + 1))) else (none)) = some (r1,r2):=by first | (rw [hy411];with_reducible exact H) | (have H2_:=(Option.bind_some _ _).symm.trans H;rw [hy411];with_reducible exact H2_) | (have H2_:=(Option.bind_some _ _).symm.trans H;with_reducible exact H2_) | with_reducible exact H | (rw [hy411];exact H) | exact H
              have Ny411:=Aside0.mk hy411
              clear hy411
              by_cases c42 : x7_2.length < 5864062014805
              ·rw [if_pos c42] at H
               have LMc42:=Aside0.mk c42
               clear c42
               obtain ⟨y414,hy414⟩ : ∃ y_ : List (List Int),y_ = (x7_2 ++ [y411]):=⟨_,rfl⟩
               replace H : (impl_EdgesOf.l1 k2 t398 y414 t398 (x4_1.length : Int) (wrap64 (x32_2 + 1))) = some (r1,r2):=by first | (rw [hy414];with_reducible exact H) | (have H2_:=(Option.bind_some _ _).symm.trans H;rw [hy414];with_reducible exact H2_) | (have H2_:=(Option.bind_some _ _).symm.trans H;with_reducible exact H2_) | with_reducible exact H | (rw [hy414];exact H) | exact H
               have Ny414:=Aside0.mk hy414
               clear hy414
               have H':=Aside0.mk H
               clear H
               have p402 : 0 ≤ (x32_2 : Int):=da
               have q402 : x32_2 < (t398.length : Int):=da
               obtain ⟨ad402,e402,hx402_0,hx402_1⟩:=at_T67 (Kd.R_reads' HO_30.out).2.2 x32_2 p402 q402
               cases e402
               replace p402:=eq_true p402
               replace q402:=eq_true q402
               go_wp2_with (first | ((with_reducible refine gate_dst (N:=9) rfl ?_);refine bx (cs:=#[.int .i64 0,.int .i64 0]) (t:=67) ?_;intro gb403 hg w43 hbox hb;replace HO_4:=Aside0.mk (Kd.R_below (Kd.R_elderB (rO HO_4.out) gb403 (Nat.le_of_eq hg.symm)) hb);replace HO_7:=Aside0.mk (Kd.S_below (sO HO_7.out) hb);replace HO_30:=Aside0.mk (Kd.R_below (Kd.R_elderB (rO HO_30.out) gb403 (Nat.le_of_eq hg.symm)) hb);have BK403:=Aside0.mk (hbox);have GW403:=zb hg;have GE403:=zb hg;replace HB:=sb hb;have NB385_403:=nl BK385 hg;have NB403_385:=ng BK385 hg;replace BK385:=kb BK385 hb;clear hb hbox hg;have hnb44:=NB403_385.out;have hnc44:=NB385_403.out;have hcz45_0:=ck BK403 0;have hcz45_1:=ck BK403 1;have hfz45_0:=blk_frozen BK403.out 0;have hfz45_1:=blk_frozen BK403.out 1;have p410 : 0 ≤ ((ji38) : Int):=da;have q410 : (ji38) < (t398.length : Int):=da;obtain ⟨ad410,e410,hx410_0,hx410_1⟩:=at_T67 (Kd.R_reads' HO_4.out).2.2 (ji38) p410 q410;obtain rfl : ad402 = ad410:=(by injection e410);have hn410_0 : ad402.block ≠ gb403:=(by first | exact Kd.own_blk (Kd.R_ne HO_4.out BK403.out (by decide)) | exact Kd.own_blk (Kd.R_away HO_4.out (fun _ hk => hk.2)));have hn410_1 : ad402.block ≠ gb403:=(by first | exact Kd.own_blk (Kd.R_ne HO_4.out BK403.out (by decide)) | exact Kd.own_blk (Kd.R_away HO_4.out (fun _ hk => hk.2)));replace hx410_0:=cf hn410_0 hx410_0 0 (.int .i64 ((rd_T67 t398 x32_2).f0));replace hx410_1:=cf hn410_0 hx410_1 0 (.int .i64 ((rd_T67 t398 x32_2).f0));replace hx410_0:=cf hn410_1 hx410_0 1 (.int .i64 ((rd_T67 t398 x32_2).f1));replace hx410_1:=cf hn410_1 hx410_1 1 (.int .i64 ((rd_T67 t398 x32_2).f1));(try have hy410_0:=fun (n_ : Nat) => (show ((((w43.drewN n_).setCell ⟨gb403,0,none⟩ (.int .i64 ((rd_T67 t398 x32_2).f0))).setCell ⟨gb403,1,none⟩ (.int .i64 ((rd_T67 t398 x32_2).f1)))).cell? _ = some _ from hx410_0));(try have hy410_1:=fun (n_ : Nat) => (show ((((w43.drewN n_).setCell ⟨gb403,0,none⟩ (.int .i64 ((rd_T67 t398 x32_2).f0))).setCell ⟨gb403,1,none⟩ (.int .i64 ((rd_T67 t398 x32_2).f1)))).cell? _ = some _ from hx410_1));clear hn410_0;clear hn410_1;replace p410:=eq_true p410;replace q410:=eq_true q410) | ((with_reducible refine gate_dst (N:=53) rfl ?_);refine Kd.R_lit (Kd.int .i64) _ 2 ?hg (N:=53) ?hd (xs:=([(rd_T67 t398 x32_2).f0,(rd_T67 t398 x32_2).f1] : List Int)) (inner:=[.int .i64 ((rd_T67 t398 x32_2).f0),.int .i64 ((rd_T67 t398 x32_2).f1)]) (ok:=fun _ => True) (okp:=fun _ => True) ?hr ?hp (fun _ hk => hk) trivial (Below.refl _ _) (Nat.le_refl _) (by simp) ?_;(case hd => rfl);(case hg => rfl);(case hr => first | (go_simp;done) | (go_simp;rfl));(case hp => exact (Reps.one (show Kd.M (Kd.int .i64) _ _ _ ((rd_T67 t398 x32_2).f0) [.int .i64 ((rd_T67 t398 x32_2).f0)] from rfl) (Reps.one (show Kd.M (Kd.int .i64) _ _ _ ((rd_T67 t398 x32_2).f1) [.int .i64 ((rd_T67 t398 x32_2).f1)] from rfl) (Reps.none _ _))));intro v412 w46 ho47 hb hg_ hnew_;clear hg_ hnew_;(first | rw [← Ny411.out] at ho47 | (simp only [Int.reduceToNat] at ho47;rw [← Ny411.out] at ho47));replace HO_4:=Aside0.mk (Kd.R_below (rO ((Kd.R_mono (Kd.R_far (p:=⟨gb403,1,none⟩) (Kd.R_far (p:=⟨gb403,0,none⟩) (Kd.R_mono HO_4.out (fun k_ hk => (⟨hk,hk.2⟩ : _ ∧ k_ ≠ gb403))) (fun _ hk => hk.2) (.int .i64 ((rd_T67 t398 x32_2).f0))) (fun _ hk => hk.2) (.int .i64 ((rd_T67 t398 x32_2).f1))) (fun _ h_ => h_.1)))) hb);replace HO_7:=Aside0.mk (Kd.S_elder' (sO ((Kd.S_mono (Kd.S_far (p:=⟨gb403,1,none⟩) (Kd.S_far (p:=⟨gb403,0,none⟩) (Kd.S_types HO_7.out BK403.out (by decide)) (fun _ hk => hk.2) (.int .i64 ((rd_T67 t398 x32_2).f0))) (fun _ hk => hk.2) (.int .i64 ((rd_T67 t398 x32_2).f1))) (fun _ h_ => h_.1)))) (Kd.R_base ho47) hb);replace HO_30:=Aside0.mk (Kd.R_below (rO ((Kd.R_mono (Kd.R_far (p:=⟨gb403,1,none⟩) (Kd.R_far (p:=⟨gb403,0,none⟩) (Kd.R_mono HO_30.out (fun k_ hk => (⟨hk,hk.2⟩ : _ ∧ k_ ≠ gb403))) (fun _ hk => hk.2) (.int .i64 ((rd_T67 t398 x32_2).f0))) (fun _ hk => hk.2) (.int .i64 ((rd_T67 t398 x32_2).f1))) (fun _ h_ => h_.1)))) hb);have HO413:=Aside0.mk (Kd.R_lower ho47 (below_size ib));replace BK385:=Aside0.mk (blk_below (g:=gb385) (o:=.cells #[.int .i64 a0_0,.int .i64 a0_1,.slice A0_2 l0_2.length c0_2,.slice A0_3 l0_3.length c0_3] 33 (0,0)) (by refine bF NB385_403.out ?_;refine bF NB385_403.out ?_;exact bk BK385) hb);replace BK403:=Aside0.mk (blk_below (g:=gb403) (o:=.cells #[.int .i64 ((rd_T67 t398 x32_2).f0),.int .i64 ((rd_T67 t398 x32_2).f1)] 67 (0,0)) (by refine bP (cs:=#[.int .i64 ((rd_T67 t398 x32_2).f0),.int .i64 0]) 1 ?_;refine bP (cs:=#[.int .i64 0,.int .i64 0]) 0 ?_;exact bk BK403) hb);replace HB:=sb hb;clear hb ho47;obtain ⟨Ao49,co49,eo49⟩:=Kd.R_slice HO413.out;subst eo49) | ((with_reducible refine gate_builtin (b:=.append) (xs:=#[.tmp 48,.tmp 54]) rfl ?_);at_builtin;refine Kd.S_append (Kd.slice 2 (Kd.int .i64)) (w0:=w) w.heap.size rfl (.tmp 48) (.tmp 54) 40 27 (.slice none 0 0) 24 rfl Try.underlying40 info27 rfl (by decide) (by omega) u7 x7_2 y411 [.slice Ao49 y411.length co49] (fun _ => True) (fun k_ => some k_ = (.slice Ao49 y411.length co49 : Value).ownBlock) rfl rfl ?aP (fun k_ hk_ => ((Kd.R_mono (ok':=fun k_ => ((fun _ => True)) k_ ∧ some k_ ≠ (u7 : Value).ownBlock) (Kd.R_apart' (HO413.out) (Kd.S_typed HO_7.out) (by decide)) (fun k_ hk => ⟨trivial,hk.2⟩))).1 k_ hk_.symm) ?aF ?aO ?aB ?aS ?aL ?_;(case aP => exact Kd.M_row (Kd.R_mono (Kd.R_tight rfl (Kd.R_mono (ok':=fun k_ => ((fun _ => True)) k_ ∧ some k_ ≠ (u7 : Value).ownBlock) (Kd.R_apart' (HO413.out) (Kd.S_typed HO_7.out) (by decide)) (fun k_ hk => ⟨trivial,hk.2⟩))) (fun _ h_ => h_)));(case aB => exact ib);(case aF => exact (fun _ _ => trivial));(case aO => exact (sO (Kd.S_mono HO_7.out (fun k_ hk => ⟨trivial,fun e_ => hk.2 e_⟩))));(case aS => exact (below_size ib));(case aL => have:=LMc42.out;omega);intro v415 w48 ho hb hg hat;rw [← Ny414.out] at ho;replace HO_4:=Aside0.mk (Kd.R_over' (rO HO_4.out) (Kd.S_typed (sO HO_7.out)) (by decide) hg);replace HO_30:=Aside0.mk (Kd.R_over' (rO HO_30.out) (Kd.S_typed (sO HO_7.out)) (by decide) hg);replace BK385:=Aside0.mk (blk_grown (g:=gb385) (o:=.cells #[.int .i64 a0_0,.int .i64 a0_1,.slice A0_2 l0_2.length c0_2,.slice A0_3 l0_3.length c0_3] 33 (0,0)) (bk BK385) hg (Kd.S_ne HO_7.out BK385.out (by decide)));replace BK403:=Aside0.mk (blk_grown (g:=gb403) (o:=.cells #[.int .i64 ((rd_T67 t398 x32_2).f0),.int .i64 ((rd_T67 t398 x32_2).f1)] 67 (0,0)) (bk BK403) hg (Kd.S_ne HO_7.out BK403.out (by decide)));replace HB:=Aside0.mk (hb);have HO416:=Aside0.mk (ho);clear HO_7 HO413;clear ho hb hg hat))
               repeat (go_quiet (first | ((with_reducible refine gate_dst (N:=9) rfl ?_);refine bx (cs:=#[.int .i64 0,.int .i64 0]) (t:=67) ?_;intro gb403 hg w43 hbox hb;replace HO_4:=Aside0.mk (Kd.R_below (Kd.R_elderB (rO HO_4.out) gb403 (Nat.le_of_eq hg.symm)) hb);replace HO_7:=Aside0.mk (Kd.S_below (sO HO_7.out) hb);replace HO_30:=Aside0.mk (Kd.R_below (Kd.R_elderB (rO HO_30.out) gb403 (Nat.le_of_eq hg.symm)) hb);have BK403:=Aside0.mk (hbox);have GW403:=zb hg;have GE403:=zb hg;replace HB:=sb hb;have NB385_403:=nl BK385 hg;have NB403_385:=ng BK385 hg;replace BK385:=kb BK385 hb;clear hb hbox hg;have hnb44:=NB403_385.out;have hnc44:=NB385_403.out;have hcz45_0:=ck BK403 0;have hcz45_1:=ck BK403 1;have hfz45_0:=blk_frozen BK403.out 0;have hfz45_1:=blk_frozen BK403.out 1;have p410 : 0 ≤ ((ji38) : Int):=da;have q410 : (ji38) < (t398.length : Int):=da;obtain ⟨ad410,e410,hx410_0,hx410_1⟩:=at_T67 (Kd.R_reads' HO_4.out).2.2 (ji38) p410 q410;obtain rfl : ad402 = ad410:=(by injection e410);have hn410_0 : ad402.block ≠ gb403:=(by first | exact Kd.own_blk (Kd.R_ne HO_4.out BK403.out (by decide)) | exact Kd.own_blk (Kd.R_away HO_4.out (fun _ hk => hk.2)));have hn410_1 : ad402.block ≠ gb403:=(by first | exact Kd.own_blk (Kd.R_ne HO_4.out BK403.out (by decide)) | exact Kd.own_blk (Kd.R_away HO_4.out (fun _ hk => hk.2)));replace hx410_0:=cf hn410_0 hx410_0 0 (.int .i64 ((rd_T67 t398 x32_2).f0));replace hx410_1:=cf hn410_0 hx410_1 0 (.int .i64 ((rd_T67 t398 x32_2).f0));replace hx410_0:=cf hn410_1 hx410_0 1 (.int .i64 ((rd_T67 t398 x32_2).f1));replace hx410_1:=cf hn410_1 hx410_1 1 (.int .i64 ((rd_T67 t398 x32_2).f1));(try have hy410_0:=fun (n_ : Nat) => (show ((((w43.drewN n_).setCell ⟨gb403,0,none⟩ (.int .i64 ((rd_T67 t398 x32_2).f0))).setCell ⟨gb403,1,none⟩ (.int .i64 ((rd_T67 t398 x32_2).f1)))).cell? _ = some _ from hx410_0));(try have hy410_1:=fun (n_ : Nat) => (show ((((w43.drewN n_).setCell ⟨gb403,0,none⟩ (.int .i64 ((rd_T67 t398 x32_2).f0))).setCell ⟨gb403,1,none⟩ (.int .i64 ((rd_T67 t398 x32_2).f1)))).cell? _ = some _ from hx410_1));clear hn410_0;clear hn410_1;replace p410:=eq_true p410;replace q410:=eq_true q410) | ((with_reducible refine gate_dst (N:=53) rfl ?_);refine Kd.R_lit (Kd.int .i64) _ 2 ?hg (N:=53) ?hd (xs:=([(rd_T67 t398 x32_2).f0,(rd_T67 t398 x32_2).f1] : List Int)) (inner:=[.int .i64 ((rd_T67 t398 x32_2).f0),.int .i64 ((rd_T67 t398 x32_2).f1)]) (ok:=fun _ => True) (okp:=fun _ => True) ?hr ?hp (fun _ hk => hk) trivial (Below.refl _ _) (Nat.le_refl _) (by simp) ?_;(case hd => rfl);(case hg => rfl);(case hr => first | (go_simp;done) | (go_simp;rfl));(case hp => exact (Reps.one (show Kd.M (Kd.int .i64) _ _ _ ((rd_T67 t398 x32_2).f0) [.int .i64 ((rd_T67 t398 x32_2).f0)] from rfl) (Reps.one (show Kd.M (Kd.int .i64) _ _ _ ((rd_T67 t398 x32_2).f1) [.int .i64 ((rd_T67 t398 x32_2).f1)] from rfl) (Reps.none _ _))));intro v412 w46 ho47 hb hg_ hnew_;clear hg_ hnew_;(first | rw [← Ny411.out] at ho47 | (simp only [Int.reduceToNat] at ho47;rw [← Ny411.out] at ho47));replace HO_4:=Aside0.mk (Kd.R_below (rO ((Kd.R_mono (Kd.R_far (p:=⟨gb403,1,none⟩) (Kd.R_far (p:=⟨gb403,0,none⟩) (Kd.R_mono HO_4.out (fun k_ hk => (⟨hk,hk.2⟩ : _ ∧ k_ ≠ gb403))) (fun _ hk => hk.2) (.int .i64 ((rd_T67 t398 x32_2).f0))) (fun _ hk => hk.2) (.int .i64 ((rd_T67 t398 x32_2).f1))) (fun _ h_ => h_.1)))) hb);replace HO_7:=Aside0.mk (Kd.S_elder' (sO ((Kd.S_mono (Kd.S_far (p:=⟨gb403,1,none⟩) (Kd.S_far (p:=⟨gb403,0,none⟩) (Kd.S_types HO_7.out BK403.out (by decide)) (fun _ hk => hk.2) (.int .i64 ((rd_T67 t398 x32_2).f0))) (fun _ hk => hk.2) (.int .i64 ((rd_T67 t398 x32_2).f1))) (fun _ h_ => h_.1)))) (Kd.R_base ho47) hb);replace HO_30:=Aside0.mk (Kd.R_below (rO ((Kd.R_mono (Kd.R_far (p:=⟨gb403,1,none⟩) (Kd.R_far (p:=⟨gb403,0,none⟩) (Kd.R_mono HO_30.out (fun k_ hk => (⟨hk,hk.2⟩ : _ ∧ k_ ≠ gb403))) (fun _ hk => hk.2) (.int .i64 ((rd_T67 t398 x32_2).f0))) (fun _ hk => hk.2) (.int .i64 ((rd_T67 t398 x32_2).f1))) (fun _ h_ => h_.1)))) hb);have HO413:=Aside0.mk (Kd.R_lower ho47 (below_size ib));replace BK385:=Aside0.mk (blk_below (g:=gb385) (o:=.cells #[.int .i64 a0_0,.int .i64 a0_1,.slice A0_2 l0_2.length c0_2,.slice A0_3 l0_3.length c0_3] 33 (0,0)) (by refine bF NB385_403.out ?_;refine bF NB385_403.out ?_;exact bk BK385) hb);replace BK403:=Aside0.mk (blk_below (g:=gb403) (o:=.cells #[.int .i64 ((rd_T67 t398 x32_2).f0),.int .i64 ((rd_T67 t398 x32_2).f1)] 67 (0,0)) (by refine bP (cs:=#[.int .i64 ((rd_T67 t398 x32_2).f0),.int .i64 0]) 1 ?_;refine bP (cs:=#[.int .i64 0,.int .i64 0]) 0 ?_;exact bk BK403) hb);replace HB:=sb hb;clear hb ho47;obtain ⟨Ao49,co49,eo49⟩:=Kd.R_slice HO413.out;subst eo49) | ((with_reducible refine gate_builtin (b:=.append) (xs:=#[.tmp 48,.tmp 54]) rfl ?_);at_builtin;refine Kd.S_append (Kd.slice 2 (Kd.int .i64)) (w0:=w) w.heap.size rfl (.tmp 48) (.tmp 54) 40 27 (.slice none 0 0) 24 rfl Try.underlying40 info27 rfl (by decide) (by omega) u7 x7_2 y411 [.slice Ao49 y411.length co49] (fun _ => True) (fun k_ => some k_ = (.slice Ao49 y411.length co49 : Value).ownBlock) rfl rfl ?aP (fun k_ hk_ => ((Kd.R_mono (ok':=fun k_ => ((fun _ => True)) k_ ∧ some k_ ≠ (u7 : Value).ownBlock) (Kd.R_apart' (HO413.out) (Kd.S_typed HO_7.out) (by decide)) (fun k_ hk => ⟨trivial,hk.2⟩))).1 k_ hk_.symm) ?aF ?aO ?aB ?aS ?aL ?_;(case aP => exact Kd.M_row (Kd.R_mono (Kd.R_tight rfl (Kd.R_mono (ok':=fun k_ => ((fun _ => True)) k_ ∧ some k_ ≠ (u7 : Value).ownBlock) (Kd.R_apart' (HO413.out) (Kd.S_typed HO_7.out) (by decide)) (fun k_ hk => ⟨trivial,hk.2⟩))) (fun _ h_ => h_)));(case aB => exact ib);(case aF => exact (fun _ _ => trivial));(case aO => exact (sO (Kd.S_mono HO_7.out (fun k_ hk => ⟨trivial,fun e_ => hk.2 e_⟩))));(case aS => exact (below_size ib));(case aL => have:=LMc42.out;omega);intro v415 w48 ho hb hg hat;rw [← Ny414.out] at ho;replace HO_4:=Aside0.mk (Kd.R_over' (rO HO_4.out) (Kd.S_typed (sO HO_7.out)) (by decide) hg);replace HO_30:=Aside0.mk (Kd.R_over' (rO HO_30.out) (Kd.S_typed (sO HO_7.out)) (by decide) hg);replace BK385:=Aside0.mk (blk_grown (g:=gb385) (o:=.cells #[.int .i64 a0_0,.int .i64 a0_1,.slice A0_2 l0_2.length c0_2,.slice A0_3 l0_3.length c0_3] 33 (0,0)) (bk BK385) hg (Kd.S_ne HO_7.out BK385.out (by decide)));replace BK403:=Aside0.mk (blk_grown (g:=gb403) (o:=.cells #[.int .i64 ((rd_T67 t398 x32_2).f0),.int .i64 ((rd_T67 t398 x32_2).f1)] 67 (0,0)) (bk BK403) hg (Kd.S_ne HO_7.out BK403.out (by decide)));replace HB:=Aside0.mk (hb);have HO416:=Aside0.mk (ho);clear HO_7 HO413;clear ho hb hg hat));try go_wp2_with (first | ((with_reducible refine gate_dst (N:=9) rfl ?_);refine bx (cs:=#[.int .i64 0,.int .i64 0]) (t:=67) ?_;intro gb403 hg w43 hbox hb;replace HO_4:=Aside0.mk (Kd.R_below (Kd.R_elderB (rO HO_4.out) gb403 (Nat.le_of_eq hg.symm)) hb);replace HO_7:=Aside0.mk (Kd.S_below (sO HO_7.out) hb);replace HO_30:=Aside0.mk (Kd.R_below (Kd.R_elderB (rO HO_30.out) gb403 (Nat.le_of_eq hg.symm)) hb);have BK403:=Aside0.mk (hbox);have GW403:=zb hg;have GE403:=zb hg;replace HB:=sb hb;have NB385_403:=nl BK385 hg;have NB403_385:=ng BK385 hg;replace BK385:=kb BK385 hb;clear hb hbox hg;have hnb44:=NB403_385.out;have hnc44:=NB385_403.out;have hcz45_0:=ck BK403 0;have hcz45_1:=ck BK403 1;have hfz45_0:=blk_frozen BK403.out 0;have hfz45_1:=blk_frozen BK403.out 1;have p410 : 0 ≤ ((ji38) : Int):=da;have q410 : (ji38) < (t398.length : Int):=da;obtain ⟨ad410,e410,hx410_0,hx410_1⟩:=at_T67 (Kd.R_reads' HO_4.out).2.2 (ji38) p410 q410;obtain rfl : ad402 = ad410:=(by injection e410);have hn410_0 : ad402.block ≠ gb403:=(by first | exact Kd.own_blk (Kd.R_ne HO_4.out BK403.out (by decide)) | exact Kd.own_blk (Kd.R_away HO_4.out (fun _ hk => hk.2)));have hn410_1 : ad402.block ≠ gb403:=(by first | exact Kd.own_blk (Kd.R_ne HO_4.out BK403.out (by decide)) | exact Kd.own_blk (Kd.R_away HO_4.out (fun _ hk => hk.2)));replace hx410_0:=cf hn410_0 hx410_0 0 (.int .i64 ((rd_T67 t398 x32_2).f0));replace hx410_1:=cf hn410_0 hx410_1 0 (.int .i64 ((rd_T67 t398 x32_2).f0));replace hx410_0:=cf hn410_1 hx410_0 1 (.int .i64 ((rd_T67 t398 x32_2).f1));replace hx410_1:=cf hn410_1 hx410_1 1 (.int .i64 ((rd_T67 t398 x32_2).f1));(try have hy410_0:=fun (n_ : Nat) => (show ((((w43.drewN n_).setCell ⟨gb403,0,none⟩ (.int .i64 ((rd_T67 t398 x32_2).f0))).setCell ⟨gb403,1,none⟩ (.int .i64 ((rd_T67 t398 x32_2).f1)))).cell? _ = some _ from hx410_0));(try have hy410_1:=fun (n_ : Nat) => (show ((((w43.drewN n_).setCell ⟨gb403,0,none⟩ (.int .i64 ((rd_T67 t398 x32_2).f0))).setCell ⟨gb403,1,none⟩ (.int .i64 ((rd_T67 t398 x32_2).f1)))).cell? _ = some _ from hx410_1));clear hn410_0;clear hn410_1;replace p410:=eq_true p410;replace q410:=eq_true q410) | ((with_reducible refine gate_dst (N:=53) rfl ?_);refine Kd.R_lit (Kd.int .i64) _ 2 ?hg (N:=53) ?hd (xs:=([(rd_T67 t398 x32_2).f0,(rd_T67 t398 x32_2).f1] : List Int)) (inner:=[.int .i64 ((rd_T67 t398 x32_2).f0),.int .i64 ((rd_T67 t398 x32_2).f1)]) (ok:=fun _ => True) (okp:=fun _ => True) ?hr ?hp (fun _ hk => hk) trivial (Below.refl _ _) (Nat.le_refl _) (by simp) ?_;(case hd => rfl);(case hg => rfl);(case hr => first | (go_simp;done) | (go_simp;rfl));(case hp => exact (Reps.one (show Kd.M (Kd.int .i64) _ _ _ ((rd_T67 t398 x32_2).f0) [.int .i64 ((rd_T67 t398 x32_2).f0)] from rfl) (Reps.one (show Kd.M (Kd.int .i64) _ _ _ ((rd_T67 t398 x32_2).f1) [.int .i64 ((rd_T67 t398 x32_2).f1)] from rfl) (Reps.none _ _))));intro v412 w46 ho47 hb hg_ hnew_;clear hg_ hnew_;(first | rw [← Ny411.out] at ho47 | (simp only [Int.reduceToNat] at ho47;rw [← Ny411.out] at ho47));replace HO_4:=Aside0.mk (Kd.R_below (rO ((Kd.R_mono (Kd.R_far (p:=⟨gb403,1,none⟩) (Kd.R_far (p:=⟨gb403,0,none⟩) (Kd.R_mono HO_4.out (fun k_ hk => (⟨hk,hk.2⟩ : _ ∧ k_ ≠ gb403))) (fun _ hk => hk.2) (.int .i64 ((rd_T67 t398 x32_2).f0))) (fun _ hk => hk.2) (.int .i64 ((rd_T67 t398 x32_2).f1))) (fun _ h_ => h_.1)))) hb);replace HO_7:=Aside0.mk (Kd.S_elder' (sO ((Kd.S_mono (Kd.S_far (p:=⟨gb403,1,none⟩) (Kd.S_far (p:=⟨gb403,0,none⟩) (Kd.S_types HO_7.out BK403.out (by decide)) (fun _ hk => hk.2) (.int .i64 ((rd_T67 t398 x32_2).f0))) (fun _ hk => hk.2) (.int .i64 ((rd_T67 t398 x32_2).f1))) (fun _ h_ => h_.1)))) (Kd.R_base ho47) hb);replace HO_30:=Aside0.mk (Kd.R_below (rO ((Kd.R_mono (Kd.R_far (p:=⟨gb403,1,none⟩) (Kd.R_far (p:=⟨gb403,0,none⟩) (Kd.R_mono HO_30.out (fun k_ hk => (⟨hk,hk.2⟩ : _ ∧ k_ ≠ gb403))) (fun _ hk => hk.2) (.int .i64 ((rd_T67 t398 x32_2).f0))) (fun _ hk => hk.2) (.int .i64 ((rd_T67 t398 x32_2).f1))) (fun _ h_ => h_.1)))) hb);have HO413:=Aside0.mk (Kd.R_lower ho47 (below_size ib));replace BK385:=Aside0.mk (blk_below (g:=gb385) (o:=.cells #[.int .i64 a0_0,.int .i64 a0_1,.slice A0_2 l0_2.length c0_2,.slice A0_3 l0_3.length c0_3] 33 (0,0)) (by refine bF NB385_403.out ?_;refine bF NB385_403.out ?_;exact bk BK385) hb);replace BK403:=Aside0.mk (blk_below (g:=gb403) (o:=.cells #[.int .i64 ((rd_T67 t398 x32_2).f0),.int .i64 ((rd_T67 t398 x32_2).f1)] 67 (0,0)) (by refine bP (cs:=#[.int .i64 ((rd_T67 t398 x32_2).f0),.int .i64 0]) 1 ?_;refine bP (cs:=#[.int .i64 0,.int .i64 0]) 0 ?_;exact bk BK403) hb);replace HB:=sb hb;clear hb ho47;obtain ⟨Ao49,co49,eo49⟩:=Kd.R_slice HO413.out;subst eo49) | ((with_reducible refine gate_builtin (b:=.append) (xs:=#[.tmp 48,.tmp 54]) rfl ?_);at_builtin;refine Kd.S_append (Kd.slice 2 (Kd.int .i64)) (w0:=w) w.heap.size rfl (.tmp 48) (.tmp 54) 40 27 (.slice none 0 0) 24 rfl Try.underlying40 info27 rfl (by decide) (by omega) u7 x7_2 y411 [.slice Ao49 y411.length co49] (fun _ => True) (fun k_ => some k_ = (.slice Ao49 y411.length co49 : Value).ownBlock) rfl rfl ?aP (fun k_ hk_ => ((Kd.R_mono (ok':=fun k_ => ((fun _ => True)) k_ ∧ some k_ ≠ (u7 : Value).ownBlock) (Kd.R_apart' (HO413.out) (Kd.S_typed HO_7.out) (by decide)) (fun k_ hk => ⟨trivial,hk.2⟩))).1 k_ hk_.symm) ?aF ?aO ?aB ?aS ?aL ?_;(case aP => exact Kd.M_row (Kd.R_mono (Kd.R_tight rfl (Kd.R_mono (ok':=fun k_ => ((fun _ => True)) k_ ∧ some k_ ≠ (u7 : Value).ownBlock) (Kd.R_apart' (HO413.out) (Kd.S_typed HO_7.out) (by decide)) (fun k_ hk => ⟨trivial,hk.2⟩))) (fun _ h_ => h_)));(case aB => exact ib);(case aF => exact (fun _ _ => trivial));(case aO => exact (sO (Kd.S_mono HO_7.out (fun k_ hk => ⟨trivial,fun e_ => hk.2 e_⟩))));(case aS => exact (below_size ib));(case aL => have:=LMc42.out;omega);intro v415 w48 ho hb hg hat;rw [← Ny414.out] at ho;replace HO_4:=Aside0.mk (Kd.R_over' (rO HO_4.out) (Kd.S_typed (sO HO_7.out)) (by decide) hg);replace HO_30:=Aside0.mk (Kd.R_over' (rO HO_30.out) (Kd.S_typed (sO HO_7.out)) (by decide) hg);replace BK385:=Aside0.mk (blk_grown (g:=gb385) (o:=.cells #[.int .i64 a0_0,.int .i64 a0_1,.slice A0_2 l0_2.length c0_2,.slice A0_3 l0_3.length c0_3] 33 (0,0)) (bk BK385) hg (Kd.S_ne HO_7.out BK385.out (by decide)));replace BK403:=Aside0.mk (blk_grown (g:=gb403) (o:=.cells #[.int .i64 ((rd_T67 t398 x32_2).f0),.int .i64 ((rd_T67 t398 x32_2).f1)] 67 (0,0)) (bk BK403) hg (Kd.S_ne HO_7.out BK403.out (by decide)));replace HB:=Aside0.mk (hb);have HO416:=Aside0.mk (ho);clear HO_7 HO413;clear ho hb hg hat)))
               (try simp only [← hl4_2])
               go_roundg k2
               case measure => have:=HK1.out;have:=HK2.out;omega
               case rel => exact ⟨(y414),(wrap64 (x32_2 + 1)),(by first | rfl | (simp;done) | (simp [*];done)),H',⟨by have:=HK1.out;have:=HK2.out;omega⟩,⟨by (try simp only [hl4_2]);(try simp only [hl30_2]);(with_reducible repeat (first | apply Kd.R_alloc | apply Kd.R_drewN | apply Kd.R_drew));exact Kd.R_mono HO_4.out (fun _ hk => trivial)⟩,⟨by (try simp only [hl4_2]);(try simp only [hl30_2]);(with_reducible repeat (first | apply Kd.S_alloc | apply Kd.S_drewN | apply Kd.S_drew));exact HO416.out⟩,⟨by (try simp only [hl4_2]);(try simp only [hl30_2]);(with_reducible repeat (first | apply Kd.R_alloc | apply Kd.R_drewN | apply Kd.R_drew));exact Kd.R_mono HO_30.out (fun _ hk => trivial)⟩,⟨by (try simp only [hl4_2]);(try simp only [hl30_2]);exact bk BK385⟩,⟨ib⟩⟩
              ·rw [if_neg c42] at H
               exact absurd H (by simp)
             ·rw [if_neg c41] at H
              have c41b0 : (!(((rd_T67 t398 x32_2).f0) == ((rd_T67 t398 (ji38)).f0)) || (!(((rd_T67 t398 x32_2).f1) == ((rd_T67 t398 (ji38)).f1)))) = false:=by simpa using c41
              clear c41
              have H':=Aside0.mk H
              clear H
              have p402 : 0 ≤ (x32_2 : Int):=da
              have q402 : x32_2 < (t398.length : Int):=da
              obtain ⟨ad402,e402,hx402_0,hx402_1⟩:=at_T67 (Kd.R_reads' HO_30.out).2.2 x32_2 p402 q402
              cases e402
              replace p402:=eq_true p402
              replace q402:=eq_true q402
              go_wp2_with (first | ((with_reducible refine gate_dst (N:=9) rfl ?_);refine bx (cs:=#[.int .i64 0,.int .i64 0]) (t:=67) ?_;intro gb403 hg w50 hbox hb;replace HO_4:=Aside0.mk (Kd.R_below (Kd.R_elderB (rO HO_4.out) gb403 (Nat.le_of_eq hg.symm)) hb);replace HO_7:=Aside0.mk (Kd.S_below (sO HO_7.out) hb);replace HO_30:=Aside0.mk (Kd.R_below (Kd.R_elderB (rO HO_30.out) gb403 (Nat.le_of_eq hg.symm)) hb);have BK403:=Aside0.mk (hbox);have GW403:=zb hg;have GE403:=zb hg;replace HB:=sb hb;have NB385_403:=nl BK385 hg;have NB403_385:=ng BK385 hg;replace BK385:=kb BK385 hb;clear hb hbox hg;have hnb51:=NB403_385.out;have hnc51:=NB385_403.out;have hcz52_0:=ck BK403 0;have hcz52_1:=ck BK403 1;have hfz52_0:=blk_frozen BK403.out 0;have hfz52_1:=blk_frozen BK403.out 1;have p410 : 0 ≤ ((ji38) : Int):=da;have q410 : (ji38) < (t398.length : Int):=da;obtain ⟨ad410,e410,hx410_0,hx410_1⟩:=at_T67 (Kd.R_reads' HO_4.out).2.2 (ji38) p410 q410;obtain rfl : ad402 = ad410:=(by injection e410);have hn410_0 : ad402.block ≠ gb403:=(by first | exact Kd.own_blk (Kd.R_ne HO_4.out BK403.out (by decide)) | exact Kd.own_blk (Kd.R_away HO_4.out (fun _ hk => hk.2)));have hn410_1 : ad402.block ≠ gb403:=(by first | exact Kd.own_blk (Kd.R_ne HO_4.out BK403.out (by decide)) | exact Kd.own_blk (Kd.R_away HO_4.out (fun _ hk => hk.2)));replace hx410_0:=cf hn410_0 hx410_0 0 (.int .i64 ((rd_T67 t398 x32_2).f0));replace hx410_1:=cf hn410_0 hx410_1 0 (.int .i64 ((rd_T67 t398 x32_2).f0));replace hx410_0:=cf hn410_1 hx410_0 1 (.int .i64 ((rd_T67 t398 x32_2).f1));replace hx410_1:=cf hn410_1 hx410_1 1 (.int .i64 ((rd_T67 t398 x32_2).f1));(try have hy410_0:=fun (n_ : Nat) => (show ((((w50.drewN n_).setCell ⟨gb403,0,none⟩ (.int .i64 ((rd_T67 t398 x32_2).f0))).setCell ⟨gb403,1,none⟩ (.int .i64 ((rd_T67 t398 x32_2).f1)))).cell? _ = some _ from hx410_0));(try have hy410_1:=fun (n_ : Nat) => (show ((((w50.drewN n_).setCell ⟨gb403,0,none⟩ (.int .i64 ((rd_T67 t398 x32_2).f0))).setCell ⟨gb403,1,none⟩ (.int .i64 ((rd_T67 t398 x32_2).f1)))).cell? _ = some _ from hx410_1));clear hn410_0;clear hn410_1;replace p410:=eq_true p410;replace q410:=eq_true q410))
              repeat (go_quiet (first | ((with_reducible refine gate_dst (N:=9) rfl ?_);refine bx (cs:=#[.int .i64 0,.int .i64 0]) (t:=67) ?_;intro gb403 hg w50 hbox hb;replace HO_4:=Aside0.mk (Kd.R_below (Kd.R_elderB (rO HO_4.out) gb403 (Nat.le_of_eq hg.symm)) hb);replace HO_7:=Aside0.mk (Kd.S_below (sO HO_7.out) hb);replace HO_30:=Aside0.mk (Kd.R_below (Kd.R_elderB (rO HO_30.out) gb403 (Nat.le_of_eq hg.symm)) hb);have BK403:=Aside0.mk (hbox);have GW403:=zb hg;have GE403:=zb hg;replace HB:=sb hb;have NB385_403:=nl BK385 hg;have NB403_385:=ng BK385 hg;replace BK385:=kb BK385 hb;clear hb hbox hg;have hnb51:=NB403_385.out;have hnc51:=NB385_403.out;have hcz52_0:=ck BK403 0;have hcz52_1:=ck BK403 1;have hfz52_0:=blk_frozen BK403.out 0;have hfz52_1:=blk_frozen BK403.out 1;have p410 : 0 ≤ ((ji38) : Int):=da;have q410 : (ji38) < (t398.length : Int):=da;obtain ⟨ad410,e410,hx410_0,hx410_1⟩:=at_T67 (Kd.R_reads' HO_4.out).2.2 (ji38) p410 q410;obtain rfl : ad402 = ad410:=(by injection e410);have hn410_0 : ad402.block ≠ gb403:=(by first | exact Kd.own_blk (Kd.R_ne HO_4.out BK403.out (by decide)) | exact Kd.own_blk (Kd.R_away HO_4.out (fun _ hk => hk.2)));have hn410_1 : ad402.block ≠ gb403:=(by first | exact Kd.own_blk (Kd.R_ne HO_4.out BK403.out (by decide)) | exact Kd.own_blk (Kd.R_away HO_4.out (fun _ hk => hk.2)));replace hx410_0:=cf hn410_0 hx410_0 0 (.int .i64 ((rd_T67 t398 x32_2).f0));replace hx410_1:=cf hn410_0 hx410_1 0 (.int .i64 ((rd_T67 t398 x32_2).f0));replace hx410_0:=cf hn410_1 hx410_0 1 (.int .i64 ((rd_T67 t398 x32_2).f1));replace hx410_1:=cf hn410_1 hx410_1 1 (.int .i64 ((rd_T67 t398 x32_2).f1));(try have hy410_0:=fun (n_ : Nat) => (show ((((w50.drewN n_).setCell ⟨gb403,0,none⟩ (.int .i64 ((rd_T67 t398 x32_2).f0))).setCell ⟨gb403,1,none⟩ (.int .i64 ((rd_T67 t398 x32_2).f1)))).cell? _ = some _ from hx410_0));(try have hy410_1:=fun (n_ : Nat) => (show ((((w50.drewN n_).setCell ⟨gb403,0,none⟩ (.int .i64 ((rd_T67 t398 x32_2).f0))).setCell ⟨gb403,1,none⟩ (.int .i64 ((rd_T67 t398 x32_2).f1)))).cell? _ = some _ from hx410_1));clear hn410_0;clear hn410_1;replace p410:=eq_true p410;replace q410:=eq_true q410));try go_wp2_with (first | ((with_reducible refine gate_dst (N:=9) rfl ?_);refine bx (cs:=#[.int .i64 0,.int .i64 0]) (t:=67) ?_;intro gb403 hg w50 hbox hb;replace HO_4:=Aside0.mk (Kd.R_below (Kd.R_elderB (rO HO_4.out) gb403 (Nat.le_of_eq hg.symm)) hb);replace HO_7:=Aside0.mk (Kd.S_below (sO HO_7.out) hb);replace HO_30:=Aside0.mk (Kd.R_below (Kd.R_elderB (rO HO_30.out) gb403 (Nat.le_of_eq hg.symm)) hb);have BK403:=Aside0.mk (hbox);have GW403:=zb hg;have GE403:=zb hg;replace HB:=sb hb;have NB385_403:=nl BK385 hg;have NB403_385:=ng BK385 hg;replace BK385:=kb BK385 hb;clear hb hbox hg;have hnb51:=NB403_385.out;have hnc51:=NB385_403.out;have hcz52_0:=ck BK403 0;have hcz52_1:=ck BK403 1;have hfz52_0:=blk_frozen BK403.out 0;have hfz52_1:=blk_frozen BK403.out 1;have p410 : 0 ≤ ((ji38) : Int):=da;have q410 : (ji38) < (t398.length : Int):=da;obtain ⟨ad410,e410,hx410_0,hx410_1⟩:=at_T67 (Kd.R_reads' HO_4.out).2.2 (ji38) p410 q410;obtain rfl : ad402 = ad410:=(by injection e410);have hn410_0 : ad402.block ≠ gb403:=(by first | exact Kd.own_blk (Kd.R_ne HO_4.out BK403.out (by decide)) | exact Kd.own_blk (Kd.R_away HO_4.out (fun _ hk => hk.2)));have hn410_1 : ad402.block ≠ gb403:=(by first | exact Kd.own_blk (Kd.R_ne HO_4.out BK403.out (by decide)) | exact Kd.own_blk (Kd.R_away HO_4.out (fun _ hk => hk.2)));replace hx410_0:=cf hn410_0 hx410_0 0 (.int .i64 ((rd_T67 t398 x32_2).f0));replace hx410_1:=cf hn410_0 hx410_1 0 (.int .i64 ((rd_T67 t398 x32_2).f0));replace hx410_0:=cf hn410_1 hx410_0 1 (.int .i64 ((rd_T67 t398 x32_2).f1));replace hx410_1:=cf hn410_1 hx410_1 1 (.int .i64 ((rd_T67 t398 x32_2).f1));(try have hy410_0:=fun (n_ : Nat) => (show ((((w50.drewN n_).setCell ⟨gb403,0,none⟩ (.int .i64 ((rd_T67 t398 x32_2).f0))).setCell ⟨gb403,1,none⟩ (.int .i64 ((rd_T67 t398 x32_2).f1)))).cell? _ = some _ from hx410_0));(try have hy410_1:=fun (n_ : Nat) => (show ((((w50.drewN n_).setCell ⟨gb403,0,none⟩ (.int .i64 ((rd_T67 t398 x32_2).f0))).setCell ⟨gb403,1,none⟩ (.int .i64 ((rd_T67 t398 x32_2).f1)))).cell? _ = some _ from hx410_1));clear hn410_0;clear hn410_1;replace p410:=eq_true p410;replace q410:=eq_true q410)))
              (try simp only [← hl4_2])
              go_roundg k2
              case measure => have:=HK1.out;have:=HK2.out;omega
              case rel => exact ⟨(x7_2),(wrap64 (x32_2 + 1)),(by first | rfl | (simp;done) | (simp [*];done)),H',⟨by have:=HK1.out;have:=HK2.out;omega⟩,⟨by (try simp only [hl4_2]);(try simp only [hl30_2]);(with_reducible repeat (first | apply Kd.R_alloc | apply Kd.R_drewN | apply Kd.R_drew));exact Kd.R_mono (Kd.R_far (p:=⟨gb403,1,none⟩) (Kd.R_far (p:=⟨gb403,0,none⟩) (Kd.R_mono HO_4.out (fun k_ hk => (⟨hk,hk.2⟩ : _ ∧ k_ ≠ gb403))) (fun _ hk => hk.2) (.int .i64 ((rd_T67 t398 x32_2).f0))) (fun _ hk => hk.2) (.int .i64 ((rd_T67 t398 x32_2).f1))) (fun _ hk => trivial)⟩,⟨by (try simp only [hl4_2]);(try simp only [hl30_2]);(with_reducible repeat (first | apply Kd.S_alloc | apply Kd.S_drewN | apply Kd.S_drew));exact Kd.S_mono (Kd.S_far (p:=⟨gb403,1,none⟩) (Kd.S_far (p:=⟨gb403,0,none⟩) (Kd.S_types HO_7.out BK403.out (by decide)) (fun _ hk => hk.2) (.int .i64 ((rd_T67 t398 x32_2).f0))) (fun _ hk => hk.2) (.int .i64 ((rd_T67 t398 x32_2).f1))) (fun _ hk => trivial)⟩,⟨by (try simp only [hl4_2]);(try simp only [hl30_2]);(with_reducible repeat (first | apply Kd.R_alloc | apply Kd.R_drewN | apply Kd.R_drew));exact Kd.R_mono (Kd.R_far (p:=⟨gb403,1,none⟩) (Kd.R_far (p:=⟨gb403,0,none⟩) (Kd.R_mono HO_30.out (fun k_ hk => (⟨hk,hk.2⟩ : _ ∧ k_ ≠ gb403))) (fun _ hk => hk.2) (.int .i64 ((rd_T67 t398 x32_2).f0))) (fun _ hk => hk.2) (.int .i64 ((rd_T67 t398 x32_2).f1))) (fun _ hk => trivial)⟩,⟨by (try simp only [hl4_2]);(try simp only [hl30_2]);refine bF NB385_403.out ?_;refine bF NB385_403.out ?_;exact bk BK385⟩,⟨ib⟩⟩
            ·rw [if_neg c40] at H
             exact absurd H (by simp)
           ·rw [if_neg c39] at H
            exact absurd H (by simp)
         ·rw [if_neg c28] at H
          exact absurd H (by simp)
        ·rw [if_neg c27] at H
         exact absurd H (by simp)
       ·rw [if_neg c26] at H
        have c26b0 : decide (x32_2 < (x4_1.length : Int)) = false:=decide_eq_false c26
        rw [hl4_2] at c26b0
        clear c26
        simp only [Option.some.injEq,Prod.mk.injEq] at H
        obtain ⟨rfl,rfl⟩:=H
        go_wp2
        repeat (go_quiet (fail);try go_wp2)
        go_ret2
        exact ⟨_,by first | rfl | (simp [errW_none,errW_some] <;> rfl) | (simp [*,errW_none,errW_some] <;> rfl),sO HO_7.out,ib⟩
 ·replace c3:=Bool.eq_false_iff.mpr c3
  subst c3
  have H1 : (some (([] : List (List Int)),1)) = some (r1,r2):=by rw [if_neg (show ¬ (false = true) by decide)] at H;exact H
  clear H
  have H:=H1
  clear H1
  simp only [Option.some.injEq,Prod.mk.injEq] at H
  obtain ⟨rfl,rfl⟩:=H
  go_enter Try.func15,Try.ntmps15
  go_wp2_with (first | ((with_reducible refine gate_dst (N:=1) rfl ?_);refine bx (cs:=#[.int .i64 a0_0,.int .i64 a0_1,.slice A0_2 l0_2.length c0_2,.slice A0_3 l0_3.length c0_3]) (t:=33) ?_;intro gb385 hg w53 hbox hb;have BK385:=Aside0.mk (hbox);have GW385:=zb hg;have GE385:=zb hg;replace HB:=sb hb;clear hb hbox hg;have hcz54_0:=ck BK385 0;have hcz54_1:=ck BK385 1;have hcz54_2:=ck BK385 2;have hcz54_3:=ck BK385 3;have hfz54_0:=blk_frozen BK385.out 0;have hfz54_1:=blk_frozen BK385.out 1;have hfz54_2:=blk_frozen BK385.out 2;have hfz54_3:=blk_frozen BK385.out 3) | (go_at_call 33;(with_reducible refine (impl_ValidDrawing.calls k a0_0 a0_1 _ _ l0_2 _ _ l0_3 false _ ?side1 ?side2 ?side3 ?side4 A2.out).mono ?_);(case side1 => repeat (first | exact (Kd.C_below HR0_2.out HB.out) | exact HR0_2.out | (with_reducible refine Kd.C_alloc ?_ _) | (with_reducible refine Kd.C_drewN ?_ _) | (with_reducible refine Kd.C_drew ?_)));(case side2 => exact HC0_2.out);(case side3 => repeat (first | exact (Kd.C_below HR0_3.out HB.out) | exact HR0_3.out | (with_reducible refine Kd.C_alloc ?_ _) | (with_reducible refine Kd.C_drewN ?_ _) | (with_reducible refine Kd.C_drew ?_)));(case side4 => exact HC0_3.out);rintro e w55 ⟨rfl,hb⟩;replace BK385:=kb BK385 hb;replace HB:=sb hb;(try clear hb);(try clear hb2);(try clear hk);(try clear hi)))
  repeat (go_quiet (first | ((with_reducible refine gate_dst (N:=1) rfl ?_);refine bx (cs:=#[.int .i64 a0_0,.int .i64 a0_1,.slice A0_2 l0_2.length c0_2,.slice A0_3 l0_3.length c0_3]) (t:=33) ?_;intro gb385 hg w53 hbox hb;have BK385:=Aside0.mk (hbox);have GW385:=zb hg;have GE385:=zb hg;replace HB:=sb hb;clear hb hbox hg;have hcz54_0:=ck BK385 0;have hcz54_1:=ck BK385 1;have hcz54_2:=ck BK385 2;have hcz54_3:=ck BK385 3;have hfz54_0:=blk_frozen BK385.out 0;have hfz54_1:=blk_frozen BK385.out 1;have hfz54_2:=blk_frozen BK385.out 2;have hfz54_3:=blk_frozen BK385.out 3) | (go_at_call 33;(with_reducible refine (impl_ValidDrawing.calls k a0_0 a0_1 _ _ l0_2 _ _ l0_3 false _ ?side1 ?side2 ?side3 ?side4 A2.out).mono ?_);(case side1 => repeat (first | exact (Kd.C_below HR0_2.out HB.out) | exact HR0_2.out | (with_reducible refine Kd.C_alloc ?_ _) | (with_reducible refine Kd.C_drewN ?_ _) | (with_reducible refine Kd.C_drew ?_)));(case side2 => exact HC0_2.out);(case side3 => repeat (first | exact (Kd.C_below HR0_3.out HB.out) | exact HR0_3.out | (with_reducible refine Kd.C_alloc ?_ _) | (with_reducible refine Kd.C_drewN ?_ _) | (with_reducible refine Kd.C_drew ?_)));(case side4 => exact HC0_3.out);rintro e w55 ⟨rfl,hb⟩;replace BK385:=kb BK385 hb;replace HB:=sb hb;(try clear hb);(try clear hb2);(try clear hk);(try clear hi)));try go_wp2_with (first | ((with_reducible refine gate_dst (N:=1) rfl ?_);refine bx (cs:=#[.int .i64 a0_0,.int .i64 a0_1,.slice A0_2 l0_2.length c0_2,.slice A0_3 l0_3.length c0_3]) (t:=33) ?_;intro gb385 hg w53 hbox hb;have BK385:=Aside0.mk (hbox);have GW385:=zb hg;have GE385:=zb hg;replace HB:=sb hb;clear hb hbox hg;have hcz54_0:=ck BK385 0;have hcz54_1:=ck BK385 1;have hcz54_2:=ck BK385 2;have hcz54_3:=ck BK385 3;have hfz54_0:=blk_frozen BK385.out 0;have hfz54_1:=blk_frozen BK385.out 1;have hfz54_2:=blk_frozen BK385.out 2;have hfz54_3:=blk_frozen BK385.out 3) | (go_at_call 33;(with_reducible refine (impl_ValidDrawing.calls k a0_0 a0_1 _ _ l0_2 _ _ l0_3 false _ ?side1 ?side2 ?side3 ?side4 A2.out).mono ?_);(case side1 => repeat (first | exact (Kd.C_below HR0_2.out HB.out) | exact HR0_2.out | (with_reducible refine Kd.C_alloc ?_ _) | (with_reducible refine Kd.C_drewN ?_ _) | (with_reducible refine Kd.C_drew ?_)));(case side2 => exact HC0_2.out);(case side3 => repeat (first | exact (Kd.C_below HR0_3.out HB.out) | exact HR0_3.out | (with_reducible refine Kd.C_alloc ?_ _) | (with_reducible refine Kd.C_drewN ?_ _) | (with_reducible refine Kd.C_drew ?_)));(case side4 => exact HC0_3.out);rintro e w55 ⟨rfl,hb⟩;replace BK385:=kb BK385 hb;replace HB:=sb hb;(try clear hb);(try clear hb2);(try clear hk);(try clear hi))))
  go_ret2
  exact ⟨_,by first | rfl | (simp [errW_none,errW_some] <;> rfl) | (simp [*,errW_none,errW_some] <;> rfl),by first | exact Kd.S_nil _ _ _ _ _ | exact Kd.N_nil _ _ _ _ _ | exact Kd.V_nil _ _ _ _ _ | exact Kd.Q_nil _ _ _ _ _ | exact Kd.R_nil _ _ _ _ _,ib⟩
def laws_eqInt64SS.l0 : Nat → List (List Int) → List (List Int) → Int → Option (Bool)
 | 0,_,_,_ => none
 | k + 1,x0,x1,x5 => if x5 < (x0.length : Int) then (if 0 ≤ x5 then (if x5 < (x1.length : Int) then ((laws_eqInt64S.f k (rd_L3 x0 x5) (rd_L3 x1 x5)).bind fun t419 => (if t419 = true then (laws_eqInt64SS.l0 k x0 x1 (wrap64 (x5 + 1))) else (some false))) else (none)) else (none)) else (some true)
def laws_eqInt64SS.f (k : Nat) (l0 : List (List Int)) (l1 : List (List Int)) : Option (Bool):=if (l0.length : Int) = (l1.length : Int) then (laws_eqInt64SS.l0 k l0 l1 0) else (some false)
theorem laws_eqInt64SS.calls (k : Nat) (A0 : Option Addr) (c0 : Nat) (l0 : List (List Int)) (A1 : Option Addr) (c1 : Nat) (l1 : List (List Int)) (r : Bool) (w : World) (hr0 : Kd.C (Kd.slice 2 (Kd.int .i64)) w A0 l0.length l0) (hc0 : l0.length ≤ c0) (hr1 : Kd.C (Kd.slice 2 (Kd.int .i64)) w A1 l1.length l1) (hc1 : l1.length ≤ c1) (h : laws_eqInt64SS.f k l0 l1 = some r) :
  Calls Try.prog 16 #[.slice A0 l0.length c0,.slice A1 l1.length c1] w fun e w' => e = .returned (.bool r) ∧ Drawn0 w w':=by
 have HR0:=Aside0.mk hr0
 have HC0:=Aside0.mk hc0
 clear hr0 hc0
 have HR1:=Aside0.mk hr1
 have HC1:=Aside0.mk hc1
 clear hr1 hc1
 have H : (if (l0.length : Int) = (l1.length : Int) then (laws_eqInt64SS.l0 k l0 l1 0) else (some false)) = some r:=h
 clear h
 by_cases c3 : (l0.length : Int) = (l1.length : Int)
 ·rw [if_pos c3] at H
  have c3b0 : ((l0.length : Int) == (l1.length : Int)) = true:=beq_iff_eq.mpr c3
  have c3b1 : ((l0.length : Int) != (l1.length : Int)) = false:=bne_eq_false_iff_eq.mpr c3
  have c3b2 : (l0.length == l1.length) = true:=by first | simpa using c3 | (simp at c3 ⊢;omega)
  clear c3
  have H':=Aside0.mk H
  clear H
  go_enter Try.func16,Try.ntmps16
  go_wp2
  repeat (go_quiet (fail);try go_wp2)
  go_loopg [5] k (fun kq v5 w' => ∃ (x5_1 : Int),v5 = .int .i64 x5_1 ∧ Aside0 (laws_eqInt64SS.l0 kq l0 l1 x5_1 = some r) ∧ Aside0 (kq ≤ k) ∧ Drawn0 w w')
  case atStart => exact ⟨(0),(by first | rfl | (simp;done) | (simp [*];done)),H',⟨Nat.le_refl _⟩,by repeat (first | exact Drawn0.refl _ | apply Drawn0.step)⟩
  case round =>
   clear H'
   try clear c1
   try clear p2
   try clear c3
   try clear c3b0
   try clear c3b1
   try clear c3b2
   obtain ⟨x5_1,rfl,HA,HK1,⟨m1,rfl⟩⟩:=hrel
   cases gk with
   | zero => exact absurd HA.out (by simp [laws_eqInt64SS.l0])
   | succ k1 =>
    have H:=HA.out
    clear HA
    simp only [laws_eqInt64SS.l0] at H
    by_cases c4 : x5_1 < (l0.length : Int)
    ·rw [if_pos c4] at H
     have c4b0 : decide (x5_1 < (l0.length : Int)) = true:=decide_eq_true c4
     clear c4
     by_cases c5 : 0 ≤ x5_1
     ·rw [if_pos c5] at H
      have c5b0 : decide (0 ≤ x5_1) = true:=decide_eq_true c5
      clear c5
      by_cases c6 : x5_1 < (l1.length : Int)
      ·rw [if_pos c6] at H
       have c6b0 : decide (x5_1 < (l1.length : Int)) = true:=decide_eq_true c6
       clear c6
       replace H:=bE.mp H
       obtain ⟨t419,A70,H⟩:=H
       replace H : (if t419 = true then (laws_eqInt64SS.l0 k1 l0 l1 (wrap64 (x5_1 + 1))) else (some false)) = some r:=H
       have A7:=Aside0.mk A70
       clear A70
       by_cases c8 : t419 = true
       ·subst c8
        have H1 : (laws_eqInt64SS.l0 k1 l0 l1 (wrap64 (x5_1 + 1))) = some r:=by rw [if_pos rfl] at H;exact H
        clear H
        have H:=H1
        clear H1
        have H':=Aside0.mk H
        clear H
        have p417 : 0 ≤ (x5_1 : Int):=da
        have q417 : x5_1 < (l0.length : Int):=da
        obtain ⟨ad417,A417_0,c417_0,e417,hx417_0,hl417_0,hi417_0⟩:=at_L3 HR0.out x5_1 p417 q417
        cases e417
        have HR417_0:=Aside0.mk hi417_0
        have HC417_0:=Aside0.mk hl417_0
        clear hi417_0 hl417_0
        replace p417:=eq_true p417
        replace q417:=eq_true q417
        have p418 : 0 ≤ (x5_1 : Int):=da
        have q418 : x5_1 < (l1.length : Int):=da
        obtain ⟨ad418,A418_0,c418_0,e418,hx418_0,hl418_0,hi418_0⟩:=at_L3 HR1.out x5_1 p418 q418
        cases e418
        have HR418_0:=Aside0.mk hi418_0
        have HC418_0:=Aside0.mk hl418_0
        clear hi418_0 hl418_0
        replace p418:=eq_true p418
        replace q418:=eq_true q418
        go_wp2_with (first | (go_at_call 9;(with_reducible refine (laws_eqInt64S.calls k1 _ _ (rd_L3 l0 x5_1) _ _ (rd_L3 l1 x5_1) true _ ?side1 ?side2 ?side3 ?side4 A7.out).mono ?_);(case side1 => exact cO HR417_0.out);(case side2 => exact HC417_0.out);(case side3 => exact cO HR418_0.out);(case side4 => exact HC418_0.out);rintro e w' ⟨rfl,⟨nd,rfl⟩⟩;(try first | exact ⟨rfl,_,World.drewN_drewN _ _ _⟩ | exact ⟨rfl,_,Eq.trans (World.drewN_drewN _ _ _) (congrArg (World.drewN _) (Nat.add_assoc _ _ _))⟩)))
        repeat (go_quiet (first | (go_at_call 9;(with_reducible refine (laws_eqInt64S.calls k1 _ _ (rd_L3 l0 x5_1) _ _ (rd_L3 l1 x5_1) true _ ?side1 ?side2 ?side3 ?side4 A7.out).mono ?_);(case side1 => exact cO HR417_0.out);(case side2 => exact HC417_0.out);(case side3 => exact cO HR418_0.out);(case side4 => exact HC418_0.out);rintro e w' ⟨rfl,⟨nd,rfl⟩⟩;(try first | exact ⟨rfl,_,World.drewN_drewN _ _ _⟩ | exact ⟨rfl,_,Eq.trans (World.drewN_drewN _ _ _) (congrArg (World.drewN _) (Nat.add_assoc _ _ _))⟩)));try go_wp2_with (first | (go_at_call 9;(with_reducible refine (laws_eqInt64S.calls k1 _ _ (rd_L3 l0 x5_1) _ _ (rd_L3 l1 x5_1) true _ ?side1 ?side2 ?side3 ?side4 A7.out).mono ?_);(case side1 => exact cO HR417_0.out);(case side2 => exact HC417_0.out);(case side3 => exact cO HR418_0.out);(case side4 => exact HC418_0.out);rintro e w' ⟨rfl,⟨nd,rfl⟩⟩;(try first | exact ⟨rfl,_,World.drewN_drewN _ _ _⟩ | exact ⟨rfl,_,Eq.trans (World.drewN_drewN _ _ _) (congrArg (World.drewN _) (Nat.add_assoc _ _ _))⟩))))
        go_roundg k1
        case measure => have:=HK1.out;omega
        case rel => exact ⟨(wrap64 (x5_1 + 1)),(by first | rfl | (simp;done) | (simp [*];done)),H',⟨by have:=HK1.out;omega⟩,by repeat (first | exact Drawn0.refl _ | apply Drawn0.step)⟩
       ·replace c8:=Bool.eq_false_iff.mpr c8
        subst c8
        have H1 : (some false) = some r:=by rw [if_neg (show ¬ (false = true) by decide)] at H;exact H
        clear H
        have H:=H1
        clear H1
        obtain rfl:=Option.some.inj H
        have p417 : 0 ≤ (x5_1 : Int):=da
        have q417 : x5_1 < (l0.length : Int):=da
        obtain ⟨ad417,A417_0,c417_0,e417,hx417_0,hl417_0,hi417_0⟩:=at_L3 HR0.out x5_1 p417 q417
        cases e417
        have HR417_0:=Aside0.mk hi417_0
        have HC417_0:=Aside0.mk hl417_0
        clear hi417_0 hl417_0
        replace p417:=eq_true p417
        replace q417:=eq_true q417
        have p418 : 0 ≤ (x5_1 : Int):=da
        have q418 : x5_1 < (l1.length : Int):=da
        obtain ⟨ad418,A418_0,c418_0,e418,hx418_0,hl418_0,hi418_0⟩:=at_L3 HR1.out x5_1 p418 q418
        cases e418
        have HR418_0:=Aside0.mk hi418_0
        have HC418_0:=Aside0.mk hl418_0
        clear hi418_0 hl418_0
        replace p418:=eq_true p418
        replace q418:=eq_true q418
        go_wp2_with (first | (go_at_call 9;(with_reducible refine (laws_eqInt64S.calls k1 _ _ (rd_L3 l0 x5_1) _ _ (rd_L3 l1 x5_1) false _ ?side1 ?side2 ?side3 ?side4 A7.out).mono ?_);(case side1 => exact cO HR417_0.out);(case side2 => exact HC417_0.out);(case side3 => exact cO HR418_0.out);(case side4 => exact HC418_0.out);rintro e w' ⟨rfl,⟨nd,rfl⟩⟩;(try first | exact ⟨rfl,_,World.drewN_drewN _ _ _⟩ | exact ⟨rfl,_,Eq.trans (World.drewN_drewN _ _ _) (congrArg (World.drewN _) (Nat.add_assoc _ _ _))⟩)))
        repeat (go_quiet (first | (go_at_call 9;(with_reducible refine (laws_eqInt64S.calls k1 _ _ (rd_L3 l0 x5_1) _ _ (rd_L3 l1 x5_1) false _ ?side1 ?side2 ?side3 ?side4 A7.out).mono ?_);(case side1 => exact cO HR417_0.out);(case side2 => exact HC417_0.out);(case side3 => exact cO HR418_0.out);(case side4 => exact HC418_0.out);rintro e w' ⟨rfl,⟨nd,rfl⟩⟩;(try first | exact ⟨rfl,_,World.drewN_drewN _ _ _⟩ | exact ⟨rfl,_,Eq.trans (World.drewN_drewN _ _ _) (congrArg (World.drewN _) (Nat.add_assoc _ _ _))⟩)));try go_wp2_with (first | (go_at_call 9;(with_reducible refine (laws_eqInt64S.calls k1 _ _ (rd_L3 l0 x5_1) _ _ (rd_L3 l1 x5_1) false _ ?side1 ?side2 ?side3 ?side4 A7.out).mono ?_);(case side1 => exact cO HR417_0.out);(case side2 => exact HC417_0.out);(case side3 => exact cO HR418_0.out);(case side4 => exact HC418_0.out);rintro e w' ⟨rfl,⟨nd,rfl⟩⟩;(try first | exact ⟨rfl,_,World.drewN_drewN _ _ _⟩ | exact ⟨rfl,_,Eq.trans (World.drewN_drewN _ _ _) (congrArg (World.drewN _) (Nat.add_assoc _ _ _))⟩))))
        go_ret
        exact ⟨by first | rfl | (simp;done) | (simp [*];done),by repeat (first | exact Drawn0.refl _ | apply Drawn0.step)⟩
      ·rw [if_neg c6] at H
       exact absurd H (by simp)
     ·rw [if_neg c5] at H
      exact absurd H (by simp)
    ·rw [if_neg c4] at H
     have c4b0 : decide (x5_1 < (l0.length : Int)) = false:=decide_eq_false c4
     clear c4
     obtain rfl:=Option.some.inj H
     go_wp2
     repeat (go_quiet (fail);try go_wp2)
     go_ret
     exact ⟨by first | rfl | (simp;done) | (simp [*];done),by repeat (first | exact Drawn0.refl _ | apply Drawn0.step)⟩
 ·rw [if_neg c3] at H
  have c3b0 : ((l0.length : Int) == (l1.length : Int)) = false:=beq_eq_false_iff_ne.mpr c3
  have c3b1 : ((l0.length : Int) != (l1.length : Int)) = true:=bne_iff_ne.mpr c3
  have c3b2 : (l0.length == l1.length) = false:=by first | simpa using c3 | (simp at c3 ⊢;omega)
  obtain rfl:=Option.some.inj H
  go_enter Try.func16,Try.ntmps16
  go_wp2
  repeat (go_quiet (fail);try go_wp2)
  go_ret
  exact ⟨by first | rfl | (simp;done) | (simp [*];done),by repeat (first | exact Drawn0.refl _ | apply Drawn0.step)⟩
def laws_markInt64SS.l0 : Nat → List (List Int) → Int → Int → Option (Int × List (List Int))
 | 0,_,_,_ => none
 | k + 1,x0,x1,x5 => if x5 < (x0.length : Int) then (if 0 ≤ x5 then ((laws_markInt64S.f k (x0.getD x5.toNat ([] : List Int)) x1).bind fun bt => (laws_markInt64SS.l0 k (x0.set x5.toNat bt.2) bt.1 (wrap64 (x5 + 1)))) else (none)) else (some (x1,x0))
def laws_markInt64SS.f (k : Nat) (l0 : List (List Int)) (a1 : Int) : Option (Int × List (List Int)):=laws_markInt64SS.l0 k l0 a1 0
theorem laws_markInt64SS.calls (k : Nat) (P0_ : Nat → Prop) (u9000_ : Value) (l0 : List (List Int)) (a1 : Int) (r1 : Int) (r2 : List (List Int)) (w0 w : World) (hB : Below w0.heap.size w0 w) (ho0 : Kd.S (Kd.slice 2 (Kd.int .i64)) 27 w w0.heap.size P0_ u9000_ l0) (h : laws_markInt64SS.f k l0 a1 = some (r1,r2)) :
  Calls Try.prog 17 #[u9000_,.int .i64 a1] w fun e w' => e = .returned (.int .i64 r1) ∧ Kd.S (Kd.slice 2 (Kd.int .i64)) 27 w' w0.heap.size (fun k_ => (P0_ k_ ∨ w.heap.size ≤ k_)) u9000_ r2 ∧ Below w0.heap.size w0 w' ∧ Kept w w' (fun k_ => P0_ k_):=by
 have HO0:=Aside0.mk (show Kd.S (Kd.slice 2 (Kd.int .i64)) 27 w w0.heap.size (fun k_ => (P0_ k_ ∨ w.heap.size ≤ k_)) u9000_ l0 from Kd.S_mono ho0 (fun k_ hk => (.inl hk)))
 have HK:=Aside0.mk (Kept.refl w (fun k_ => P0_ k_))
 have HW0:=Aside0.mk hB.size
 have HB:=Aside0.mk hB
 clear hB ho0
 have H : (laws_markInt64SS.l0 k l0 a1 0) = some (r1,r2):=h
 clear h
 have H':=Aside0.mk H
 clear H
 have HO_0:=HO0
 clear HO0
 go_enter Try.func17,Try.ntmps17
 go_wp2
 go_loopg [1,5] k (fun kq v1 v5 w' => ∃ (x0_1 : List (List Int)) (x1_1 : Int) (x5_1 : Int),v1 = .int .i64 x1_1 ∧ v5 = .int .i64 x5_1 ∧ Aside0 (laws_markInt64SS.l0 kq x0_1 x1_1 x5_1 = some (r1,r2)) ∧ Aside0 (kq ≤ k) ∧ Aside0 (Kd.S (Kd.slice 2 (Kd.int .i64)) 27 w' w0.heap.size (fun k_ => (P0_ k_ ∨ w.heap.size ≤ k_)) u9000_ x0_1) ∧ Aside0 (Kept w w' (fun k_ => P0_ k_)) ∧ Aside0 (Below w0.heap.size w0 w'))
 case atStart => exact ⟨(l0),(a1),(0),(by first | rfl | (simp;done) | (simp [*];done)),(by first | rfl | (simp;done) | (simp [*];done)),H',⟨Nat.le_refl _⟩,⟨(sO HO_0.out)⟩,⟨(by repeat (first | (with_reducible first | exact HK.out | apply Kept.alloc | apply Kept.drewN | apply Kept.drew) | exact HK.out))⟩,⟨ib⟩⟩
 case round =>
  clear H' HO_0 HK HB
  obtain ⟨x0_1,x1_1,x5_1,rfl,rfl,HA,HK1,HO_0,HK,HB⟩:=hrel
  cases gk with
  | zero => exact absurd HA.out (by simp [laws_markInt64SS.l0])
  | succ k1 =>
   have H:=HA.out
   clear HA
   simp only [laws_markInt64SS.l0] at H
   by_cases c3 : x5_1 < (x0_1.length : Int)
   ·rw [if_pos c3] at H
    have c3b0 : decide (x5_1 < (x0_1.length : Int)) = true:=decide_eq_true c3
    by_cases c4 : 0 ≤ x5_1
    ·rw [if_pos c4] at H
     have c4b0 : decide (0 ≤ x5_1) = true:=decide_eq_true c4
     replace H:=bE.mp H
     obtain ⟨⟨y1,y2⟩,A50,H⟩:=H
     replace H : (laws_markInt64SS.l0 k1 (x0_1.set x5_1.toNat y2) y1 (wrap64 (x5_1 + 1))) = some (r1,r2):=H
     have H':=Aside0.mk H
     clear H
     obtain ⟨y5,hy5⟩ : ∃ y_ : List Int,x0_1.getD x5_1.toNat ([] : List Int) = y_:=⟨_,rfl⟩
     rw [hy5] at A50
     have A5:=Aside0.mk A50
     clear A50
     obtain ⟨go5,co5,eo5,gb5,gl5,cl5,HG5⟩:=Kd.S_form HO_0.out (by omega)
     subst eo5
     clear gb5 gl5 HG5
     obtain ⟨oki,c,hcl,hM,hcc,hoki,hH⟩:=Kd.S_lend HO_0.out ([] : List Int) x5_1 c4 c3
     rw [hy5] at hM
     clear hy5
     obtain ⟨v5,rfl,hR⟩:=hM
     obtain ⟨A5_,c5_,e5_⟩:=Kd.R_slice hR
     subst e5_
     have hx5_0 : wr.cell? ⟨go5,x5_1.toNat,none⟩ = some (.slice A5_ y5.length c5_):=by
      have h_:=hcc 0 _ rfl
      rw [show x5_1.toNat * (Kd.slice 2 (Kd.int .i64)).sz + 0 = x5_1.toNat from (Nat.add_zero _).trans (Nat.mul_one _)] at h_
      exact h_
     have HR5:=Aside0.mk hR
     have HH5:=Aside0.mk hH
     have HOK:=Aside0.mk hoki
     clear hcl hcc hR hH hoki
     replace c3:=eq_true c3
     replace c4:=eq_true c4
     go_wp2_with (first | ((with_reducible refine gate_callee (f:=12) rfl ?_);refine goesL_ _ rfl rfl Try.func12 (by kernel_rfl) rfl #[.slice A5_ y5.length c5_,.int .i64 x1_1] rfl (by (try simp only [List.map_toArray,List.map_cons,List.map_nil]);first | done | rfl | (simp only [List.length_drop,List.length_take];rfl)) ?_;(with_reducible refine (laws_markInt64S.calls k1 oki _ y5 x1_1 y1 y2 w0 _ ib (rO HR5.out) A5.out).mono ?_);rintro e w6 ⟨rfl,ho,hb,hk⟩;refine ⟨_,rfl,?_⟩;have hK_ : Kept w wr (fun k_ => P0_ k_):=(by repeat (first | (with_reducible first | exact HK.out | apply Kept.alloc | apply Kept.drewN | apply Kept.drew) | exact HK.out));replace HO_0:=Aside0.mk (Kd.H_back (Kd.H_step (Kd.H_widen (by (with_reducible repeat (first | apply Kd.H_drewN | apply Kd.H_drew));exact HH5.out)) (fun k_ _ hk2 hlt => hk.2 k_ hlt (fun h_ => hk2 (Or.inl h_)))) (okp:=fun k_ => oki k_ ∨ wr.heap.size ≤ k_) (x':=y2) (show (Kd.slice 2 (Kd.int .i64)).M w6 w0.heap.size (fun k_ => oki k_ ∨ wr.heap.size ≤ k_) y2 [.slice A5_ y5.length c5_] from Exists.intro _ (And.intro rfl ho)) (fun k_ h_ => Or.elim h_ Or.inl (fun h2_ => Or.inr (And.intro (Or.inr (Nat.le_trans hK_.1 h2_)) h2_))));replace HB:=Aside0.mk hb;replace HK:=Aside0.mk (Kept.then_ hK_ hk (fun k_ h_ => (HOK.out k_ h_).1));clear ho hb hk hK_ HR5 HH5 HOK))
     go_roundg k1
     case measure => have:=HK1.out;omega
     case rel => exact ⟨(x0_1.set x5_1.toNat y2),y1,(wrap64 (x5_1 + 1)),(by first | rfl | (simp;done) | (simp [*];done)),(by first | rfl | (simp;done) | (simp [*];done)),H',⟨by have:=HK1.out;omega⟩,⟨(sO HO_0.out)⟩,⟨(by repeat (first | (with_reducible first | exact HK.out | apply Kept.alloc | apply Kept.drewN | apply Kept.drew) | exact HK.out))⟩,⟨ib⟩⟩
    ·rw [if_neg c4] at H
     exact absurd H (by simp)
   ·rw [if_neg c3] at H
    have c3b0 : decide (x5_1 < (x0_1.length : Int)) = false:=decide_eq_false c3
    clear c3
    simp only [Option.some.injEq,Prod.mk.injEq] at H
    obtain ⟨rfl,rfl⟩:=H
    obtain ⟨Ao9,co9,eo9⟩:=Kd.S_slice HO_0.out
    subst eo9
    go_wp2
    go_ret
    exact ⟨by first | rfl | (simp [errW_none,errW_some] <;> rfl) | (simp [*,errW_none,errW_some] <;> rfl),(sO HO_0.out),ib,(by repeat (first | (with_reducible first | exact HK.out | apply Kept.alloc | apply Kept.drewN | apply Kept.drew) | exact HK.out))⟩
def laws_heldInt64S.l0 : Nat → List Int → Int → Int → Option (Int)
 | 0,_,_,_ => none
 | k + 1,x0,x1,x5 => if x5 < (x0.length : Int) then (if 0 ≤ x5 then (if (rd x0 x5) = x1 then (laws_heldInt64S.l0 k x0 (wrap64 (x1 + 1)) (wrap64 (x5 + 1))) else (some (-1))) else (none)) else (some x1)
def laws_heldInt64S.f (k : Nat) (l0 : List Int) (a1 : Int) : Option (Int):=laws_heldInt64S.l0 k l0 a1 0
theorem laws_heldInt64S.calls (k : Nat) (A0 : Option Addr) (c0 : Nat) (l0 : List Int) (a1 : Int) (r : Int) (w : World) (hr0 : Kd.C (Kd.int .i64) w A0 l0.length l0) (hc0 : l0.length ≤ c0) (h : laws_heldInt64S.f k l0 a1 = some r) :
  Calls Try.prog 13 #[.slice A0 l0.length c0,.int .i64 a1] w fun e w' => e = .returned (.int .i64 r) ∧ Drawn0 w w':=by
 have HR0:=Aside0.mk hr0
 have HC0:=Aside0.mk hc0
 clear hr0 hc0
 have H : (laws_heldInt64S.l0 k l0 a1 0) = some r:=h
 clear h
 have H':=Aside0.mk H
 clear H
 go_enter Try.func13,Try.ntmps13
 go_wp2
 go_loopg [1,5] k (fun kq v1 v5 w' => ∃ (x1_1 : Int) (x5_1 : Int),v1 = .int .i64 x1_1 ∧ v5 = .int .i64 x5_1 ∧ Aside0 (laws_heldInt64S.l0 kq l0 x1_1 x5_1 = some r) ∧ Aside0 (kq ≤ k) ∧ Drawn0 w w')
 case atStart => exact ⟨(a1),(0),(by first | rfl | (simp;done) | (simp [*];done)),(by first | rfl | (simp;done) | (simp [*];done)),H',⟨Nat.le_refl _⟩,by repeat (first | exact Drawn0.refl _ | apply Drawn0.step)⟩
 case round =>
  clear H'
  try clear c1
  try clear p2
  obtain ⟨x1_1,x5_1,rfl,rfl,HA,HK1,⟨m1,rfl⟩⟩:=hrel
  cases gk with
  | zero => exact absurd HA.out (by simp [laws_heldInt64S.l0])
  | succ k1 =>
   have H:=HA.out
   clear HA
   simp only [laws_heldInt64S.l0] at H
   by_cases c3 : x5_1 < (l0.length : Int)
   ·rw [if_pos c3] at H
    have c3b0 : decide (x5_1 < (l0.length : Int)) = true:=decide_eq_true c3
    clear c3
    by_cases c4 : 0 ≤ x5_1
    ·rw [if_pos c4] at H
     have c4b0 : decide (0 ≤ x5_1) = true:=decide_eq_true c4
     clear c4
     by_cases c5 : (rd l0 x5_1) = x1_1
     ·rw [if_pos c5] at H
      have c5b0 : ((rd l0 x5_1) == x1_1) = true:=beq_iff_eq.mpr c5
      have c5b1 : ((rd l0 x5_1) != x1_1) = false:=bne_eq_false_iff_eq.mpr c5
      clear c5
      have H':=Aside0.mk H
      clear H
      have p420 : 0 ≤ (x5_1 : Int):=da
      have q420 : x5_1 < (l0.length : Int):=da
      obtain ⟨ad420,e420,hx420_0⟩:=Kd.at_int HR0.out x5_1 p420 q420
      cases e420
      replace p420:=eq_true p420
      replace q420:=eq_true q420
      go_wp2
      go_roundg k1
      case measure => have:=HK1.out;omega
      case rel => exact ⟨(wrap64 (x1_1 + 1)),(wrap64 (x5_1 + 1)),(by first | rfl | (simp;done) | (simp [*];done)),(by first | rfl | (simp;done) | (simp [*];done)),H',⟨by have:=HK1.out;omega⟩,by repeat (first | exact Drawn0.refl _ | apply Drawn0.step)⟩
     ·rw [if_neg c5] at H
      have c5b0 : ((rd l0 x5_1) == x1_1) = false:=beq_eq_false_iff_ne.mpr c5
      have c5b1 : ((rd l0 x5_1) != x1_1) = true:=bne_iff_ne.mpr c5
      obtain rfl:=Option.some.inj H
      have p420 : 0 ≤ (x5_1 : Int):=da
      have q420 : x5_1 < (l0.length : Int):=da
      obtain ⟨ad420,e420,hx420_0⟩:=Kd.at_int HR0.out x5_1 p420 q420
      cases e420
      replace p420:=eq_true p420
      replace q420:=eq_true q420
      go_wp2
      go_ret
      exact ⟨by first | rfl | (simp;done) | (simp [*];done),by repeat (first | exact Drawn0.refl _ | apply Drawn0.step)⟩
    ·rw [if_neg c4] at H
     exact absurd H (by simp)
   ·rw [if_neg c3] at H
    have c3b0 : decide (x5_1 < (l0.length : Int)) = false:=decide_eq_false c3
    clear c3
    obtain rfl:=Option.some.inj H
    go_wp2
    go_ret
    exact ⟨by first | rfl | (simp;done) | (simp [*];done),by repeat (first | exact Drawn0.refl _ | apply Drawn0.step)⟩
end Go.Proofs.Ytpeebobdbaemiaa.PFnExactEdgesOf
