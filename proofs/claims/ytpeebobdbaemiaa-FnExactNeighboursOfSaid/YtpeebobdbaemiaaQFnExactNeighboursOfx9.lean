/- Contracts of functions that FnExactNeighboursOf reaches, out of the lines of the kit's print. -/
import Derived.Test.YtpeebobdbaemiaaQFnExactNeighboursOfx0
import Derived.Test.YtpeebobdbaemiaaQFnExactNeighboursOfx3
import Derived.Test.YtpeebobdbaemiaaQFnExactNeighboursOfx8
namespace Go.Proofs.Ytpeebobdbaemiaa.PFnExactNeighboursOf
set_option maxHeartbeats 8000000
set_option maxRecDepth 100000
open Go.RowKit Go.Proofs.YtpeebobdbaemiaaW.PrintWords Go.Proofs.YtpeebobdbaemiaaW.PrintLast Go.Proofs.YtpeebobdbaemiaaW.PrintMore
open Bool renaming true → tT, false → fF
open Go.World renaming block_lt_of_cell? → bL
open List renaming map_toArray → mT, map_cons → mC, map_nil → mN
open Option renaming bind_eq_some_iff → bE
attribute [local go_sem] max2_int min2_int max_two min_two max_three min_three max_four min_four
set_option linter.unusedVariables false
set_option linter.unusedSimpArgs false
mutual
def spec_l05Near.l0 : Nat → Int → List Int → List Int → Int → Int → Int → List (S78) → List (S64) → Option (List Int × Int × Int)
 | 0,_,_,_,_,_,_,_,_ => none
 | k + 1,x1,x5,x6,x7,x1000,x1001,x1002,x1003 => if x7 < (x1003.length : Int) then (spec_l05Near.l1 k x1 x5 x6 x7 false 0 x1000 x1001 x1002 x1003) else (some (x5,x1000,x1001))
def spec_l05Near.l1 : Nat → Int → List Int → List Int → Int → Bool → Int → Int → Int → List (S78) → List (S64) → Option (List Int × Int × Int)
 | 0,_,_,_,_,_,_,_,_,_,_ => none
 | k + 1,x1,x5,x6,x7,x8,x9,x1000,x1001,x1002,x1003 => if x9 < (x6.length : Int) then (if x8 = true then (spec_l05Near.l1 k x1 x5 x6 x7 true (wrap64 (x9 + 1)) x1000 x1001 x1002 x1003) else (if 0 ≤ x7 then (if x7 < (x1003.length : Int) then (if 0 ≤ x9 then (if (x6.length : Int) = 0 then (none) else (if 0 ≤ (Int.tmod (wrap64 (x9 + 1)) (x6.length : Int)) then (if (Int.tmod (wrap64 (x9 + 1)) (x6.length : Int)) < (x6.length : Int) then ((spec_l05HasEdge.f k ((rd_T64 x1003 x7).f1) (rd x6 x9) (rd x6 (Int.tmod (wrap64 (x9 + 1)) (x6.length : Int)))).bind fun t209 => (spec_l05Near.l1 k x1 x5 x6 x7 t209 (wrap64 (x9 + 1)) x1000 x1001 x1002 x1003)) else (none)) else (none))) else (none)) else (none)) else (none))) else (if x7 = x1 then (spec_l05Near.l0 k x1 x5 x6 (wrap64 (x7 + 1)) x1000 x1001 x1002 x1003) else (if x8 = true then (if x5.length < 17592186044416 then (spec_l05Near.l0 k x1 (x5 ++ [x7]) x6 (wrap64 (x7 + 1)) x1000 x1001 x1002 x1003) else (none)) else (spec_l05Near.l0 k x1 x5 x6 (wrap64 (x7 + 1)) x1000 x1001 x1002 x1003)))
end
def spec_l05Near.f (k : Nat) (s0_0 : Int) (s0_1 : Int) (s0_2 : List (S78)) (s0_3 : List (S64)) (a1 : Int) : Option (List Int × Int × Int):=if 0 ≤ a1 then (if a1 < (s0_3.length : Int) then (spec_l05Near.l0 k a1 (([] : List Int)) ((rd_T64 s0_3 a1).f1) 0 s0_0 s0_1 s0_2 s0_3) else (none)) else (none)
theorem spec_l05Near.calls (k : Nat) (g : Nat) (s0_0 : Int) (s0_1 : Int) (s0_2 : List (S78)) (s0_3 : List (S64)) (a1 : Int) (r1 : List Int) (r2 : Int) (r3 : Int) (w0 w : World) (hI : IsS33 w0 w g s0_0 s0_1 s0_2 s0_3) (hB : Below w0.heap.size w0 w) (h : spec_l05Near.f k s0_0 s0_1 s0_2 s0_3 a1 = some (r1,r2,r3)) :
  Calls Try.prog 23 #[.pointer (some ⟨g,0,none⟩),.int .i64 a1] w fun e w' => ∃ v0_ : Value,e = .returned (v0_) ∧ Kd.R (Kd.int .i64) 2 w' w.heap.size (fun _ => True) v0_ r1 ∧ IsS33 w0 w' g r2 r3 s0_2 s0_3 ∧ Below w0.heap.size w0 w' ∧ KeepBut w w' g none:=by
 have HI0:=Aside0.mk hI
 have HK:=Aside0.mk (KeepBut.refl w g none)
 have HL:=Aside0.mk hB.size
 clear hI
 have HW0:=Aside0.mk hB.size
 have HB:=Aside0.mk hB
 clear hB
 have H : (if 0 ≤ a1 then (if a1 < (s0_3.length : Int) then (spec_l05Near.l0 k a1 (([] : List Int)) ((rd_T64 s0_3 a1).f1) 0 s0_0 s0_1 s0_2 s0_3) else (none)) else (none)) = some (r1,r2,r3):=h
 clear h
 obtain ⟨y202,hy202⟩ : ∃ y_ : List Int,y_ = (([] : List Int)):=⟨_,rfl⟩
 replace H : (if 0 ≤ a1 then (if a1 < (s0_3.length : Int) then (spec_l05Near.l0 k a1 y202 ((rd_T64 s0_3 a1).f1) 0 s0_0 s0_1 s0_2 s0_3) else (none)) else (none)) = some (r1,r2,r3):=by first | (rw [hy202];with_reducible exact H) | (have H2_:=(Option.bind_some _ _).symm.trans H;rw [hy202];with_reducible exact H2_) | (have H2_:=(Option.bind_some _ _).symm.trans H;with_reducible exact H2_) | with_reducible exact H | (rw [hy202];exact H) | exact H
 have Ny202:=Aside0.mk hy202
 clear hy202
 by_cases c3 : 0 ≤ a1
 ·rw [if_pos c3] at H
  have c3b0 : decide (0 ≤ a1) = true:=decide_eq_true c3
  clear c3
  by_cases c4 : a1 < (s0_3.length : Int)
  ·rw [if_pos c4] at H
   have c4b0 : decide (a1 < (s0_3.length : Int)) = true:=decide_eq_true c4
   clear c4
   have H':=Aside0.mk H
   clear H
   go_enter Try.func23,Try.ntmps23
   go_wp2_with (first | ((with_reducible refine gate_dst (N:=10) rfl ?_);(try (refine gate_guard (by rfl) ?_;dsimp only));refine Kd.R_lit (Kd.int .i64) _ 2 ?hg (N:=10) ?hd (xs:=([] : List Int)) (inner:=[]) (ok:=fun _ => True) (okp:=fun _ => True) ?hr ?hp (fun _ hk => hk) trivial (Below.refl _ _) (Nat.le_refl _) (by simp) ?_;(case hd => rfl);(case hg => rfl);(case hr => first | (go_simp;done) | (go_simp;rfl));(case hp => exact (Reps.none _ _));intro v203 w5 ho6 hb hg_ hnew_;clear hg_ hnew_;(first | rw [← Ny202.out] at ho6 | (simp only [Int.reduceToNat] at ho6;rw [← Ny202.out] at ho6));have HO204:=Aside0.mk (Kd.R_lower ho6 (keep_size (w:=w) (g:=g) (row:=none) (by repeat (first | (with_reducible first | exact HK.out | apply KeepBut.set_ | apply keep_drewN | apply keep_drew | apply keep_alloc) | exact HK.out))));replace HK:=Aside0.mk (KeepBut.trans (by repeat (first | (with_reducible first | exact HK.out | apply KeepBut.set_ | apply keep_drewN | apply keep_drew | apply keep_alloc) | exact HK.out)) (KeepBut.of_below hb g none) (.inl rfl));replace HB:=Aside0.mk (below_step (by repeat (first | (with_reducible first | exact HB.out | apply below_alloc | apply pw_below_drewN | apply below_drew1 | refine below_set ?_ (IsS33.ge HI0.out)) | exact HB.out)) hb);replace HI0:=Aside0.mk (IsS33.below (by repeat (first | (with_reducible first | exact HI0.out | apply IsS33.alloc | apply IsS33.drewN | apply IsS33.drew | apply IsS33.set_0 | apply IsS33.set_1) | exact HI0.out)) hb);clear hb ho6;obtain ⟨ASz7_2,cSz7_2,ASz7_3,cSz7_3,HGz7,hgz7,HSz7_2,HSz7_3⟩:=HI0.out;have hcz7_0:=cellS33_0 HGz7;have hcz7_1:=cellS33_1 HGz7;have hcz7_2:=cellS33_2 HGz7;have hcz7_3:=cellS33_3 HGz7;have hfz7_0:=blk_frozen HGz7 0;have hfz7_1:=blk_frozen HGz7 1;clear HGz7 hgz7;have p205 : 0 ≤ (a1 : Int):=da;have q205 : a1 < (s0_3.length : Int):=da;obtain ⟨ad205,A205_1,c205_1,e205,hx205_0,hx205_1,hl205_1,hi205_1⟩:=at_T64 HSz7_3 a1 p205 q205;cases e205;replace hx205_0:=pw_cell_below HB.out hx205_0;replace hx205_1:=pw_cell_below HB.out hx205_1;have HR205_1:=Aside0.mk hi205_1;have HC205_1:=Aside0.mk hl205_1;clear hi205_1 hl205_1;replace p205:=eq_true p205;replace q205:=eq_true q205))
   repeat (go_quiet (first | ((with_reducible refine gate_dst (N:=10) rfl ?_);(try (refine gate_guard (by rfl) ?_;dsimp only));refine Kd.R_lit (Kd.int .i64) _ 2 ?hg (N:=10) ?hd (xs:=([] : List Int)) (inner:=[]) (ok:=fun _ => True) (okp:=fun _ => True) ?hr ?hp (fun _ hk => hk) trivial (Below.refl _ _) (Nat.le_refl _) (by simp) ?_;(case hd => rfl);(case hg => rfl);(case hr => first | (go_simp;done) | (go_simp;rfl));(case hp => exact (Reps.none _ _));intro v203 w5 ho6 hb hg_ hnew_;clear hg_ hnew_;(first | rw [← Ny202.out] at ho6 | (simp only [Int.reduceToNat] at ho6;rw [← Ny202.out] at ho6));have HO204:=Aside0.mk (Kd.R_lower ho6 (keep_size (w:=w) (g:=g) (row:=none) (by repeat (first | (with_reducible first | exact HK.out | apply KeepBut.set_ | apply keep_drewN | apply keep_drew | apply keep_alloc) | exact HK.out))));replace HK:=Aside0.mk (KeepBut.trans (by repeat (first | (with_reducible first | exact HK.out | apply KeepBut.set_ | apply keep_drewN | apply keep_drew | apply keep_alloc) | exact HK.out)) (KeepBut.of_below hb g none) (.inl rfl));replace HB:=Aside0.mk (below_step (by repeat (first | (with_reducible first | exact HB.out | apply below_alloc | apply pw_below_drewN | apply below_drew1 | refine below_set ?_ (IsS33.ge HI0.out)) | exact HB.out)) hb);replace HI0:=Aside0.mk (IsS33.below (by repeat (first | (with_reducible first | exact HI0.out | apply IsS33.alloc | apply IsS33.drewN | apply IsS33.drew | apply IsS33.set_0 | apply IsS33.set_1) | exact HI0.out)) hb);clear hb ho6;obtain ⟨ASz7_2,cSz7_2,ASz7_3,cSz7_3,HGz7,hgz7,HSz7_2,HSz7_3⟩:=HI0.out;have hcz7_0:=cellS33_0 HGz7;have hcz7_1:=cellS33_1 HGz7;have hcz7_2:=cellS33_2 HGz7;have hcz7_3:=cellS33_3 HGz7;have hfz7_0:=blk_frozen HGz7 0;have hfz7_1:=blk_frozen HGz7 1;clear HGz7 hgz7;have p205 : 0 ≤ (a1 : Int):=da;have q205 : a1 < (s0_3.length : Int):=da;obtain ⟨ad205,A205_1,c205_1,e205,hx205_0,hx205_1,hl205_1,hi205_1⟩:=at_T64 HSz7_3 a1 p205 q205;cases e205;replace hx205_0:=pw_cell_below HB.out hx205_0;replace hx205_1:=pw_cell_below HB.out hx205_1;have HR205_1:=Aside0.mk hi205_1;have HC205_1:=Aside0.mk hl205_1;clear hi205_1 hl205_1;replace p205:=eq_true p205;replace q205:=eq_true q205));try go_wp2_with (first | ((with_reducible refine gate_dst (N:=10) rfl ?_);(try (refine gate_guard (by rfl) ?_;dsimp only));refine Kd.R_lit (Kd.int .i64) _ 2 ?hg (N:=10) ?hd (xs:=([] : List Int)) (inner:=[]) (ok:=fun _ => True) (okp:=fun _ => True) ?hr ?hp (fun _ hk => hk) trivial (Below.refl _ _) (Nat.le_refl _) (by simp) ?_;(case hd => rfl);(case hg => rfl);(case hr => first | (go_simp;done) | (go_simp;rfl));(case hp => exact (Reps.none _ _));intro v203 w5 ho6 hb hg_ hnew_;clear hg_ hnew_;(first | rw [← Ny202.out] at ho6 | (simp only [Int.reduceToNat] at ho6;rw [← Ny202.out] at ho6));have HO204:=Aside0.mk (Kd.R_lower ho6 (keep_size (w:=w) (g:=g) (row:=none) (by repeat (first | (with_reducible first | exact HK.out | apply KeepBut.set_ | apply keep_drewN | apply keep_drew | apply keep_alloc) | exact HK.out))));replace HK:=Aside0.mk (KeepBut.trans (by repeat (first | (with_reducible first | exact HK.out | apply KeepBut.set_ | apply keep_drewN | apply keep_drew | apply keep_alloc) | exact HK.out)) (KeepBut.of_below hb g none) (.inl rfl));replace HB:=Aside0.mk (below_step (by repeat (first | (with_reducible first | exact HB.out | apply below_alloc | apply pw_below_drewN | apply below_drew1 | refine below_set ?_ (IsS33.ge HI0.out)) | exact HB.out)) hb);replace HI0:=Aside0.mk (IsS33.below (by repeat (first | (with_reducible first | exact HI0.out | apply IsS33.alloc | apply IsS33.drewN | apply IsS33.drew | apply IsS33.set_0 | apply IsS33.set_1) | exact HI0.out)) hb);clear hb ho6;obtain ⟨ASz7_2,cSz7_2,ASz7_3,cSz7_3,HGz7,hgz7,HSz7_2,HSz7_3⟩:=HI0.out;have hcz7_0:=cellS33_0 HGz7;have hcz7_1:=cellS33_1 HGz7;have hcz7_2:=cellS33_2 HGz7;have hcz7_3:=cellS33_3 HGz7;have hfz7_0:=blk_frozen HGz7 0;have hfz7_1:=blk_frozen HGz7 1;clear HGz7 hgz7;have p205 : 0 ≤ (a1 : Int):=da;have q205 : a1 < (s0_3.length : Int):=da;obtain ⟨ad205,A205_1,c205_1,e205,hx205_0,hx205_1,hl205_1,hi205_1⟩:=at_T64 HSz7_3 a1 p205 q205;cases e205;replace hx205_0:=pw_cell_below HB.out hx205_0;replace hx205_1:=pw_cell_below HB.out hx205_1;have HR205_1:=Aside0.mk hi205_1;have HC205_1:=Aside0.mk hl205_1;clear hi205_1 hl205_1;replace p205:=eq_true p205;replace q205:=eq_true q205)))
   go_loopg [5,7] k (fun kq v5 v7 w' => ∃ (x5_1 : List Int) (x7_1 : Int),v7 = .int .i64 x7_1 ∧ Aside0 (spec_l05Near.l0 kq a1 x5_1 ((rd_T64 s0_3 a1).f1) x7_1 s0_0 s0_1 s0_2 s0_3 = some (r1,r2,r3)) ∧ Aside0 (kq ≤ k) ∧ Aside0 (Kd.R (Kd.int .i64) 2 w' w.heap.size (fun _ => True) v5 x5_1) ∧ Aside0 (IsS33 w0 w' g s0_0 s0_1 s0_2 s0_3) ∧ Aside0 (KeepBut w w' g none) ∧ Aside0 (Below w0.heap.size w0 w'))
   case atStart => exact ⟨(y202),(0),(by first | rfl | (simp;done) | (simp [*];done)),H',⟨Nat.le_refl _⟩,⟨rO HO204.out⟩,⟨by repeat (first | (with_reducible first | exact HI0.out | apply IsS33.alloc | apply IsS33.drewN | apply IsS33.drew | apply IsS33.set_0 | apply IsS33.set_1) | exact HI0.out)⟩,⟨by repeat (first | (with_reducible first | exact HK.out | apply KeepBut.set_ | apply keep_drewN | apply keep_drew | apply keep_alloc) | exact HK.out)⟩,⟨by repeat (first | (with_reducible first | exact HB.out | apply below_alloc | apply pw_below_drewN | apply below_drew1 | refine below_set ?_ (IsS33.ge HI0.out)) | exact HB.out)⟩⟩
   case round =>
    clear H'
    try clear c2
    try clear p2
    try clear q2
    try clear hx2
    try clear c3
    try clear c3b0
    try clear c4
    try clear c4b0
    try clear hcz7_0
    try clear hcz7_1
    try clear hcz7_2
    try clear hcz7_3
    try clear hfz7_0
    try clear hfz7_1
    try clear hx205_0
    try clear hx205_1
    try clear p205
    try clear q205
    obtain ⟨x5_1,x7_1,rfl,HA,HK1,HO_5,HI0,HK,HB⟩:=hrel
    cases gk with
    | zero => exact absurd HA.out (by simp [spec_l05Near.l0])
    | succ k1 =>
     have H:=HA.out
     clear HA
     simp only [spec_l05Near.l0] at H
     by_cases c8 : x7_1 < (s0_3.length : Int)
     ·rw [if_pos c8] at H
      have c8b0 : decide (x7_1 < (s0_3.length : Int)) = true:=decide_eq_true c8
      clear c8
      have H':=Aside0.mk H
      clear H
      obtain ⟨ASz9_2,cSz9_2,ASz9_3,cSz9_3,HGz9,hgz9,HSz9_2,HSz9_3⟩:=HI0.out
      have hcz9_0:=cellS33_0 HGz9
      have hcz9_1:=cellS33_1 HGz9
      have hcz9_2:=cellS33_2 HGz9
      have hcz9_3:=cellS33_3 HGz9
      have hfz9_0:=blk_frozen HGz9 0
      have hfz9_1:=blk_frozen HGz9 1
      clear HGz9 hgz9
      go_wp2
      repeat (go_quiet (fail);try go_wp2)
      go_loopg [8,9] k1 (fun kq v8 v9 w' => ∃ (x8_2 : Bool) (x9_2 : Int),v8 = .bool x8_2 ∧ v9 = .int .i64 x9_2 ∧ Aside0 (spec_l05Near.l1 kq a1 x5_1 ((rd_T64 s0_3 a1).f1) x7_1 x8_2 x9_2 s0_0 s0_1 s0_2 s0_3 = some (r1,r2,r3)) ∧ Aside0 (kq ≤ k1) ∧ Aside0 (Kd.R (Kd.int .i64) 2 w' w.heap.size (fun _ => True) u5 x5_1) ∧ Aside0 (IsS33 w0 w' g s0_0 s0_1 s0_2 s0_3) ∧ Aside0 (KeepBut w w' g none) ∧ Aside0 (Below w0.heap.size w0 w'))
      case atStart => exact ⟨(false),(0),(by first | rfl | (simp;done) | (simp [*];done)),(by first | rfl | (simp;done) | (simp [*];done)),H',⟨Nat.le_refl _⟩,⟨rO HO_5.out⟩,⟨by repeat (first | (with_reducible first | exact HI0.out | apply IsS33.alloc | apply IsS33.drewN | apply IsS33.drew | apply IsS33.set_0 | apply IsS33.set_1) | exact HI0.out)⟩,⟨by repeat (first | (with_reducible first | exact HK.out | apply KeepBut.set_ | apply keep_drewN | apply keep_drew | apply keep_alloc) | exact HK.out)⟩,⟨by repeat (first | (with_reducible first | exact HB.out | apply below_alloc | apply pw_below_drewN | apply below_drew1 | refine below_set ?_ (IsS33.ge HI0.out)) | exact HB.out)⟩⟩
      case round =>
       clear H'
       try clear c2
       try clear p2
       try clear q2
       try clear hx2
       try clear c3
       try clear c3b0
       try clear c4
       try clear c4b0
       try clear c8
       try clear c8b0
       try clear hcz7_0
       try clear hcz7_1
       try clear hcz7_2
       try clear hcz7_3
       try clear hcz9_0
       try clear hcz9_1
       try clear hcz9_2
       try clear hcz9_3
       try clear hfz7_0
       try clear hfz7_1
       try clear hfz9_0
       try clear hfz9_1
       try clear hx205_0
       try clear hx205_1
       try clear p2
       try clear p205
       try clear q2
       try clear q205
       obtain ⟨x8_2,x9_2,rfl,rfl,HA,HK2,HO_5,HI0,HK,HB⟩:=hrel
       cases gk with
       | zero => exact absurd HA.out (by simp [spec_l05Near.l1])
       | succ k2 =>
        have H:=HA.out
        clear HA
        simp only [spec_l05Near.l1] at H
        by_cases c10 : x9_2 < (((rd_T64 s0_3 a1).f1).length : Int)
        ·rw [if_pos c10] at H
         have c10b0 : decide (x9_2 < (((rd_T64 s0_3 a1).f1).length : Int)) = true:=decide_eq_true c10
         clear c10
         by_cases c11 : x8_2 = true
         ·subst c11
          have H1 : (spec_l05Near.l1 k2 a1 x5_1 ((rd_T64 s0_3 a1).f1) x7_1 true (wrap64 (x9_2 + 1)) s0_0 s0_1 s0_2 s0_3) = some (r1,r2,r3):=by rw [if_pos rfl] at H;exact H
          clear H
          have H:=H1
          clear H1
          have H':=Aside0.mk H
          clear H
          go_wp2
          repeat (go_quiet (fail);try go_wp2)
          go_roundg k2
          case measure => have:=HK1.out;have:=HK2.out;omega
          case rel => exact ⟨(true),(wrap64 (x9_2 + 1)),(by first | rfl | (simp;done) | (simp [*];done)),(by first | rfl | (simp;done) | (simp [*];done)),H',⟨by have:=HK1.out;have:=HK2.out;omega⟩,⟨rO HO_5.out⟩,⟨by repeat (first | (with_reducible first | exact HI0.out | apply IsS33.alloc | apply IsS33.drewN | apply IsS33.drew | apply IsS33.set_0 | apply IsS33.set_1) | exact HI0.out)⟩,⟨by repeat (first | (with_reducible first | exact HK.out | apply KeepBut.set_ | apply keep_drewN | apply keep_drew | apply keep_alloc) | exact HK.out)⟩,⟨by repeat (first | (with_reducible first | exact HB.out | apply below_alloc | apply pw_below_drewN | apply below_drew1 | refine below_set ?_ (IsS33.ge HI0.out)) | exact HB.out)⟩⟩
         ·replace c11:=Bool.eq_false_iff.mpr c11
          subst c11
          have H1 : (if 0 ≤ x7_1 then (if x7_1 < (s0_3.length : Int) then (if 0 ≤ x9_2 then (if (((rd_T64 s0_3 a1).f1).length : Int) = 0 then (none) else (if 0 ≤ (Int.tmod (wrap64 (x9_2 + 1)) (((rd_T64 s0_3 a1).f1).length : Int)) then (if (Int.tmod (wrap64 (x9_2 + 1)) (((rd_T64 s0_3 a1).f1).length : Int)) < (((rd_T64 s0_3 a1).f1).length : Int) then ((spec_l05HasEdge.f k2 ((rd_T64 s0_3 x7_1).f1) (rd ((rd_T64 s0_3 a1).f1) x9_2) (rd ((rd_T64 s0_3 a1).f1) (Int.tmod (wrap64 (x9_2 + 1)) (((rd_T64 s0_3 a1).f1).length : Int)))).bind fun t209 => (spec_l05Near.l1 k2 a1 x5_1 ((rd_T64 s0_3 a1).f1) x7_1 t209 (wrap64 (x9_2 + 1)) s0_0 s0_1 s0_2 s0_3)) else (none)) else (none))) else (none)) else (none)) else (none)) = some (r1,r2,r3):=by rw [if_neg (show ¬ (false = true) by decide)] at H;exact H
          clear H
          have H:=H1
          clear H1
          by_cases c12 : 0 ≤ x7_1
          ·rw [if_pos c12] at H
           have c12b0 : decide (0 ≤ x7_1) = true:=decide_eq_true c12
           clear c12
           by_cases c13 : x7_1 < (s0_3.length : Int)
           ·rw [if_pos c13] at H
            have c13b0 : decide (x7_1 < (s0_3.length : Int)) = true:=decide_eq_true c13
            clear c13
            by_cases c14 : 0 ≤ x9_2
            ·rw [if_pos c14] at H
             have c14b0 : decide (0 ≤ x9_2) = true:=decide_eq_true c14
             clear c14
             by_cases c15 : (((rd_T64 s0_3 a1).f1).length : Int) = 0
             ·rw [if_pos c15] at H
              exact absurd H (by simp)
             ·rw [if_neg c15] at H
              have c15b0 : ((((rd_T64 s0_3 a1).f1).length : Int) == 0) = false:=beq_eq_false_iff_ne.mpr c15
              have c15b1 : ((((rd_T64 s0_3 a1).f1).length : Int) != 0) = true:=bne_iff_ne.mpr c15
              have c15b2 : ¬ (((rd_T64 s0_3 a1).f1) = []):=fun h_ => c15 (by rw [h_];rfl)
              obtain ⟨ji16,hji16⟩ : ∃ j_ : Int,(Int.tmod (wrap64 (x9_2 + 1)) (((rd_T64 s0_3 a1).f1).length : Int)) = j_:=⟨_,rfl⟩
              replace H : (if 0 ≤ (ji16) then (if (ji16) < (((rd_T64 s0_3 a1).f1).length : Int) then ((spec_l05HasEdge.f k2 ((rd_T64 s0_3 x7_1).f1) (rd ((rd_T64 s0_3 a1).f1) x9_2) (rd ((rd_T64 s0_3 a1).f1) (ji16))).bind fun t209 => (spec_l05Near.l1 k2 a1 x5_1 ((rd_T64 s0_3 a1).f1) x7_1 t209 (wrap64 (x9_2 + 1)) s0_0 s0_1 s0_2 s0_3)) else (none)) else (none)) = some (r1,r2,r3):=by first | (rw [hji16] at H;exact H) | (simp only [hji16] at H ⊢;exact H)
              by_cases c17 : 0 ≤ (ji16)
              ·rw [if_pos c17] at H
               have c17b0 : decide (0 ≤ (ji16)) = true:=decide_eq_true c17
               clear c17
               by_cases c18 : (ji16) < (((rd_T64 s0_3 a1).f1).length : Int)
               ·rw [if_pos c18] at H
                have c18b0 : decide ((ji16) < (((rd_T64 s0_3 a1).f1).length : Int)) = true:=decide_eq_true c18
                clear c18
                replace H:=bE.mp H
                obtain ⟨t209,A190,H⟩:=H
                replace H : (spec_l05Near.l1 k2 a1 x5_1 ((rd_T64 s0_3 a1).f1) x7_1 t209 (wrap64 (x9_2 + 1)) s0_0 s0_1 s0_2 s0_3) = some (r1,r2,r3):=H
                have A19:=Aside0.mk A190
                clear A190
                have H':=Aside0.mk H
                clear H
                obtain ⟨ASz20_2,cSz20_2,ASz20_3,cSz20_3,HGz20,hgz20,HSz20_2,HSz20_3⟩:=HI0.out
                have hcz20_0:=cellS33_0 HGz20
                have hcz20_1:=cellS33_1 HGz20
                have hcz20_2:=cellS33_2 HGz20
                have hcz20_3:=cellS33_3 HGz20
                have hfz20_0:=blk_frozen HGz20 0
                have hfz20_1:=blk_frozen HGz20 1
                clear HGz20 hgz20
                have p206 : 0 ≤ (x7_1 : Int):=da
                have q206 : x7_1 < (s0_3.length : Int):=da
                obtain ⟨ad206,A206_1,c206_1,e206,hx206_0,hx206_1,hl206_1,hi206_1⟩:=at_T64 HSz20_3 x7_1 p206 q206
                cases e206
                replace hx206_0:=pw_cell_below HB.out hx206_0
                replace hx206_1:=pw_cell_below HB.out hx206_1
                have HR206_1:=Aside0.mk hi206_1
                have HC206_1:=Aside0.mk hl206_1
                clear hi206_1 hl206_1
                replace p206:=eq_true p206
                replace q206:=eq_true q206
                have p207 : 0 ≤ (x9_2 : Int):=da
                have q207 : x9_2 < (((rd_T64 s0_3 a1).f1).length : Int):=da
                obtain ⟨ad207,e207,hx207_0⟩:=Kd.at_int HR205_1.out x9_2 p207 q207
                cases e207
                replace hx207_0:=pw_cell_below HB.out hx207_0
                replace p207:=eq_true p207
                replace q207:=eq_true q207
                have p208 : 0 ≤ ((ji16) : Int):=da
                have q208 : (ji16) < (((rd_T64 s0_3 a1).f1).length : Int):=da
                obtain ⟨ad208,e208,hx208_0⟩:=Kd.at_int HR205_1.out (ji16) p208 q208
                obtain rfl : ad207 = ad208:=(by injection e208)
                replace hx208_0:=pw_cell_below HB.out hx208_0
                replace p208:=eq_true p208
                replace q208:=eq_true q208
                go_wp2_with (first | (go_at_call 43;(with_reducible refine (spec_l05HasEdge.calls k2 _ _ ((rd_T64 s0_3 x7_1).f1) (rd ((rd_T64 s0_3 a1).f1) x9_2) (rd ((rd_T64 s0_3 a1).f1) (ji16)) t209 _ ?side1 ?side2 A19.out).mono ?_);(case side1 => exact Kd.C_below HR206_1.out (by repeat (first | (with_reducible first | exact HB.out | apply below_alloc | apply pw_below_drewN | apply below_drew1 | refine below_set ?_ (IsS33.ge HI0.out)) | exact HB.out)));(case side2 => exact HC206_1.out);rintro e w' ⟨rfl,⟨nd,rfl⟩⟩;(try first | exact ⟨rfl,_,World.drewN_drewN _ _ _⟩ | exact ⟨rfl,_,Eq.trans (World.drewN_drewN _ _ _) (congrArg (World.drewN _) (Nat.add_assoc _ _ _))⟩)))
                repeat (go_quiet (first | (go_at_call 43;(with_reducible refine (spec_l05HasEdge.calls k2 _ _ ((rd_T64 s0_3 x7_1).f1) (rd ((rd_T64 s0_3 a1).f1) x9_2) (rd ((rd_T64 s0_3 a1).f1) (ji16)) t209 _ ?side1 ?side2 A19.out).mono ?_);(case side1 => exact Kd.C_below HR206_1.out (by repeat (first | (with_reducible first | exact HB.out | apply below_alloc | apply pw_below_drewN | apply below_drew1 | refine below_set ?_ (IsS33.ge HI0.out)) | exact HB.out)));(case side2 => exact HC206_1.out);rintro e w' ⟨rfl,⟨nd,rfl⟩⟩;(try first | exact ⟨rfl,_,World.drewN_drewN _ _ _⟩ | exact ⟨rfl,_,Eq.trans (World.drewN_drewN _ _ _) (congrArg (World.drewN _) (Nat.add_assoc _ _ _))⟩)));try go_wp2_with (first | (go_at_call 43;(with_reducible refine (spec_l05HasEdge.calls k2 _ _ ((rd_T64 s0_3 x7_1).f1) (rd ((rd_T64 s0_3 a1).f1) x9_2) (rd ((rd_T64 s0_3 a1).f1) (ji16)) t209 _ ?side1 ?side2 A19.out).mono ?_);(case side1 => exact Kd.C_below HR206_1.out (by repeat (first | (with_reducible first | exact HB.out | apply below_alloc | apply pw_below_drewN | apply below_drew1 | refine below_set ?_ (IsS33.ge HI0.out)) | exact HB.out)));(case side2 => exact HC206_1.out);rintro e w' ⟨rfl,⟨nd,rfl⟩⟩;(try first | exact ⟨rfl,_,World.drewN_drewN _ _ _⟩ | exact ⟨rfl,_,Eq.trans (World.drewN_drewN _ _ _) (congrArg (World.drewN _) (Nat.add_assoc _ _ _))⟩))))
                go_roundg k2
                case measure => have:=HK1.out;have:=HK2.out;omega
                case rel => exact ⟨(t209),(wrap64 (x9_2 + 1)),(by first | rfl | (simp;done) | (simp [*];done)),(by first | rfl | (simp;done) | (simp [*];done)),H',⟨by have:=HK1.out;have:=HK2.out;omega⟩,⟨rO HO_5.out⟩,⟨by repeat (first | (with_reducible first | exact HI0.out | apply IsS33.alloc | apply IsS33.drewN | apply IsS33.drew | apply IsS33.set_0 | apply IsS33.set_1) | exact HI0.out)⟩,⟨by repeat (first | (with_reducible first | exact HK.out | apply KeepBut.set_ | apply keep_drewN | apply keep_drew | apply keep_alloc) | exact HK.out)⟩,⟨by repeat (first | (with_reducible first | exact HB.out | apply below_alloc | apply pw_below_drewN | apply below_drew1 | refine below_set ?_ (IsS33.ge HI0.out)) | exact HB.out)⟩⟩
               ·rw [if_neg c18] at H
                exact absurd H (by simp)
              ·rw [if_neg c17] at H
               exact absurd H (by simp)
            ·rw [if_neg c14] at H
             exact absurd H (by simp)
           ·first | (exfalso;have z_:=of_decide_eq_true c8b0;omega) | (rw [if_neg c13] at H;exact absurd H (by simp))
          ·rw [if_neg c12] at H
           exact absurd H (by simp)
        ·rw [if_neg c10] at H
         have c10b0 : decide (x9_2 < (((rd_T64 s0_3 a1).f1).length : Int)) = false:=decide_eq_false c10
         clear c10
         by_cases c21 : x7_1 = a1
         ·rw [if_pos c21] at H
          have c21b0 : (x7_1 == a1) = true:=beq_iff_eq.mpr c21
          have c21b1 : (x7_1 != a1) = false:=bne_eq_false_iff_eq.mpr c21
          clear c21
          have H':=Aside0.mk H
          clear H
          go_wp2
          repeat (go_quiet (fail);try go_wp2)
          go_roundg k2
          case measure => have:=HK1.out;have:=HK2.out;omega
          case rel => exact ⟨(x5_1),(wrap64 (x7_1 + 1)),(by first | rfl | (simp;done) | (simp [*];done)),H',⟨by have:=HK1.out;have:=HK2.out;omega⟩,⟨rO HO_5.out⟩,⟨by repeat (first | (with_reducible first | exact HI0.out | apply IsS33.alloc | apply IsS33.drewN | apply IsS33.drew | apply IsS33.set_0 | apply IsS33.set_1) | exact HI0.out)⟩,⟨by repeat (first | (with_reducible first | exact HK.out | apply KeepBut.set_ | apply keep_drewN | apply keep_drew | apply keep_alloc) | exact HK.out)⟩,⟨by repeat (first | (with_reducible first | exact HB.out | apply below_alloc | apply pw_below_drewN | apply below_drew1 | refine below_set ?_ (IsS33.ge HI0.out)) | exact HB.out)⟩⟩
         ·rw [if_neg c21] at H
          have c21b0 : (x7_1 == a1) = false:=beq_eq_false_iff_ne.mpr c21
          have c21b1 : (x7_1 != a1) = true:=bne_iff_ne.mpr c21
          by_cases c22 : x8_2 = true
          ·subst c22
           have H1 : (if x5_1.length < 17592186044416 then (spec_l05Near.l0 k2 a1 (x5_1 ++ [x7_1]) ((rd_T64 s0_3 a1).f1) (wrap64 (x7_1 + 1)) s0_0 s0_1 s0_2 s0_3) else (none)) = some (r1,r2,r3):=by rw [if_pos rfl] at H;exact H
           clear H
           have H:=H1
           clear H1
           by_cases c23 : x5_1.length < 17592186044416
           ·rw [if_pos c23] at H
            have LMc23:=Aside0.mk c23
            clear c23
            obtain ⟨y210,hy210⟩ : ∃ y_ : List Int,y_ = (x5_1 ++ [x7_1]):=⟨_,rfl⟩
            replace H : (spec_l05Near.l0 k2 a1 y210 ((rd_T64 s0_3 a1).f1) (wrap64 (x7_1 + 1)) s0_0 s0_1 s0_2 s0_3) = some (r1,r2,r3):=by first | (rw [hy210];with_reducible exact H) | (have H2_:=(Option.bind_some _ _).symm.trans H;rw [hy210];with_reducible exact H2_) | (have H2_:=(Option.bind_some _ _).symm.trans H;with_reducible exact H2_) | with_reducible exact H | (rw [hy210];exact H) | exact H
            have Ny210:=Aside0.mk hy210
            clear hy210
            have H':=Aside0.mk H
            clear H
            go_wp2_with (first | ((with_reducible refine gate_builtin (b:=.append) (xs:=#[.tmp 64,.tmp 66]) rfl ?_);(try (refine gate_guard (by rfl) ?_;dsimp only));at_builtin;refine Kd.R_append (Kd.int .i64) w.heap.size rfl (.tmp 64) (.tmp 66) 27 2 (.int .i64 0) 8 rfl Try.underlying27 info2 rfl (by decide) (by omega) u5 x5_1 x7_1 [.int .i64 x7_1] (fun _ => True) (fun _ => False) rfl rfl ?aP (fun _ hk => hk.elim) ?aF ?aO (Below.refl _ _) ?aS ?aL ?_;(case aP => exact rfl);(case aF => exact (fun _ _ => trivial));(case aO => exact (rO HO_5.out));(case aS => exact (keep_size (w:=w) (g:=g) (row:=none) (by repeat (first | (with_reducible first | exact HK.out | apply KeepBut.set_ | apply keep_drewN | apply keep_drew | apply keep_alloc) | exact HK.out))));(case aL => have:=LMc23.out;omega);intro v211 w24 ho hb hg hat;rw [← Ny210.out] at ho;replace HB:=Aside0.mk (below_weaken (by repeat (first | (with_reducible first | exact HB.out | apply below_alloc | apply pw_below_drewN | apply below_drew1 | refine below_set ?_ (IsS33.ge HI0.out)) | exact HB.out)) HL.out hb);replace HI0:=Aside0.mk (IsS33.grown (by repeat (first | (with_reducible first | exact HI0.out | apply IsS33.alloc | apply IsS33.drewN | apply IsS33.drew | apply IsS33.set_0 | apply IsS33.set_1) | exact HI0.out)) hg (IsS33.own_ne HI0.out HO_5.out (by decide)));replace HK:=Aside0.mk (KeepBut.trans (by repeat (first | (with_reducible first | exact HK.out | apply KeepBut.set_ | apply keep_drewN | apply keep_drew | apply keep_alloc) | exact HK.out)) (KeepBut.of_grown hg g) (Kd.R_base2 HO_5.out));have HO212:=Aside0.mk (ho);clear HO_5;clear ho hb hg hat))
            repeat (go_quiet (first | ((with_reducible refine gate_builtin (b:=.append) (xs:=#[.tmp 64,.tmp 66]) rfl ?_);(try (refine gate_guard (by rfl) ?_;dsimp only));at_builtin;refine Kd.R_append (Kd.int .i64) w.heap.size rfl (.tmp 64) (.tmp 66) 27 2 (.int .i64 0) 8 rfl Try.underlying27 info2 rfl (by decide) (by omega) u5 x5_1 x7_1 [.int .i64 x7_1] (fun _ => True) (fun _ => False) rfl rfl ?aP (fun _ hk => hk.elim) ?aF ?aO (Below.refl _ _) ?aS ?aL ?_;(case aP => exact rfl);(case aF => exact (fun _ _ => trivial));(case aO => exact (rO HO_5.out));(case aS => exact (keep_size (w:=w) (g:=g) (row:=none) (by repeat (first | (with_reducible first | exact HK.out | apply KeepBut.set_ | apply keep_drewN | apply keep_drew | apply keep_alloc) | exact HK.out))));(case aL => have:=LMc23.out;omega);intro v211 w24 ho hb hg hat;rw [← Ny210.out] at ho;replace HB:=Aside0.mk (below_weaken (by repeat (first | (with_reducible first | exact HB.out | apply below_alloc | apply pw_below_drewN | apply below_drew1 | refine below_set ?_ (IsS33.ge HI0.out)) | exact HB.out)) HL.out hb);replace HI0:=Aside0.mk (IsS33.grown (by repeat (first | (with_reducible first | exact HI0.out | apply IsS33.alloc | apply IsS33.drewN | apply IsS33.drew | apply IsS33.set_0 | apply IsS33.set_1) | exact HI0.out)) hg (IsS33.own_ne HI0.out HO_5.out (by decide)));replace HK:=Aside0.mk (KeepBut.trans (by repeat (first | (with_reducible first | exact HK.out | apply KeepBut.set_ | apply keep_drewN | apply keep_drew | apply keep_alloc) | exact HK.out)) (KeepBut.of_grown hg g) (Kd.R_base2 HO_5.out));have HO212:=Aside0.mk (ho);clear HO_5;clear ho hb hg hat));try go_wp2_with (first | ((with_reducible refine gate_builtin (b:=.append) (xs:=#[.tmp 64,.tmp 66]) rfl ?_);(try (refine gate_guard (by rfl) ?_;dsimp only));at_builtin;refine Kd.R_append (Kd.int .i64) w.heap.size rfl (.tmp 64) (.tmp 66) 27 2 (.int .i64 0) 8 rfl Try.underlying27 info2 rfl (by decide) (by omega) u5 x5_1 x7_1 [.int .i64 x7_1] (fun _ => True) (fun _ => False) rfl rfl ?aP (fun _ hk => hk.elim) ?aF ?aO (Below.refl _ _) ?aS ?aL ?_;(case aP => exact rfl);(case aF => exact (fun _ _ => trivial));(case aO => exact (rO HO_5.out));(case aS => exact (keep_size (w:=w) (g:=g) (row:=none) (by repeat (first | (with_reducible first | exact HK.out | apply KeepBut.set_ | apply keep_drewN | apply keep_drew | apply keep_alloc) | exact HK.out))));(case aL => have:=LMc23.out;omega);intro v211 w24 ho hb hg hat;rw [← Ny210.out] at ho;replace HB:=Aside0.mk (below_weaken (by repeat (first | (with_reducible first | exact HB.out | apply below_alloc | apply pw_below_drewN | apply below_drew1 | refine below_set ?_ (IsS33.ge HI0.out)) | exact HB.out)) HL.out hb);replace HI0:=Aside0.mk (IsS33.grown (by repeat (first | (with_reducible first | exact HI0.out | apply IsS33.alloc | apply IsS33.drewN | apply IsS33.drew | apply IsS33.set_0 | apply IsS33.set_1) | exact HI0.out)) hg (IsS33.own_ne HI0.out HO_5.out (by decide)));replace HK:=Aside0.mk (KeepBut.trans (by repeat (first | (with_reducible first | exact HK.out | apply KeepBut.set_ | apply keep_drewN | apply keep_drew | apply keep_alloc) | exact HK.out)) (KeepBut.of_grown hg g) (Kd.R_base2 HO_5.out));have HO212:=Aside0.mk (ho);clear HO_5;clear ho hb hg hat)))
            go_roundg k2
            case measure => have:=HK1.out;have:=HK2.out;omega
            case rel => exact ⟨(y210),(wrap64 (x7_1 + 1)),(by first | rfl | (simp;done) | (simp [*];done)),H',⟨by have:=HK1.out;have:=HK2.out;omega⟩,⟨rO HO212.out⟩,⟨by repeat (first | (with_reducible first | exact HI0.out | apply IsS33.alloc | apply IsS33.drewN | apply IsS33.drew | apply IsS33.set_0 | apply IsS33.set_1) | exact HI0.out)⟩,⟨by repeat (first | (with_reducible first | exact HK.out | apply KeepBut.set_ | apply keep_drewN | apply keep_drew | apply keep_alloc) | exact HK.out)⟩,⟨by repeat (first | (with_reducible first | exact HB.out | apply below_alloc | apply pw_below_drewN | apply below_drew1 | refine below_set ?_ (IsS33.ge HI0.out)) | exact HB.out)⟩⟩
           ·rw [if_neg c23] at H
            exact absurd H (by simp)
          ·replace c22:=Bool.eq_false_iff.mpr c22
           subst c22
           have H1 : (spec_l05Near.l0 k2 a1 x5_1 ((rd_T64 s0_3 a1).f1) (wrap64 (x7_1 + 1)) s0_0 s0_1 s0_2 s0_3) = some (r1,r2,r3):=by rw [if_neg (show ¬ (false = true) by decide)] at H;exact H
           clear H
           have H:=H1
           clear H1
           have H':=Aside0.mk H
           clear H
           go_wp2
           repeat (go_quiet (fail);try go_wp2)
           go_roundg k2
           case measure => have:=HK1.out;have:=HK2.out;omega
           case rel => exact ⟨(x5_1),(wrap64 (x7_1 + 1)),(by first | rfl | (simp;done) | (simp [*];done)),H',⟨by have:=HK1.out;have:=HK2.out;omega⟩,⟨rO HO_5.out⟩,⟨by repeat (first | (with_reducible first | exact HI0.out | apply IsS33.alloc | apply IsS33.drewN | apply IsS33.drew | apply IsS33.set_0 | apply IsS33.set_1) | exact HI0.out)⟩,⟨by repeat (first | (with_reducible first | exact HK.out | apply KeepBut.set_ | apply keep_drewN | apply keep_drew | apply keep_alloc) | exact HK.out)⟩,⟨by repeat (first | (with_reducible first | exact HB.out | apply below_alloc | apply pw_below_drewN | apply below_drew1 | refine below_set ?_ (IsS33.ge HI0.out)) | exact HB.out)⟩⟩
     ·rw [if_neg c8] at H
      have c8b0 : decide (x7_1 < (s0_3.length : Int)) = false:=decide_eq_false c8
      clear c8
      simp only [Option.some.injEq,Prod.mk.injEq] at H
      obtain ⟨rfl,rfl,rfl⟩:=H
      obtain ⟨ASz25_2,cSz25_2,ASz25_3,cSz25_3,HGz25,hgz25,HSz25_2,HSz25_3⟩:=HI0.out
      have hcz25_0:=cellS33_0 HGz25
      have hcz25_1:=cellS33_1 HGz25
      have hcz25_2:=cellS33_2 HGz25
      have hcz25_3:=cellS33_3 HGz25
      have hfz25_0:=blk_frozen HGz25 0
      have hfz25_1:=blk_frozen HGz25 1
      clear HGz25 hgz25
      go_wp2
      repeat (go_quiet (fail);try go_wp2)
      go_ret
      exact ⟨_,by first | rfl | (simp [errW_none,errW_some] <;> rfl) | (simp [*,errW_none,errW_some] <;> rfl),rO HO_5.out,by repeat (first | (with_reducible first | exact HI0.out | apply IsS33.alloc | apply IsS33.drewN | apply IsS33.drew | apply IsS33.set_0 | apply IsS33.set_1) | exact HI0.out),by repeat (first | (with_reducible first | exact HB.out | apply below_alloc | apply pw_below_drewN | apply below_drew1 | refine below_set ?_ (IsS33.ge HI0.out)) | exact HB.out),by repeat (first | (with_reducible first | exact HK.out | apply KeepBut.set_ | apply keep_drewN | apply keep_drew | apply keep_alloc) | exact HK.out)⟩
  ·rw [if_neg c4] at H
   exact absurd H (by simp)
 ·rw [if_neg c3] at H
  exact absurd H (by simp)
def spec_NeighboursOf.f (k : Nat) (a0_0 : Int) (a0_1 : Int) (l0_2 : List (S78)) (l0_3 : List (S64)) (a1 : Int) : Option (List Int × Int):=(spec_l05Ok.f k a0_0 a0_1 l0_2 l0_3).bind fun bt214 => (if bt214.1 = true then ((spec_l05Face.f bt214.2.1 bt214.2.2 l0_2 l0_3 a1).bind fun bt217 => (if bt217.1 = true then ((spec_l05Near.f k bt217.2.1 bt217.2.2 l0_2 l0_3 a1).bind fun bt220 => (some (bt220.1,0))) else (some (([] : List Int),2)))) else (some (([] : List Int),1)))
theorem spec_NeighboursOf.calls (k : Nat) (a0_0 : Int) (a0_1 : Int) (A0_2 : Option Addr) (c0_2 : Nat) (l0_2 : List (S78)) (A0_3 : Option Addr) (c0_3 : Nat) (l0_3 : List (S64)) (a1 : Int) (r1 : List Int) (r2 : Int) (w : World) (hr0_2 : Kd.C k78 w A0_2 l0_2.length l0_2) (hc0_2 : l0_2.length ≤ c0_2) (hr0_3 : Kd.C k64 w A0_3 l0_3.length l0_3) (hc0_3 : l0_3.length ≤ c0_3) (h : spec_NeighboursOf.f k a0_0 a0_1 l0_2 l0_3 a1 = some (r1,r2)) :
  Calls Try.prog 6 #[.agg #[.int .i64 a0_0,.int .i64 a0_1,.slice A0_2 l0_2.length c0_2,.slice A0_3 l0_3.length c0_3],.int .i64 a1] w fun e w' => ∃ v0_ : Value,e = .returned (.tuple #[v0_,.int .i64 r2]) ∧ Kd.R (Kd.int .i64) 2 w' w.heap.size (fun _ => True) v0_ r1 ∧ Below w.heap.size w w':=by
 have hu33:=Try.underlying33
 have HR0_2:=Aside0.mk hr0_2
 have HC0_2:=Aside0.mk hc0_2
 clear hr0_2 hc0_2
 have HR0_3:=Aside0.mk hr0_3
 have HC0_3:=Aside0.mk hc0_3
 clear hr0_3 hc0_3
 have HB:=Aside0.mk (Below.refl w.heap.size w)
 have H : ((spec_l05Ok.f k a0_0 a0_1 l0_2 l0_3).bind fun bt214 => (if bt214.1 = true then ((spec_l05Face.f bt214.2.1 bt214.2.2 l0_2 l0_3 a1).bind fun bt217 => (if bt217.1 = true then ((spec_l05Near.f k bt217.2.1 bt217.2.2 l0_2 l0_3 a1).bind fun bt220 => (some (bt220.1,0))) else (some (([] : List Int),2)))) else (some (([] : List Int),1)))) = some (r1,r2):=h
 clear h
 replace H:=bE.mp H
 obtain ⟨⟨b,x,y⟩,A10,H⟩:=H
 have A1_:=Aside0.mk A10
 clear A10
 cases b with
 | false =>
  replace H : some (([] : List Int),(1 : Int)) = some (r1,r2):=H
  simp only [Option.some.injEq,Prod.mk.injEq] at H
  obtain ⟨rfl,rfl⟩:=H
  go_enter Try.func6,Try.ntmps6
  go_wp2_with (first | ((with_reducible refine gate_dst (N:=2) rfl ?_);refine bx (cs:=#[.int .i64 a0_0,.int .i64 a0_1,.slice A0_2 l0_2.length c0_2,.slice A0_3 l0_3.length c0_3]) (t:=33) ?_;intro gb hg w3 hbox hb;have HI:=Aside0.mk (show IsS33 w w3 gb a0_0 a0_1 l0_2 l0_3 from ⟨A0_2,c0_2,A0_3,c0_3,hbox,Nat.le_of_eq hg.symm,HR0_2.out,HR0_3.out⟩);have n1_:=Aside0.mk (below_step ib hb);clear HB;have HB:=n1_;clear n1_ hbox hb hg) | ((with_reducible refine gate_callee (f:=21) rfl ?_);refine goesL_ _ rfl rfl Try.func21 (by kernel_rfl) rfl #[.pointer (some ⟨gb,0,none⟩)] rfl (by (try simp only [mT,mC,mN]);first | done | rfl) ?_;(with_reducible refine (spec_l05Ok.calls _ gb a0_0 a0_1 l0_2 l0_3 _ _ _ w _ (by repeat (first | exact HI.out | apply IsS33.alloc | apply IsS33.drewN | apply IsS33.drew)) ib A1_.out).mono ?_);rintro e w5 ⟨rfl,hi,hb,hk⟩;refine ⟨_,rfl,?_⟩;have n1_:=Aside0.mk hb;have n2_:=Aside0.mk hi;clear hi hb hk HB HI;have HB:=n1_;have HI:=n2_;clear n1_ n2_) | (go_at_call 21;(with_reducible refine (spec_l05Ok.calls _ gb a0_0 a0_1 l0_2 l0_3 _ _ _ w _ (by repeat (first | exact HI.out | apply IsS33.alloc | apply IsS33.drewN | apply IsS33.drew)) ib A1_.out).mono ?_);rintro e w5 ⟨rfl,hi,hb,hk⟩;have n1_:=Aside0.mk hb;have n2_:=Aside0.mk hi;clear hi hb hk HB HI;have HB:=n1_;have HI:=n2_;clear n1_ n2_) | ((with_reducible refine gate_callee (f:=22) rfl ?_);refine goesL_ _ rfl rfl Try.func22 (by kernel_rfl) rfl #[.pointer (some ⟨gb,0,none⟩),.int .i64 a1] rfl (by (try simp only [mT,mC,mN]);first | done | rfl) ?_;(with_reducible refine (spec_l05Face.calls gb _ _ l0_2 l0_3 a1 _ _ _ w _ (by repeat (first | exact HI.out | apply IsS33.alloc | apply IsS33.drewN | apply IsS33.drew)) ib A2_.out).mono ?_);rintro e w5 ⟨rfl,hi,hb,hk⟩;refine ⟨_,rfl,?_⟩;have n1_:=Aside0.mk hb;have n2_:=Aside0.mk hi;clear hi hb hk HB HI;have HB:=n1_;have HI:=n2_;clear n1_ n2_) | (go_at_call 22;(with_reducible refine (spec_l05Face.calls gb _ _ l0_2 l0_3 a1 _ _ _ w _ (by repeat (first | exact HI.out | apply IsS33.alloc | apply IsS33.drewN | apply IsS33.drew)) ib A2_.out).mono ?_);rintro e w5 ⟨rfl,hi,hb,hk⟩;have n1_:=Aside0.mk hb;have n2_:=Aside0.mk hi;clear hi hb hk HB HI;have HB:=n1_;have HI:=n2_;clear n1_ n2_) | ((with_reducible refine gate_callee (f:=23) rfl ?_);refine goesL_ _ rfl rfl Try.func23 (by kernel_rfl) rfl #[.pointer (some ⟨gb,0,none⟩),.int .i64 a1] rfl (by (try simp only [mT,mC,mN]);first | done | rfl) ?_;(with_reducible refine (spec_l05Near.calls k gb _ _ l0_2 l0_3 a1 _ _ _ w _ (by repeat (first | exact HI.out | apply IsS33.alloc | apply IsS33.drewN | apply IsS33.drew)) ib A3_.out).mono ?_);rintro e w5 ⟨vp,rfl,ho,hi,hb,hk⟩;refine ⟨_,rfl,?_⟩;have HO:=Aside0.mk (Kd.R_lower ho (below_size ib));clear ho;have n1_:=Aside0.mk hb;have n2_:=Aside0.mk hi;clear hi hb hk HB HI;have HB:=n1_;have HI:=n2_;clear n1_ n2_;obtain ⟨Ao8,co8,eo8⟩:=Kd.R_slice HO.out;subst eo8) | (go_at_call 23;(with_reducible refine (spec_l05Near.calls k gb _ _ l0_2 l0_3 a1 _ _ _ w _ (by repeat (first | exact HI.out | apply IsS33.alloc | apply IsS33.drewN | apply IsS33.drew)) ib A3_.out).mono ?_);rintro e w5 ⟨vp,rfl,ho,hi,hb,hk⟩;have HO:=Aside0.mk (Kd.R_lower ho (below_size ib));clear ho;have n1_:=Aside0.mk hb;have n2_:=Aside0.mk hi;clear hi hb hk HB HI;have HB:=n1_;have HI:=n2_;clear n1_ n2_;obtain ⟨Ao8,co8,eo8⟩:=Kd.R_slice HO.out;subst eo8))
  go_ret2
  exact ⟨.slice none 0 0,(by first | rfl | (simp;done) | (simp [*];done)),Kd.R_nil _ _ _ _ _,ib⟩
 | true =>
  replace H:=(if_pos rfl).symm.trans H
  replace H:=bE.mp H
  obtain ⟨⟨c,x2,y2⟩,A20,H⟩:=H
  have A2_:=Aside0.mk A20
  clear A20
  cases c with
  | false =>
   replace H : some (([] : List Int),(2 : Int)) = some (r1,r2):=H
   simp only [Option.some.injEq,Prod.mk.injEq] at H
   obtain ⟨rfl,rfl⟩:=H
   go_enter Try.func6,Try.ntmps6
   go_wp2_with (first | ((with_reducible refine gate_dst (N:=2) rfl ?_);refine bx (cs:=#[.int .i64 a0_0,.int .i64 a0_1,.slice A0_2 l0_2.length c0_2,.slice A0_3 l0_3.length c0_3]) (t:=33) ?_;intro gb hg w3 hbox hb;have HI:=Aside0.mk (show IsS33 w w3 gb a0_0 a0_1 l0_2 l0_3 from ⟨A0_2,c0_2,A0_3,c0_3,hbox,Nat.le_of_eq hg.symm,HR0_2.out,HR0_3.out⟩);have n1_:=Aside0.mk (below_step ib hb);clear HB;have HB:=n1_;clear n1_ hbox hb hg) | ((with_reducible refine gate_callee (f:=21) rfl ?_);refine goesL_ _ rfl rfl Try.func21 (by kernel_rfl) rfl #[.pointer (some ⟨gb,0,none⟩)] rfl (by (try simp only [mT,mC,mN]);first | done | rfl) ?_;(with_reducible refine (spec_l05Ok.calls _ gb a0_0 a0_1 l0_2 l0_3 _ _ _ w _ (by repeat (first | exact HI.out | apply IsS33.alloc | apply IsS33.drewN | apply IsS33.drew)) ib A1_.out).mono ?_);rintro e w5 ⟨rfl,hi,hb,hk⟩;refine ⟨_,rfl,?_⟩;have n1_:=Aside0.mk hb;have n2_:=Aside0.mk hi;clear hi hb hk HB HI;have HB:=n1_;have HI:=n2_;clear n1_ n2_) | (go_at_call 21;(with_reducible refine (spec_l05Ok.calls _ gb a0_0 a0_1 l0_2 l0_3 _ _ _ w _ (by repeat (first | exact HI.out | apply IsS33.alloc | apply IsS33.drewN | apply IsS33.drew)) ib A1_.out).mono ?_);rintro e w5 ⟨rfl,hi,hb,hk⟩;have n1_:=Aside0.mk hb;have n2_:=Aside0.mk hi;clear hi hb hk HB HI;have HB:=n1_;have HI:=n2_;clear n1_ n2_) | ((with_reducible refine gate_callee (f:=22) rfl ?_);refine goesL_ _ rfl rfl Try.func22 (by kernel_rfl) rfl #[.pointer (some ⟨gb,0,none⟩),.int .i64 a1] rfl (by (try simp only [mT,mC,mN]);first | done | rfl) ?_;(with_reducible refine (spec_l05Face.calls gb _ _ l0_2 l0_3 a1 _ _ _ w _ (by repeat (first | exact HI.out | apply IsS33.alloc | apply IsS33.drewN | apply IsS33.drew)) ib A2_.out).mono ?_);rintro e w5 ⟨rfl,hi,hb,hk⟩;refine ⟨_,rfl,?_⟩;have n1_:=Aside0.mk hb;have n2_:=Aside0.mk hi;clear hi hb hk HB HI;have HB:=n1_;have HI:=n2_;clear n1_ n2_) | (go_at_call 22;(with_reducible refine (spec_l05Face.calls gb _ _ l0_2 l0_3 a1 _ _ _ w _ (by repeat (first | exact HI.out | apply IsS33.alloc | apply IsS33.drewN | apply IsS33.drew)) ib A2_.out).mono ?_);rintro e w5 ⟨rfl,hi,hb,hk⟩;have n1_:=Aside0.mk hb;have n2_:=Aside0.mk hi;clear hi hb hk HB HI;have HB:=n1_;have HI:=n2_;clear n1_ n2_) | ((with_reducible refine gate_callee (f:=23) rfl ?_);refine goesL_ _ rfl rfl Try.func23 (by kernel_rfl) rfl #[.pointer (some ⟨gb,0,none⟩),.int .i64 a1] rfl (by (try simp only [mT,mC,mN]);first | done | rfl) ?_;(with_reducible refine (spec_l05Near.calls k gb _ _ l0_2 l0_3 a1 _ _ _ w _ (by repeat (first | exact HI.out | apply IsS33.alloc | apply IsS33.drewN | apply IsS33.drew)) ib A3_.out).mono ?_);rintro e w5 ⟨vp,rfl,ho,hi,hb,hk⟩;refine ⟨_,rfl,?_⟩;have HO:=Aside0.mk (Kd.R_lower ho (below_size ib));clear ho;have n1_:=Aside0.mk hb;have n2_:=Aside0.mk hi;clear hi hb hk HB HI;have HB:=n1_;have HI:=n2_;clear n1_ n2_;obtain ⟨Ao8,co8,eo8⟩:=Kd.R_slice HO.out;subst eo8) | (go_at_call 23;(with_reducible refine (spec_l05Near.calls k gb _ _ l0_2 l0_3 a1 _ _ _ w _ (by repeat (first | exact HI.out | apply IsS33.alloc | apply IsS33.drewN | apply IsS33.drew)) ib A3_.out).mono ?_);rintro e w5 ⟨vp,rfl,ho,hi,hb,hk⟩;have HO:=Aside0.mk (Kd.R_lower ho (below_size ib));clear ho;have n1_:=Aside0.mk hb;have n2_:=Aside0.mk hi;clear hi hb hk HB HI;have HB:=n1_;have HI:=n2_;clear n1_ n2_;obtain ⟨Ao8,co8,eo8⟩:=Kd.R_slice HO.out;subst eo8))
   go_ret2
   exact ⟨.slice none 0 0,(by first | rfl | (simp;done) | (simp [*];done)),Kd.R_nil _ _ _ _ _,ib⟩
  | true =>
   replace H:=(if_pos rfl).symm.trans H
   replace H:=bE.mp H
   obtain ⟨⟨q,x3,y3⟩,A30,H⟩:=H
   have A3_:=Aside0.mk A30
   clear A30
   simp only [Option.some.injEq,Prod.mk.injEq] at H
   obtain ⟨rfl,rfl⟩:=H
   go_enter Try.func6,Try.ntmps6
   go_wp2_with (first | ((with_reducible refine gate_dst (N:=2) rfl ?_);refine bx (cs:=#[.int .i64 a0_0,.int .i64 a0_1,.slice A0_2 l0_2.length c0_2,.slice A0_3 l0_3.length c0_3]) (t:=33) ?_;intro gb hg w3 hbox hb;have HI:=Aside0.mk (show IsS33 w w3 gb a0_0 a0_1 l0_2 l0_3 from ⟨A0_2,c0_2,A0_3,c0_3,hbox,Nat.le_of_eq hg.symm,HR0_2.out,HR0_3.out⟩);have n1_:=Aside0.mk (below_step ib hb);clear HB;have HB:=n1_;clear n1_ hbox hb hg) | ((with_reducible refine gate_callee (f:=21) rfl ?_);refine goesL_ _ rfl rfl Try.func21 (by kernel_rfl) rfl #[.pointer (some ⟨gb,0,none⟩)] rfl (by (try simp only [mT,mC,mN]);first | done | rfl) ?_;(with_reducible refine (spec_l05Ok.calls _ gb a0_0 a0_1 l0_2 l0_3 _ _ _ w _ (by repeat (first | exact HI.out | apply IsS33.alloc | apply IsS33.drewN | apply IsS33.drew)) ib A1_.out).mono ?_);rintro e w5 ⟨rfl,hi,hb,hk⟩;refine ⟨_,rfl,?_⟩;have n1_:=Aside0.mk hb;have n2_:=Aside0.mk hi;clear hi hb hk HB HI;have HB:=n1_;have HI:=n2_;clear n1_ n2_) | (go_at_call 21;(with_reducible refine (spec_l05Ok.calls _ gb a0_0 a0_1 l0_2 l0_3 _ _ _ w _ (by repeat (first | exact HI.out | apply IsS33.alloc | apply IsS33.drewN | apply IsS33.drew)) ib A1_.out).mono ?_);rintro e w5 ⟨rfl,hi,hb,hk⟩;have n1_:=Aside0.mk hb;have n2_:=Aside0.mk hi;clear hi hb hk HB HI;have HB:=n1_;have HI:=n2_;clear n1_ n2_) | ((with_reducible refine gate_callee (f:=22) rfl ?_);refine goesL_ _ rfl rfl Try.func22 (by kernel_rfl) rfl #[.pointer (some ⟨gb,0,none⟩),.int .i64 a1] rfl (by (try simp only [mT,mC,mN]);first | done | rfl) ?_;(with_reducible refine (spec_l05Face.calls gb _ _ l0_2 l0_3 a1 _ _ _ w _ (by repeat (first | exact HI.out | apply IsS33.alloc | apply IsS33.drewN | apply IsS33.drew)) ib A2_.out).mono ?_);rintro e w5 ⟨rfl,hi,hb,hk⟩;refine ⟨_,rfl,?_⟩;have n1_:=Aside0.mk hb;have n2_:=Aside0.mk hi;clear hi hb hk HB HI;have HB:=n1_;have HI:=n2_;clear n1_ n2_) | (go_at_call 22;(with_reducible refine (spec_l05Face.calls gb _ _ l0_2 l0_3 a1 _ _ _ w _ (by repeat (first | exact HI.out | apply IsS33.alloc | apply IsS33.drewN | apply IsS33.drew)) ib A2_.out).mono ?_);rintro e w5 ⟨rfl,hi,hb,hk⟩;have n1_:=Aside0.mk hb;have n2_:=Aside0.mk hi;clear hi hb hk HB HI;have HB:=n1_;have HI:=n2_;clear n1_ n2_) | ((with_reducible refine gate_callee (f:=23) rfl ?_);refine goesL_ _ rfl rfl Try.func23 (by kernel_rfl) rfl #[.pointer (some ⟨gb,0,none⟩),.int .i64 a1] rfl (by (try simp only [mT,mC,mN]);first | done | rfl) ?_;(with_reducible refine (spec_l05Near.calls k gb _ _ l0_2 l0_3 a1 _ _ _ w _ (by repeat (first | exact HI.out | apply IsS33.alloc | apply IsS33.drewN | apply IsS33.drew)) ib A3_.out).mono ?_);rintro e w5 ⟨vp,rfl,ho,hi,hb,hk⟩;refine ⟨_,rfl,?_⟩;have HO:=Aside0.mk (Kd.R_lower ho (below_size ib));clear ho;have n1_:=Aside0.mk hb;have n2_:=Aside0.mk hi;clear hi hb hk HB HI;have HB:=n1_;have HI:=n2_;clear n1_ n2_;obtain ⟨Ao8,co8,eo8⟩:=Kd.R_slice HO.out;subst eo8) | (go_at_call 23;(with_reducible refine (spec_l05Near.calls k gb _ _ l0_2 l0_3 a1 _ _ _ w _ (by repeat (first | exact HI.out | apply IsS33.alloc | apply IsS33.drewN | apply IsS33.drew)) ib A3_.out).mono ?_);rintro e w5 ⟨vp,rfl,ho,hi,hb,hk⟩;have HO:=Aside0.mk (Kd.R_lower ho (below_size ib));clear ho;have n1_:=Aside0.mk hb;have n2_:=Aside0.mk hi;clear hi hb hk HB HI;have HB:=n1_;have HI:=n2_;clear n1_ n2_;obtain ⟨Ao8,co8,eo8⟩:=Kd.R_slice HO.out;subst eo8))
   go_ret2
   exact ⟨_,(by first | rfl | (simp;done) | (simp [*];done)),(rO HO.out),ib⟩
def laws_toPoint.f (a0_0 : Int) (a0_1 : Int) : Option (Int × Int):=some (a0_0,a0_1)
theorem laws_toPoint.calls (a0_0 : Int) (a0_1 : Int) (r1 : Int) (r2 : Int) (w : World) (h : laws_toPoint.f a0_0 a0_1 = some (r1,r2)) :
  Calls Try.prog 44 #[.agg #[.int .i64 a0_0,.int .i64 a0_1]] w fun e w' => e = .returned (.agg #[.int .i64 r1,.int .i64 r2]) ∧ Below w.heap.size w w':=by
 have hu80:=Try.underlying80
 have hu78:=Try.underlying78
 have HB:=Aside0.mk (Below.refl w.heap.size w)
 have H : (some (a0_0,a0_1)) = some (r1,r2):=h
 clear h
 simp only [Option.some.injEq,Prod.mk.injEq] at H
 obtain ⟨rfl,rfl⟩:=H
 go_enter Try.func44,Try.ntmps44
 go_wp2_with (first | ((with_reducible refine gate_dst (N:=1) rfl ?_);refine bx (cs:=#[.int .i64 a0_0,.int .i64 a0_1]) (t:=80) ?_;intro gb225 hg w2 hbox hb;have BK225:=Aside0.mk (hbox);have GW225:=zb hg;have GE225:=zb hg;replace HB:=sb hb;clear hb hbox hg) | ((with_reducible refine gate_dst (N:=2) rfl ?_);refine bx (cs:=#[.int .i64 0,.int .i64 0]) (t:=78) ?_;intro gb226 hg w3 hbox hb;have BK226:=Aside0.mk (hbox);have GW226:=zb hg;have GE226:=zb hg;replace HB:=sb hb;have NB225_226:=nl BK225 hg;have NB226_225:=ng BK225 hg;replace BK225:=kb BK225 hb;clear hb hbox hg) | ((with_reducible refine gate_dst (N:=3) rfl ?_);refine bx (cs:=#[.int .i64 0,.int .i64 0]) (t:=78) ?_;intro gb227 hg w4 hbox hb;have BK227:=Aside0.mk (hbox);have GW227:=zb hg;have GE227:=zb hg;replace HB:=sb hb;have NB225_227:=nl BK225 hg;have NB227_225:=ng BK225 hg;replace BK225:=kb BK225 hb;have NB226_227:=nl BK226 hg;have NB227_226:=ng BK226 hg;replace BK226:=kb BK226 hb;clear hb hbox hg;have hnb5:=NB225_226.out;have hnc5:=NB226_225.out;have hnb6:=NB225_227.out;have hnc6:=NB227_225.out;have hcz7_0:=ck BK225 0;have hcz7_1:=ck BK225 1;have hfz7_0:=blk_frozen BK225.out 0;have hfz7_1:=blk_frozen BK225.out 1;have hnb8:=NB227_226.out;have hnc8:=NB226_227.out;have hcz9_0:=ck BK227 0;have hcz9_1:=ck BK227 1;have hfz9_0:=blk_frozen BK227.out 0;have hfz9_1:=blk_frozen BK227.out 1;have hcz10_0:=ck BK226 0;have hcz10_1:=ck BK226 1;have hfz10_0:=blk_frozen BK226.out 0;have hfz10_1:=blk_frozen BK226.out 1))
 refine bodyPost_ret (results_cell_row rfl _ _ gb226 78 #[.int .i64 a0_0,.int .i64 a0_1] (0,0) _ rfl (by refine bP (cs:=#[.int .i64 a0_0,.int .i64 0]) 1 ?_;refine bP (cs:=#[.int .i64 0,.int .i64 0]) 0 ?_;refine bF NB226_227.out ?_;refine bF NB226_227.out ?_;exact bk BK226) Try.underlying78 rfl (by kernel_rfl)) rfl ?_
 exact ⟨by first | rfl | (simp [errW_none,errW_some] <;> rfl) | (simp [*,errW_none,errW_some] <;> rfl),ib⟩
def laws_toPointS.l0 : Nat → List (S80) → List (S78) → Int → Option ((List (S78)))
 | 0,_,_,_ => none
 | k + 1,x0,x3,x4 => if x4 < (x0.length : Int) then (if 0 ≤ x4 then ((laws_toPoint.f ((rd_T80 x0 x4).f0) ((rd_T80 x0 x4).f1)).bind fun bt232 => (if x4 < (x3.length : Int) then (laws_toPointS.l0 k x0 (x3.set (x4 : Int).toNat (⟨bt232.1,bt232.2⟩ : S78)) (wrap64 (x4 + 1))) else (none))) else (none)) else (some x3)
def laws_toPointS.f (k : Nat) (l0 : List (S80)) : Option ((List (S78))):=if 0 ≤ (l0.length : Int) then (if ((l0.length : Int) : Int).toNat ≤ 17592186044416 then (laws_toPointS.l0 k l0 (List.replicate ((l0.length : Int) : Int).toNat z78) 0) else (none)) else (none)
theorem laws_toPointS.calls (k : Nat) (A0 : Option Addr) (c0 : Nat) (l0 : List (S80)) (r : List (S78)) (w : World) (hr0 : Kd.C k80 w A0 l0.length l0) (hc0 : l0.length ≤ c0) (h : laws_toPointS.f k l0 = some r) :
  Calls Try.prog 24 #[.slice A0 l0.length c0] w fun e w' => ∃ v0_ : Value,e = .returned (v0_) ∧ Kd.R k78 78 w' w.heap.size (fun _ => True) v0_ r ∧ Below w.heap.size w w':=by
 have hu80:=Try.underlying80
 have hu78:=Try.underlying78
 have HR0:=Aside0.mk hr0
 have HC0:=Aside0.mk hc0
 clear hr0 hc0
 have HB:=Aside0.mk (Below.refl w.heap.size w)
 have H : (if 0 ≤ (l0.length : Int) then (if ((l0.length : Int) : Int).toNat ≤ 17592186044416 then (laws_toPointS.l0 k l0 (List.replicate ((l0.length : Int) : Int).toNat z78) 0) else (none)) else (none)) = some r:=h
 clear h
 by_cases c2 : 0 ≤ (l0.length : Int)
 ·rw [if_pos c2] at H
  have c2b0:=eq_true c2
  have c2b1 : decide (0 ≤ (l0.length : Int)) = true:=decide_eq_true c2
  clear c2
  by_cases c3 : ((l0.length : Int) : Int).toNat ≤ 17592186044416
  ·rw [if_pos c3] at H
   have c3b0:=eq_true c3
   have c3b1 : decide (((l0.length : Int) : Int).toNat ≤ 17592186044416) = true:=decide_eq_true c3
   clear c3
   obtain ⟨y228,hy228⟩ : ∃ y_ : List (S78),y_ = (List.replicate ((l0.length : Int) : Int).toNat z78):=⟨_,rfl⟩
   replace H : (laws_toPointS.l0 k l0 y228 0) = some r:=by first | (rw [hy228];with_reducible exact H) | (have H2_:=(Option.bind_some _ _).symm.trans H;rw [hy228];with_reducible exact H2_) | (have H2_:=(Option.bind_some _ _).symm.trans H;with_reducible exact H2_) | with_reducible exact H | (rw [hy228];exact H) | exact H
   have Ny228:=Aside0.mk hy228
   clear hy228
   have H':=Aside0.mk H
   clear H
   go_enter Try.func24,Try.ntmps24
   go_wp2_with (first | ((with_reducible refine gate_dst (N:=7) rfl ?_);refine Kd.R_make k78 _ 78 rfl (N:=7) rfl 30 _ _ rfl (l0.length : Int) rfl rfl Try.underlying30 (.agg #[(.int .i64 0),(.int .i64 0)]) 16 info78 rfl (by decide) (by omega) z78 (ok:=fun _ => True) (okp:=fun _ => True) (k78_mkM _ _ _ z78 ) (fun _ hk => hk) trivial (da) (Nat.le_trans (Nat.mul_le_mul_right _ (da : (l0.length : Int).toNat ≤ 17592186044416)) (by omega)) (Below.refl _ _) (Nat.le_refl _) ?_;intro v229 w4 ho5 hb hg_ hnew_;clear hg_ hnew_;(first | rw [← Ny228.out] at ho5 | (simp only [Int.reduceToNat] at ho5;rw [← Ny228.out] at ho5));have HO230:=Aside0.mk (Kd.R_lower ho5 (below_size ib));replace HB:=sb hb;clear hb ho5))
   go_loopg [4] k (fun kq v4 w' => ∃ (x3_1 : List (S78)) (x4_1 : Int),v4 = .int .i64 x4_1 ∧ Aside0 (laws_toPointS.l0 kq l0 x3_1 x4_1 = some r) ∧ Aside0 (kq ≤ k) ∧ Aside0 (Kd.R k78 78 w' w.heap.size (fun _ => True) v229 x3_1) ∧ Aside0 (Below w.heap.size w w'))
   case atStart => exact ⟨(y228),(0),(by first | rfl | (simp;done) | (simp [*];done)),H',⟨Nat.le_refl _⟩,⟨rO HO230.out⟩,⟨ib⟩⟩
   case round =>
    clear H'
    try clear c2
    try clear c2b0
    try clear c2b1
    try clear p2
    try clear c3
    try clear c3b0
    try clear c3b1
    obtain ⟨x3_1,x4_1,rfl,HA,HK1,HO_3,HB⟩:=hrel
    cases gk with
    | zero => exact absurd HA.out (by simp [laws_toPointS.l0])
    | succ k1 =>
     have H:=HA.out
     clear HA
     simp only [laws_toPointS.l0] at H
     by_cases c6 : x4_1 < (l0.length : Int)
     ·rw [if_pos c6] at H
      have c6b0 : decide (x4_1 < (l0.length : Int)) = true:=decide_eq_true c6
      clear c6
      by_cases c7 : 0 ≤ x4_1
      ·rw [if_pos c7] at H
       have c7b0 : decide (0 ≤ x4_1) = true:=decide_eq_true c7
       clear c7
       replace H:=bE.mp H
       obtain ⟨⟨t232,t233⟩,A80,H⟩:=H
       replace H : (if x4_1 < (x3_1.length : Int) then (laws_toPointS.l0 k1 l0 (x3_1.set (x4_1 : Int).toNat (⟨t232,t233⟩ : S78)) (wrap64 (x4_1 + 1))) else (none)) = some r:=H
       have A8:=Aside0.mk A80
       clear A80
       by_cases c9 : x4_1 < (x3_1.length : Int)
       ·rw [if_pos c9] at H
        have c9b0 : decide (x4_1 < (x3_1.length : Int)) = true:=decide_eq_true c9
        clear c9
        obtain ⟨y234,hy234⟩ : ∃ y_ : List (S78),y_ = (x3_1.set (x4_1 : Int).toNat (⟨t232,t233⟩ : S78)):=⟨_,rfl⟩
        replace H : (laws_toPointS.l0 k1 l0 y234 (wrap64 (x4_1 + 1))) = some r:=by first | (rw [hy234];with_reducible exact H) | (have H2_:=(Option.bind_some _ _).symm.trans H;rw [hy234];with_reducible exact H2_) | (have H2_:=(Option.bind_some _ _).symm.trans H;with_reducible exact H2_) | with_reducible exact H | (rw [hy234];exact H) | exact H
        have Ny234:=Aside0.mk hy234
        clear hy234
        have H':=Aside0.mk H
        clear H
        have p231 : 0 ≤ (x4_1 : Int):=da
        have q231 : x4_1 < (l0.length : Int):=da
        obtain ⟨ad231,e231,hx231_0,hx231_1⟩:=at_T80 HR0.out x4_1 p231 q231
        cases e231
        replace hx231_0:=cq HB.out hx231_0
        replace hx231_1:=cq HB.out hx231_1
        replace p231:=eq_true p231
        replace q231:=eq_true q231
        go_wp2_with (first | ((with_reducible refine gate_callee (f:=44) rfl ?_);refine goesL_ (some 20) rfl rfl Try.func44 (by kernel_rfl) rfl #[.agg #[.int .i64 ((rd_T80 l0 x4_1).f0),.int .i64 ((rd_T80 l0 x4_1).f1)]] rfl (by (try simp only [mT,mC,mN]);first | done | rfl | (simp only [List.length_drop,List.length_take];rfl)) ?_;(with_reducible refine (laws_toPoint.calls ((rd_T80 l0 x4_1).f0) ((rd_T80 l0 x4_1).f1) t232 t233 _ A8.out).mono ?_);rintro e w11 ⟨rfl,hb⟩;refine ⟨_,rfl,?_⟩;replace HO_3:=Aside0.mk (Kd.R_below (rO HO_3.out) hb);replace HB:=sb hb;(try clear hb);(try clear hb2);(try clear hk);(try clear hi);have p10 : 0 ≤ (x4_1 : Int):=da;have q10 : (x4_1 : Int) < ((x3_1.length : Int) : Int):=da;obtain ⟨go10,co10,eo10,gb10,gl10,cl10,HG10⟩:=Kd.R_form HO_3.out (by omega);(first | cases eo10 | (injection eo10 with ea_ en_ ec_;(first | subst ea_ | (injection ea_ with ea_;subst ea_));subst ec_;clear en_));have GB10:=Aside0.mk gb10;have GG10:=Aside0.mk HG10;clear gb10 gl10 HG10;obtain ⟨ce10,hcl10,hM10,hcc10,hfr10⟩:=Kd.R_elem HO_3.out z78 (x4_1 : Int) p10 q10;obtain rfl:=k78_openM hM10;have hx10_0 : w11.cell? ⟨go10,(x4_1 : Int).toNat * 2,none⟩ = some (.int .i64 ((rd_T78 x3_1 x4_1).f0)):=hcc10 0 _ rfl;have hx10_1 : w11.cell? ⟨go10,(x4_1 : Int).toNat * 2 + 1,none⟩ = some (.int .i64 ((rd_T78 x3_1 x4_1).f1)):=hcc10 1 _ rfl;have hf10_0 : w11.frozen? ⟨go10,(x4_1 : Int).toNat * 2,none⟩ = false:=hfr10 0;have hf10_1 : w11.frozen? ⟨go10,(x4_1 : Int).toNat * 2 + 1,none⟩ = false:=hfr10 1;clear hcl10 hcc10 hfr10 hM10;replace p10:=eq_true p10;replace q10:=eq_true q10;have HX12:=Aside0.mk (show Kd.R k78 78 w11 w.heap.size (fun _ => True) (.slice (some ⟨go10,0,none⟩) x3_1.length co10) x3_1 from (rO HO_3.out));obtain ⟨ce12,hcl12,hM12,hcc12,hfr12⟩:=Kd.R_elem HX12.out z78 (x4_1 : Int) (da) (by have h_ : (x4_1 : Int) < ((x3_1.length : Int) : Int):=da;first | exact h_ | (have e_:=(Kd.R_reads' HO_3.out).1;omega) | simpa using h_);obtain rfl:=k78_openM hM12;have HP12:=Kd.R_seg HX12.out (x4_1 : Int) (da) (by have h_ : (x4_1 : Int) < ((x3_1.length : Int) : Int):=da;first | exact h_ | (have e_:=(Kd.R_reads' HO_3.out).1;omega) | simpa using h_) (seg:=[.int .i64 t232,.int .i64 t233]) (j:=0) hcl12 hcc12 (show 2 ≤ 2 from by decide) (x':=(⟨t232,t233⟩ : S78)) (k78_mkM _ _ _ (⟨t232,t233⟩ : S78) ) (fun _ hk => hk);have hx12_0:=hcc12 0 _ rfl;(try simp only [show (k78).sz = 2 from rfl,Nat.mul_one,Nat.add_zero] at hx12_0);have hf12_0:=hfr12 0;(try simp only [show (k78).sz = 2 from rfl,Nat.mul_one,Nat.add_zero] at hf12_0);have hx12_1:=hcc12 1 _ rfl;(try simp only [show (k78).sz = 2 from rfl,Nat.mul_one,Nat.add_zero] at hx12_1);have hf12_1:=hfr12 1;(try simp only [show (k78).sz = 2 from rfl,Nat.mul_one,Nat.add_zero] at hf12_1);clear hcl12 hcc12 hfr12 hM12) | ((with_reducible refine gate_store (t:=78) (p:=21) rfl ?_);refine store_event (t:=78) (p:=21) (v:=?vo_w13) (w1:=((w11.setCell ⟨go10,(x4_1 : Int).toNat * 2,none⟩ (.int .i64 t232)).setCell ⟨go10,(x4_1 : Int).toNat * 2 + 1,none⟩ (.int .i64 t233))) ?hg ?ho ?hn ?hr ?_;(case ho => rfl);(case hg => rfl);(case hn => rfl);(case hr => first | (go_simp;done) | (go_simp;rfl));intro w13 hw;have hg : w11.grownBy w13 (some go10):=(by rw [hw];exact HP12.2);have hp_ : Kd.R k78 78 w13 w.heap.size (fun _ => True) (.slice (some ⟨go10,0,none⟩) x3_1.length co10) y234:=(by rw [hw,Ny234.out];exact HP12.1);clear HP12;replace HO_3:=Aside0.mk (hp_);replace HB:=Aside0.mk ((by rw [hw];exact below_set (below_set (HB.out) GB10.out) GB10.out : Below w.heap.size w w13));clear hg hw hp_))
        go_roundg k1
        case measure => have:=HK1.out;omega
        case rel => exact ⟨(y234),(wrap64 (x4_1 + 1)),(by first | rfl | (simp;done) | (simp [*];done)),H',⟨by have:=HK1.out;omega⟩,⟨rO HO_3.out⟩,⟨ib⟩⟩
       ·rw [if_neg c9] at H
        exact absurd H (by simp)
      ·rw [if_neg c7] at H
       exact absurd H (by simp)
     ·rw [if_neg c6] at H
      have c6b0 : decide (x4_1 < (l0.length : Int)) = false:=decide_eq_false c6
      clear c6
      obtain rfl:=Option.some.inj H
      go_wp2
      go_ret
      exact ⟨_,by first | rfl | (simp [errW_none,errW_some] <;> rfl) | (simp [*,errW_none,errW_some] <;> rfl),rO HO_3.out,ib⟩
  ·rw [if_neg c3] at H
   exact absurd H (by simp)
 ·rw [if_neg c2] at H
  exact absurd H (by simp)
def laws_toInt64S.l0 : Nat → List Int → List Int → Int → Option (List Int)
 | 0,_,_,_ => none
 | k + 1,x0,x3,x4 => if x4 < (x0.length : Int) then (if 0 ≤ x4 then (if x4 < (x3.length : Int) then (laws_toInt64S.l0 k x0 (x3.set (x4 : Int).toNat (rd x0 x4)) (wrap64 (x4 + 1))) else (none)) else (none)) else (some x3)
def laws_toInt64S.f (k : Nat) (l0 : List Int) : Option (List Int):=if 0 ≤ (l0.length : Int) then (if ((l0.length : Int) : Int).toNat ≤ 35184372088832 then (laws_toInt64S.l0 k l0 (List.replicate ((l0.length : Int) : Int).toNat 0) 0) else (none)) else (none)
theorem laws_toInt64S.calls (k : Nat) (A0 : Option Addr) (c0 : Nat) (l0 : List Int) (r : List Int) (w : World) (hr0 : Kd.C (Kd.int .i64) w A0 l0.length l0) (hc0 : l0.length ≤ c0) (h : laws_toInt64S.f k l0 = some r) :
  Calls Try.prog 67 #[.slice A0 l0.length c0] w fun e w' => ∃ v0_ : Value,e = .returned (v0_) ∧ Kd.R (Kd.int .i64) 2 w' w.heap.size (fun _ => True) v0_ r ∧ Below w.heap.size w w':=by
 have HR0:=Aside0.mk hr0
 have HC0:=Aside0.mk hc0
 clear hr0 hc0
 have HB:=Aside0.mk (Below.refl w.heap.size w)
 have H : (if 0 ≤ (l0.length : Int) then (if ((l0.length : Int) : Int).toNat ≤ 35184372088832 then (laws_toInt64S.l0 k l0 (List.replicate ((l0.length : Int) : Int).toNat 0) 0) else (none)) else (none)) = some r:=h
 clear h
 by_cases c2 : 0 ≤ (l0.length : Int)
 ·rw [if_pos c2] at H
  have c2b0:=eq_true c2
  have c2b1 : decide (0 ≤ (l0.length : Int)) = true:=decide_eq_true c2
  clear c2
  by_cases c3 : ((l0.length : Int) : Int).toNat ≤ 35184372088832
  ·rw [if_pos c3] at H
   have c3b0:=eq_true c3
   have c3b1 : decide (((l0.length : Int) : Int).toNat ≤ 35184372088832) = true:=decide_eq_true c3
   clear c3
   obtain ⟨y235,hy235⟩ : ∃ y_ : List Int,y_ = (List.replicate ((l0.length : Int) : Int).toNat 0):=⟨_,rfl⟩
   replace H : (laws_toInt64S.l0 k l0 y235 0) = some r:=by first | (rw [hy235];with_reducible exact H) | (have H2_:=(Option.bind_some _ _).symm.trans H;rw [hy235];with_reducible exact H2_) | (have H2_:=(Option.bind_some _ _).symm.trans H;with_reducible exact H2_) | with_reducible exact H | (rw [hy235];exact H) | exact H
   have Ny235:=Aside0.mk hy235
   clear hy235
   have H':=Aside0.mk H
   clear H
   go_enter Try.func67,Try.ntmps67
   go_wp2_with (first | ((with_reducible refine gate_dst (N:=7) rfl ?_);refine Kd.R_make (Kd.int .i64) _ 2 rfl (N:=7) rfl 27 _ _ rfl (l0.length : Int) rfl rfl Try.underlying27 (.int .i64 0) 8 info2 rfl (by decide) (by omega) 0 (ok:=fun _ => True) (okp:=fun _ => True) rfl (fun _ hk => hk) trivial (da) (Nat.le_trans (Nat.mul_le_mul_right _ (da : (l0.length : Int).toNat ≤ 35184372088832)) (by omega)) (Below.refl _ _) (Nat.le_refl _) ?_;intro v236 w4 ho5 hb hg_ hnew_;clear hg_ hnew_;(first | rw [← Ny235.out] at ho5 | (simp only [Int.reduceToNat] at ho5;rw [← Ny235.out] at ho5));have HO237:=Aside0.mk (Kd.R_lower ho5 (below_size ib));replace HB:=sb hb;clear hb ho5))
   go_loopg [4] k (fun kq v4 w' => ∃ (x3_1 : List Int) (x4_1 : Int),v4 = .int .i64 x4_1 ∧ Aside0 (laws_toInt64S.l0 kq l0 x3_1 x4_1 = some r) ∧ Aside0 (kq ≤ k) ∧ Aside0 (Kd.R (Kd.int .i64) 2 w' w.heap.size (fun _ => True) v236 x3_1) ∧ Aside0 (Below w.heap.size w w'))
   case atStart => exact ⟨(y235),(0),(by first | rfl | (simp;done) | (simp [*];done)),H',⟨Nat.le_refl _⟩,⟨rO HO237.out⟩,⟨ib⟩⟩
   case round =>
    clear H'
    try clear c2
    try clear c2b0
    try clear c2b1
    try clear p2
    try clear c3
    try clear c3b0
    try clear c3b1
    obtain ⟨x3_1,x4_1,rfl,HA,HK1,HO_3,HB⟩:=hrel
    cases gk with
    | zero => exact absurd HA.out (by simp [laws_toInt64S.l0])
    | succ k1 =>
     have H:=HA.out
     clear HA
     simp only [laws_toInt64S.l0] at H
     by_cases c6 : x4_1 < (l0.length : Int)
     ·rw [if_pos c6] at H
      have c6b0 : decide (x4_1 < (l0.length : Int)) = true:=decide_eq_true c6
      clear c6
      by_cases c7 : 0 ≤ x4_1
      ·rw [if_pos c7] at H
       have c7b0 : decide (0 ≤ x4_1) = true:=decide_eq_true c7
       clear c7
       by_cases c8 : x4_1 < (x3_1.length : Int)
       ·rw [if_pos c8] at H
        have c8b0 : decide (x4_1 < (x3_1.length : Int)) = true:=decide_eq_true c8
        clear c8
        obtain ⟨y239,hy239⟩ : ∃ y_ : List Int,y_ = (x3_1.set (x4_1 : Int).toNat (rd l0 x4_1)):=⟨_,rfl⟩
        replace H : (laws_toInt64S.l0 k1 l0 y239 (wrap64 (x4_1 + 1))) = some r:=by first | (rw [hy239];with_reducible exact H) | (have H2_:=(Option.bind_some _ _).symm.trans H;rw [hy239];with_reducible exact H2_) | (have H2_:=(Option.bind_some _ _).symm.trans H;with_reducible exact H2_) | with_reducible exact H | (rw [hy239];exact H) | exact H
        have Ny239:=Aside0.mk hy239
        clear hy239
        have H':=Aside0.mk H
        clear H
        have p238 : 0 ≤ (x4_1 : Int):=da
        have q238 : x4_1 < (l0.length : Int):=da
        obtain ⟨ad238,e238,hx238_0⟩:=Kd.at_int HR0.out x4_1 p238 q238
        cases e238
        replace hx238_0:=cq HB.out hx238_0
        replace p238:=eq_true p238
        replace q238:=eq_true q238
        have p9 : 0 ≤ (x4_1 : Int):=da
        have q9 : (x4_1 : Int) < ((x3_1.length : Int) : Int):=da
        obtain ⟨go9,co9,eo9,gb9,gl9,cl9,HG9⟩:=Kd.R_form HO_3.out (by omega)
        (first | cases eo9 | (injection eo9 with ea_ en_ ec_;(first | subst ea_ | (injection ea_ with ea_;subst ea_));subst ec_;clear en_))
        have GB9:=Aside0.mk gb9
        have GG9:=Aside0.mk HG9
        clear gb9 gl9 HG9
        obtain ⟨hx9_0,hf9_0⟩:=Kd.R_celln 0 HO_3.out (x4_1 : Int) p9 q9
        replace p9:=eq_true p9
        replace q9:=eq_true q9
        have HP10:=Kd.R_putg HO_3.out (x4_1 : Int) (rd l0 x4_1)
        go_wp2_with (first | ((with_reducible refine gate_store (t:=2) (p:=20) rfl ?_);refine store_event (t:=2) (p:=20) (v:=?vo_w11) (w1:=(wr.setCell ⟨go9,(x4_1 : Int).toNat,none⟩ (.int .i64 (rd l0 x4_1)))) ?hg ?ho ?hn ?hr ?_;(case ho => rfl);(case hg => rfl);(case hn => rfl);(case hr => first | (go_simp;done) | (go_simp;rfl));intro w11 hw;have hg : wr.grownBy w11 (some go9):=(by rw [hw];exact HP10.2);have hp_ : Kd.R (Kd.int .i64) 2 w11 w.heap.size (fun _ => True) (.slice (some ⟨go9,0,none⟩) x3_1.length co9) y239:=(by rw [hw,Ny239.out];exact HP10.1);clear HP10;replace HO_3:=Aside0.mk (hp_);replace HB:=Aside0.mk ((by rw [hw];exact below_set (HB.out) GB9.out : Below w.heap.size w w11));clear hg hw hp_))
        go_roundg k1
        case measure => have:=HK1.out;omega
        case rel => exact ⟨(y239),(wrap64 (x4_1 + 1)),(by first | rfl | (simp;done) | (simp [*];done)),H',⟨by have:=HK1.out;omega⟩,⟨rO HO_3.out⟩,⟨ib⟩⟩
       ·rw [if_neg c8] at H
        exact absurd H (by simp)
      ·rw [if_neg c7] at H
       exact absurd H (by simp)
     ·rw [if_neg c6] at H
      have c6b0 : decide (x4_1 < (l0.length : Int)) = false:=decide_eq_false c6
      clear c6
      obtain rfl:=Option.some.inj H
      go_wp2
      go_ret
      exact ⟨_,by first | rfl | (simp [errW_none,errW_some] <;> rfl) | (simp [*,errW_none,errW_some] <;> rfl),rO HO_3.out,ib⟩
  ·rw [if_neg c3] at H
   exact absurd H (by simp)
 ·rw [if_neg c2] at H
  exact absurd H (by simp)
def laws_toFace.f (k : Nat) (a0_0 : ByteArray) (l0_1 : List Int) : Option (ByteArray × List Int):=(laws_toInt64S.f k l0_1).bind fun t243 => (some (a0_0,t243))
theorem laws_toFace.calls (k : Nat) (a0_0 : ByteArray) (A0_1 : Option Addr) (c0_1 : Nat) (l0_1 : List Int) (r1 : ByteArray) (r2 : List Int) (w : World) (hr0_1 : Kd.C (Kd.int .i64) w A0_1 l0_1.length l0_1) (hc0_1 : l0_1.length ≤ c0_1) (h : laws_toFace.f k a0_0 l0_1 = some (r1,r2)) :
  Calls Try.prog 45 #[.agg #[.string a0_0,.slice A0_1 l0_1.length c0_1]] w fun e w' => ∃ v1_ : Value,e = .returned (.agg #[.string r1,v1_]) ∧ Kd.R (Kd.int .i64) 2 w' w.heap.size (fun _ => True) v1_ r2 ∧ Below w.heap.size w w':=by
 have hu70:=Try.underlying70
 have hu64:=Try.underlying64
 have HR0_1:=Aside0.mk hr0_1
 have HC0_1:=Aside0.mk hc0_1
 clear hr0_1 hc0_1
 have HB:=Aside0.mk (Below.refl w.heap.size w)
 have H : ((laws_toInt64S.f k l0_1).bind fun t243 => (some (a0_0,t243))) = some (r1,r2):=h
 clear h
 replace H:=bE.mp H
 obtain ⟨t243,A20,H⟩:=H
 replace H : (some (a0_0,t243)) = some (r1,r2):=H
 have A2:=Aside0.mk A20
 clear A20
 simp only [Option.some.injEq,Prod.mk.injEq] at H
 obtain ⟨rfl,rfl⟩:=H
 go_enter Try.func45,Try.ntmps45
 go_wp2_with (first | ((with_reducible refine gate_dst (N:=1) rfl ?_);refine bx (cs:=#[.string a0_0,.slice A0_1 l0_1.length c0_1]) (t:=70) ?_;intro gb240 hg w3 hbox hb;have BK240:=Aside0.mk (hbox);have GW240:=zb hg;have GE240:=zb hg;replace HB:=sb hb;clear hb hbox hg) | ((with_reducible refine gate_dst (N:=2) rfl ?_);refine bx (cs:=#[.string (⟨#[]⟩ : ByteArray),.slice none 0 0]) (t:=64) ?_;intro gb241 hg w4 hbox hb;have BK241:=Aside0.mk (hbox);have GW241:=zb hg;have GE241:=zb hg;replace HB:=sb hb;have NB240_241:=nl BK240 hg;have NB241_240:=ng BK240 hg;replace BK240:=kb BK240 hb;clear hb hbox hg) | ((with_reducible refine gate_dst (N:=3) rfl ?_);refine bx (cs:=#[.string (⟨#[]⟩ : ByteArray),.slice none 0 0]) (t:=64) ?_;intro gb242 hg w5 hbox hb;have BK242:=Aside0.mk (hbox);have GW242:=zb hg;have GE242:=zb hg;replace HB:=sb hb;have NB240_242:=nl BK240 hg;have NB242_240:=ng BK240 hg;replace BK240:=kb BK240 hb;have NB241_242:=nl BK241 hg;have NB242_241:=ng BK241 hg;replace BK241:=kb BK241 hb;clear hb hbox hg;have hnb6:=NB240_241.out;have hnc6:=NB241_240.out;have hnb7:=NB240_242.out;have hnc7:=NB242_240.out;have hcz8_0:=ck BK240 0;have hcz8_1:=ck BK240 1;have hfz8_0:=blk_frozen BK240.out 0;have hfz8_1:=blk_frozen BK240.out 1;have hnb9:=NB242_241.out;have hnc9:=NB241_242.out;have hcz10_0:=ck BK242 0;have hcz10_1:=ck BK242 1;have hfz10_0:=blk_frozen BK242.out 0;have hfz10_1:=blk_frozen BK242.out 1) | ((with_reducible refine gate_callee (f:=67) rfl ?_);refine goesL_ (some 9) rfl rfl Try.func67 (by kernel_rfl) rfl #[.slice A0_1 l0_1.length c0_1] rfl (by (try simp only [mT,mC,mN]);first | done | rfl | (simp only [List.length_drop,List.length_take];rfl)) ?_;(with_reducible refine (laws_toInt64S.calls k _ _ l0_1 t243 _ ?side1 ?side2 A2.out).mono ?_);(case side1 => exact Kd.C_below HR0_1.out ib);(case side2 => exact HC0_1.out);rintro e w11 ⟨v244,rfl,ho0,hb⟩;refine ⟨_,rfl,?_⟩;have HO245:=Aside0.mk (Kd.R_lower ho0 (below_size ib));replace BK240:=Aside0.mk (blk_below (g:=gb240) (o:=.cells #[.string a0_0,.slice A0_1 l0_1.length c0_1] 70 (0,0)) (by refine bF NB240_242.out ?_;exact bk BK240) hb);replace BK241:=Aside0.mk (blk_below (g:=gb241) (o:=.cells #[.string (⟨#[]⟩ : ByteArray),.slice none 0 0] 64 (0,0)) (by refine bF NB241_242.out ?_;exact bk BK241) hb);replace BK242:=Aside0.mk (blk_below (g:=gb242) (o:=.cells #[.string a0_0,.slice none 0 0] 64 (0,0)) (by refine bP (cs:=#[.string (⟨#[]⟩ : ByteArray),.slice none 0 0]) 0 ?_;exact bk BK242) hb);replace HB:=sb hb;(try clear hb);(try clear hb2);(try clear hk);(try clear hi);(try clear ho0);obtain ⟨Ao12,co12,eo12⟩:=Kd.R_slice HO245.out;subst eo12;have hcz13_0:=ck BK242 0;have hcz13_1:=ck BK242 1;have hfz13_0:=blk_frozen BK242.out 0;have hfz13_1:=blk_frozen BK242.out 1;have hcz14_0:=ck BK241 0;have hcz14_1:=ck BK241 1;have hfz14_0:=blk_frozen BK241.out 0;have hfz14_1:=blk_frozen BK241.out 1))
 refine bodyPost_ret (results_cell_row rfl _ _ gb241 64 #[.string a0_0,.slice Ao12 t243.length co12] (0,0) _ rfl (by refine bP (cs:=#[.string a0_0,.slice none 0 0]) 1 ?_;refine bP (cs:=#[.string (⟨#[]⟩ : ByteArray),.slice none 0 0]) 0 ?_;refine bF NB241_242.out ?_;exact bk BK241) Try.underlying64 rfl (by kernel_rfl)) rfl ?_
 exact ⟨_,by first | rfl | (simp [errW_none,errW_some] <;> rfl) | (simp [*,errW_none,errW_some] <;> rfl),rO (Kd.R_mono (Kd.R_far (p:=⟨gb241,1,none⟩) (Kd.R_far (p:=⟨gb241,0,none⟩) (Kd.R_far (p:=⟨gb242,1,none⟩) (Kd.R_types (Kd.R_types HO245.out BK242.out (by decide)) BK241.out (by decide)) (fun _ hk => hk.1.2) (.slice Ao12 t243.length co12)) (fun _ hk => hk.2) (.string a0_0)) (fun _ hk => hk.2) (.slice Ao12 t243.length co12)) (fun _ hk => trivial)),ib⟩
def laws_toFaceS.l0 : Nat → List (S70) → List (S64) → Int → Option ((List (S64)))
 | 0,_,_,_ => none
 | k + 1,x0,x3,x4 => if x4 < (x0.length : Int) then (if 0 ≤ x4 then ((laws_toFace.f k ((rd_T70 x0 x4).f0) ((rd_T70 x0 x4).f1)).bind fun bt250 => (if x4 < (x3.length : Int) then (laws_toFaceS.l0 k x0 (x3.set (x4 : Int).toNat (⟨bt250.1,bt250.2⟩ : S64)) (wrap64 (x4 + 1))) else (none))) else (none)) else (some x3)
def laws_toFaceS.f (k : Nat) (l0 : List (S70)) : Option ((List (S64))):=if 0 ≤ (l0.length : Int) then (if ((l0.length : Int) : Int).toNat ≤ 7036874417766 then (laws_toFaceS.l0 k l0 (List.replicate ((l0.length : Int) : Int).toNat z64) 0) else (none)) else (none)
theorem laws_toFaceS.calls (k : Nat) (A0 : Option Addr) (c0 : Nat) (l0 : List (S70)) (r : List (S64)) (w : World) (hr0 : Kd.C k70 w A0 l0.length l0) (hc0 : l0.length ≤ c0) (h : laws_toFaceS.f k l0 = some r) :
  Calls Try.prog 25 #[.slice A0 l0.length c0] w fun e w' => ∃ v0_ : Value,e = .returned (v0_) ∧ Kd.S k64 64 w' w.heap.size (fun _ => True) v0_ r ∧ Below w.heap.size w w':=by
 have hu70:=Try.underlying70
 have hu64:=Try.underlying64
 have HR0:=Aside0.mk hr0
 have HC0:=Aside0.mk hc0
 clear hr0 hc0
 have HB:=Aside0.mk (Below.refl w.heap.size w)
 have H : (if 0 ≤ (l0.length : Int) then (if ((l0.length : Int) : Int).toNat ≤ 7036874417766 then (laws_toFaceS.l0 k l0 (List.replicate ((l0.length : Int) : Int).toNat z64) 0) else (none)) else (none)) = some r:=h
 clear h
 by_cases c2 : 0 ≤ (l0.length : Int)
 ·rw [if_pos c2] at H
  have c2b0:=eq_true c2
  have c2b1 : decide (0 ≤ (l0.length : Int)) = true:=decide_eq_true c2
  clear c2
  by_cases c3 : ((l0.length : Int) : Int).toNat ≤ 7036874417766
  ·rw [if_pos c3] at H
   have c3b0:=eq_true c3
   have c3b1 : decide (((l0.length : Int) : Int).toNat ≤ 7036874417766) = true:=decide_eq_true c3
   clear c3
   obtain ⟨y246,hy246⟩ : ∃ y_ : List (S64),y_ = (List.replicate ((l0.length : Int) : Int).toNat z64):=⟨_,rfl⟩
   replace H : (laws_toFaceS.l0 k l0 y246 0) = some r:=by first | (rw [hy246];with_reducible exact H) | (have H2_:=(Option.bind_some _ _).symm.trans H;rw [hy246];with_reducible exact H2_) | (have H2_:=(Option.bind_some _ _).symm.trans H;with_reducible exact H2_) | with_reducible exact H | (rw [hy246];exact H) | exact H
   have Ny246:=Aside0.mk hy246
   clear hy246
   have H':=Aside0.mk H
   clear H
   go_enter Try.func25,Try.ntmps25
   go_wp2_with (first | ((with_reducible refine gate_dst (N:=7) rfl ?_);refine Kd.S_make k64 _ 64 rfl (N:=7) rfl 31 _ _ rfl (l0.length : Int) rfl rfl Try.underlying31 (.agg #[(.string ⟨#[]⟩),(.slice none 0 0)]) 40 info64 rfl (by decide) (by omega) z64 (ok:=fun _ => True) (okp:=fun _ => True) (k64_mkM _ _ _ z64 (Kd.R_nil _ _ _ _ _)) (fun _ hk => hk) trivial (da) (Nat.le_trans (Nat.mul_le_mul_right _ (da : (l0.length : Int).toNat ≤ 7036874417766)) (by omega)) (Below.refl _ _) (Nat.le_refl _) ?_;intro v247 w4 ho5 hb hg_ hnew_;clear hg_ hnew_;(first | rw [← Ny246.out] at ho5 | (simp only [Int.reduceToNat] at ho5;rw [← Ny246.out] at ho5));have HO248:=Aside0.mk (Kd.S_lower ho5 (below_size ib));replace HB:=sb hb;clear hb ho5))
   go_loopg [4] k (fun kq v4 w' => ∃ (x3_1 : List (S64)) (x4_1 : Int),v4 = .int .i64 x4_1 ∧ Aside0 (laws_toFaceS.l0 kq l0 x3_1 x4_1 = some r) ∧ Aside0 (kq ≤ k) ∧ Aside0 (Kd.S k64 64 w' w.heap.size (fun _ => True) v247 x3_1) ∧ Aside0 (Below w.heap.size w w'))
   case atStart => exact ⟨(y246),(0),(by first | rfl | (simp;done) | (simp [*];done)),H',⟨Nat.le_refl _⟩,⟨sO HO248.out⟩,⟨ib⟩⟩
   case round =>
    clear H'
    try clear c2
    try clear c2b0
    try clear c2b1
    try clear p2
    try clear c3
    try clear c3b0
    try clear c3b1
    obtain ⟨x3_1,x4_1,rfl,HA,HK1,HO_3,HB⟩:=hrel
    cases gk with
    | zero => exact absurd HA.out (by simp [laws_toFaceS.l0])
    | succ k1 =>
     have H:=HA.out
     clear HA
     simp only [laws_toFaceS.l0] at H
     by_cases c6 : x4_1 < (l0.length : Int)
     ·rw [if_pos c6] at H
      have c6b0 : decide (x4_1 < (l0.length : Int)) = true:=decide_eq_true c6
      clear c6
      by_cases c7 : 0 ≤ x4_1
      ·rw [if_pos c7] at H
       have c7b0 : decide (0 ≤ x4_1) = true:=decide_eq_true c7
       clear c7
       replace H:=bE.mp H
       obtain ⟨⟨t250,t251⟩,A80,H⟩:=H
       replace H : (if x4_1 < (x3_1.length : Int) then (laws_toFaceS.l0 k1 l0 (x3_1.set (x4_1 : Int).toNat (⟨t250,t251⟩ : S64)) (wrap64 (x4_1 + 1))) else (none)) = some r:=H
       have A8:=Aside0.mk A80
       clear A80
       by_cases c9 : x4_1 < (x3_1.length : Int)
       ·rw [if_pos c9] at H
        have c9b0 : decide (x4_1 < (x3_1.length : Int)) = true:=decide_eq_true c9
        clear c9
        obtain ⟨y254,hy254⟩ : ∃ y_ : List (S64),y_ = (x3_1.set (x4_1 : Int).toNat (⟨t250,t251⟩ : S64)):=⟨_,rfl⟩
        replace H : (laws_toFaceS.l0 k1 l0 y254 (wrap64 (x4_1 + 1))) = some r:=by first | (rw [hy254];with_reducible exact H) | (have H2_:=(Option.bind_some _ _).symm.trans H;rw [hy254];with_reducible exact H2_) | (have H2_:=(Option.bind_some _ _).symm.trans H;with_reducible exact H2_) | with_reducible exact H | (rw [hy254];exact H) | exact H
        have Ny254:=Aside0.mk hy254
        clear hy254
        have H':=Aside0.mk H
        clear H
        have p249 : 0 ≤ (x4_1 : Int):=da
        have q249 : x4_1 < (l0.length : Int):=da
        obtain ⟨ad249,A249_1,c249_1,e249,hx249_0,hx249_1,hl249_1,hi249_1⟩:=at_T70 HR0.out x4_1 p249 q249
        cases e249
        replace hx249_0:=cq HB.out hx249_0
        replace hx249_1:=cq HB.out hx249_1
        have HR249_1:=Aside0.mk hi249_1
        have HC249_1:=Aside0.mk hl249_1
        clear hi249_1 hl249_1
        replace p249:=eq_true p249
        replace q249:=eq_true q249
        go_wp2_with (first | ((with_reducible refine gate_callee (f:=45) rfl ?_);refine goesL_ (some 20) rfl rfl Try.func45 (by kernel_rfl) rfl #[.agg #[.string ((rd_T70 l0 x4_1).f0),.slice A249_1 ((rd_T70 l0 x4_1).f1).length c249_1]] rfl (by (try simp only [mT,mC,mN]);first | done | rfl | (simp only [List.length_drop,List.length_take];rfl)) ?_;(with_reducible refine (laws_toFace.calls k1 ((rd_T70 l0 x4_1).f0) _ _ ((rd_T70 l0 x4_1).f1) t250 t251 _ ?side1 ?side2 A8.out).mono ?_);(case side1 => repeat (first | exact (Kd.C_below HR249_1.out HB.out) | exact HR249_1.out | (with_reducible refine Kd.C_alloc ?_ _) | (with_reducible refine Kd.C_drewN ?_ _) | (with_reducible refine Kd.C_drew ?_)));(case side2 => exact HC249_1.out);rintro e w11 ⟨v252,rfl,ho0,hb⟩;refine ⟨_,rfl,?_⟩;replace HO_3:=Aside0.mk (Kd.S_elder' (sO HO_3.out) (Kd.R_base ho0) hb);have HO253:=Aside0.mk (Kd.R_lower ho0 (below_size ib));replace HB:=sb hb;(try clear hb);(try clear hb2);(try clear hk);(try clear hi);(try clear ho0);have p10 : 0 ≤ (x4_1 : Int):=da;have q10 : (x4_1 : Int) < ((x3_1.length : Int) : Int):=da;obtain ⟨go10,co10,eo10,gb10,gl10,cl10,HG10⟩:=Kd.S_form HO_3.out (by omega);(first | cases eo10 | (injection eo10 with ea_ en_ ec_;(first | subst ea_ | (injection ea_ with ea_;subst ea_));subst ec_;clear en_));have GB10:=Aside0.mk gb10;have GG10:=Aside0.mk HG10;clear gb10 gl10 HG10;obtain ⟨_,ce10,hcl10,hM10,hcc10,hfr10,_,_⟩:=Kd.S_elem HO_3.out z64 (x4_1 : Int) p10 q10;obtain ⟨ve10_1,rfl,ge10_1⟩:=k64_openM hM10;have hx10_0 : w11.cell? ⟨go10,(x4_1 : Int).toNat * 2,none⟩ = some (.string ((rd_T64 x3_1 x4_1).f0)):=hcc10 0 _ rfl;have hx10_1 : w11.cell? ⟨go10,(x4_1 : Int).toNat * 2 + 1,none⟩ = some (ve10_1):=hcc10 1 _ rfl;have hf10_0 : w11.frozen? ⟨go10,(x4_1 : Int).toNat * 2,none⟩ = false:=hfr10 0;have hf10_1 : w11.frozen? ⟨go10,(x4_1 : Int).toNat * 2 + 1,none⟩ = false:=hfr10 1;clear hcl10 hcc10 hfr10 hM10;replace p10:=eq_true p10;replace q10:=eq_true q10;have n_:=Aside0.mk (Kd.S_mono (ok':=(fun k_ => some k_ ≠ (v252 : Value).ownBlock)) HO_3.out (fun k_ hk => hk.2));clear HO_3;have HO_3:=n_;clear n_;have HX12:=Aside0.mk (show Kd.S k64 64 w11 w.heap.size (fun k_ => ((fun _ => True)) k_ ∧ ¬ ((fun k_ => some k_ = (v252 : Value).ownBlock)) k_) (.slice (some ⟨go10,0,none⟩) x3_1.length co10) x3_1 from (sO (Kd.S_mono HO_3.out (fun k_ hk => ⟨trivial,fun e_ => hk e_⟩))));obtain ⟨oki12,ce12,hcl12,hM12,hcc12,hfr12,hoki12,hH12⟩:=Kd.S_elem HX12.out z64 (x4_1 : Int) (da) (by have h_ : (x4_1 : Int) < ((x3_1.length : Int) : Int):=da;first | exact h_ | (have e_:=(Kd.S_reads' HO_3.out).1;omega) | simpa using h_);obtain ⟨ve12_1,rfl,ge12_1⟩:=k64_openM hM12;have HP12:=Kd.S_seg hH12 (da) (by have h_ : (x4_1 : Int) < ((x3_1.length : Int) : Int):=da;first | exact h_ | (have e_:=(Kd.S_reads' HO_3.out).1;omega) | simpa using h_) (seg:=[.string t250,v252]) (j:=0) (show 2 ≤ 2 from by decide) (x':=(⟨t250,t251⟩ : S64)) (k64_mkM _ _ _ (⟨t250,t251⟩ : S64) (Kd.R_mono (Kd.R_tight rfl (Kd.R_mono (ok':=fun k_ => ((fun _ => True)) k_ ∧ k_ ≠ go10) (Kd.R_apart' (HO253.out) (Kd.S_typed HO_3.out) (by decide)) (fun k_ hk => ⟨trivial,fun e_ => (hk.2) (by rw [e_];rfl)⟩))) (fun _ h_ => Or.inr (h_)))) (fun _ hk => hk) (fun k_ hk_ => ((Kd.R_mono (ok':=fun k_ => ((fun _ => True)) k_ ∧ k_ ≠ go10) (Kd.R_apart' (HO253.out) (Kd.S_typed HO_3.out) (by decide)) (fun k_ hk => ⟨trivial,fun e_ => (hk.2) (by rw [e_];rfl)⟩))).1 k_ hk_.symm);have hx12_0:=hcc12 0 _ rfl;(try simp only [show (k64).sz = 2 from rfl,Nat.mul_one,Nat.add_zero] at hx12_0);have hf12_0:=hfr12 0;(try simp only [show (k64).sz = 2 from rfl,Nat.mul_one,Nat.add_zero] at hf12_0);have hx12_1:=hcc12 1 _ rfl;(try simp only [show (k64).sz = 2 from rfl,Nat.mul_one,Nat.add_zero] at hx12_1);have hf12_1:=hfr12 1;(try simp only [show (k64).sz = 2 from rfl,Nat.mul_one,Nat.add_zero] at hf12_1);clear hcl12 hcc12 hfr12 hM12 hoki12 hH12) | ((with_reducible refine gate_store (t:=64) (p:=21) rfl ?_);refine store_event (t:=64) (p:=21) (v:=?vo_w13) (w1:=((w11.setCell ⟨go10,(x4_1 : Int).toNat * 2,none⟩ (.string t250)).setCell ⟨go10,(x4_1 : Int).toNat * 2 + 1,none⟩ (v252))) ?hg ?ho ?hn ?hr ?_;(case ho => rfl);(case hg => rfl);(case hn => rfl);(case hr => first | (go_simp;done) | (go_simp;rfl) | (obtain ⟨sA,sc,se⟩:=Kd.R_slice HO253.out;rw [se];go_simp;done));intro w13 hw;have hg : w11.grownBy w13 (some go10):=(by rw [hw];exact HP12.2);have hp_ : Kd.S k64 64 w13 w.heap.size (fun _ => True) (.slice (some ⟨go10,0,none⟩) x3_1.length co10) y254:=(by rw [hw,Ny254.out];exact HP12.1);clear HP12;replace HO_3:=Aside0.mk (hp_);replace HB:=Aside0.mk ((by rw [hw];exact below_set (below_set (HB.out) GB10.out) GB10.out : Below w.heap.size w w13));clear HO253;clear hg hw hp_))
        go_roundg k1
        case measure => have:=HK1.out;omega
        case rel => exact ⟨(y254),(wrap64 (x4_1 + 1)),(by first | rfl | (simp;done) | (simp [*];done)),H',⟨by have:=HK1.out;omega⟩,⟨sO HO_3.out⟩,⟨ib⟩⟩
       ·rw [if_neg c9] at H
        exact absurd H (by simp)
      ·rw [if_neg c7] at H
       exact absurd H (by simp)
     ·rw [if_neg c6] at H
      have c6b0 : decide (x4_1 < (l0.length : Int)) = false:=decide_eq_false c6
      clear c6
      obtain rfl:=Option.some.inj H
      go_wp2
      go_ret
      exact ⟨_,by first | rfl | (simp [errW_none,errW_some] <;> rfl) | (simp [*,errW_none,errW_some] <;> rfl),sO HO_3.out,ib⟩
  ·rw [if_neg c3] at H
   exact absurd H (by simp)
 ·rw [if_neg c2] at H
  exact absurd H (by simp)
end Go.Proofs.Ytpeebobdbaemiaa.PFnExactNeighboursOf
