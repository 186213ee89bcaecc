/- Contracts of functions that FnExactNeighboursOf reaches, out of the lines of the kit's print. -/
import Derived.Test.YtpeebobdbaemiaaQFnExactNeighboursOfx0
import Derived.Test.YtpeebobdbaemiaaQFnExactNeighboursOfx2
import Derived.Test.YtpeebobdbaemiaaQFnExactNeighboursOfx9
namespace Go.Proofs.Ytpeebobdbaemiaa.PFnExactNeighboursOf
set_option maxHeartbeats 8000000
set_option maxRecDepth 100000
open Go.RowKit Go.Proofs.YtpeebobdbaemiaaW.PrintWords Go.Proofs.YtpeebobdbaemiaaW.PrintLast Go.Proofs.YtpeebobdbaemiaaW.PrintMore
open Bool renaming true → tT, false → fF
open Go.World renaming block_lt_of_cell? → bL
open List renaming length_take → lT, length_drop → lD, map_toArray → mT, map_cons → mC, map_nil → mN
open Option renaming bind_eq_some_iff → bE
attribute [local go_sem] max2_int min2_int max_two min_two max_three min_three max_four min_four
set_option linter.unusedVariables false
set_option linter.unusedSimpArgs false
attribute [local go_sem high] eqA78
def laws_toDrawing.f (k : Nat) (a0_0 : Int) (a0_1 : Int) (l0_2 : List (S80)) (l0_3 : List (S70)) : Option (Int × Int × (List (S78)) × (List (S64))):=(laws_toPointS.f k l0_2).bind fun t258 => ((laws_toFaceS.f k l0_3).bind fun t261 => (some (a0_0,a0_1,t258,t261)))
theorem laws_toDrawing.calls (k : Nat) (a0_0 : Int) (a0_1 : Int) (A0_2 : Option Addr) (c0_2 : Nat) (l0_2 : List (S80)) (A0_3 : Option Addr) (c0_3 : Nat) (l0_3 : List (S70)) (r1 : Int) (r2 : Int) (r3 : List (S78)) (r4 : List (S64)) (w : World) (hr0_2 : Kd.C k80 w A0_2 l0_2.length l0_2) (hc0_2 : l0_2.length ≤ c0_2) (hr0_3 : Kd.C k70 w A0_3 l0_3.length l0_3) (hc0_3 : l0_3.length ≤ c0_3) (h : laws_toDrawing.f k a0_0 a0_1 l0_2 l0_3 = some (r1,r2,r3,r4)) :
  Calls Try.prog 7 #[.agg #[.int .i64 a0_0,.int .i64 a0_1,.slice A0_2 l0_2.length c0_2,.slice A0_3 l0_3.length c0_3]] w fun e w' => ∃ v2_ v3_ : Value,e = .returned (.agg #[.int .i64 r1,.int .i64 r2,v2_,v3_]) ∧ Kd.R k78 78 w' w.heap.size (fun _ => True) v2_ r3 ∧ Kd.S k64 64 w' w.heap.size (fun _ => True) v3_ r4 ∧ Below w.heap.size w w':=by
 have hu25:=Try.underlying25
 have hu33:=Try.underlying33
 have HR0_2:=Aside0.mk hr0_2
 have HC0_2:=Aside0.mk hc0_2
 clear hr0_2 hc0_2
 have HR0_3:=Aside0.mk hr0_3
 have HC0_3:=Aside0.mk hc0_3
 clear hr0_3 hc0_3
 have HB:=Aside0.mk (Below.refl w.heap.size w)
 have H : ((laws_toPointS.f k l0_2).bind fun t258 => ((laws_toFaceS.f k l0_3).bind fun t261 => (some (a0_0,a0_1,t258,t261)))) = some (r1,r2,r3,r4):=h
 clear h
 replace H:=bE.mp H
 obtain ⟨t258,A20,H⟩:=H
 replace H : ((laws_toFaceS.f k l0_3).bind fun t261 => (some (a0_0,a0_1,t258,t261))) = some (r1,r2,r3,r4):=H
 have A2:=Aside0.mk A20
 clear A20
 replace H:=bE.mp H
 obtain ⟨t261,A30,H⟩:=H
 replace H : (some (a0_0,a0_1,t258,t261)) = some (r1,r2,r3,r4):=H
 have A3:=Aside0.mk A30
 clear A30
 simp only [Option.some.injEq,Prod.mk.injEq] at H
 obtain ⟨rfl,rfl,rfl,rfl⟩:=H
 go_enter Try.func7,Try.ntmps7
 go_wp2_with (first | ((with_reducible refine gate_dst (N:=1) rfl ?_);refine bx (cs:=#[.int .i64 a0_0,.int .i64 a0_1,.slice A0_2 l0_2.length c0_2,.slice A0_3 l0_3.length c0_3]) (t:=25) ?_;intro gb255 hg w4 hbox hb;have BK255:=Aside0.mk (hbox);have GW255:=zb hg;have GE255:=zb hg;replace HB:=sb hb;clear hb hbox hg) | ((with_reducible refine gate_dst (N:=2) rfl ?_);refine bx (cs:=#[.int .i64 0,.int .i64 0,.slice none 0 0,.slice none 0 0]) (t:=33) ?_;intro gb256 hg w5 hbox hb;have BK256:=Aside0.mk (hbox);have GW256:=zb hg;have GE256:=zb hg;replace HB:=sb hb;have NB255_256:=nl BK255 hg;have NB256_255:=ng BK255 hg;replace BK255:=kb BK255 hb;clear hb hbox hg) | ((with_reducible refine gate_dst (N:=3) rfl ?_);refine bx (cs:=#[.int .i64 0,.int .i64 0,.slice none 0 0,.slice none 0 0]) (t:=33) ?_;intro gb257 hg w6 hbox hb;have BK257:=Aside0.mk (hbox);have GW257:=zb hg;have GE257:=zb hg;replace HB:=sb hb;have NB255_257:=nl BK255 hg;have NB257_255:=ng BK255 hg;replace BK255:=kb BK255 hb;have NB256_257:=nl BK256 hg;have NB257_256:=ng BK256 hg;replace BK256:=kb BK256 hb;clear hb hbox hg;have hnb7:=NB255_256.out;have hnc7:=NB256_255.out;have hnb8:=NB255_257.out;have hnc8:=NB257_255.out;have hcz9_0:=ck BK255 0;have hcz9_1:=ck BK255 1;have hcz9_2:=ck BK255 2;have hcz9_3:=ck BK255 3;have hfz9_0:=blk_frozen BK255.out 0;have hfz9_1:=blk_frozen BK255.out 1;have hfz9_2:=blk_frozen BK255.out 2;have hfz9_3:=blk_frozen BK255.out 3;have hnb10:=NB257_256.out;have hnc10:=NB256_257.out;have hcz11_0:=ck BK257 0;have hcz11_1:=ck BK257 1;have hcz11_2:=ck BK257 2;have hcz11_3:=ck BK257 3;have hfz11_0:=blk_frozen BK257.out 0;have hfz11_1:=blk_frozen BK257.out 1;have hfz11_2:=blk_frozen BK257.out 2;have hfz11_3:=blk_frozen BK257.out 3) | ((with_reducible refine gate_callee (f:=24) rfl ?_);refine goesL_ (some 12) rfl rfl Try.func24 (by kernel_rfl) rfl #[.slice A0_2 l0_2.length c0_2] rfl (by (try simp only [mT,mC,mN]);first | done | rfl | (simp only [lD,lT];rfl)) ?_;(with_reducible refine (laws_toPointS.calls k _ _ l0_2 t258 _ ?side1 ?side2 A2.out).mono ?_);(case side1 => exact Kd.C_below HR0_2.out ib);(case side2 => exact HC0_2.out);rintro e w12 ⟨v259,rfl,ho0,hb⟩;refine ⟨_,rfl,?_⟩;have HO260:=Aside0.mk (Kd.R_lower ho0 (below_size ib));replace BK255:=Aside0.mk (blk_below (g:=gb255) (o:=.cells #[.int .i64 a0_0,.int .i64 a0_1,.slice A0_2 l0_2.length c0_2,.slice A0_3 l0_3.length c0_3] 25 (0,0)) (by refine bF NB255_257.out ?_;refine bF NB255_257.out ?_;exact bk BK255) hb);replace BK256:=Aside0.mk (blk_below (g:=gb256) (o:=.cells #[.int .i64 0,.int .i64 0,.slice none 0 0,.slice none 0 0] 33 (0,0)) (by refine bF NB256_257.out ?_;refine bF NB256_257.out ?_;exact bk BK256) hb);replace BK257:=Aside0.mk (blk_below (g:=gb257) (o:=.cells #[.int .i64 a0_0,.int .i64 a0_1,.slice none 0 0,.slice none 0 0] 33 (0,0)) (by refine bP (cs:=#[.int .i64 a0_0,.int .i64 0,.slice none 0 0,.slice none 0 0]) 1 ?_;refine bP (cs:=#[.int .i64 0,.int .i64 0,.slice none 0 0,.slice none 0 0]) 0 ?_;exact bk BK257) hb);replace HB:=sb hb;(try clear hb);(try clear hb2);(try clear hk);(try clear hi);(try clear ho0);obtain ⟨Ao13,co13,eo13⟩:=Kd.R_slice HO260.out;subst eo13;have hcz14_0:=ck BK257 0;have hcz14_1:=ck BK257 1;have hcz14_2:=ck BK257 2;have hcz14_3:=ck BK257 3;have hfz14_0:=blk_frozen BK257.out 0;have hfz14_1:=blk_frozen BK257.out 1;have hfz14_2:=blk_frozen BK257.out 2;have hfz14_3:=blk_frozen BK257.out 3;have hcz15_0:=ck BK255 0;have hcz15_1:=ck BK255 1;have hcz15_2:=ck BK255 2;have hcz15_3:=ck BK255 3;have hfz15_0:=blk_frozen BK255.out 0;have hfz15_1:=blk_frozen BK255.out 1;have hfz15_2:=blk_frozen BK255.out 2;have hfz15_3:=blk_frozen BK255.out 3) | ((with_reducible refine gate_callee (f:=25) rfl ?_);refine goesL_ (some 16) rfl rfl Try.func25 (by kernel_rfl) rfl #[.slice A0_3 l0_3.length c0_3] rfl (by (try simp only [mT,mC,mN]);first | done | rfl | (simp only [lD,lT];rfl)) ?_;(with_reducible refine (laws_toFaceS.calls k _ _ l0_3 t261 _ ?side1 ?side2 A3.out).mono ?_);(case side1 => exact Kd.C_below HR0_3.out ib);(case side2 => exact HC0_3.out);rintro e w16 ⟨v262,rfl,ho0,hb⟩;refine ⟨_,rfl,?_⟩;replace HO260:=Aside0.mk (Kd.R_below (rO ((Kd.R_mono (Kd.R_far (p:=⟨gb257,2,none⟩) (Kd.R_types HO260.out BK257.out (by decide)) (fun _ hk => hk.2) (.slice Ao13 t258.length co13)) (fun _ h_ => h_.1)))) hb);have HO263:=Aside0.mk (Kd.S_lower ho0 (below_size ib));replace BK255:=Aside0.mk (blk_below (g:=gb255) (o:=.cells #[.int .i64 a0_0,.int .i64 a0_1,.slice A0_2 l0_2.length c0_2,.slice A0_3 l0_3.length c0_3] 25 (0,0)) (by refine bF NB255_257.out ?_;exact bk BK255) hb);replace BK256:=Aside0.mk (blk_below (g:=gb256) (o:=.cells #[.int .i64 0,.int .i64 0,.slice none 0 0,.slice none 0 0] 33 (0,0)) (by refine bF NB256_257.out ?_;exact bk BK256) hb);replace BK257:=Aside0.mk (blk_below (g:=gb257) (o:=.cells #[.int .i64 a0_0,.int .i64 a0_1,.slice Ao13 t258.length co13,.slice none 0 0] 33 (0,0)) (by refine bP (cs:=#[.int .i64 a0_0,.int .i64 a0_1,.slice none 0 0,.slice none 0 0]) 2 ?_;exact bk BK257) hb);replace HB:=sb hb;(try clear hb);(try clear hb2);(try clear hk);(try clear hi);(try clear ho0);obtain ⟨Ao17,co17,eo17⟩:=Kd.S_slice HO263.out;subst eo17;have hcz18_0:=ck BK257 0;have hcz18_1:=ck BK257 1;have hcz18_2:=ck BK257 2;have hcz18_3:=ck BK257 3;have hfz18_0:=blk_frozen BK257.out 0;have hfz18_1:=blk_frozen BK257.out 1;have hfz18_2:=blk_frozen BK257.out 2;have hfz18_3:=blk_frozen BK257.out 3;have hcz19_0:=ck BK256 0;have hcz19_1:=ck BK256 1;have hcz19_2:=ck BK256 2;have hcz19_3:=ck BK256 3;have hfz19_0:=blk_frozen BK256.out 0;have hfz19_1:=blk_frozen BK256.out 1;have hfz19_2:=blk_frozen BK256.out 2;have hfz19_3:=blk_frozen BK256.out 3))
 refine bodyPost_ret (results_cell_row rfl _ _ gb256 33 #[.int .i64 a0_0,.int .i64 a0_1,.slice Ao13 t258.length co13,.slice Ao17 t261.length co17] (0,0) _ rfl (by refine bP (cs:=#[.int .i64 a0_0,.int .i64 a0_1,.slice Ao13 t258.length co13,.slice none 0 0]) 3 ?_;refine bP (cs:=#[.int .i64 a0_0,.int .i64 a0_1,.slice none 0 0,.slice none 0 0]) 2 ?_;refine bP (cs:=#[.int .i64 a0_0,.int .i64 0,.slice none 0 0,.slice none 0 0]) 1 ?_;refine bP (cs:=#[.int .i64 0,.int .i64 0,.slice none 0 0,.slice none 0 0]) 0 ?_;refine bF NB256_257.out ?_;exact bk BK256) Try.underlying33 rfl (by kernel_rfl)) rfl ?_
 exact ⟨_,_,by first | rfl | (simp [errW_none,errW_some] <;> rfl) | (simp [*,errW_none,errW_some] <;> rfl),rO (Kd.R_mono (Kd.R_far (p:=⟨gb256,3,none⟩) (Kd.R_far (p:=⟨gb256,2,none⟩) (Kd.R_far (p:=⟨gb256,1,none⟩) (Kd.R_far (p:=⟨gb256,0,none⟩) (Kd.R_far (p:=⟨gb257,3,none⟩) (Kd.R_types (Kd.R_types HO260.out BK257.out (by decide)) BK256.out (by decide)) (fun _ hk => hk.1.2) (.slice Ao17 t261.length co17)) (fun _ hk => hk.2) (.int .i64 a0_0)) (fun _ hk => hk.2) (.int .i64 a0_1)) (fun _ hk => hk.2) (.slice Ao13 t258.length co13)) (fun _ hk => hk.2) (.slice Ao17 t261.length co17)) (fun _ hk => trivial)),sO (Kd.S_mono (Kd.S_far (p:=⟨gb256,3,none⟩) (Kd.S_far (p:=⟨gb256,2,none⟩) (Kd.S_far (p:=⟨gb256,1,none⟩) (Kd.S_far (p:=⟨gb256,0,none⟩) (Kd.S_far (p:=⟨gb257,3,none⟩) (Kd.S_types (Kd.S_types HO263.out BK257.out (by decide)) BK256.out (by decide)) (fun _ hk => hk.1.2) (.slice Ao17 t261.length co17)) (fun _ hk => hk.2) (.int .i64 a0_0)) (fun _ hk => hk.2) (.int .i64 a0_1)) (fun _ hk => hk.2) (.slice Ao13 t258.length co13)) (fun _ hk => hk.2) (.slice Ao17 t261.length co17)) (fun _ hk => trivial)),ib⟩
def impl_within.f (a0 : Int) (a1 : Int) (a2 : Int) : Option (Bool):=if a0 ≥ a1 then (some (decide (a0 ≤ a2))) else (some false)
theorem impl_within.calls (a0 : Int) (a1 : Int) (a2 : Int) (r : Bool) (w : World) (h : impl_within.f a0 a1 a2 = some r) :
  Calls Try.prog 46 #[.int .i64 a0,.int .i64 a1,.int .i64 a2] w fun e w' => e = .returned (.bool r) ∧ Drawn0 w w':=by
 have H : (if a0 ≥ a1 then (some (decide (a0 ≤ a2))) else (some false)) = some r:=h
 clear h
 by_cases c4 : a0 ≥ a1
 ·rw [if_pos c4] at H
  have c4b0 : decide (a1 ≤ a0) = true:=decide_eq_true c4
  clear c4
  obtain rfl:=Option.some.inj H
  go_enter Try.func46,Try.ntmps46
  go_wp2
  go_ret
  exact ⟨by first | rfl | (simp;done) | (simp [*];done),by repeat (first | exact Drawn0.refl _ | apply Drawn0.step)⟩
 ·rw [if_neg c4] at H
  have c4b0 : decide (a1 ≤ a0) = false:=decide_eq_false c4
  clear c4
  obtain rfl:=Option.some.inj H
  go_enter Try.func46,Try.ntmps46
  go_wp2
  go_ret
  exact ⟨by first | rfl | (simp;done) | (simp [*];done),by repeat (first | exact Drawn0.refl _ | apply Drawn0.step)⟩
def impl_Point_70.l0 : Nat → List (S78) → Int → Int → Int → Int → Option (Int)
 | 0,_,_,_,_,_ => none
 | k + 1,x0,x7,x8,x265000,x265001 => if x8 < x7 then (if 0 ≤ x8 then (if x8 < (x0.length : Int) then (if (x265000 == ((rd_T78 x0 x8).f0) && (x265001 == ((rd_T78 x0 x8).f1))) = true then (some x8) else (impl_Point_70.l0 k x0 x7 (wrap64 (x8 + 1)) x265000 x265001)) else (none)) else (none)) else (some (-1))
def impl_Point_70.f (k : Nat) (l0 : List (S78)) (a1_0 : Int) (a1_1 : Int) : Option (Int):=impl_Point_70.l0 k l0 (l0.length : Int) 0 a1_0 a1_1
theorem impl_Point_70.calls (k : Nat) (A0 : Option Addr) (c0 : Nat) (l0 : List (S78)) (a1_0 : Int) (a1_1 : Int) (r : Int) (w : World) (hr0 : Kd.C k78 w A0 l0.length l0) (hc0 : l0.length ≤ c0) (h : impl_Point_70.f k l0 a1_0 a1_1 = some r) :
  Calls Try.prog 70 #[.slice A0 l0.length c0,.agg #[.int .i64 a1_0,.int .i64 a1_1]] w fun e w' => e = .returned (.int .i64 r) ∧ Below w.heap.size w w':=by
 have hu78:=Try.underlying78
 have HR0:=Aside0.mk hr0
 have HC0:=Aside0.mk hc0
 clear hr0 hc0
 have HB:=Aside0.mk (Below.refl w.heap.size w)
 have H : (impl_Point_70.l0 k l0 (l0.length : Int) 0 a1_0 a1_1) = some r:=h
 clear h
 have H':=Aside0.mk H
 clear H
 go_enter Try.func70,Try.ntmps70
 go_wp2_with (first | ((with_reducible refine gate_dst (N:=3) rfl ?_);refine bx (cs:=#[.int .i64 a1_0,.int .i64 a1_1]) (t:=78) ?_;intro gb264 hg w3 hbox hb;have BK264:=Aside0.mk (hbox);have GW264:=zb hg;have GE264:=zb hg;replace HB:=sb hb;clear hb hbox hg))
 repeat (go_quiet (first | ((with_reducible refine gate_dst (N:=3) rfl ?_);refine bx (cs:=#[.int .i64 a1_0,.int .i64 a1_1]) (t:=78) ?_;intro gb264 hg w3 hbox hb;have BK264:=Aside0.mk (hbox);have GW264:=zb hg;have GE264:=zb hg;replace HB:=sb hb;clear hb hbox hg));try go_wp2_with (first | ((with_reducible refine gate_dst (N:=3) rfl ?_);refine bx (cs:=#[.int .i64 a1_0,.int .i64 a1_1]) (t:=78) ?_;intro gb264 hg w3 hbox hb;have BK264:=Aside0.mk (hbox);have GW264:=zb hg;have GE264:=zb hg;replace HB:=sb hb;clear hb hbox hg)))
 go_loopg [8] k (fun kq v8 w' => ∃ (x8_1 : Int),v8 = .int .i64 x8_1 ∧ Aside0 (impl_Point_70.l0 kq l0 (l0.length : Int) x8_1 a1_0 a1_1 = some r) ∧ Aside0 (kq ≤ k) ∧ Aside0 (w'.heap[gb264]? = some (.cells #[.int .i64 a1_0,.int .i64 a1_1] 78 (0,0))) ∧ Aside0 (Below w.heap.size w w'))
 case atStart => exact ⟨(0),(by first | rfl | (simp;done) | (simp [*];done)),H',⟨Nat.le_refl _⟩,⟨by exact bk BK264⟩,⟨ib⟩⟩
 case round =>
  clear H'
  try clear p2
  obtain ⟨x8_1,rfl,HA,HK1,BK264,HB⟩:=hrel
  cases gk with
  | zero => exact absurd HA.out (by simp [impl_Point_70.l0])
  | succ k1 =>
   have H:=HA.out
   clear HA
   simp only [impl_Point_70.l0] at H
   by_cases c4 : x8_1 < (l0.length : Int)
   ·rw [if_pos c4] at H
    have c4b0 : decide (x8_1 < (l0.length : Int)) = true:=decide_eq_true c4
    clear c4
    by_cases c5 : 0 ≤ x8_1
    ·rw [if_pos c5] at H
     have c5b0 : decide (0 ≤ x8_1) = true:=decide_eq_true c5
     clear c5
     by_cases c6 : x8_1 < (l0.length : Int)
     ·rw [if_pos c6] at H
      have c6b0 : decide (x8_1 < (l0.length : Int)) = true:=decide_eq_true c6
      clear c6
      by_cases c7 : (a1_0 == ((rd_T78 l0 x8_1).f0) && (a1_1 == ((rd_T78 l0 x8_1).f1))) = true
      ·rw [if_pos c7] at H
       have c7b0 : (a1_0 == ((rd_T78 l0 x8_1).f0) && (a1_1 == ((rd_T78 l0 x8_1).f1))) = true:=c7
       (try (have c7b1 : decide (a1_0 = ((rd_T78 l0 x8_1).f0) && (a1_1 == ((rd_T78 l0 x8_1).f1))) = true:=by simpa using c7))
       (try (have c7b2 : (a1_0 == ((rd_T78 l0 x8_1).f0) && (a1_1 == ((rd_T78 l0 x8_1).f1))) = true:=by simpa using c7))
       clear c7
       obtain rfl:=Option.some.inj H
       have hcz8_0 : wr.cell? ⟨gb264,0,none⟩ = some (.int .i64 a1_0):=(blk_cell BK264.out 0).trans rfl
       have hcz8_1 : wr.cell? ⟨gb264,1,none⟩ = some (.int .i64 a1_1):=(blk_cell BK264.out 1).trans rfl
       have hfz8_0:=blk_frozen BK264.out 0
       have hfz8_1:=blk_frozen BK264.out 1
       have p265 : 0 ≤ (x8_1 : Int):=da
       have q265 : x8_1 < (l0.length : Int):=da
       obtain ⟨ad265,e265,hx265_0,hx265_1⟩:=at_T78 HR0.out x8_1 p265 q265
       cases e265
       replace hx265_0:=cq HB.out hx265_0
       replace hx265_1:=cq HB.out hx265_1
       replace p265:=eq_true p265
       replace q265:=eq_true q265
       go_wp2
       repeat (go_quiet (fail);try go_wp2)
       go_ret
       exact ⟨by first | rfl | (simp [errW_none,errW_some] <;> rfl) | (simp [*,errW_none,errW_some] <;> rfl),ib⟩
      ·rw [if_neg c7] at H
       have c7b0 : (a1_0 == ((rd_T78 l0 x8_1).f0) && (a1_1 == ((rd_T78 l0 x8_1).f1))) = false:=by simpa using c7
       (try (have c7b1 : decide (a1_0 = ((rd_T78 l0 x8_1).f0) && (a1_1 == ((rd_T78 l0 x8_1).f1))) = false:=by simpa using c7))
       (try (have c7b2 : (a1_0 == ((rd_T78 l0 x8_1).f0) && (a1_1 == ((rd_T78 l0 x8_1).f1))) = false:=by simpa using c7))
       (try (have c7b3 : ¬ (a1_0 = ((rd_T78 l0 x8_1).f0) && (a1_1 == ((rd_T78 l0 x8_1).f1))):=by simpa using c7))
       clear c7
       have H':=Aside0.mk H
       clear H
       have hcz9_0 : wr.cell? ⟨gb264,0,none⟩ = some (.int .i64 a1_0):=(blk_cell BK264.out 0).trans rfl
       have hcz9_1 : wr.cell? ⟨gb264,1,none⟩ = some (.int .i64 a1_1):=(blk_cell BK264.out 1).trans rfl
       have hfz9_0:=blk_frozen BK264.out 0
       have hfz9_1:=blk_frozen BK264.out 1
       have p265 : 0 ≤ (x8_1 : Int):=da
       have q265 : x8_1 < (l0.length : Int):=da
       obtain ⟨ad265,e265,hx265_0,hx265_1⟩:=at_T78 HR0.out x8_1 p265 q265
       cases e265
       replace hx265_0:=cq HB.out hx265_0
       replace hx265_1:=cq HB.out hx265_1
       replace p265:=eq_true p265
       replace q265:=eq_true q265
       go_wp2
       repeat (go_quiet (fail);try go_wp2)
       go_roundg k1
       case measure => have:=HK1.out;omega
       case rel => exact ⟨(wrap64 (x8_1 + 1)),(by first | rfl | (simp;done) | (simp [*];done)),H',⟨by have:=HK1.out;omega⟩,⟨by exact bk BK264⟩,⟨ib⟩⟩
     ·first | (exfalso;have z_:=of_decide_eq_true c4b0;omega) | (rw [if_neg c6] at H;exact absurd H (by simp))
    ·rw [if_neg c5] at H
     exact absurd H (by simp)
   ·rw [if_neg c4] at H
    have c4b0 : decide (x8_1 < (l0.length : Int)) = false:=decide_eq_false c4
    clear c4
    obtain rfl:=Option.some.inj H
    go_wp2
    repeat (go_quiet (fail);try go_wp2)
    go_ret
    exact ⟨by first | rfl | (simp [errW_none,errW_some] <;> rfl) | (simp [*,errW_none,errW_some] <;> rfl),ib⟩
def impl_Point_53.f (k : Nat) (l0 : List (S78)) (a1_0 : Int) (a1_1 : Int) : Option (Bool):=(impl_Point_70.f k l0 a1_0 a1_1).bind fun t267 => (some (decide (t267 ≥ 0)))
theorem impl_Point_53.calls (k : Nat) (A0 : Option Addr) (c0 : Nat) (l0 : List (S78)) (a1_0 : Int) (a1_1 : Int) (r : Bool) (w : World) (hr0 : Kd.C k78 w A0 l0.length l0) (hc0 : l0.length ≤ c0) (h : impl_Point_53.f k l0 a1_0 a1_1 = some r) :
  Calls Try.prog 53 #[.slice A0 l0.length c0,.agg #[.int .i64 a1_0,.int .i64 a1_1]] w fun e w' => e = .returned (.bool r) ∧ Below w.heap.size w w':=by
 have hu78:=Try.underlying78
 have HR0:=Aside0.mk hr0
 have HC0:=Aside0.mk hc0
 clear hr0 hc0
 have HB:=Aside0.mk (Below.refl w.heap.size w)
 have H : ((impl_Point_70.f k l0 a1_0 a1_1).bind fun t267 => (some (decide (t267 ≥ 0)))) = some r:=h
 clear h
 replace H:=bE.mp H
 obtain ⟨t267,A30,H⟩:=H
 replace H : (some (decide (t267 ≥ 0))) = some r:=H
 have A3:=Aside0.mk A30
 clear A30
 obtain rfl:=Option.some.inj H
 go_enter Try.func53,Try.ntmps53
 go_wp2_with (first | ((with_reducible refine gate_dst (N:=3) rfl ?_);refine bx (cs:=#[.int .i64 a1_0,.int .i64 a1_1]) (t:=78) ?_;intro gb266 hg w4 hbox hb;have BK266:=Aside0.mk (hbox);have GW266:=zb hg;have GE266:=zb hg;replace HB:=sb hb;clear hb hbox hg;have hcz5_0:=ck BK266 0;have hcz5_1:=ck BK266 1;have hfz5_0:=blk_frozen BK266.out 0;have hfz5_1:=blk_frozen BK266.out 1) | ((with_reducible refine gate_callee (f:=70) rfl ?_);refine goesL_ (some 7) rfl rfl Try.func70 (by kernel_rfl) rfl #[.slice A0 l0.length c0,.agg #[.int .i64 a1_0,.int .i64 a1_1]] rfl (by (try simp only [mT,mC,mN]);first | done | rfl | (simp only [lD,lT];rfl)) ?_;(with_reducible refine (impl_Point_70.calls k _ _ l0 a1_0 a1_1 t267 _ ?side1 ?side2 A3.out).mono ?_);(case side1 => exact cO ((Kd.C_below HR0.out HB.out)));(case side2 => exact HC0.out);rintro e w6 ⟨rfl,hb⟩;refine ⟨_,rfl,?_⟩;replace BK266:=kb BK266 hb;replace HB:=sb hb;(try clear hb);(try clear hb2);(try clear hk);(try clear hi)))
 go_ret
 exact ⟨by first | rfl | (simp [errW_none,errW_some] <;> rfl) | (simp [*,errW_none,errW_some] <;> rfl),ib⟩
mutual
def impl_IsName.j0 : Nat → ByteArray → Bool → Option (Bool)
 | 0,_,_ => none
 | k + 1,x0,x21 => if x21 = true then (some false) else (impl_IsName.l0 k x0 0)
def impl_IsName.l0 : Nat → ByteArray → Int → Option (Bool)
 | 0,_,_ => none
 | k + 1,x0,x3 => if x3 < (x0.size : Int) then (if 0 ≤ x3 then (if (bt x0 x3) < 97 then (if (bt x0 x3) < 48 then (some false) else (if (bt x0 x3) > 57 then (some false) else (impl_IsName.l0 k x0 (wrap64 (x3 + 1))))) else (if (bt x0 x3) > 122 then (if (bt x0 x3) < 48 then (some false) else (if (bt x0 x3) > 57 then (some false) else (impl_IsName.l0 k x0 (wrap64 (x3 + 1))))) else (impl_IsName.l0 k x0 (wrap64 (x3 + 1))))) else (none)) else (some true)
end
def impl_IsName.f (k : Nat) (a0 : ByteArray) : Option (Bool):=if (a0.size : Int) < 1 then (impl_IsName.j0 k a0 true) else (if (a0.size : Int) > 10 then (impl_IsName.j0 k a0 true) else (if 0 < (a0.size : Int) then (if (bt a0 0) < 97 then (impl_IsName.j0 k a0 true) else (impl_IsName.j0 k a0 (decide ((bt a0 0) > 122)))) else (none)))
theorem impl_IsName.mono_l : ∀ k,(∀ y0 y1,LeO (impl_IsName.j0 k y0 y1) (impl_IsName.j0 (k + 1) y0 y1)) ∧ (∀ y0 y1,LeO (impl_IsName.l0 k y0 y1) (impl_IsName.l0 (k + 1) y0 y1))
 | 0 => ⟨fun _ _ r h => by simp [impl_IsName.j0] at h,fun _ _ r h => by simp [impl_IsName.l0] at h⟩
 | k + 1 => by
  obtain ⟨ih0,ih1⟩:=impl_IsName.mono_l k
  refine ⟨?_,?_⟩
  ·intro y0 y1
   unfold impl_IsName.j0
   repeat' first
   | (with_reducible exact ih0 _ _)
   | (with_reducible exact ih1 _ _)
   | (with_reducible exact LeO.refl _)
   | (with_reducible exact LeO.none _)
   | (with_reducible refine LeO.ite ?_ ?_)
   | (with_reducible refine LeO.bind ?_ (fun _ => ?_))
   | exact ih0 _ _
   | exact ih1 _ _
   | exact LeO.none _
   | refine LeO.ite ?_ ?_
   | refine LeO.bind ?_ (fun _ => ?_)
  ·intro y0 y1
   unfold impl_IsName.l0
   repeat' first
   | (with_reducible exact ih0 _ _)
   | (with_reducible exact ih1 _ _)
   | (with_reducible exact LeO.refl _)
   | (with_reducible exact LeO.none _)
   | (with_reducible refine LeO.ite ?_ ?_)
   | (with_reducible refine LeO.bind ?_ (fun _ => ?_))
   | exact ih0 _ _
   | exact ih1 _ _
   | exact LeO.none _
   | refine LeO.ite ?_ ?_
   | refine LeO.bind ?_ (fun _ => ?_)
theorem impl_IsName.mono : ∀ a0 k,LeO (impl_IsName.f k a0) (impl_IsName.f (k + 1) a0):=by
 intro a0 k
 obtain ⟨ih0,ih1⟩:=impl_IsName.mono_l k
 unfold impl_IsName.f
 repeat' first
   | (with_reducible exact ih0 _ _)
   | (with_reducible exact ih1 _ _)
   | (with_reducible exact LeO.refl _)
   | (with_reducible exact LeO.none _)
   | (with_reducible refine LeO.ite ?_ ?_)
   | (with_reducible refine LeO.bind ?_ (fun _ => ?_))
   | exact ih0 _ _
   | exact ih1 _ _
   | exact LeO.none _
   | refine LeO.ite ?_ ?_
   | refine LeO.bind ?_ (fun _ => ?_)
theorem impl_IsName.calls (k : Nat) (a0 : ByteArray) (r : Bool) (w : World) (h : impl_IsName.f k a0 = some r) :
  Calls Try.prog 54 #[.string a0] w fun e w' => e = .returned (.bool r) ∧ Drawn0 w w':=by
 have H : (if (a0.size : Int) < 1 then (impl_IsName.j0 k a0 true) else (if (a0.size : Int) > 10 then (impl_IsName.j0 k a0 true) else (if 0 < (a0.size : Int) then (if (bt a0 0) < 97 then (impl_IsName.j0 k a0 true) else (impl_IsName.j0 k a0 (decide ((bt a0 0) > 122)))) else (none)))) = some r:=h
 clear h
 have HC2:=Aside0.mk H
 clear H
 go_enter Try.func54,Try.ntmps54
 go_upto_region 1 with (fail)
 go_cut [21] (fun v21 wc => ∃ (kq : Nat) (x21_1 : Bool),v21 = .bool x21_1 ∧ Aside0 (impl_IsName.j0 kq a0 x21_1 = some r) ∧ Aside0 (kq ≤ k) ∧ Drawn0 w wc)
 case first =>
  have H:=HC2.out
  clear HC2
  by_cases c3 : (a0.size : Int) < 1
  ·rw [if_pos c3] at H
   have c3b0 : decide ((a0.size : Int) < 1) = true:=decide_eq_true c3
   have c3b1 : decide (a0.size < 1) = true:=decide_eq_true (by omega)
   clear c3
   (first | rw [c3b0] | (simp only [i64_w,i32_w];rw [c3b0]) | skip)
   have H':=Aside0.mk H
   clear H
   go_wp2
   go_meet
   case rel => exact ⟨_,(true),(by first | rfl | (simp;done) | (simp [*];done)),H',⟨by first | omega | exact Nat.le_refl _⟩,by repeat (first | exact Drawn0.refl _ | apply Drawn0.step)⟩
  ·rw [if_neg c3] at H
   have c3b0 : decide ((a0.size : Int) < 1) = false:=decide_eq_false c3
   have c3b1 : decide (a0.size < 1) = false:=decide_eq_false (by omega)
   clear c3
   (first | rw [c3b0] | (simp only [i64_w,i32_w];rw [c3b0]) | skip)
   by_cases c4 : (a0.size : Int) > 10
   ·rw [if_pos c4] at H
    have c4b0 : decide (10 < (a0.size : Int)) = true:=decide_eq_true c4
    have c4b1 : decide (10 < a0.size) = true:=decide_eq_true (by omega)
    clear c4
    have H':=Aside0.mk H
    clear H
    go_wp2
    go_meet
    case rel => exact ⟨_,(true),(by first | rfl | (simp;done) | (simp [*];done)),H',⟨by first | omega | exact Nat.le_refl _⟩,by repeat (first | exact Drawn0.refl _ | apply Drawn0.step)⟩
   ·rw [if_neg c4] at H
    have c4b0 : decide (10 < (a0.size : Int)) = false:=decide_eq_false c4
    have c4b1 : decide (10 < a0.size) = false:=decide_eq_false (by omega)
    clear c4
    by_cases c5 : 0 < (a0.size : Int)
    ·rw [if_pos c5] at H
     have c5b0 : decide (0 < (a0.size : Int)) = true:=decide_eq_true c5
     have c5b1 : decide (0 < a0.size) = true:=decide_eq_true (by omega)
     clear c5
     by_cases c7 : (bt a0 0) < 97
     ·rw [if_pos c7] at H
      have c7b0 : decide ((bt a0 0) < 97) = true:=decide_eq_true c7
      clear c7
      have H':=Aside0.mk H
      clear H
      have p6 : 0 ≤ (0 : Int):=(by omega)
      have q6 : 0 < a0.size:=(by have : (0 : Int) < (a0.size : Int):=da;omega)
      have hx6 : ∀ h : 0 < a0.size,((a0[0]'h).toNat : Int) = bt a0 0:=bt_at a0 0
      clear p6
      have qi6 : (0 < (a0.size : Int)) = True:=eq_true (da)
      replace q6:=eq_true q6
      go_wp2
      go_meet
      case rel => exact ⟨_,(true),(by first | rfl | (simp;done) | (simp [*];done)),H',⟨by first | omega | exact Nat.le_refl _⟩,by repeat (first | exact Drawn0.refl _ | apply Drawn0.step)⟩
     ·rw [if_neg c7] at H
      have c7b0 : decide ((bt a0 0) < 97) = false:=decide_eq_false c7
      clear c7
      have H':=Aside0.mk H
      clear H
      have p6 : 0 ≤ (0 : Int):=(by omega)
      have q6 : 0 < a0.size:=(by have : (0 : Int) < (a0.size : Int):=da;omega)
      have hx6 : ∀ h : 0 < a0.size,((a0[0]'h).toNat : Int) = bt a0 0:=bt_at a0 0
      clear p6
      have qi6 : (0 < (a0.size : Int)) = True:=eq_true (da)
      replace q6:=eq_true q6
      have p8 : 0 ≤ (0 : Int):=(by omega)
      have q8 : 0 < a0.size:=(by have : (0 : Int) < (a0.size : Int):=da;omega)
      have hx8 : ∀ h : 0 < a0.size,((a0[0]'h).toNat : Int) = bt a0 0:=bt_at a0 0
      clear p8
      have qi8 : (0 < (a0.size : Int)) = True:=eq_true (da)
      replace q8:=eq_true q8
      go_wp2
      go_meet
      case rel => exact ⟨_,(decide ((bt a0 0) > 122)),(by first | rfl | (simp;done) | (simp [*];done)),H',⟨by first | omega | exact Nat.le_refl _⟩,by repeat (first | exact Drawn0.refl _ | apply Drawn0.step)⟩
    ·rw [if_neg c5] at H
     exact absurd H (by simp)
 case rest =>
  clear HC2
  try clear p2
  try clear c3
  try clear c3b0
  try clear c3b1
  try clear c4
  try clear c4b0
  try clear c4b1
  try clear c5
  try clear c5b0
  try clear c5b1
  try clear p6
  try clear q6
  try clear hx6
  try clear qi6
  try clear c7
  try clear c7b0
  try clear p8
  try clear q8
  try clear hx8
  try clear qi8
  try clear p6
  try clear p8
  try clear q6
  try clear q8
  obtain ⟨kq,x21_1,rfl,HA,HJ1,⟨mc1,rfl⟩⟩:=hcut
  cases kq with
  | zero => exact absurd HA.out (by simp [impl_IsName.j0])
  | succ kj1 =>
   have H:=HA.out
   clear HA
   simp only [impl_IsName.j0] at H
   by_cases c9 : x21_1 = true
   ·subst c9
    have H1 : (some false) = some r:=by rw [if_pos rfl] at H;exact H
    clear H
    have H:=H1
    clear H1
    obtain rfl:=Option.some.inj H
    go_wp2
    go_ret
    exact ⟨by first | rfl | (simp;done) | (simp [*];done),by repeat (first | exact Drawn0.refl _ | apply Drawn0.step)⟩
   ·replace c9:=Bool.eq_false_iff.mpr c9
    subst c9
    have H1 : (impl_IsName.l0 kj1 a0 0) = some r:=by rw [if_neg (show ¬ (false = true) by decide)] at H;exact H
    clear H
    have H:=H1
    clear H1
    have H':=Aside0.mk H
    clear H
    go_wp2
    go_loopg [3] kj1 (fun kq v3 w' => ∃ (x3_2 : Int),v3 = .int .i64 x3_2 ∧ Aside0 (impl_IsName.l0 kq a0 x3_2 = some r) ∧ Aside0 (kq ≤ kj1) ∧ Drawn0 w w')
    case atStart => exact ⟨(0),(by first | rfl | (simp;done) | (simp [*];done)),H',⟨Nat.le_refl _⟩,by repeat (first | exact Drawn0.refl _ | apply Drawn0.step)⟩
    case round =>
     clear H'
     try clear c1
     try clear p2
     try clear c3
     try clear c3b0
     try clear c3b1
     try clear c4
     try clear c4b0
     try clear c4b1
     try clear c5
     try clear c5b0
     try clear c5b1
     try clear p6
     try clear q6
     try clear hx6
     try clear qi6
     try clear c7
     try clear c7b0
     try clear p8
     try clear q8
     try clear hx8
     try clear qi8
     try clear c9
     try clear p2
     try clear p6
     try clear p8
     try clear q6
     try clear q8
     obtain ⟨x3_2,rfl,HA,HK2,⟨m2,rfl⟩⟩:=hrel
     cases gk with
     | zero => exact absurd HA.out (by simp [impl_IsName.l0])
     | succ k2 =>
      have H:=HA.out
      clear HA
      simp only [impl_IsName.l0] at H
      by_cases c10 : x3_2 < (a0.size : Int)
      ·rw [if_pos c10] at H
       have c10b0 : decide (x3_2 < (a0.size : Int)) = true:=decide_eq_true c10
       clear c10
       by_cases c11 : 0 ≤ x3_2
       ·rw [if_pos c11] at H
        have c11b0 : decide (0 ≤ x3_2) = true:=decide_eq_true c11
        clear c11
        by_cases c13 : (bt a0 x3_2) < 97
        ·rw [if_pos c13] at H
         have c13b0 : decide ((bt a0 x3_2) < 97) = true:=decide_eq_true c13
         clear c13
         by_cases c15 : (bt a0 x3_2) < 48
         ·rw [if_pos c15] at H
          have c15b0 : decide ((bt a0 x3_2) < 48) = true:=decide_eq_true c15
          clear c15
          obtain rfl:=Option.some.inj H
          have p12 : 0 ≤ (x3_2 : Int):=da
          have q12 : x3_2 < (a0.size : Int):=da
          have hx12:=bt_at a0 x3_2
          replace p12:=eq_true p12
          replace q12:=eq_true q12
          have p14 : 0 ≤ (x3_2 : Int):=da
          have q14 : x3_2 < (a0.size : Int):=da
          have hx14:=bt_at a0 x3_2
          replace p14:=eq_true p14
          replace q14:=eq_true q14
          go_wp2
          go_ret
          exact ⟨by first | rfl | (simp;done) | (simp [*];done),by repeat (first | exact Drawn0.refl _ | apply Drawn0.step)⟩
         ·rw [if_neg c15] at H
          have c15b0 : decide ((bt a0 x3_2) < 48) = false:=decide_eq_false c15
          clear c15
          by_cases c17 : (bt a0 x3_2) > 57
          ·rw [if_pos c17] at H
           have c17b0 : decide (57 < (bt a0 x3_2)) = true:=decide_eq_true c17
           clear c17
           obtain rfl:=Option.some.inj H
           have p12 : 0 ≤ (x3_2 : Int):=da
           have q12 : x3_2 < (a0.size : Int):=da
           have hx12:=bt_at a0 x3_2
           replace p12:=eq_true p12
           replace q12:=eq_true q12
           have p14 : 0 ≤ (x3_2 : Int):=da
           have q14 : x3_2 < (a0.size : Int):=da
           have hx14:=bt_at a0 x3_2
           replace p14:=eq_true p14
           replace q14:=eq_true q14
           have p16 : 0 ≤ (x3_2 : Int):=da
           have q16 : x3_2 < (a0.size : Int):=da
           have hx16:=bt_at a0 x3_2
           replace p16:=eq_true p16
           replace q16:=eq_true q16
           go_wp2
           go_ret
           exact ⟨by first | rfl | (simp;done) | (simp [*];done),by repeat (first | exact Drawn0.refl _ | apply Drawn0.step)⟩
          ·rw [if_neg c17] at H
           have c17b0 : decide (57 < (bt a0 x3_2)) = false:=decide_eq_false c17
           clear c17
           have H':=Aside0.mk H
           clear H
           have p12 : 0 ≤ (x3_2 : Int):=da
           have q12 : x3_2 < (a0.size : Int):=da
           have hx12:=bt_at a0 x3_2
           replace p12:=eq_true p12
           replace q12:=eq_true q12
           have p14 : 0 ≤ (x3_2 : Int):=da
           have q14 : x3_2 < (a0.size : Int):=da
           have hx14:=bt_at a0 x3_2
           replace p14:=eq_true p14
           replace q14:=eq_true q14
           have p16 : 0 ≤ (x3_2 : Int):=da
           have q16 : x3_2 < (a0.size : Int):=da
           have hx16:=bt_at a0 x3_2
           replace p16:=eq_true p16
           replace q16:=eq_true q16
           go_wp2
           go_roundg k2
           case measure => have:=HJ1.out;have:=HK2.out;omega
           case rel => exact ⟨(wrap64 (x3_2 + 1)),(by first | rfl | (simp;done) | (simp [*];done)),H',⟨by have:=HJ1.out;have:=HK2.out;omega⟩,by repeat (first | exact Drawn0.refl _ | apply Drawn0.step)⟩
        ·rw [if_neg c13] at H
         have c13b0 : decide ((bt a0 x3_2) < 97) = false:=decide_eq_false c13
         clear c13
         by_cases c19 : (bt a0 x3_2) > 122
         ·rw [if_pos c19] at H
          have c19b0 : decide (122 < (bt a0 x3_2)) = true:=decide_eq_true c19
          clear c19
          by_cases c21 : (bt a0 x3_2) < 48
          ·rw [if_pos c21] at H
           have c21b0 : decide ((bt a0 x3_2) < 48) = true:=decide_eq_true c21
           clear c21
           obtain rfl:=Option.some.inj H
           have p12 : 0 ≤ (x3_2 : Int):=da
           have q12 : x3_2 < (a0.size : Int):=da
           have hx12:=bt_at a0 x3_2
           replace p12:=eq_true p12
           replace q12:=eq_true q12
           have p18 : 0 ≤ (x3_2 : Int):=da
           have q18 : x3_2 < (a0.size : Int):=da
           have hx18:=bt_at a0 x3_2
           replace p18:=eq_true p18
           replace q18:=eq_true q18
           have p20 : 0 ≤ (x3_2 : Int):=da
           have q20 : x3_2 < (a0.size : Int):=da
           have hx20:=bt_at a0 x3_2
           replace p20:=eq_true p20
           replace q20:=eq_true q20
           go_wp2
           go_ret
           exact ⟨by first | rfl | (simp;done) | (simp [*];done),by repeat (first | exact Drawn0.refl _ | apply Drawn0.step)⟩
          ·rw [if_neg c21] at H
           have c21b0 : decide ((bt a0 x3_2) < 48) = false:=decide_eq_false c21
           clear c21
           by_cases c23 : (bt a0 x3_2) > 57
           ·rw [if_pos c23] at H
            have c23b0 : decide (57 < (bt a0 x3_2)) = true:=decide_eq_true c23
            clear c23
            obtain rfl:=Option.some.inj H
            have p12 : 0 ≤ (x3_2 : Int):=da
            have q12 : x3_2 < (a0.size : Int):=da
            have hx12:=bt_at a0 x3_2
            replace p12:=eq_true p12
            replace q12:=eq_true q12
            have p18 : 0 ≤ (x3_2 : Int):=da
            have q18 : x3_2 < (a0.size : Int):=da
            have hx18:=bt_at a0 x3_2
            replace p18:=eq_true p18
            replace q18:=eq_true q18
            have p20 : 0 ≤ (x3_2 : Int):=da
            have q20 : x3_2 < (a0.size : Int):=da
            have hx20:=bt_at a0 x3_2
            replace p20:=eq_true p20
            replace q20:=eq_true q20
            have p22 : 0 ≤ (x3_2 : Int):=da
            have q22 : x3_2 < (a0.size : Int):=da
            have hx22:=bt_at a0 x3_2
            replace p22:=eq_true p22
            replace q22:=eq_true q22
            go_wp2
            go_ret
            exact ⟨by first | rfl | (simp;done) | (simp [*];done),by repeat (first | exact Drawn0.refl _ | apply Drawn0.step)⟩
           ·rw [if_neg c23] at H
            have c23b0 : decide (57 < (bt a0 x3_2)) = false:=decide_eq_false c23
            clear c23
            have H':=Aside0.mk H
            clear H
            have p12 : 0 ≤ (x3_2 : Int):=da
            have q12 : x3_2 < (a0.size : Int):=da
            have hx12:=bt_at a0 x3_2
            replace p12:=eq_true p12
            replace q12:=eq_true q12
            have p18 : 0 ≤ (x3_2 : Int):=da
            have q18 : x3_2 < (a0.size : Int):=da
            have hx18:=bt_at a0 x3_2
            replace p18:=eq_true p18
            replace q18:=eq_true q18
            have p20 : 0 ≤ (x3_2 : Int):=da
            have q20 : x3_2 < (a0.size : Int):=da
            have hx20:=bt_at a0 x3_2
            replace p20:=eq_true p20
            replace q20:=eq_true q20
            have p22 : 0 ≤ (x3_2 : Int):=da
            have q22 : x3_2 < (a0.size : Int):=da
            have hx22:=bt_at a0 x3_2
            replace p22:=eq_true p22
            replace q22:=eq_true q22
            go_wp2
            go_roundg k2
            case measure => have:=HJ1.out;have:=HK2.out;omega
            case rel => exact ⟨(wrap64 (x3_2 + 1)),(by first | rfl | (simp;done) | (simp [*];done)),H',⟨by have:=HJ1.out;have:=HK2.out;omega⟩,by repeat (first | exact Drawn0.refl _ | apply Drawn0.step)⟩
         ·rw [if_neg c19] at H
          have c19b0 : decide (122 < (bt a0 x3_2)) = false:=decide_eq_false c19
          clear c19
          have H':=Aside0.mk H
          clear H
          have p12 : 0 ≤ (x3_2 : Int):=da
          have q12 : x3_2 < (a0.size : Int):=da
          have hx12:=bt_at a0 x3_2
          replace p12:=eq_true p12
          replace q12:=eq_true q12
          have p18 : 0 ≤ (x3_2 : Int):=da
          have q18 : x3_2 < (a0.size : Int):=da
          have hx18:=bt_at a0 x3_2
          replace p18:=eq_true p18
          replace q18:=eq_true q18
          go_wp2
          go_roundg k2
          case measure => have:=HJ1.out;have:=HK2.out;omega
          case rel => exact ⟨(wrap64 (x3_2 + 1)),(by first | rfl | (simp;done) | (simp [*];done)),H',⟨by have:=HJ1.out;have:=HK2.out;omega⟩,by repeat (first | exact Drawn0.refl _ | apply Drawn0.step)⟩
       ·rw [if_neg c11] at H
        exact absurd H (by simp)
      ·rw [if_neg c10] at H
       have c10b0 : decide (x3_2 < (a0.size : Int)) = false:=decide_eq_false c10
       clear c10
       obtain rfl:=Option.some.inj H
       go_wp2
       go_ret
       exact ⟨by first | rfl | (simp;done) | (simp [*];done),by repeat (first | exact Drawn0.refl _ | apply Drawn0.step)⟩
def impl_ringPolygon.l0 : Nat → List (S78) → List (S78) → List Int → Int → Int → Option ((List (S78)) × Bool)
 | 0,_,_,_,_,_ => none
 | k + 1,x0,x6,x10,x11,x12 => if x12 < x11 then (if 0 ≤ x12 then (if x12 < (x10.length : Int) then ((impl_within.f (rd x10 x12) 0 (wrap64 ((x0.length : Int) - 1))).bind fun t272 => (if t272 = true then (if 0 ≤ (rd x10 x12) then (if (rd x10 x12) < (x0.length : Int) then (if x6.length < 8796093022208 then (impl_ringPolygon.l0 k x0 (x6 ++ [(⟨(rd_T78 x0 (rd x10 x12)).f0,(rd_T78 x0 (rd x10 x12)).f1⟩ : S78)]) x10 x11 (wrap64 (x12 + 1))) else (none)) else (none)) else (none)) else (some (([] : List (S78)),false)))) else (none)) else (none)) else (some (x6,true))
def impl_ringPolygon.f (k : Nat) (l0 : List (S78)) (l1 : List Int) : Option ((List (S78)) × Bool):=impl_ringPolygon.l0 k l0 (([] : List (S78))) l1 (l1.length : Int) 0
theorem impl_ringPolygon.calls (k : Nat) (A0 : Option Addr) (c0 : Nat) (l0 : List (S78)) (A1 : Option Addr) (c1 : Nat) (l1 : List Int) (r1 : List (S78)) (r2 : Bool) (w : World) (hr0 : Kd.C k78 w A0 l0.length l0) (hc0 : l0.length ≤ c0) (hr1 : Kd.C (Kd.int .i64) w A1 l1.length l1) (hc1 : l1.length ≤ c1) (h : impl_ringPolygon.f k l0 l1 = some (r1,r2)) :
  Calls Try.prog 55 #[.slice A0 l0.length c0,.slice A1 l1.length c1] w fun e w' => ∃ v0_ : Value,e = .returned (.tuple #[v0_,.bool r2]) ∧ Kd.R k78 78 w' w.heap.size (fun _ => True) v0_ r1 ∧ Below w.heap.size w w':=by
 have hu78:=Try.underlying78
 have HR0:=Aside0.mk hr0
 have HC0:=Aside0.mk hc0
 clear hr0 hc0
 have HR1:=Aside0.mk hr1
 have HC1:=Aside0.mk hc1
 clear hr1 hc1
 have HB:=Aside0.mk (Below.refl w.heap.size w)
 have H : (impl_ringPolygon.l0 k l0 (([] : List (S78))) l1 (l1.length : Int) 0) = some (r1,r2):=h
 clear h
 obtain ⟨y268,hy268⟩ : ∃ y_ : List (S78),y_ = (([] : List (S78))):=⟨_,rfl⟩
 replace H : (impl_ringPolygon.l0 k l0 y268 l1 (l1.length : Int) 0) = some (r1,r2):=by first | (rw [hy268];with_reducible exact H) | (have H2_:=(Option.bind_some _ _).symm.trans H;rw [hy268];with_reducible exact H2_) | (have H2_:=(Option.bind_some _ _).symm.trans H;with_reducible exact H2_) | with_reducible exact H | (rw [hy268];exact H) | exact H
 have Ny268:=Aside0.mk hy268
 clear hy268
 have H':=Aside0.mk H
 clear H
 go_enter Try.func55,Try.ntmps55
 go_wp2_with (first | ((with_reducible refine gate_dst (N:=9) rfl ?_);refine Kd.R_lit k78 _ 78 ?hg (N:=9) ?hd (xs:=([] : List (S78))) (inner:=[]) (ok:=fun _ => True) (okp:=fun _ => True) ?hr ?hp (fun _ hk => hk) trivial (Below.refl _ _) (Nat.le_refl _) (by simp) ?_;(case hd => rfl);(case hg => rfl);(case hr => first | (go_simp;done) | (go_simp;rfl));(case hp => exact (Reps.none _ _));intro v269 w3 ho4 hb hg_ hnew_;clear hg_ hnew_;(first | rw [← Ny268.out] at ho4 | (simp only [Int.reduceToNat] at ho4;rw [← Ny268.out] at ho4));have HO270:=Aside0.mk (Kd.R_lower ho4 (below_size ib));replace HB:=sb hb;clear hb ho4))
 go_loopg [6,12] k (fun kq v6 v12 w' => ∃ (x6_1 : List (S78)) (x12_1 : Int),v12 = .int .i64 x12_1 ∧ Aside0 (impl_ringPolygon.l0 kq l0 x6_1 l1 (l1.length : Int) x12_1 = some (r1,r2)) ∧ Aside0 (kq ≤ k) ∧ Aside0 (Kd.R k78 78 w' w.heap.size (fun _ => True) v6 x6_1) ∧ Aside0 (Below w.heap.size w w'))
 case atStart => exact ⟨(y268),(0),(by first | rfl | (simp;done) | (simp [*];done)),H',⟨Nat.le_refl _⟩,⟨rO HO270.out⟩,⟨ib⟩⟩
 case round =>
  clear H'
  try clear c1
  try clear p2
  obtain ⟨x6_1,x12_1,rfl,HA,HK1,HO_6,HB⟩:=hrel
  cases gk with
  | zero => exact absurd HA.out (by simp [impl_ringPolygon.l0])
  | succ k1 =>
   have H:=HA.out
   clear HA
   simp only [impl_ringPolygon.l0] at H
   by_cases c5 : x12_1 < (l1.length : Int)
   ·rw [if_pos c5] at H
    have c5b0 : decide (x12_1 < (l1.length : Int)) = true:=decide_eq_true c5
    clear c5
    by_cases c6 : 0 ≤ x12_1
    ·rw [if_pos c6] at H
     have c6b0 : decide (0 ≤ x12_1) = true:=decide_eq_true c6
     clear c6
     by_cases c7 : x12_1 < (l1.length : Int)
     ·rw [if_pos c7] at H
      have c7b0 : decide (x12_1 < (l1.length : Int)) = true:=decide_eq_true c7
      clear c7
      replace H:=bE.mp H
      obtain ⟨t272,A80,H⟩:=H
      replace H : (if t272 = true then (if 0 ≤ (rd l1 x12_1) then (if (rd l1 x12_1) < (l0.length : Int) then (if x6_1.length < 8796093022208 then (impl_ringPolygon.l0 k1 l0 (x6_1 ++ [(⟨(rd_T78 l0 (rd l1 x12_1)).f0,(rd_T78 l0 (rd l1 x12_1)).f1⟩ : S78)]) l1 (l1.length : Int) (wrap64 (x12_1 + 1))) else (none)) else (none)) else (none)) else (some (([] : List (S78)),false))) = some (r1,r2):=H
      have A8:=Aside0.mk A80
      clear A80
      by_cases c9 : t272 = true
      ·subst c9
       have H1 : (if 0 ≤ (rd l1 x12_1) then (if (rd l1 x12_1) < (l0.length : Int) then (if x6_1.length < 8796093022208 then (impl_ringPolygon.l0 k1 l0 (x6_1 ++ [(⟨(rd_T78 l0 (rd l1 x12_1)).f0,(rd_T78 l0 (rd l1 x12_1)).f1⟩ : S78)]) l1 (l1.length : Int) (wrap64 (x12_1 + 1))) else (none)) else (none)) else (none)) = some (r1,r2):=by rw [if_pos rfl] at H;exact H
       clear H
       have H:=H1
       clear H1
       by_cases c10 : 0 ≤ (rd l1 x12_1)
       ·rw [if_pos c10] at H
        have c10b0 : decide (0 ≤ (rd l1 x12_1)) = true:=decide_eq_true c10
        clear c10
        by_cases c11 : (rd l1 x12_1) < (l0.length : Int)
        ·rw [if_pos c11] at H
         have c11b0 : decide ((rd l1 x12_1) < (l0.length : Int)) = true:=decide_eq_true c11
         clear c11
         by_cases c12 : x6_1.length < 8796093022208
         ·rw [if_pos c12] at H
          have LMc12:=Aside0.mk c12
          clear c12
          obtain ⟨y274,hy274⟩ : ∃ y_ : List (S78),y_ = (x6_1 ++ [(⟨(rd_T78 l0 (rd l1 x12_1)).f0,(rd_T78 l0 (rd l1 x12_1)).f1⟩ : S78)]):=⟨_,rfl⟩
          replace H : (impl_ringPolygon.l0 k1 l0 y274 l1 (l1.length : Int) (wrap64 (x12_1 + 1))) = some (r1,r2):=by first | (rw [hy274];with_reducible exact H) | (have H2_:=(Option.bind_some _ _).symm.trans H;rw [hy274];with_reducible exact H2_) | (have H2_:=(Option.bind_some _ _).symm.trans H;with_reducible exact H2_) | with_reducible exact H | (rw [hy274];exact H) | exact H
          have Ny274:=Aside0.mk hy274
          clear hy274
          have H':=Aside0.mk H
          clear H
          have p271 : 0 ≤ (x12_1 : Int):=da
          have q271 : x12_1 < (l1.length : Int):=da
          obtain ⟨ad271,e271,hx271_0⟩:=Kd.at_int HR1.out x12_1 p271 q271
          cases e271
          replace hx271_0:=cq HB.out hx271_0
          replace p271:=eq_true p271
          replace q271:=eq_true q271
          go_wp2_with (first | ((with_reducible refine gate_callee (f:=46) rfl ?_);refine goesL_ (some 20) rfl rfl Try.func46 (by kernel_rfl) rfl #[.int .i64 (rd l1 x12_1),.int .i64 0,.int .i64 (wrap64 ((l0.length : Int) - 1))] rfl (by (try simp only [mT,mC,mN]);first | done | rfl | (simp only [lD,lT];rfl)) ?_;(with_reducible refine (impl_within.calls (rd l1 x12_1) 0 (wrap64 ((l0.length : Int) - 1)) true _ A8.out).mono ?_);rintro e w' ⟨rfl,⟨nd,rfl⟩⟩;refine ⟨_,rfl,?_⟩;have p273 : 0 ≤ ((rd l1 x12_1) : Int):=da;have q273 : (rd l1 x12_1) < (l0.length : Int):=da;obtain ⟨ad273,e273,hx273_0,hx273_1⟩:=at_T78 HR0.out (rd l1 x12_1) p273 q273;cases e273;replace hx273_0:=cq HB.out hx273_0;replace hx273_1:=cq HB.out hx273_1;replace p273:=eq_true p273;replace q273:=eq_true q273) | ((with_reducible refine gate_builtin (b:=.append) (xs:=#[.tmp 22,.tmp 27]) rfl ?_);at_builtin;refine Kd.R_append k78 (w0:=w) w.heap.size rfl (.tmp 22) (.tmp 27) 30 78 (.agg #[(.int .i64 0),(.int .i64 0)]) 16 rfl Try.underlying30 info78 rfl (by decide) (by omega) u6 x6_1 (⟨(rd_T78 l0 (rd l1 x12_1)).f0,(rd_T78 l0 (rd l1 x12_1)).f1⟩ : S78) [.int .i64 ((rd_T78 l0 (rd l1 x12_1)).f0),.int .i64 ((rd_T78 l0 (rd l1 x12_1)).f1)] (fun _ => True) (fun _ => False) rfl rfl ?aP (fun _ hk => hk.elim) ?aF ?aO ?aB ?aS ?aL ?_;(case aP => exact k78_mkM _ _ _ (⟨(rd_T78 l0 (rd l1 x12_1)).f0,(rd_T78 l0 (rd l1 x12_1)).f1⟩ : S78));(case aB => exact ib);(case aF => exact (fun _ _ => trivial));(case aO => exact (rO HO_6.out));(case aS => exact (below_size ib));(case aL => have:=LMc12.out;omega);intro v275 w13 ho hb hg hat;rw [← Ny274.out] at ho;replace HB:=Aside0.mk (hb);have HO276:=Aside0.mk (ho);clear HO_6;clear ho hb hg hat))
          go_roundg k1
          case measure => have:=HK1.out;omega
          case rel => exact ⟨(y274),(wrap64 (x12_1 + 1)),(by first | rfl | (simp;done) | (simp [*];done)),H',⟨by have:=HK1.out;omega⟩,⟨rO HO276.out⟩,⟨ib⟩⟩
         ·rw [if_neg c12] at H
          exact absurd H (by simp)
        ·rw [if_neg c11] at H
         exact absurd H (by simp)
       ·rw [if_neg c10] at H
        exact absurd H (by simp)
      ·replace c9:=Bool.eq_false_iff.mpr c9
       subst c9
       have H1 : (some (([] : List (S78)),false)) = some (r1,r2):=by rw [if_neg (show ¬ (false = true) by decide)] at H;exact H
       clear H
       have H:=H1
       clear H1
       simp only [Option.some.injEq,Prod.mk.injEq] at H
       obtain ⟨rfl,rfl⟩:=H
       have p271 : 0 ≤ (x12_1 : Int):=da
       have q271 : x12_1 < (l1.length : Int):=da
       obtain ⟨ad271,e271,hx271_0⟩:=Kd.at_int HR1.out x12_1 p271 q271
       cases e271
       replace hx271_0:=cq HB.out hx271_0
       replace p271:=eq_true p271
       replace q271:=eq_true q271
       go_wp2_with (first | ((with_reducible refine gate_callee (f:=46) rfl ?_);refine goesL_ (some 20) rfl rfl Try.func46 (by kernel_rfl) rfl #[.int .i64 (rd l1 x12_1),.int .i64 0,.int .i64 (wrap64 ((l0.length : Int) - 1))] rfl (by (try simp only [mT,mC,mN]);first | done | rfl | (simp only [lD,lT];rfl)) ?_;(with_reducible refine (impl_within.calls (rd l1 x12_1) 0 (wrap64 ((l0.length : Int) - 1)) false _ A8.out).mono ?_);rintro e w' ⟨rfl,⟨nd,rfl⟩⟩;refine ⟨_,rfl,?_⟩))
       go_ret2
       exact ⟨_,by first | rfl | (simp [errW_none,errW_some] <;> rfl) | (simp [*,errW_none,errW_some] <;> rfl),by first | exact Kd.R_nil _ _ _ _ _ | exact Kd.N_nil _ _ _ _ _ | exact Kd.V_nil _ _ _ _ _ | exact Kd.Q_nil _ _ _ _ _ | exact Kd.S_nil _ _ _ _ _,ib⟩
     ·first | (exfalso;have z_:=of_decide_eq_true c5b0;omega) | (rw [if_neg c7] at H;exact absurd H (by simp))
    ·rw [if_neg c6] at H
     exact absurd H (by simp)
   ·rw [if_neg c5] at H
    have c5b0 : decide (x12_1 < (l1.length : Int)) = false:=decide_eq_false c5
    clear c5
    simp only [Option.some.injEq,Prod.mk.injEq] at H
    obtain ⟨rfl,rfl⟩:=H
    go_wp2
    go_ret2
    exact ⟨_,by first | rfl | (simp [errW_none,errW_some] <;> rfl) | (simp [*,errW_none,errW_some] <;> rfl),rO HO_6.out,ib⟩
def impl_ValidPoint.f (a0_0 : Int) (a0_1 : Int) : Option (Bool):=(impl_within.f a0_0 0 20000).bind fun t278 => (if t278 = true then ((impl_within.f a0_1 0 20000).bind fun t279 => (some t279)) else (some false))
theorem impl_ValidPoint.calls (a0_0 : Int) (a0_1 : Int) (r : Bool) (w : World) (h : impl_ValidPoint.f a0_0 a0_1 = some r) :
  Calls Try.prog 90 #[.agg #[.int .i64 a0_0,.int .i64 a0_1]] w fun e w' => e = .returned (.bool r) ∧ Below w.heap.size w w':=by
 have hu78:=Try.underlying78
 have HB:=Aside0.mk (Below.refl w.heap.size w)
 have H : ((impl_within.f a0_0 0 20000).bind fun t278 => (if t278 = true then ((impl_within.f a0_1 0 20000).bind fun t279 => (some t279)) else (some false))) = some r:=h
 clear h
 replace H:=bE.mp H
 obtain ⟨t278,A20,H⟩:=H
 replace H : (if t278 = true then ((impl_within.f a0_1 0 20000).bind fun t279 => (some t279)) else (some false)) = some r:=H
 have A2:=Aside0.mk A20
 clear A20
 by_cases c3 : t278 = true
 ·subst c3
  have H1 : ((impl_within.f a0_1 0 20000).bind fun t279 => (some t279)) = some r:=by rw [if_pos rfl] at H;exact H
  clear H
  have H:=H1
  clear H1
  replace H:=bE.mp H
  obtain ⟨t279,A40,H⟩:=H
  replace H : (some t279) = some r:=H
  have A4:=Aside0.mk A40
  clear A40
  obtain rfl:=Option.some.inj H
  go_enter Try.func90,Try.ntmps90
  go_wp2_with (first | ((with_reducible refine gate_dst (N:=1) rfl ?_);refine bx (cs:=#[.int .i64 a0_0,.int .i64 a0_1]) (t:=78) ?_;intro gb277 hg w5 hbox hb;have BK277:=Aside0.mk (hbox);have GW277:=zb hg;have GE277:=zb hg;replace HB:=sb hb;clear hb hbox hg;have hcz6_0:=ck BK277 0;have hcz6_1:=ck BK277 1;have hfz6_0:=blk_frozen BK277.out 0;have hfz6_1:=blk_frozen BK277.out 1) | ((with_reducible refine gate_callee (f:=46) rfl ?_);refine goesL_ (some 5) rfl rfl Try.func46 (by kernel_rfl) rfl #[.int .i64 a0_0,.int .i64 0,.int .i64 20000] rfl (by (try simp only [mT,mC,mN]);first | done | rfl | (simp only [lD,lT];rfl)) ?_;(with_reducible refine (impl_within.calls a0_0 0 20000 true _ A2.out).mono ?_);rintro e w' ⟨rfl,⟨nd,rfl⟩⟩;refine ⟨_,rfl,?_⟩) | (go_at_call 46;(with_reducible refine (impl_within.calls a0_1 0 20000 t279 _ A4.out).mono ?_);rintro e w' ⟨rfl,⟨nd,rfl⟩⟩))
  go_ret
  exact ⟨by first | rfl | (simp [errW_none,errW_some] <;> rfl) | (simp [*,errW_none,errW_some] <;> rfl),ib⟩
 ·replace c3:=Bool.eq_false_iff.mpr c3
  subst c3
  have H1 : (some false) = some r:=by rw [if_neg (show ¬ (false = true) by decide)] at H;exact H
  clear H
  have H:=H1
  clear H1
  obtain rfl:=Option.some.inj H
  go_enter Try.func90,Try.ntmps90
  go_wp2_with (first | ((with_reducible refine gate_dst (N:=1) rfl ?_);refine bx (cs:=#[.int .i64 a0_0,.int .i64 a0_1]) (t:=78) ?_;intro gb277 hg w7 hbox hb;have BK277:=Aside0.mk (hbox);have GW277:=zb hg;have GE277:=zb hg;replace HB:=sb hb;clear hb hbox hg;have hcz8_0:=ck BK277 0;have hcz8_1:=ck BK277 1;have hfz8_0:=blk_frozen BK277.out 0;have hfz8_1:=blk_frozen BK277.out 1) | ((with_reducible refine gate_callee (f:=46) rfl ?_);refine goesL_ (some 5) rfl rfl Try.func46 (by kernel_rfl) rfl #[.int .i64 a0_0,.int .i64 0,.int .i64 20000] rfl (by (try simp only [mT,mC,mN]);first | done | rfl | (simp only [lD,lT];rfl)) ?_;(with_reducible refine (impl_within.calls a0_0 0 20000 false _ A2.out).mono ?_);rintro e w' ⟨rfl,⟨nd,rfl⟩⟩;refine ⟨_,rfl,?_⟩))
  go_ret
  exact ⟨by first | rfl | (simp [errW_none,errW_some] <;> rfl) | (simp [*,errW_none,errW_some] <;> rfl),ib⟩
end Go.Proofs.Ytpeebobdbaemiaa.PFnExactNeighboursOf
