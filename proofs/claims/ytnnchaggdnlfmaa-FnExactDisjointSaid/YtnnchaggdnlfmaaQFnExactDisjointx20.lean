/- Contracts of functions that FnExactDisjoint reaches, out of the lines of the kit's print. -/
import Derived.Test.YtnnchaggdnlfmaaQFnExactDisjointx0
import Derived.Test.YtnnchaggdnlfmaaQFnExactDisjointx17
import Derived.Test.YtnnchaggdnlfmaaQFnExactDisjointx18
import Derived.Test.YtnnchaggdnlfmaaQFnExactDisjointx19
namespace Go.Proofs.Ytnnchaggdnlfmaa.PFnExactDisjoint
open Go.RowKit Go.Proofs.YtnnchaggdnlfmaaW.PrintWords Go.Proofs.YtnnchaggdnlfmaaW.PrintLast Go.Proofs.YtnnchaggdnlfmaaW.PrintMore
open Bool renaming true → tT, false → fF
open Go.World renaming block_lt_of_cell? → bL
open List renaming length_take → lT, length_drop → lD, map_toArray → mT, map_cons → mC, map_nil → mN
open Option renaming bind_eq_some_iff → bE
attribute [local go_sem] max2_int min2_int max_two min_two max_three min_three max_four min_four
set_option linter.unusedVariables false
set_option linter.unusedSimpArgs false
mutual
def impl_apart.j0 : Nat → List (S73) → List (S73) → Bool → Option (Bool)
 | 0,_,_,_ => none
 | k + 1,x0,x1,x49 => if x49 = true then (some true) else ((impl_triangles.f k x1).bind fun t402 => ((impl_triangles.f k x0).bind fun t405 => (impl_apart.l0 k t402 t405 (t405.length : Int) 0)))
def impl_apart.l0 : Nat → List (List (S73)) → List (List (S73)) → Int → Int → Option (Bool)
 | 0,_,_,_,_ => none
 | k + 1,x9,x53,x54,x55 => if x55 < x54 then (if 0 ≤ x55 then (if x55 < (x53.length : Int) then (impl_apart.l1 k x9 (rd_L3 x53 x55) x53 x54 x55 x9 (x9.length : Int) 0) else (none)) else (none)) else (some true)
def impl_apart.l1 : Nat → List (List (S73)) → List (S73) → List (List (S73)) → Int → Int → List (List (S73)) → Int → Int → Option (Bool)
 | 0,_,_,_,_,_,_,_,_ => none
 | k + 1,x9,x11,x53,x54,x55,x59,x60,x61 => if x61 < x60 then (if 0 ≤ x61 then (if x61 < (x59.length : Int) then ((impl_beside.f k x11 (rd_L3 x59 x61)).bind fun t410 => (if t410 = true then (impl_apart.l1 k x9 x11 x53 x54 x55 x59 x60 (wrap64 (x61 + 1))) else ((impl_beside.f k (rd_L3 x59 x61) x11).bind fun t411 => (if t411 = true then (impl_apart.l1 k x9 x11 x53 x54 x55 x59 x60 (wrap64 (x61 + 1))) else (some false))))) else (none)) else (none)) else (impl_apart.l0 k x9 x53 x54 (wrap64 (x55 + 1)))
end
def impl_apart.f (k : Nat) (l0 : List (S73)) (l1 : List (S73)) : Option (Bool):=(impl_bounds.f k l0).bind fun bt390 => ((impl_bounds.f k l1).bind fun bt396 => (if bt390.2.2.1 ≤ bt396.1 then (impl_apart.j0 k l0 l1 true) else (if bt396.2.2.1 ≤ bt390.1 then (impl_apart.j0 k l0 l1 true) else (if bt390.2.2.2 ≤ bt396.2.1 then (impl_apart.j0 k l0 l1 true) else (impl_apart.j0 k l0 l1 (decide (bt396.2.2.2 ≤ bt390.2.1)))))))
set_option maxHeartbeats 8000000 in
set_option maxRecDepth 100000 in
theorem impl_apart.calls (k : Nat) (A0 : Option Addr) (c0 : Nat) (l0 : List (S73)) (A1 : Option Addr) (c1 : Nat) (l1 : List (S73)) (r : Bool) (w : World) (hr0 : Kd.C k73 w A0 l0.length l0) (hc0 : l0.length ≤ c0) (hr1 : Kd.C k73 w A1 l1.length l1) (hc1 : l1.length ≤ c1) (h : impl_apart.f k l0 l1 = some r) :
  Calls Try.prog 68 #[.slice A0 l0.length c0,.slice A1 l1.length c1] w fun e w' => e = .returned (.bool r) ∧ Below w.heap.size w w':=by
 have hu73:=Try.underlying73
 have HR0:=Aside0.mk hr0
 have HC0:=Aside0.mk hc0
 clear hr0 hc0
 have HR1:=Aside0.mk hr1
 have HC1:=Aside0.mk hc1
 clear hr1 hc1
 have HB:=Aside0.mk (Below.refl w.heap.size w)
 have H : ((impl_bounds.f k l0).bind fun bt390 => ((impl_bounds.f k l1).bind fun bt396 => (if bt390.2.2.1 ≤ bt396.1 then (impl_apart.j0 k l0 l1 true) else (if bt396.2.2.1 ≤ bt390.1 then (impl_apart.j0 k l0 l1 true) else (if bt390.2.2.2 ≤ bt396.2.1 then (impl_apart.j0 k l0 l1 true) else (impl_apart.j0 k l0 l1 (decide (bt396.2.2.2 ≤ bt390.2.1)))))))) = some r:=h
 clear h
 replace H:=bE.mp H
 obtain ⟨⟨t390,t391,t392,t393⟩,A30,H⟩:=H
 replace H : ((impl_bounds.f k l1).bind fun bt396 => (if t392 ≤ bt396.1 then (impl_apart.j0 k l0 l1 true) else (if bt396.2.2.1 ≤ t390 then (impl_apart.j0 k l0 l1 true) else (if t393 ≤ bt396.2.1 then (impl_apart.j0 k l0 l1 true) else (impl_apart.j0 k l0 l1 (decide (bt396.2.2.2 ≤ t391))))))) = some r:=H
 have A3:=Aside0.mk A30
 clear A30
 replace H:=bE.mp H
 obtain ⟨⟨t396,t397,t398,t399⟩,A40,H⟩:=H
 replace H : (if t392 ≤ t396 then (impl_apart.j0 k l0 l1 true) else (if t398 ≤ t390 then (impl_apart.j0 k l0 l1 true) else (if t393 ≤ t397 then (impl_apart.j0 k l0 l1 true) else (impl_apart.j0 k l0 l1 (decide (t399 ≤ t391)))))) = some r:=H
 have A4:=Aside0.mk A40
 clear A40
 have HC5:=Aside0.mk H
 clear H
 go_enter Try.func68,Try.ntmps68
 go_upto_region 3 with (first | ((with_reducible refine gate_callee (f:=114) rfl ?_);refine goesL_ (some 16) rfl rfl Try.func114 (by kernel_rfl) rfl #[.slice A0 l0.length c0] rfl (by (try simp only [mT,mC,mN]);first | done | rfl | (simp only [lD,lT];rfl)) ?_;(with_reducible refine (impl_bounds.calls k _ _ l0 t390 t391 t392 t393 _ ?side1 ?side2 A3.out).mono ?_);(case side1 => exact cO HR0.out);(case side2 => exact HC0.out);rintro e w6 ⟨rfl,hb⟩;refine ⟨_,rfl,?_⟩;replace HB:=sb hb;(try clear hb);(try clear hb2);(try clear hk);(try clear hi)) | ((with_reducible refine gate_dst (N:=5) rfl ?_);refine bx (cs:=#[.int .i64 0,.int .i64 0]) (t:=73) ?_;intro gb394 hg w7 hbox hb;have BK394:=Aside0.mk (hbox);have GW394:=zb hg;have GE394:=zb hg;replace HB:=sb hb;clear hb hbox hg) | ((with_reducible refine gate_dst (N:=6) rfl ?_);refine bx (cs:=#[.int .i64 0,.int .i64 0]) (t:=73) ?_;intro gb395 hg w8 hbox hb;have BK395:=Aside0.mk (hbox);have GW395:=zb hg;have GE395:=zb hg;replace HB:=sb hb;have NB394_395:=nl BK394 hg;have NB395_394:=ng BK394 hg;replace BK394:=kb BK394 hb;clear hb hbox hg;have hnb9:=NB394_395.out;have hnc9:=NB395_394.out;have hcz10_0:=ck BK394 0;have hcz10_1:=ck BK394 1;have hfz10_0:=blk_frozen BK394.out 0;have hfz10_1:=blk_frozen BK394.out 1;have hcz11_0:=ck BK395 0;have hcz11_1:=ck BK395 1;have hfz11_0:=blk_frozen BK395.out 0;have hfz11_1:=blk_frozen BK395.out 1) | ((with_reducible refine gate_callee (f:=114) rfl ?_);refine goesL_ (some 21) rfl rfl Try.func114 (by kernel_rfl) rfl #[.slice A1 l1.length c1] rfl (by (try simp only [mT,mC,mN]);first | done | rfl | (simp only [lD,lT];rfl)) ?_;(with_reducible refine (impl_bounds.calls k _ _ l1 t396 t397 t398 t399 _ ?side1 ?side2 A4.out).mono ?_);(case side1 => exact Kd.C_below HR1.out ib);(case side2 => exact HC1.out);rintro e w12 ⟨rfl,hb⟩;refine ⟨_,rfl,?_⟩;replace BK394:=Aside0.mk (blk_below (g:=gb394) (o:=.cells #[.int .i64 t390,.int .i64 t391] 73 (0,0)) (by refine bF NB394_395.out ?_;refine bF NB394_395.out ?_;refine bP (cs:=#[.int .i64 t390,.int .i64 0]) 1 ?_;refine bP (cs:=#[.int .i64 0,.int .i64 0]) 0 ?_;exact bk BK394) hb);replace BK395:=Aside0.mk (blk_below (g:=gb395) (o:=.cells #[.int .i64 t392,.int .i64 t393] 73 (0,0)) (by refine bP (cs:=#[.int .i64 t392,.int .i64 0]) 1 ?_;refine bP (cs:=#[.int .i64 0,.int .i64 0]) 0 ?_;refine bF NB395_394.out ?_;refine bF NB395_394.out ?_;exact bk BK395) hb);replace HB:=sb hb;(try clear hb);(try clear hb2);(try clear hk);(try clear hi)) | ((with_reducible refine gate_dst (N:=7) rfl ?_);refine bx (cs:=#[.int .i64 0,.int .i64 0]) (t:=73) ?_;intro gb400 hg w13 hbox hb;have BK400:=Aside0.mk (hbox);have GW400:=zb hg;have GE400:=zb hg;replace HB:=sb hb;have NB394_400:=nl BK394 hg;have NB400_394:=ng BK394 hg;replace BK394:=kb BK394 hb;have NB395_400:=nl BK395 hg;have NB400_395:=ng BK395 hg;replace BK395:=kb BK395 hb;clear hb hbox hg) | ((with_reducible refine gate_dst (N:=8) rfl ?_);refine bx (cs:=#[.int .i64 0,.int .i64 0]) (t:=73) ?_;intro gb401 hg w14 hbox hb;have BK401:=Aside0.mk (hbox);have GW401:=zb hg;have GE401:=zb hg;replace HB:=sb hb;have NB394_401:=nl BK394 hg;have NB401_394:=ng BK394 hg;replace BK394:=kb BK394 hb;have NB395_401:=nl BK395 hg;have NB401_395:=ng BK395 hg;replace BK395:=kb BK395 hb;have NB400_401:=nl BK400 hg;have NB401_400:=ng BK400 hg;replace BK400:=kb BK400 hb;clear hb hbox hg;have hnb15:=NB400_394.out;have hnc15:=NB394_400.out;have hnb16:=NB400_395.out;have hnc16:=NB395_400.out;have hnb17:=NB400_401.out;have hnc17:=NB401_400.out;have hcz18_0:=ck BK400 0;have hcz18_1:=ck BK400 1;have hfz18_0:=blk_frozen BK400.out 0;have hfz18_1:=blk_frozen BK400.out 1;have hnb19:=NB401_394.out;have hnc19:=NB394_401.out;have hnb20:=NB401_395.out;have hnc20:=NB395_401.out;have hcz21_0:=ck BK401 0;have hcz21_1:=ck BK401 1;have hfz21_0:=blk_frozen BK401.out 0;have hfz21_1:=blk_frozen BK401.out 1))
 (try simp only [Act.put,List.setIfInBounds_toArray,List.set_cons_zero,List.set_cons_succ])
 go_cut [49] (fun v49 wc => ∃ (kq : Nat) (x49_4 : Bool),v49 = .bool x49_4 ∧ Aside0 (impl_apart.j0 kq l0 l1 x49_4 = some r) ∧ Aside0 (kq ≤ k) ∧ Aside0 (wc.heap[gb394]? = some (.cells #[.int .i64 t390,.int .i64 t391] 73 (0,0))) ∧ Aside0 (wc.heap[gb395]? = some (.cells #[.int .i64 t392,.int .i64 t393] 73 (0,0))) ∧ Aside0 (wc.heap[gb400]? = some (.cells #[.int .i64 t396,.int .i64 t397] 73 (0,0))) ∧ Aside0 (wc.heap[gb401]? = some (.cells #[.int .i64 t398,.int .i64 t399] 73 (0,0))) ∧ Aside0 (Below w.heap.size w wc))
 case first =>
  have H:=HC5.out
  clear HC5
  by_cases c22 : t392 ≤ t396
  ·rw [if_pos c22] at H
   have c22b0 : decide (t392 ≤ t396) = true:=decide_eq_true c22
   clear c22
   (first | rw [c22b0] | (simp only [i64_w,i32_w];rw [c22b0]) | skip)
   have H':=Aside0.mk H
   clear H
   have hnb23:=NB395_394.out
   have hnc23:=NB394_395.out
   have hnb24:=NB395_400.out
   have hnc24:=NB400_395.out
   have hnb25:=NB395_401.out
   have hnc25:=NB401_395.out
   have hcz26_0:=ck BK395 0
   have hcz26_1:=ck BK395 1
   have hfz26_0:=blk_frozen BK395.out 0
   have hfz26_1:=blk_frozen BK395.out 1
   have hnb27:=NB400_394.out
   have hnc27:=NB394_400.out
   have hnb28:=NB400_401.out
   have hnc28:=NB401_400.out
   have hcz29_0:=ck BK400 0
   have hcz29_1:=ck BK400 1
   have hfz29_0:=blk_frozen BK400.out 0
   have hfz29_1:=blk_frozen BK400.out 1
   go_wp2
   go_meet
   case rel => exact ⟨_,(true),(by first | rfl | (simp;done) | (simp [*];done)),H',⟨by first | omega | exact Nat.le_refl _⟩,⟨by refine bF NB394_401.out ?_;refine bF NB394_401.out ?_;refine bF NB394_400.out ?_;refine bF NB394_400.out ?_;exact bk BK394⟩,⟨by refine bF NB395_401.out ?_;refine bF NB395_401.out ?_;refine bF NB395_400.out ?_;refine bF NB395_400.out ?_;exact bk BK395⟩,⟨by refine bF NB400_401.out ?_;refine bF NB400_401.out ?_;refine bP (cs:=#[.int .i64 t396,.int .i64 0]) 1 ?_;refine bP (cs:=#[.int .i64 0,.int .i64 0]) 0 ?_;exact bk BK400⟩,⟨by refine bP (cs:=#[.int .i64 t398,.int .i64 0]) 1 ?_;refine bP (cs:=#[.int .i64 0,.int .i64 0]) 0 ?_;refine bF NB401_400.out ?_;refine bF NB401_400.out ?_;exact bk BK401⟩,⟨ib⟩⟩
  ·rw [if_neg c22] at H
   have c22b0 : decide (t392 ≤ t396) = false:=decide_eq_false c22
   clear c22
   (first | rw [c22b0] | (simp only [i64_w,i32_w];rw [c22b0]) | skip)
   by_cases c30 : t398 ≤ t390
   ·rw [if_pos c30] at H
    have c30b0 : decide (t398 ≤ t390) = true:=decide_eq_true c30
    clear c30
    have H':=Aside0.mk H
    clear H
    have hnb31:=NB395_394.out
    have hnc31:=NB394_395.out
    have hnb32:=NB395_400.out
    have hnc32:=NB400_395.out
    have hnb33:=NB395_401.out
    have hnc33:=NB401_395.out
    have hcz34_0:=ck BK395 0
    have hcz34_1:=ck BK395 1
    have hfz34_0:=blk_frozen BK395.out 0
    have hfz34_1:=blk_frozen BK395.out 1
    have hnb35:=NB400_394.out
    have hnc35:=NB394_400.out
    have hnb36:=NB400_401.out
    have hnc36:=NB401_400.out
    have hcz37_0:=ck BK400 0
    have hcz37_1:=ck BK400 1
    have hfz37_0:=blk_frozen BK400.out 0
    have hfz37_1:=blk_frozen BK400.out 1
    have hnb38:=NB401_394.out
    have hnc38:=NB394_401.out
    have hcz39_0:=ck BK401 0
    have hcz39_1:=ck BK401 1
    have hfz39_0:=blk_frozen BK401.out 0
    have hfz39_1:=blk_frozen BK401.out 1
    have hcz40_0:=ck BK394 0
    have hcz40_1:=ck BK394 1
    have hfz40_0:=blk_frozen BK394.out 0
    have hfz40_1:=blk_frozen BK394.out 1
    go_wp2
    go_meet
    case rel => exact ⟨_,(true),(by first | rfl | (simp;done) | (simp [*];done)),H',⟨by first | omega | exact Nat.le_refl _⟩,⟨by refine bF NB394_401.out ?_;refine bF NB394_401.out ?_;refine bF NB394_400.out ?_;refine bF NB394_400.out ?_;exact bk BK394⟩,⟨by refine bF NB395_401.out ?_;refine bF NB395_401.out ?_;refine bF NB395_400.out ?_;refine bF NB395_400.out ?_;exact bk BK395⟩,⟨by refine bF NB400_401.out ?_;refine bF NB400_401.out ?_;refine bP (cs:=#[.int .i64 t396,.int .i64 0]) 1 ?_;refine bP (cs:=#[.int .i64 0,.int .i64 0]) 0 ?_;exact bk BK400⟩,⟨by refine bP (cs:=#[.int .i64 t398,.int .i64 0]) 1 ?_;refine bP (cs:=#[.int .i64 0,.int .i64 0]) 0 ?_;refine bF NB401_400.out ?_;refine bF NB401_400.out ?_;exact bk BK401⟩,⟨ib⟩⟩
   ·rw [if_neg c30] at H
    have c30b0 : decide (t398 ≤ t390) = false:=decide_eq_false c30
    clear c30
    by_cases c41 : t393 ≤ t397
    ·rw [if_pos c41] at H
     have c41b0 : decide (t393 ≤ t397) = true:=decide_eq_true c41
     clear c41
     have H':=Aside0.mk H
     clear H
     have hnb42:=NB395_394.out
     have hnc42:=NB394_395.out
     have hnb43:=NB395_400.out
     have hnc43:=NB400_395.out
     have hnb44:=NB395_401.out
     have hnc44:=NB401_395.out
     have hcz45_0:=ck BK395 0
     have hcz45_1:=ck BK395 1
     have hfz45_0:=blk_frozen BK395.out 0
     have hfz45_1:=blk_frozen BK395.out 1
     have hnb46:=NB400_394.out
     have hnc46:=NB394_400.out
     have hnb47:=NB400_401.out
     have hnc47:=NB401_400.out
     have hcz48_0:=ck BK400 0
     have hcz48_1:=ck BK400 1
     have hfz48_0:=blk_frozen BK400.out 0
     have hfz48_1:=blk_frozen BK400.out 1
     have hnb49:=NB401_394.out
     have hnc49:=NB394_401.out
     have hcz50_0:=ck BK401 0
     have hcz50_1:=ck BK401 1
     have hfz50_0:=blk_frozen BK401.out 0
     have hfz50_1:=blk_frozen BK401.out 1
     have hcz51_0:=ck BK394 0
     have hcz51_1:=ck BK394 1
     have hfz51_0:=blk_frozen BK394.out 0
     have hfz51_1:=blk_frozen BK394.out 1
     go_wp2
     go_meet
     case rel => exact ⟨_,(true),(by first | rfl | (simp;done) | (simp [*];done)),H',⟨by first | omega | exact Nat.le_refl _⟩,⟨by refine bF NB394_401.out ?_;refine bF NB394_401.out ?_;refine bF NB394_400.out ?_;refine bF NB394_400.out ?_;exact bk BK394⟩,⟨by refine bF NB395_401.out ?_;refine bF NB395_401.out ?_;refine bF NB395_400.out ?_;refine bF NB395_400.out ?_;exact bk BK395⟩,⟨by refine bF NB400_401.out ?_;refine bF NB400_401.out ?_;refine bP (cs:=#[.int .i64 t396,.int .i64 0]) 1 ?_;refine bP (cs:=#[.int .i64 0,.int .i64 0]) 0 ?_;exact bk BK400⟩,⟨by refine bP (cs:=#[.int .i64 t398,.int .i64 0]) 1 ?_;refine bP (cs:=#[.int .i64 0,.int .i64 0]) 0 ?_;refine bF NB401_400.out ?_;refine bF NB401_400.out ?_;exact bk BK401⟩,⟨ib⟩⟩
    ·rw [if_neg c41] at H
     have c41b0 : decide (t393 ≤ t397) = false:=decide_eq_false c41
     clear c41
     have H':=Aside0.mk H
     clear H
     have hnb52:=NB395_394.out
     have hnc52:=NB394_395.out
     have hnb53:=NB395_400.out
     have hnc53:=NB400_395.out
     have hnb54:=NB395_401.out
     have hnc54:=NB401_395.out
     have hcz55_0:=ck BK395 0
     have hcz55_1:=ck BK395 1
     have hfz55_0:=blk_frozen BK395.out 0
     have hfz55_1:=blk_frozen BK395.out 1
     have hnb56:=NB400_394.out
     have hnc56:=NB394_400.out
     have hnb57:=NB400_401.out
     have hnc57:=NB401_400.out
     have hcz58_0:=ck BK400 0
     have hcz58_1:=ck BK400 1
     have hfz58_0:=blk_frozen BK400.out 0
     have hfz58_1:=blk_frozen BK400.out 1
     have hnb59:=NB401_394.out
     have hnc59:=NB394_401.out
     have hcz60_0:=ck BK401 0
     have hcz60_1:=ck BK401 1
     have hfz60_0:=blk_frozen BK401.out 0
     have hfz60_1:=blk_frozen BK401.out 1
     have hcz61_0:=ck BK394 0
     have hcz61_1:=ck BK394 1
     have hfz61_0:=blk_frozen BK394.out 0
     have hfz61_1:=blk_frozen BK394.out 1
     go_wp2
     go_meet
     case rel => exact ⟨_,(decide (t399 ≤ t391)),(by first | rfl | (simp;done) | (simp [*];done)),H',⟨by first | omega | exact Nat.le_refl _⟩,⟨by refine bF NB394_401.out ?_;refine bF NB394_401.out ?_;refine bF NB394_400.out ?_;refine bF NB394_400.out ?_;exact bk BK394⟩,⟨by refine bF NB395_401.out ?_;refine bF NB395_401.out ?_;refine bF NB395_400.out ?_;refine bF NB395_400.out ?_;exact bk BK395⟩,⟨by refine bF NB400_401.out ?_;refine bF NB400_401.out ?_;refine bP (cs:=#[.int .i64 t396,.int .i64 0]) 1 ?_;refine bP (cs:=#[.int .i64 0,.int .i64 0]) 0 ?_;exact bk BK400⟩,⟨by refine bP (cs:=#[.int .i64 t398,.int .i64 0]) 1 ?_;refine bP (cs:=#[.int .i64 0,.int .i64 0]) 0 ?_;refine bF NB401_400.out ?_;refine bF NB401_400.out ?_;exact bk BK401⟩,⟨ib⟩⟩
 case rest =>
  clear HC5
  try clear c1
  try clear c2
  try clear p2
  try clear c3
  try clear c4
  try clear c5
  try clear c6
  try clear c9
  try clear c11
  try clear c15
  try clear c16
  try clear c17
  try clear c19
  try clear c20
  try clear c22
  try clear c22b0
  try clear c23
  try clear c24
  try clear c25
  try clear c27
  try clear c28
  try clear c30
  try clear c30b0
  try clear c31
  try clear c32
  try clear c33
  try clear c35
  try clear c36
  try clear c38
  try clear c41
  try clear c41b0
  try clear c42
  try clear c43
  try clear c44
  try clear c46
  try clear c47
  try clear c49
  try clear c52
  try clear c53
  try clear c54
  try clear c56
  try clear c57
  try clear c59
  try clear hcz10_0
  try clear hcz10_1
  try clear hcz11_0
  try clear hcz11_1
  try clear hcz18_0
  try clear hcz18_1
  try clear hcz21_0
  try clear hcz21_1
  try clear hcz26_0
  try clear hcz26_1
  try clear hcz29_0
  try clear hcz29_1
  try clear hcz34_0
  try clear hcz34_1
  try clear hcz37_0
  try clear hcz37_1
  try clear hcz39_0
  try clear hcz39_1
  try clear hcz40_0
  try clear hcz40_1
  try clear hcz45_0
  try clear hcz45_1
  try clear hcz48_0
  try clear hcz48_1
  try clear hcz50_0
  try clear hcz50_1
  try clear hcz51_0
  try clear hcz51_1
  try clear hcz55_0
  try clear hcz55_1
  try clear hcz58_0
  try clear hcz58_1
  try clear hcz60_0
  try clear hcz60_1
  try clear hcz61_0
  try clear hcz61_1
  try clear hfz10_0
  try clear hfz10_1
  try clear hfz11_0
  try clear hfz11_1
  try clear hfz18_0
  try clear hfz18_1
  try clear hfz21_0
  try clear hfz21_1
  try clear hfz26_0
  try clear hfz26_1
  try clear hfz29_0
  try clear hfz29_1
  try clear hfz34_0
  try clear hfz34_1
  try clear hfz37_0
  try clear hfz37_1
  try clear hfz39_0
  try clear hfz39_1
  try clear hfz40_0
  try clear hfz40_1
  try clear hfz45_0
  try clear hfz45_1
  try clear hfz48_0
  try clear hfz48_1
  try clear hfz50_0
  try clear hfz50_1
  try clear hfz51_0
  try clear hfz51_1
  try clear hfz55_0
  try clear hfz55_1
  try clear hfz58_0
  try clear hfz58_1
  try clear hfz60_0
  try clear hfz60_1
  try clear hfz61_0
  try clear hfz61_1
  obtain ⟨kq,x49_4,rfl,HA,HJ4,BK394,BK395,BK400,BK401,HB⟩:=hcut
  cases kq with
  | zero => exact absurd HA.out (by simp [impl_apart.j0])
  | succ kj4 =>
   have H:=HA.out
   clear HA
   simp only [impl_apart.j0] at H
   by_cases c62 : x49_4 = true
   ·subst c62
    have H1 : (some true) = some r:=by rw [if_pos rfl] at H;exact H
    clear H
    have H:=H1
    clear H1
    obtain rfl:=Option.some.inj H
    go_wp2
    go_ret
    exact ⟨by first | rfl | (simp [errW_none,errW_some] <;> rfl) | (simp [*,errW_none,errW_some] <;> rfl),ib⟩
   ·replace c62:=Bool.eq_false_iff.mpr c62
    subst c62
    have H1 : ((impl_triangles.f kj4 l1).bind fun t402 => ((impl_triangles.f kj4 l0).bind fun t405 => (impl_apart.l0 kj4 t402 t405 (t405.length : Int) 0))) = some r:=by rw [if_neg (show ¬ (false = true) by decide)] at H;exact H
    clear H
    have H:=H1
    clear H1
    replace H:=bE.mp H
    obtain ⟨t402,A630,H⟩:=H
    replace H : ((impl_triangles.f kj4 l0).bind fun t405 => (impl_apart.l0 kj4 t402 t405 (t405.length : Int) 0)) = some r:=H
    have A63:=Aside0.mk A630
    clear A630
    replace H:=bE.mp H
    obtain ⟨t405,A640,H⟩:=H
    replace H : (impl_apart.l0 kj4 t402 t405 (t405.length : Int) 0) = some r:=H
    have A64:=Aside0.mk A640
    clear A640
    have H':=Aside0.mk H
    clear H
    go_wp2_with (first | ((with_reducible refine gate_callee (f:=66) rfl ?_);refine goesL_ (some 51) rfl rfl Try.func66 (by kernel_rfl) rfl #[.slice A1 l1.length c1] rfl (by (try simp only [mT,mC,mN]);first | done | rfl | (simp only [lD,lT];rfl)) ?_;(with_reducible refine (impl_triangles.calls kj4 _ _ l1 t402 _ ?side1 ?side2 A63.out).mono ?_);(case side1 => exact cO ((Kd.C_below HR1.out HB.out)));(case side2 => exact HC1.out);rintro e w65 ⟨v403,rfl,ho0,hb⟩;refine ⟨_,rfl,?_⟩;have HO404:=Aside0.mk (Kd.S_lower (Kd.S_newB (Kd.S_newB (Kd.S_newB (Kd.S_newB ho0 (g:=gb394) (o:=.cells #[.int .i64 t390,.int .i64 t391] 73 (0,0)) (bk BK394)) (g:=gb395) (o:=.cells #[.int .i64 t392,.int .i64 t393] 73 (0,0)) (bk BK395)) (g:=gb400) (o:=.cells #[.int .i64 t396,.int .i64 t397] 73 (0,0)) (bk BK400)) (g:=gb401) (o:=.cells #[.int .i64 t398,.int .i64 t399] 73 (0,0)) (bk BK401)) (below_size ib));replace BK394:=kb BK394 hb;replace BK395:=kb BK395 hb;replace BK400:=kb BK400 hb;replace BK401:=kb BK401 hb;replace HB:=sb hb;(try clear hb);(try clear hb2);(try clear hk);(try clear hi);(try clear ho0)) | ((with_reducible refine gate_callee (f:=66) rfl ?_);refine goesL_ (some 53) rfl rfl Try.func66 (by kernel_rfl) rfl #[.slice A0 l0.length c0] rfl (by (try simp only [mT,mC,mN]);first | done | rfl | (simp only [lD,lT];rfl)) ?_;(with_reducible refine (impl_triangles.calls kj4 _ _ l0 t405 _ ?side1 ?side2 A64.out).mono ?_);(case side1 => exact cO ((Kd.C_below HR0.out HB.out)));(case side2 => exact HC0.out);rintro e w66 ⟨v406,rfl,ho0,hb⟩;refine ⟨_,rfl,?_⟩;have HO407:=Aside0.mk (Kd.S_lower (Kd.S_newB (Kd.S_newB (Kd.S_newB (Kd.S_newB (Kd.S_new' ho0 (Kd.S_lt (sO HO404.out))) (g:=gb394) (o:=.cells #[.int .i64 t390,.int .i64 t391] 73 (0,0)) (bk BK394)) (g:=gb395) (o:=.cells #[.int .i64 t392,.int .i64 t393] 73 (0,0)) (bk BK395)) (g:=gb400) (o:=.cells #[.int .i64 t396,.int .i64 t397] 73 (0,0)) (bk BK400)) (g:=gb401) (o:=.cells #[.int .i64 t398,.int .i64 t399] 73 (0,0)) (bk BK401)) (below_size ib));replace HO404:=Aside0.mk (Kd.S_elder' (sO HO404.out) (Kd.S_base ho0) hb);replace BK394:=kb BK394 hb;replace BK395:=kb BK395 hb;replace BK400:=kb BK400 hb;replace BK401:=kb BK401 hb;replace HB:=sb hb;(try clear hb);(try clear hb2);(try clear hk);(try clear hi);(try clear ho0);obtain ⟨Ao67,co67,eo67⟩:=Kd.S_slice HO407.out;subst eo67))
    go_loopg [55] kj4 (fun kq v55 w' => ∃ (x55_2 : Int),v55 = .int .i64 x55_2 ∧ Aside0 (impl_apart.l0 kq t402 t405 (t405.length : Int) x55_2 = some r) ∧ Aside0 (kq ≤ kj4) ∧ Aside0 (Kd.S (Kd.slice 73 k73) 25 w' w.heap.size (fun k_ => some k_ ≠ ((.slice Ao67 t405.length co67) : Value).ownBlock ∧ k_ ≠ gb394 ∧ k_ ≠ gb395 ∧ k_ ≠ gb400 ∧ k_ ≠ gb401) v403 t402) ∧ Aside0 (Kd.S (Kd.slice 73 k73) 25 w' w.heap.size (fun k_ => some k_ ≠ (v403 : Value).ownBlock ∧ k_ ≠ gb394 ∧ k_ ≠ gb395 ∧ k_ ≠ gb400 ∧ k_ ≠ gb401) (.slice Ao67 t405.length co67) t405) ∧ Aside0 (w'.heap[gb394]? = some (.cells #[.int .i64 t390,.int .i64 t391] 73 (0,0))) ∧ Aside0 (w'.heap[gb395]? = some (.cells #[.int .i64 t392,.int .i64 t393] 73 (0,0))) ∧ Aside0 (w'.heap[gb400]? = some (.cells #[.int .i64 t396,.int .i64 t397] 73 (0,0))) ∧ Aside0 (w'.heap[gb401]? = some (.cells #[.int .i64 t398,.int .i64 t399] 73 (0,0))) ∧ Aside0 (Below w.heap.size w w'))
    case atStart => exact ⟨(0),(by first | rfl | (simp;done) | (simp [*];done)),H',⟨Nat.le_refl _⟩,⟨sO (Kd.S_mono HO404.out (fun _ hk => ⟨hk.2,⟨hk.1.1.1.1.2,⟨hk.1.1.1.2,⟨hk.1.1.2,hk.1.2⟩⟩⟩⟩))⟩,⟨sO (Kd.S_mono HO407.out (fun _ hk => ⟨hk.1.1.1.1.2,⟨hk.1.1.1.2,⟨hk.1.1.2,⟨hk.1.2,hk.2⟩⟩⟩⟩))⟩,⟨by exact bk BK394⟩,⟨by exact bk BK395⟩,⟨by exact bk BK400⟩,⟨by exact bk BK401⟩,⟨ib⟩⟩
    case round =>
     clear H'
     try clear c1
     try clear c2
     try clear p2
     try clear c3
     try clear c4
     try clear c5
     try clear c6
     try clear c9
     try clear c11
     try clear c15
     try clear c16
     try clear c17
     try clear c19
     try clear c20
     try clear c22
     try clear c22b0
     try clear c23
     try clear c24
     try clear c25
     try clear c27
     try clear c28
     try clear c30
     try clear c30b0
     try clear c31
     try clear c32
     try clear c33
     try clear c35
     try clear c36
     try clear c38
     try clear c41
     try clear c41b0
     try clear c42
     try clear c43
     try clear c44
     try clear c46
     try clear c47
     try clear c49
     try clear c52
     try clear c53
     try clear c54
     try clear c56
     try clear c57
     try clear c59
     try clear c62
     try clear c66
     try clear hcz10_0
     try clear hcz10_1
     try clear hcz11_0
     try clear hcz11_1
     try clear hcz18_0
     try clear hcz18_1
     try clear hcz21_0
     try clear hcz21_1
     try clear hcz26_0
     try clear hcz26_1
     try clear hcz29_0
     try clear hcz29_1
     try clear hcz34_0
     try clear hcz34_1
     try clear hcz37_0
     try clear hcz37_1
     try clear hcz39_0
     try clear hcz39_1
     try clear hcz40_0
     try clear hcz40_1
     try clear hcz45_0
     try clear hcz45_1
     try clear hcz48_0
     try clear hcz48_1
     try clear hcz50_0
     try clear hcz50_1
     try clear hcz51_0
     try clear hcz51_1
     try clear hcz55_0
     try clear hcz55_1
     try clear hcz58_0
     try clear hcz58_1
     try clear hcz60_0
     try clear hcz60_1
     try clear hcz61_0
     try clear hcz61_1
     try clear hfz10_0
     try clear hfz10_1
     try clear hfz11_0
     try clear hfz11_1
     try clear hfz18_0
     try clear hfz18_1
     try clear hfz21_0
     try clear hfz21_1
     try clear hfz26_0
     try clear hfz26_1
     try clear hfz29_0
     try clear hfz29_1
     try clear hfz34_0
     try clear hfz34_1
     try clear hfz37_0
     try clear hfz37_1
     try clear hfz39_0
     try clear hfz39_1
     try clear hfz40_0
     try clear hfz40_1
     try clear hfz45_0
     try clear hfz45_1
     try clear hfz48_0
     try clear hfz48_1
     try clear hfz50_0
     try clear hfz50_1
     try clear hfz51_0
     try clear hfz51_1
     try clear hfz55_0
     try clear hfz55_1
     try clear hfz58_0
     try clear hfz58_1
     try clear hfz60_0
     try clear hfz60_1
     try clear hfz61_0
     try clear hfz61_1
     try clear p2
     obtain ⟨x55_2,rfl,HA,HK2,HO_9,HO_53,BK394,BK395,BK400,BK401,HB⟩:=hrel
     cases gk with
     | zero => exact absurd HA.out (by simp [impl_apart.l0])
     | succ k2 =>
      have H:=HA.out
      clear HA
      simp only [impl_apart.l0] at H
      by_cases c68 : x55_2 < (t405.length : Int)
      ·rw [if_pos c68] at H
       have c68b0 : decide (x55_2 < (t405.length : Int)) = true:=decide_eq_true c68
       clear c68
       by_cases c69 : 0 ≤ x55_2
       ·rw [if_pos c69] at H
        have c69b0 : decide (0 ≤ x55_2) = true:=decide_eq_true c69
        clear c69
        by_cases c70 : x55_2 < (t405.length : Int)
        ·rw [if_pos c70] at H
         have c70b0 : decide (x55_2 < (t405.length : Int)) = true:=decide_eq_true c70
         clear c70
         have H':=Aside0.mk H
         clear H
         have p408 : 0 ≤ (x55_2 : Int):=da
         have q408 : x55_2 < (t405.length : Int):=da
         obtain ⟨ad408,A408_0,c408_0,e408,hx408_0,hl408_0,hi408_0⟩:=at_L3 (Kd.S_reads' HO_53.out).2.2 x55_2 p408 q408
         cases e408
         obtain ⟨ce408,hce408,hMe408,hcc408⟩:=Kd.S_get HO_53.out [] x55_2 p408 (by first | exact q408 | exact da | (have e_:=(Kd.S_reads' HO_53.out).1;omega))
         obtain ⟨ve408_0,rfl,ge408_0⟩:=hMe408
         have hv408_0:=hcc408 0 _ rfl
         rw [Nat.add_zero,show ((Kd.slice 73 k73)).sz = 1 from rfl,Nat.mul_one] at hv408_0
         replace hv408_0:=Option.some.inj (hv408_0.symm.trans hx408_0)
         rw [hv408_0] at ge408_0
         have HL408_0:=Aside0.mk (show Kd.R k73 73 _ _ _ _ (rd_L3 t405 x55_2) from ge408_0)
         clear hv408_0 ge408_0
         clear hcc408 hce408
         have HR408_0:=Aside0.mk hi408_0
         have HC408_0:=Aside0.mk hl408_0
         clear hi408_0 hl408_0
         replace p408:=eq_true p408
         replace q408:=eq_true q408
         obtain ⟨Ao71,co71,eo71⟩:=Kd.S_slice HO_9.out
         subst eo71
         go_wp2
         go_loopg [61] k2 (fun kq v61 w' => ∃ (x61_3 : Int),v61 = .int .i64 x61_3 ∧ Aside0 (impl_apart.l1 kq t402 (rd_L3 t405 x55_2) t405 (t405.length : Int) x55_2 t402 (t402.length : Int) x61_3 = some r) ∧ Aside0 (kq ≤ k2) ∧ Aside0 (Kd.S (Kd.slice 73 k73) 25 w' w.heap.size (fun k_ => some k_ ≠ ((.slice (some ad408) t405.length co67) : Value).ownBlock ∧ k_ ≠ gb394 ∧ k_ ≠ gb395 ∧ k_ ≠ gb400 ∧ k_ ≠ gb401) (.slice Ao71 t402.length co71) t402) ∧ Aside0 (Kd.S (Kd.slice 73 k73) 25 w' w.heap.size (fun k_ => some k_ ≠ ((.slice Ao71 t402.length co71) : Value).ownBlock ∧ some k_ ≠ ((.slice Ao71 t402.length co71) : Value).ownBlock ∧ k_ ≠ gb394 ∧ k_ ≠ gb395 ∧ k_ ≠ gb400 ∧ k_ ≠ gb401) (.slice (some ad408) t405.length co67) t405) ∧ Aside0 (Kd.S (Kd.slice 73 k73) 25 w' w.heap.size (fun k_ => some k_ ≠ ((.slice (some ad408) t405.length co67) : Value).ownBlock ∧ k_ ≠ gb394 ∧ k_ ≠ gb395 ∧ k_ ≠ gb400 ∧ k_ ≠ gb401) (.slice Ao71 t402.length co71) t402) ∧ Aside0 (w'.heap[gb394]? = some (.cells #[.int .i64 t390,.int .i64 t391] 73 (0,0))) ∧ Aside0 (w'.heap[gb395]? = some (.cells #[.int .i64 t392,.int .i64 t393] 73 (0,0))) ∧ Aside0 (w'.heap[gb400]? = some (.cells #[.int .i64 t396,.int .i64 t397] 73 (0,0))) ∧ Aside0 (w'.heap[gb401]? = some (.cells #[.int .i64 t398,.int .i64 t399] 73 (0,0))) ∧ Aside0 (Kd.C k73 w' A408_0 (rd_L3 t405 x55_2).length (rd_L3 t405 x55_2)) ∧ Aside0 (Below w.heap.size w w'))
         case atStart => exact ⟨(0),(by first | rfl | (simp;done) | (simp [*];done)),H',⟨Nat.le_refl _⟩,⟨sO HO_9.out⟩,⟨sO (Kd.S_mono HO_53.out (fun _ hk => ⟨hk.1,⟨hk.1,⟨hk.2.1,⟨hk.2.2.1,⟨hk.2.2.2.1,hk.2.2.2.2⟩⟩⟩⟩⟩))⟩,⟨sO HO_9.out⟩,⟨by exact bk BK394⟩,⟨by exact bk BK395⟩,⟨by exact bk BK400⟩,⟨by exact bk BK401⟩,⟨by repeat (first | (with_reducible exact HR408_0.out) | (with_reducible refine Kd.C_alloc ?_ _) | (with_reducible refine Kd.C_drewN ?_ _) | (with_reducible refine Kd.C_drew ?_) | exact HR408_0.out)⟩,⟨ib⟩⟩
         case round =>
          clear H'
          try clear c1
          try clear c2
          try clear p2
          try clear c3
          try clear c4
          try clear p4
          try clear q4
          try clear hx4
          try clear c5
          try clear c6
          try clear c7
          try clear c9
          try clear c11
          try clear c15
          try clear c16
          try clear c17
          try clear c19
          try clear c20
          try clear c22
          try clear c22b0
          try clear c23
          try clear c24
          try clear c25
          try clear c27
          try clear c28
          try clear c30
          try clear c30b0
          try clear c31
          try clear c32
          try clear c33
          try clear c35
          try clear c36
          try clear c38
          try clear c40
          try clear p40
          try clear q40
          try clear hx40
          try clear c41
          try clear c41b0
          try clear c42
          try clear c43
          try clear c44
          try clear c46
          try clear c47
          try clear c49
          try clear c52
          try clear c53
          try clear c54
          try clear c56
          try clear c57
          try clear c59
          try clear c62
          try clear c66
          try clear c68
          try clear c68b0
          try clear c69
          try clear c69b0
          try clear c70
          try clear c70b0
          try clear hcz10_0
          try clear hcz10_1
          try clear hcz11_0
          try clear hcz11_1
          try clear hcz18_0
          try clear hcz18_1
          try clear hcz21_0
          try clear hcz21_1
          try clear hcz26_0
          try clear hcz26_1
          try clear hcz29_0
          try clear hcz29_1
          try clear hcz34_0
          try clear hcz34_1
          try clear hcz37_0
          try clear hcz37_1
          try clear hcz39_0
          try clear hcz39_1
          try clear hcz40_0
          try clear hcz40_1
          try clear hcz45_0
          try clear hcz45_1
          try clear hcz48_0
          try clear hcz48_1
          try clear hcz50_0
          try clear hcz50_1
          try clear hcz51_0
          try clear hcz51_1
          try clear hcz55_0
          try clear hcz55_1
          try clear hcz58_0
          try clear hcz58_1
          try clear hcz60_0
          try clear hcz60_1
          try clear hcz61_0
          try clear hcz61_1
          try clear hfz10_0
          try clear hfz10_1
          try clear hfz11_0
          try clear hfz11_1
          try clear hfz18_0
          try clear hfz18_1
          try clear hfz21_0
          try clear hfz21_1
          try clear hfz26_0
          try clear hfz26_1
          try clear hfz29_0
          try clear hfz29_1
          try clear hfz34_0
          try clear hfz34_1
          try clear hfz37_0
          try clear hfz37_1
          try clear hfz39_0
          try clear hfz39_1
          try clear hfz40_0
          try clear hfz40_1
          try clear hfz45_0
          try clear hfz45_1
          try clear hfz48_0
          try clear hfz48_1
          try clear hfz50_0
          try clear hfz50_1
          try clear hfz51_0
          try clear hfz51_1
          try clear hfz55_0
          try clear hfz55_1
          try clear hfz58_0
          try clear hfz58_1
          try clear hfz60_0
          try clear hfz60_1
          try clear hfz61_0
          try clear hfz61_1
          try clear hx408_0
          try clear p2
          try clear p408
          try clear q408
          obtain ⟨x61_3,rfl,HA,HK3,HO_9,HO_53,HO_59,BK394,BK395,BK400,BK401,HR408_0,HB⟩:=hrel
          cases gk with
          | zero => exact absurd HA.out (by simp [impl_apart.l1])
          | succ k3 =>
           have H:=HA.out
           clear HA
           simp only [impl_apart.l1] at H
           by_cases c72 : x61_3 < (t402.length : Int)
           ·rw [if_pos c72] at H
            have c72b0 : decide (x61_3 < (t402.length : Int)) = true:=decide_eq_true c72
            clear c72
            by_cases c73 : 0 ≤ x61_3
            ·rw [if_pos c73] at H
             have c73b0 : decide (0 ≤ x61_3) = true:=decide_eq_true c73
             clear c73
             by_cases c74 : x61_3 < (t402.length : Int)
             ·rw [if_pos c74] at H
              have c74b0 : decide (x61_3 < (t402.length : Int)) = true:=decide_eq_true c74
              clear c74
              replace H:=bE.mp H
              obtain ⟨t410,A750,H⟩:=H
              replace H : (if t410 = true then (impl_apart.l1 k3 t402 (rd_L3 t405 x55_2) t405 (t405.length : Int) x55_2 t402 (t402.length : Int) (wrap64 (x61_3 + 1))) else ((impl_beside.f k3 (rd_L3 t402 x61_3) (rd_L3 t405 x55_2)).bind fun t411 => (if t411 = true then (impl_apart.l1 k3 t402 (rd_L3 t405 x55_2) t405 (t405.length : Int) x55_2 t402 (t402.length : Int) (wrap64 (x61_3 + 1))) else (some false)))) = some r:=H
              have A75:=Aside0.mk A750
              clear A750
              by_cases c76 : t410 = true
              ·subst c76
               have H1 : (impl_apart.l1 k3 t402 (rd_L3 t405 x55_2) t405 (t405.length : Int) x55_2 t402 (t402.length : Int) (wrap64 (x61_3 + 1))) = some r:=by rw [if_pos rfl] at H;exact H
               clear H
               have H:=H1
               clear H1
               have H':=Aside0.mk H
               clear H
               have p409 : 0 ≤ (x61_3 : Int):=da
               have q409 : x61_3 < (t402.length : Int):=da
               obtain ⟨ad409,A409_0,c409_0,e409,hx409_0,hl409_0,hi409_0⟩:=at_L3 (Kd.S_reads' HO_59.out).2.2 x61_3 p409 q409
               cases e409
               obtain ⟨ce409,hce409,hMe409,hcc409⟩:=Kd.S_get HO_59.out [] x61_3 p409 (by first | exact q409 | exact da | (have e_:=(Kd.S_reads' HO_59.out).1;omega))
               obtain ⟨ve409_0,rfl,ge409_0⟩:=hMe409
               have hv409_0:=hcc409 0 _ rfl
               rw [Nat.add_zero,show ((Kd.slice 73 k73)).sz = 1 from rfl,Nat.mul_one] at hv409_0
               replace hv409_0:=Option.some.inj (hv409_0.symm.trans hx409_0)
               rw [hv409_0] at ge409_0
               have HL409_0:=Aside0.mk (show Kd.R k73 73 _ _ _ _ (rd_L3 t402 x61_3) from ge409_0)
               clear hv409_0 ge409_0
               clear hcc409 hce409
               have HR409_0:=Aside0.mk hi409_0
               have HC409_0:=Aside0.mk hl409_0
               clear hi409_0 hl409_0
               replace p409:=eq_true p409
               replace q409:=eq_true q409
               go_wp2_with (first | ((with_reducible refine gate_callee (f:=115) rfl ?_);refine goesL_ (some 67) rfl rfl Try.func115 (by kernel_rfl) rfl #[.slice A408_0 (rd_L3 t405 x55_2).length c408_0,.slice A409_0 (rd_L3 t402 x61_3).length c409_0] rfl (by (try simp only [mT,mC,mN]);first | done | rfl | (simp only [lD,lT];rfl)) ?_;(with_reducible refine (impl_beside.calls k3 _ _ (rd_L3 t405 x55_2) _ _ (rd_L3 t402 x61_3) true _ ?side1 ?side2 ?side3 ?side4 A75.out).mono ?_);(case side1 => repeat (first | exact (Kd.C_below HR408_0.out HB.out) | exact HR408_0.out | (with_reducible refine Kd.C_alloc ?_ _) | (with_reducible refine Kd.C_drewN ?_ _) | (with_reducible refine Kd.C_drew ?_)));(case side2 => exact HC408_0.out);(case side3 => repeat (first | exact (by repeat (first | (with_reducible exact HR409_0.out) | (with_reducible refine Kd.C_alloc ?_ _) | (with_reducible refine Kd.C_drewN ?_ _) | (with_reducible refine Kd.C_drew ?_) | exact HR409_0.out)) | (with_reducible refine Kd.C_alloc ?_ _) | (with_reducible refine Kd.C_drewN ?_ _) | (with_reducible refine Kd.C_drew ?_)));(case side4 => exact HC409_0.out);rintro e w77 ⟨rfl,hb⟩;refine ⟨_,rfl,?_⟩;replace HO_9:=Aside0.mk (Kd.S_below (sO HO_9.out) hb);replace HO_53:=Aside0.mk (Kd.S_below (sO HO_53.out) hb);replace HO_59:=Aside0.mk (Kd.S_below (sO HO_59.out) hb);replace HL409_0:=Aside0.mk (Kd.R_below (rO HL409_0.out) hb);replace BK394:=kb BK394 hb;replace BK395:=kb BK395 hb;replace BK400:=kb BK400 hb;replace BK401:=kb BK401 hb;replace HR408_0:=Aside0.mk (Kd.C_below (by repeat (first | (with_reducible exact HR408_0.out) | (with_reducible refine Kd.C_alloc ?_ _) | (with_reducible refine Kd.C_drewN ?_ _) | (with_reducible refine Kd.C_drew ?_) | exact HR408_0.out)) hb);replace HR409_0:=Aside0.mk (Kd.C_below (by repeat (first | (with_reducible exact HR409_0.out) | (with_reducible refine Kd.C_alloc ?_ _) | (with_reducible refine Kd.C_drewN ?_ _) | (with_reducible refine Kd.C_drew ?_) | exact HR409_0.out)) hb);replace HB:=sb hb;(try clear hb);(try clear hb2);(try clear hk);(try clear hi)))
               go_roundg k3
               case measure => have:=HJ4.out;have:=HK2.out;have:=HK3.out;omega
               case rel => exact ⟨(wrap64 (x61_3 + 1)),(by first | rfl | (simp;done) | (simp [*];done)),H',⟨by have:=HJ4.out;have:=HK2.out;have:=HK3.out;omega⟩,⟨sO HO_9.out⟩,⟨sO HO_53.out⟩,⟨sO HO_59.out⟩,⟨by exact bk BK394⟩,⟨by exact bk BK395⟩,⟨by exact bk BK400⟩,⟨by exact bk BK401⟩,⟨by repeat (first | (with_reducible exact HR408_0.out) | (with_reducible refine Kd.C_alloc ?_ _) | (with_reducible refine Kd.C_drewN ?_ _) | (with_reducible refine Kd.C_drew ?_) | exact HR408_0.out)⟩,⟨ib⟩⟩
              ·replace c76:=Bool.eq_false_iff.mpr c76
               subst c76
               have H1 : ((impl_beside.f k3 (rd_L3 t402 x61_3) (rd_L3 t405 x55_2)).bind fun t411 => (if t411 = true then (impl_apart.l1 k3 t402 (rd_L3 t405 x55_2) t405 (t405.length : Int) x55_2 t402 (t402.length : Int) (wrap64 (x61_3 + 1))) else (some false))) = some r:=by rw [if_neg (show ¬ (false = true) by decide)] at H;exact H
               clear H
               have H:=H1
               clear H1
               replace H:=bE.mp H
               obtain ⟨t411,A780,H⟩:=H
               replace H : (if t411 = true then (impl_apart.l1 k3 t402 (rd_L3 t405 x55_2) t405 (t405.length : Int) x55_2 t402 (t402.length : Int) (wrap64 (x61_3 + 1))) else (some false)) = some r:=H
               have A78:=Aside0.mk A780
               clear A780
               by_cases c79 : t411 = true
               ·subst c79
                have H1 : (impl_apart.l1 k3 t402 (rd_L3 t405 x55_2) t405 (t405.length : Int) x55_2 t402 (t402.length : Int) (wrap64 (x61_3 + 1))) = some r:=by rw [if_pos rfl] at H;exact H
                clear H
                have H:=H1
                clear H1
                have H':=Aside0.mk H
                clear H
                have p409 : 0 ≤ (x61_3 : Int):=da
                have q409 : x61_3 < (t402.length : Int):=da
                obtain ⟨ad409,A409_0,c409_0,e409,hx409_0,hl409_0,hi409_0⟩:=at_L3 (Kd.S_reads' HO_59.out).2.2 x61_3 p409 q409
                cases e409
                obtain ⟨ce409,hce409,hMe409,hcc409⟩:=Kd.S_get HO_59.out [] x61_3 p409 (by first | exact q409 | exact da | (have e_:=(Kd.S_reads' HO_59.out).1;omega))
                obtain ⟨ve409_0,rfl,ge409_0⟩:=hMe409
                have hv409_0:=hcc409 0 _ rfl
                rw [Nat.add_zero,show ((Kd.slice 73 k73)).sz = 1 from rfl,Nat.mul_one] at hv409_0
                replace hv409_0:=Option.some.inj (hv409_0.symm.trans hx409_0)
                rw [hv409_0] at ge409_0
                have HL409_0:=Aside0.mk (show Kd.R k73 73 _ _ _ _ (rd_L3 t402 x61_3) from ge409_0)
                clear hv409_0 ge409_0
                clear hcc409 hce409
                have HR409_0:=Aside0.mk hi409_0
                have HC409_0:=Aside0.mk hl409_0
                clear hi409_0 hl409_0
                replace p409:=eq_true p409
                replace q409:=eq_true q409
                go_wp2_with (first | ((with_reducible refine gate_callee (f:=115) rfl ?_);refine goesL_ (some 67) rfl rfl Try.func115 (by kernel_rfl) rfl #[.slice A408_0 (rd_L3 t405 x55_2).length c408_0,.slice A409_0 (rd_L3 t402 x61_3).length c409_0] rfl (by (try simp only [mT,mC,mN]);first | done | rfl | (simp only [lD,lT];rfl)) ?_;(with_reducible refine (impl_beside.calls k3 _ _ (rd_L3 t405 x55_2) _ _ (rd_L3 t402 x61_3) false _ ?side1 ?side2 ?side3 ?side4 A75.out).mono ?_);(case side1 => repeat (first | exact (Kd.C_below HR408_0.out HB.out) | exact HR408_0.out | (with_reducible refine Kd.C_alloc ?_ _) | (with_reducible refine Kd.C_drewN ?_ _) | (with_reducible refine Kd.C_drew ?_)));(case side2 => exact HC408_0.out);(case side3 => repeat (first | exact (by repeat (first | (with_reducible exact HR409_0.out) | (with_reducible refine Kd.C_alloc ?_ _) | (with_reducible refine Kd.C_drewN ?_ _) | (with_reducible refine Kd.C_drew ?_) | exact HR409_0.out)) | (with_reducible refine Kd.C_alloc ?_ _) | (with_reducible refine Kd.C_drewN ?_ _) | (with_reducible refine Kd.C_drew ?_)));(case side4 => exact HC409_0.out);rintro e w80 ⟨rfl,hb⟩;refine ⟨_,rfl,?_⟩;replace HO_9:=Aside0.mk (Kd.S_below (sO HO_9.out) hb);replace HO_53:=Aside0.mk (Kd.S_below (sO HO_53.out) hb);replace HO_59:=Aside0.mk (Kd.S_below (sO HO_59.out) hb);replace HL409_0:=Aside0.mk (Kd.R_below (rO HL409_0.out) hb);replace BK394:=kb BK394 hb;replace BK395:=kb BK395 hb;replace BK400:=kb BK400 hb;replace BK401:=kb BK401 hb;replace HR408_0:=Aside0.mk (Kd.C_below (by repeat (first | (with_reducible exact HR408_0.out) | (with_reducible refine Kd.C_alloc ?_ _) | (with_reducible refine Kd.C_drewN ?_ _) | (with_reducible refine Kd.C_drew ?_) | exact HR408_0.out)) hb);replace HR409_0:=Aside0.mk (Kd.C_below (by repeat (first | (with_reducible exact HR409_0.out) | (with_reducible refine Kd.C_alloc ?_ _) | (with_reducible refine Kd.C_drewN ?_ _) | (with_reducible refine Kd.C_drew ?_) | exact HR409_0.out)) hb);replace HB:=sb hb;(try clear hb);(try clear hb2);(try clear hk);(try clear hi)) | (go_at_call 115;(with_reducible refine (impl_beside.calls k3 _ _ (rd_L3 t402 x61_3) _ _ (rd_L3 t405 x55_2) true _ ?side1 ?side2 ?side3 ?side4 A78.out).mono ?_);(case side1 => repeat (first | exact (by repeat (first | (with_reducible exact HR409_0.out) | (with_reducible refine Kd.C_alloc ?_ _) | (with_reducible refine Kd.C_drewN ?_ _) | (with_reducible refine Kd.C_drew ?_) | exact HR409_0.out)) | (with_reducible refine Kd.C_alloc ?_ _) | (with_reducible refine Kd.C_drewN ?_ _) | (with_reducible refine Kd.C_drew ?_)));(case side2 => exact HC409_0.out);(case side3 => repeat (first | exact (Kd.C_below HR408_0.out HB.out) | exact HR408_0.out | (with_reducible refine Kd.C_alloc ?_ _) | (with_reducible refine Kd.C_drewN ?_ _) | (with_reducible refine Kd.C_drew ?_)));(case side4 => exact HC408_0.out);rintro e w81 ⟨rfl,hb⟩;replace HO_9:=Aside0.mk (Kd.S_below (sO HO_9.out) hb);replace HO_53:=Aside0.mk (Kd.S_below (sO HO_53.out) hb);replace HO_59:=Aside0.mk (Kd.S_below (sO HO_59.out) hb);replace HL409_0:=Aside0.mk (Kd.R_below (rO HL409_0.out) hb);replace BK394:=kb BK394 hb;replace BK395:=kb BK395 hb;replace BK400:=kb BK400 hb;replace BK401:=kb BK401 hb;replace HR408_0:=Aside0.mk (Kd.C_below (by repeat (first | (with_reducible exact HR408_0.out) | (with_reducible refine Kd.C_alloc ?_ _) | (with_reducible refine Kd.C_drewN ?_ _) | (with_reducible refine Kd.C_drew ?_) | exact HR408_0.out)) hb);replace HR409_0:=Aside0.mk (Kd.C_below (by repeat (first | (with_reducible exact HR409_0.out) | (with_reducible refine Kd.C_alloc ?_ _) | (with_reducible refine Kd.C_drewN ?_ _) | (with_reducible refine Kd.C_drew ?_) | exact HR409_0.out)) hb);replace HB:=sb hb;(try clear hb);(try clear hb2);(try clear hk);(try clear hi)))
                go_roundg k3
                case measure => have:=HJ4.out;have:=HK2.out;have:=HK3.out;omega
                case rel => exact ⟨(wrap64 (x61_3 + 1)),(by first | rfl | (simp;done) | (simp [*];done)),H',⟨by have:=HJ4.out;have:=HK2.out;have:=HK3.out;omega⟩,⟨sO HO_9.out⟩,⟨sO HO_53.out⟩,⟨sO HO_59.out⟩,⟨by exact bk BK394⟩,⟨by exact bk BK395⟩,⟨by exact bk BK400⟩,⟨by exact bk BK401⟩,⟨by repeat (first | (with_reducible exact HR408_0.out) | (with_reducible refine Kd.C_alloc ?_ _) | (with_reducible refine Kd.C_drewN ?_ _) | (with_reducible refine Kd.C_drew ?_) | exact HR408_0.out)⟩,⟨ib⟩⟩
               ·replace c79:=Bool.eq_false_iff.mpr c79
                subst c79
                have H1 : (some false) = some r:=by rw [if_neg (show ¬ (false = true) by decide)] at H;exact H
                clear H
                have H:=H1
                clear H1
                obtain rfl:=Option.some.inj H
                have p409 : 0 ≤ (x61_3 : Int):=da
                have q409 : x61_3 < (t402.length : Int):=da
                obtain ⟨ad409,A409_0,c409_0,e409,hx409_0,hl409_0,hi409_0⟩:=at_L3 (Kd.S_reads' HO_59.out).2.2 x61_3 p409 q409
                cases e409
                obtain ⟨ce409,hce409,hMe409,hcc409⟩:=Kd.S_get HO_59.out [] x61_3 p409 (by first | exact q409 | exact da | (have e_:=(Kd.S_reads' HO_59.out).1;omega))
                obtain ⟨ve409_0,rfl,ge409_0⟩:=hMe409
                have hv409_0:=hcc409 0 _ rfl
                rw [Nat.add_zero,show ((Kd.slice 73 k73)).sz = 1 from rfl,Nat.mul_one] at hv409_0
                replace hv409_0:=Option.some.inj (hv409_0.symm.trans hx409_0)
                rw [hv409_0] at ge409_0
                have HL409_0:=Aside0.mk (show Kd.R k73 73 _ _ _ _ (rd_L3 t402 x61_3) from ge409_0)
                clear hv409_0 ge409_0
                clear hcc409 hce409
                have HR409_0:=Aside0.mk hi409_0
                have HC409_0:=Aside0.mk hl409_0
                clear hi409_0 hl409_0
                replace p409:=eq_true p409
                replace q409:=eq_true q409
                go_wp2_with (first | ((with_reducible refine gate_callee (f:=115) rfl ?_);refine goesL_ (some 67) rfl rfl Try.func115 (by kernel_rfl) rfl #[.slice A408_0 (rd_L3 t405 x55_2).length c408_0,.slice A409_0 (rd_L3 t402 x61_3).length c409_0] rfl (by (try simp only [mT,mC,mN]);first | done | rfl | (simp only [lD,lT];rfl)) ?_;(with_reducible refine (impl_beside.calls k3 _ _ (rd_L3 t405 x55_2) _ _ (rd_L3 t402 x61_3) false _ ?side1 ?side2 ?side3 ?side4 A75.out).mono ?_);(case side1 => repeat (first | exact (Kd.C_below HR408_0.out HB.out) | exact HR408_0.out | (with_reducible refine Kd.C_alloc ?_ _) | (with_reducible refine Kd.C_drewN ?_ _) | (with_reducible refine Kd.C_drew ?_)));(case side2 => exact HC408_0.out);(case side3 => repeat (first | exact (by repeat (first | (with_reducible exact HR409_0.out) | (with_reducible refine Kd.C_alloc ?_ _) | (with_reducible refine Kd.C_drewN ?_ _) | (with_reducible refine Kd.C_drew ?_) | exact HR409_0.out)) | (with_reducible refine Kd.C_alloc ?_ _) | (with_reducible refine Kd.C_drewN ?_ _) | (with_reducible refine Kd.C_drew ?_)));(case side4 => exact HC409_0.out);rintro e w82 ⟨rfl,hb⟩;refine ⟨_,rfl,?_⟩;replace HO_9:=Aside0.mk (Kd.S_below (sO HO_9.out) hb);replace HO_53:=Aside0.mk (Kd.S_below (sO HO_53.out) hb);replace HO_59:=Aside0.mk (Kd.S_below (sO HO_59.out) hb);replace HL409_0:=Aside0.mk (Kd.R_below (rO HL409_0.out) hb);replace BK394:=kb BK394 hb;replace BK395:=kb BK395 hb;replace BK400:=kb BK400 hb;replace BK401:=kb BK401 hb;replace HR408_0:=Aside0.mk (Kd.C_below (by repeat (first | (with_reducible exact HR408_0.out) | (with_reducible refine Kd.C_alloc ?_ _) | (with_reducible refine Kd.C_drewN ?_ _) | (with_reducible refine Kd.C_drew ?_) | exact HR408_0.out)) hb);replace HR409_0:=Aside0.mk (Kd.C_below (by repeat (first | (with_reducible exact HR409_0.out) | (with_reducible refine Kd.C_alloc ?_ _) | (with_reducible refine Kd.C_drewN ?_ _) | (with_reducible refine Kd.C_drew ?_) | exact HR409_0.out)) hb);replace HB:=sb hb;(try clear hb);(try clear hb2);(try clear hk);(try clear hi)) | (go_at_call 115;(with_reducible refine (impl_beside.calls k3 _ _ (rd_L3 t402 x61_3) _ _ (rd_L3 t405 x55_2) false _ ?side1 ?side2 ?side3 ?side4 A78.out).mono ?_);(case side1 => repeat (first | exact (by repeat (first | (with_reducible exact HR409_0.out) | (with_reducible refine Kd.C_alloc ?_ _) | (with_reducible refine Kd.C_drewN ?_ _) | (with_reducible refine Kd.C_drew ?_) | exact HR409_0.out)) | (with_reducible refine Kd.C_alloc ?_ _) | (with_reducible refine Kd.C_drewN ?_ _) | (with_reducible refine Kd.C_drew ?_)));(case side2 => exact HC409_0.out);(case side3 => repeat (first | exact (Kd.C_below HR408_0.out HB.out) | exact HR408_0.out | (with_reducible refine Kd.C_alloc ?_ _) | (with_reducible refine Kd.C_drewN ?_ _) | (with_reducible refine Kd.C_drew ?_)));(case side4 => exact HC408_0.out);rintro e w83 ⟨rfl,hb⟩;replace HO_9:=Aside0.mk (Kd.S_below (sO HO_9.out) hb);replace HO_53:=Aside0.mk (Kd.S_below (sO HO_53.out) hb);replace HO_59:=Aside0.mk (Kd.S_below (sO HO_59.out) hb);replace HL409_0:=Aside0.mk (Kd.R_below (rO HL409_0.out) hb);replace BK394:=kb BK394 hb;replace BK395:=kb BK395 hb;replace BK400:=kb BK400 hb;replace BK401:=kb BK401 hb;replace HR408_0:=Aside0.mk (Kd.C_below (by repeat (first | (with_reducible exact HR408_0.out) | (with_reducible refine Kd.C_alloc ?_ _) | (with_reducible refine Kd.C_drewN ?_ _) | (with_reducible refine Kd.C_drew ?_) | exact HR408_0.out)) hb);replace HR409_0:=Aside0.mk (Kd.C_below (by repeat (first | (with_reducible exact HR409_0.out) | (with_reducible refine Kd.C_alloc ?_ _) | (with_reducible refine Kd.C_drewN ?_ _) | (with_reducible refine Kd.C_drew ?_) | exact HR409_0.out)) hb);replace HB:=sb hb;(try clear hb);(try clear hb2);(try clear hk);(try clear hi)))
                go_ret
                exact ⟨by first | rfl | (simp [errW_none,errW_some] <;> rfl) | (simp [*,errW_none,errW_some] <;> rfl),ib⟩
             ·first | (exfalso;have z_:=of_decide_eq_true c72b0;omega) | (rw [if_neg c74] at H;exact absurd H (by simp))
            ·rw [if_neg c73] at H
             exact absurd H (by simp)
           ·rw [if_neg c72] at H
            have c72b0 : decide (x61_3 < (t402.length : Int)) = false:=decide_eq_false c72
            clear c72
            have H':=Aside0.mk H
            clear H
            go_wp2
            go_roundg k3
            case measure => have:=HJ4.out;have:=HK2.out;have:=HK3.out;omega
            case rel => exact ⟨(wrap64 (x55_2 + 1)),(by first | rfl | (simp;done) | (simp [*];done)),H',⟨by have:=HJ4.out;have:=HK2.out;have:=HK3.out;omega⟩,⟨sO HO_9.out⟩,⟨sO (Kd.S_mono HO_53.out (fun _ hk => ⟨hk.1,⟨hk.2.2.1,⟨hk.2.2.2.1,⟨hk.2.2.2.2.1,hk.2.2.2.2.2⟩⟩⟩⟩))⟩,⟨by exact bk BK394⟩,⟨by exact bk BK395⟩,⟨by exact bk BK400⟩,⟨by exact bk BK401⟩,⟨ib⟩⟩
        ·first | (exfalso;have z_:=of_decide_eq_true c68b0;omega) | (rw [if_neg c70] at H;exact absurd H (by simp))
       ·rw [if_neg c69] at H
        exact absurd H (by simp)
      ·rw [if_neg c68] at H
       have c68b0 : decide (x55_2 < (t405.length : Int)) = false:=decide_eq_false c68
       clear c68
       obtain rfl:=Option.some.inj H
       go_wp2
       go_ret
       exact ⟨by first | rfl | (simp [errW_none,errW_some] <;> rfl) | (simp [*,errW_none,errW_some] <;> rfl),ib⟩
end Go.Proofs.Ytnnchaggdnlfmaa.PFnExactDisjoint
