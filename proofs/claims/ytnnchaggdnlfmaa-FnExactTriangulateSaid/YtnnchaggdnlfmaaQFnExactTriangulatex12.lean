/- Contracts of functions that FnExactTriangulate reaches, out of the lines of the kit's print. -/
import Derived.Test.YtnnchaggdnlfmaaQFnExactTriangulatex0
import Derived.Test.YtnnchaggdnlfmaaQFnExactTriangulatex9
namespace Go.Proofs.Ytnnchaggdnlfmaa.PFnExactTriangulate
set_option maxHeartbeats 8000000
set_option maxRecDepth 100000
open Go.RowKit Go.Proofs.YtnnchaggdnlfmaaW.PrintWords Go.Proofs.YtnnchaggdnlfmaaW.PrintLast Go.Proofs.YtnnchaggdnlfmaaW.PrintMore
open Bool renaming true → tT, false → fF
open Go.World renaming block_lt_of_cell? → bL
attribute [local go_sem] max2_int min2_int max_two min_two max_three min_three max_four min_four
set_option linter.unusedVariables false
set_option linter.unusedSimpArgs false
def impl_Point_110.f (l0 : List (S73)) : Option (List (S73)):=if l0.length < 8796093022208 then some l0 else none
theorem impl_Point_110.calls (A0 : Option Addr) (c0 : Nat) (l0 : List (S73)) (r : List (S73)) (w : World) (hr0 : Kd.C k73 w A0 l0.length l0) (hc0 : l0.length ≤ c0) (h : impl_Point_110.f l0 = some r) :
  Calls Try.prog 110 #[.slice A0 l0.length c0] w fun e w' => ∃ v0_ : Value,e = .returned (v0_) ∧ Kd.R k73 73 w' w.heap.size (fun _ => True) v0_ r ∧ Below w.heap.size w w':=by
 have hu73:=Try.underlying73
 have qSL : ∀ (W : World) (a : Option Addr) (n c : Nat),(binOp .eql 25 (.slice a n c) (.slice none 0 0)).run Try.prog W = .ok (.bool a.isNone) W:=fun W a n c => Lib.run_eql_slice_nil W _ _ a n c 0 0 Try.underlying25
 have HR0:=Aside0.mk hr0
 have HC0:=Aside0.mk hc0
 clear hr0 hc0
 have HB:=Aside0.mk (Below.refl w.heap.size w)
 unfold impl_Point_110.f at h
 by_cases c2 : l0.length < 8796093022208
 ·rw [if_pos c2] at h
  obtain rfl:=Option.some.inj h
  clear h
  cases A0 with
  | none =>
   have h0 : l0 = []:=by
    refine List.eq_nil_of_length_eq_zero (Nat.eq_zero_of_not_pos fun hp => ?_)
    obtain ⟨ad,he,_⟩:=HR0.out.2.2 hp
    cases he
   subst h0
   go_enter Try.func110,Try.ntmps110
   go_wp2
   go_ret
   exact ⟨_,rfl,Kd.R_nil _ _ _ _ _,ib⟩
  | some a =>
   go_enter Try.func110,Try.ntmps110
   go_wp2_with (first | ((with_reducible refine gate_dst (N:=5) rfl ?_);refine Kd.R_lit k73 _ 73 ?hg (N:=5) ?hd (xs:=([] : List (S73))) (inner:=[]) (ok:=fun _ => True) (okp:=fun _ => True) ?hr ?hp (fun _ hk => hk) trivial (Below.refl _ _) (Nat.le_refl _) (by simp) ?_;(case hd => rfl);(case hg => rfl);(case hr => first | (go_simp;done) | (go_simp;rfl));(case hp => exact (Reps.none _ _));intro v188 w3 ho4 hb hg_ hnew_;clear hg_ hnew_;have HO189:=Aside0.mk (Kd.R_lower ho4 (below_size ib));replace HB:=sb hb;clear hb ho4) | ((with_reducible refine gate_builtin (b:=.append) (xs:=#[.tmp 5,.tmp 6]) rfl ?_);at_builtin;refine Kd.R_append_rows k73 (w0:=w) w.heap.size rfl (.tmp 5) (.tmp 6) 25 73 (.agg #[(.int .i64 0),(.int .i64 0)]) 16 rfl Try.underlying25 info73 rfl (by decide) (by omega) v188 [] l0 _ _ _ (fun _ => True) (fun _ => False) rfl rfl ?aO ?aR (fun _ _ h => h) (fun _ h => h.elim) ?aF ?aB ?aS ?aL ?_;(case aR => exact cO ((Kd.C_below HR0.out HB.out)));(case aB => exact ib);(case aF => exact (fun _ _ => trivial));(case aO => exact (rO HO189.out));(case aS => exact (below_size ib));(case aL => (have:=c2);simp only [List.length_nil];omega);intro v191 w5 ho hb hg hat;rw [List.nil_append] at ho;replace HB:=Aside0.mk (hb);have HO192:=Aside0.mk (ho);clear HO189;clear ho hb hg hat))
   go_ret
   exact ⟨_,rfl,rO HO192.out,ib⟩
 ·rw [if_neg c2] at h
  cases h
def impl_inTriangle.f (a0_0 : Int) (a0_1 : Int) (a1_0 : Int) (a1_1 : Int) (a2_0 : Int) (a2_1 : Int) (a3_0 : Int) (a3_1 : Int) : Option (Bool):=(impl_side.f a0_0 a0_1 a1_0 a1_1 a3_0 a3_1).bind fun t317 => (if t317 ≥ 0 then ((impl_side.f a1_0 a1_1 a2_0 a2_1 a3_0 a3_1).bind fun t318 => (if t318 ≥ 0 then ((impl_side.f a2_0 a2_1 a0_0 a0_1 a3_0 a3_1).bind fun t319 => (some (decide (t319 ≥ 0)))) else (some false))) else (some false))
theorem impl_inTriangle.calls (a0_0 : Int) (a0_1 : Int) (a1_0 : Int) (a1_1 : Int) (a2_0 : Int) (a2_1 : Int) (a3_0 : Int) (a3_1 : Int) (r : Bool) (w : World) (h : impl_inTriangle.f a0_0 a0_1 a1_0 a1_1 a2_0 a2_1 a3_0 a3_1 = some r) :
  Calls Try.prog 150 #[.agg #[.int .i64 a0_0,.int .i64 a0_1],.agg #[.int .i64 a1_0,.int .i64 a1_1],.agg #[.int .i64 a2_0,.int .i64 a2_1],.agg #[.int .i64 a3_0,.int .i64 a3_1]] w fun e w' => e = .returned (.bool r) ∧ Below w.heap.size w w':=by
 have hu73:=Try.underlying73
 have HB:=Aside0.mk (Below.refl w.heap.size w)
 have H : ((impl_side.f a0_0 a0_1 a1_0 a1_1 a3_0 a3_1).bind fun t317 => (if t317 ≥ 0 then ((impl_side.f a1_0 a1_1 a2_0 a2_1 a3_0 a3_1).bind fun t318 => (if t318 ≥ 0 then ((impl_side.f a2_0 a2_1 a0_0 a0_1 a3_0 a3_1).bind fun t319 => (some (decide (t319 ≥ 0)))) else (some false))) else (some false))) = some r:=h
 clear h
 replace H:=Option.bind_eq_some_iff.mp H
 obtain ⟨t317,A50,H⟩:=H
 replace H : (if t317 ≥ 0 then ((impl_side.f a1_0 a1_1 a2_0 a2_1 a3_0 a3_1).bind fun t318 => (if t318 ≥ 0 then ((impl_side.f a2_0 a2_1 a0_0 a0_1 a3_0 a3_1).bind fun t319 => (some (decide (t319 ≥ 0)))) else (some false))) else (some false)) = some r:=H
 have A5:=Aside0.mk A50
 clear A50
 by_cases c6 : t317 ≥ 0
 ·rw [if_pos c6] at H
  have c6b0 : decide (0 ≤ t317) = true:=decide_eq_true c6
  clear c6
  replace H:=Option.bind_eq_some_iff.mp H
  obtain ⟨t318,A70,H⟩:=H
  replace H : (if t318 ≥ 0 then ((impl_side.f a2_0 a2_1 a0_0 a0_1 a3_0 a3_1).bind fun t319 => (some (decide (t319 ≥ 0)))) else (some false)) = some r:=H
  have A7:=Aside0.mk A70
  clear A70
  by_cases c8 : t318 ≥ 0
  ·rw [if_pos c8] at H
   have c8b0 : decide (0 ≤ t318) = true:=decide_eq_true c8
   clear c8
   replace H:=Option.bind_eq_some_iff.mp H
   obtain ⟨t319,A90,H⟩:=H
   replace H : (some (decide (t319 ≥ 0))) = some r:=H
   have A9:=Aside0.mk A90
   clear A90
   obtain rfl:=Option.some.inj H
   go_enter Try.func150,Try.ntmps150
   go_wp2_with (first | ((with_reducible refine gate_dst (N:=4) rfl ?_);refine bx (cs:=#[.int .i64 a0_0,.int .i64 a0_1]) (t:=73) ?_;intro gb313 hg w10 hbox hb;have BK313:=Aside0.mk (hbox);have GW313:=zb hg;have GE313:=zb hg;replace HB:=sb hb;clear hb hbox hg) | ((with_reducible refine gate_dst (N:=5) rfl ?_);refine bx (cs:=#[.int .i64 a1_0,.int .i64 a1_1]) (t:=73) ?_;intro gb314 hg w11 hbox hb;have BK314:=Aside0.mk (hbox);have GW314:=zb hg;have GE314:=zb hg;replace HB:=sb hb;have NB313_314:=nl BK313 hg;have NB314_313:=ng BK313 hg;replace BK313:=kb BK313 hb;clear hb hbox hg) | ((with_reducible refine gate_dst (N:=6) rfl ?_);refine bx (cs:=#[.int .i64 a2_0,.int .i64 a2_1]) (t:=73) ?_;intro gb315 hg w12 hbox hb;have BK315:=Aside0.mk (hbox);have GW315:=zb hg;have GE315:=zb hg;replace HB:=sb hb;have NB313_315:=nl BK313 hg;have NB315_313:=ng BK313 hg;replace BK313:=kb BK313 hb;have NB314_315:=nl BK314 hg;have NB315_314:=ng BK314 hg;replace BK314:=kb BK314 hb;clear hb hbox hg) | ((with_reducible refine gate_dst (N:=7) rfl ?_);refine bx (cs:=#[.int .i64 a3_0,.int .i64 a3_1]) (t:=73) ?_;intro gb316 hg w13 hbox hb;have BK316:=Aside0.mk (hbox);have GW316:=zb hg;have GE316:=zb hg;replace HB:=sb hb;have NB313_316:=nl BK313 hg;have NB316_313:=ng BK313 hg;replace BK313:=kb BK313 hb;have NB314_316:=nl BK314 hg;have NB316_314:=ng BK314 hg;replace BK314:=kb BK314 hb;have NB315_316:=nl BK315 hg;have NB316_315:=ng BK315 hg;replace BK315:=kb BK315 hb;clear hb hbox hg;have hnb14:=NB313_314.out;have hnc14:=NB314_313.out;have hnb15:=NB313_315.out;have hnc15:=NB315_313.out;have hnb16:=NB313_316.out;have hnc16:=NB316_313.out;have hcz17_0:=ck BK313 0;have hcz17_1:=ck BK313 1;have hfz17_0:=blk_frozen BK313.out 0;have hfz17_1:=blk_frozen BK313.out 1;have hnb18:=NB314_315.out;have hnc18:=NB315_314.out;have hnb19:=NB314_316.out;have hnc19:=NB316_314.out;have hcz20_0:=ck BK314 0;have hcz20_1:=ck BK314 1;have hfz20_0:=blk_frozen BK314.out 0;have hfz20_1:=blk_frozen BK314.out 1;have hnb21:=NB316_315.out;have hnc21:=NB315_316.out;have hcz22_0:=ck BK316 0;have hcz22_1:=ck BK316 1;have hfz22_0:=blk_frozen BK316.out 0;have hfz22_1:=blk_frozen BK316.out 1) | ((with_reducible refine gate_callee (f:=147) rfl ?_);refine goesL_ (some 12) rfl rfl Try.func147 (by kernel_rfl) rfl #[.agg #[.int .i64 a0_0,.int .i64 a0_1],.agg #[.int .i64 a1_0,.int .i64 a1_1],.agg #[.int .i64 a3_0,.int .i64 a3_1]] rfl (by (try simp only [List.map_toArray,List.map_cons,List.map_nil]);first | done | rfl | (simp only [List.length_drop,List.length_take];rfl)) ?_;(with_reducible refine (impl_side.calls a0_0 a0_1 a1_0 a1_1 a3_0 a3_1 t317 _ A5.out).mono ?_);rintro e w23 ⟨rfl,hb⟩;refine ⟨_,rfl,?_⟩;replace BK313:=kb BK313 hb;replace BK314:=kb BK314 hb;replace BK315:=kb BK315 hb;replace BK316:=kb BK316 hb;replace HB:=sb hb;(try clear hb);(try clear hb2);(try clear hk);(try clear hi);have hcz24_0:=ck BK314 0;have hcz24_1:=ck BK314 1;have hfz24_0:=blk_frozen BK314.out 0;have hfz24_1:=blk_frozen BK314.out 1;have hcz25_0:=ck BK315 0;have hcz25_1:=ck BK315 1;have hfz25_0:=blk_frozen BK315.out 0;have hfz25_1:=blk_frozen BK315.out 1;have hcz26_0:=ck BK316 0;have hcz26_1:=ck BK316 1;have hfz26_0:=blk_frozen BK316.out 0;have hfz26_1:=blk_frozen BK316.out 1) | (go_at_call 147;(with_reducible refine (impl_side.calls a1_0 a1_1 a2_0 a2_1 a3_0 a3_1 t318 _ A7.out).mono ?_);rintro e w27 ⟨rfl,hb⟩;replace BK313:=kb BK313 hb;replace BK314:=kb BK314 hb;replace BK315:=kb BK315 hb;replace BK316:=kb BK316 hb;replace HB:=sb hb;(try clear hb);(try clear hb2);(try clear hk);(try clear hi);have hcz28_0:=ck BK315 0;have hcz28_1:=ck BK315 1;have hfz28_0:=blk_frozen BK315.out 0;have hfz28_1:=blk_frozen BK315.out 1;have hcz29_0:=ck BK313 0;have hcz29_1:=ck BK313 1;have hfz29_0:=blk_frozen BK313.out 0;have hfz29_1:=blk_frozen BK313.out 1;have hcz30_0:=ck BK316 0;have hcz30_1:=ck BK316 1;have hfz30_0:=blk_frozen BK316.out 0;have hfz30_1:=blk_frozen BK316.out 1) | (go_at_call 147;(with_reducible refine (impl_side.calls a2_0 a2_1 a0_0 a0_1 a3_0 a3_1 t319 _ A9.out).mono ?_);rintro e w31 ⟨rfl,hb⟩;replace BK313:=kb BK313 hb;replace BK314:=kb BK314 hb;replace BK315:=kb BK315 hb;replace BK316:=kb BK316 hb;replace HB:=sb hb;(try clear hb);(try clear hb2);(try clear hk);(try clear hi)))
   go_ret
   exact ⟨by first | rfl | (simp [errW_none,errW_some] <;> rfl) | (simp [*,errW_none,errW_some] <;> rfl),ib⟩
  ·rw [if_neg c8] at H
   have c8b0 : decide (0 ≤ t318) = false:=decide_eq_false c8
   clear c8
   obtain rfl:=Option.some.inj H
   go_enter Try.func150,Try.ntmps150
   go_wp2_with (first | ((with_reducible refine gate_dst (N:=4) rfl ?_);refine bx (cs:=#[.int .i64 a0_0,.int .i64 a0_1]) (t:=73) ?_;intro gb313 hg w32 hbox hb;have BK313:=Aside0.mk (hbox);have GW313:=zb hg;have GE313:=zb hg;replace HB:=sb hb;clear hb hbox hg) | ((with_reducible refine gate_dst (N:=5) rfl ?_);refine bx (cs:=#[.int .i64 a1_0,.int .i64 a1_1]) (t:=73) ?_;intro gb314 hg w33 hbox hb;have BK314:=Aside0.mk (hbox);have GW314:=zb hg;have GE314:=zb hg;replace HB:=sb hb;have NB313_314:=nl BK313 hg;have NB314_313:=ng BK313 hg;replace BK313:=kb BK313 hb;clear hb hbox hg) | ((with_reducible refine gate_dst (N:=6) rfl ?_);refine bx (cs:=#[.int .i64 a2_0,.int .i64 a2_1]) (t:=73) ?_;intro gb315 hg w34 hbox hb;have BK315:=Aside0.mk (hbox);have GW315:=zb hg;have GE315:=zb hg;replace HB:=sb hb;have NB313_315:=nl BK313 hg;have NB315_313:=ng BK313 hg;replace BK313:=kb BK313 hb;have NB314_315:=nl BK314 hg;have NB315_314:=ng BK314 hg;replace BK314:=kb BK314 hb;clear hb hbox hg) | ((with_reducible refine gate_dst (N:=7) rfl ?_);refine bx (cs:=#[.int .i64 a3_0,.int .i64 a3_1]) (t:=73) ?_;intro gb316 hg w35 hbox hb;have BK316:=Aside0.mk (hbox);have GW316:=zb hg;have GE316:=zb hg;replace HB:=sb hb;have NB313_316:=nl BK313 hg;have NB316_313:=ng BK313 hg;replace BK313:=kb BK313 hb;have NB314_316:=nl BK314 hg;have NB316_314:=ng BK314 hg;replace BK314:=kb BK314 hb;have NB315_316:=nl BK315 hg;have NB316_315:=ng BK315 hg;replace BK315:=kb BK315 hb;clear hb hbox hg;have hnb36:=NB313_314.out;have hnc36:=NB314_313.out;have hnb37:=NB313_315.out;have hnc37:=NB315_313.out;have hnb38:=NB313_316.out;have hnc38:=NB316_313.out;have hcz39_0:=ck BK313 0;have hcz39_1:=ck BK313 1;have hfz39_0:=blk_frozen BK313.out 0;have hfz39_1:=blk_frozen BK313.out 1;have hnb40:=NB314_315.out;have hnc40:=NB315_314.out;have hnb41:=NB314_316.out;have hnc41:=NB316_314.out;have hcz42_0:=ck BK314 0;have hcz42_1:=ck BK314 1;have hfz42_0:=blk_frozen BK314.out 0;have hfz42_1:=blk_frozen BK314.out 1;have hnb43:=NB316_315.out;have hnc43:=NB315_316.out;have hcz44_0:=ck BK316 0;have hcz44_1:=ck BK316 1;have hfz44_0:=blk_frozen BK316.out 0;have hfz44_1:=blk_frozen BK316.out 1) | ((with_reducible refine gate_callee (f:=147) rfl ?_);refine goesL_ (some 12) rfl rfl Try.func147 (by kernel_rfl) rfl #[.agg #[.int .i64 a0_0,.int .i64 a0_1],.agg #[.int .i64 a1_0,.int .i64 a1_1],.agg #[.int .i64 a3_0,.int .i64 a3_1]] rfl (by (try simp only [List.map_toArray,List.map_cons,List.map_nil]);first | done | rfl | (simp only [List.length_drop,List.length_take];rfl)) ?_;(with_reducible refine (impl_side.calls a0_0 a0_1 a1_0 a1_1 a3_0 a3_1 t317 _ A5.out).mono ?_);rintro e w45 ⟨rfl,hb⟩;refine ⟨_,rfl,?_⟩;replace BK313:=kb BK313 hb;replace BK314:=kb BK314 hb;replace BK315:=kb BK315 hb;replace BK316:=kb BK316 hb;replace HB:=sb hb;(try clear hb);(try clear hb2);(try clear hk);(try clear hi);have hcz46_0:=ck BK314 0;have hcz46_1:=ck BK314 1;have hfz46_0:=blk_frozen BK314.out 0;have hfz46_1:=blk_frozen BK314.out 1;have hcz47_0:=ck BK315 0;have hcz47_1:=ck BK315 1;have hfz47_0:=blk_frozen BK315.out 0;have hfz47_1:=blk_frozen BK315.out 1;have hcz48_0:=ck BK316 0;have hcz48_1:=ck BK316 1;have hfz48_0:=blk_frozen BK316.out 0;have hfz48_1:=blk_frozen BK316.out 1) | (go_at_call 147;(with_reducible refine (impl_side.calls a1_0 a1_1 a2_0 a2_1 a3_0 a3_1 t318 _ A7.out).mono ?_);rintro e w49 ⟨rfl,hb⟩;replace BK313:=kb BK313 hb;replace BK314:=kb BK314 hb;replace BK315:=kb BK315 hb;replace BK316:=kb BK316 hb;replace HB:=sb hb;(try clear hb);(try clear hb2);(try clear hk);(try clear hi)))
   go_ret
   exact ⟨by first | rfl | (simp [errW_none,errW_some] <;> rfl) | (simp [*,errW_none,errW_some] <;> rfl),ib⟩
 ·rw [if_neg c6] at H
  have c6b0 : decide (0 ≤ t317) = false:=decide_eq_false c6
  clear c6
  obtain rfl:=Option.some.inj H
  go_enter Try.func150,Try.ntmps150
  go_wp2_with (first | ((with_reducible refine gate_dst (N:=4) rfl ?_);refine bx (cs:=#[.int .i64 a0_0,.int .i64 a0_1]) (t:=73) ?_;intro gb313 hg w50 hbox hb;have BK313:=Aside0.mk (hbox);have GW313:=zb hg;have GE313:=zb hg;replace HB:=sb hb;clear hb hbox hg) | ((with_reducible refine gate_dst (N:=5) rfl ?_);refine bx (cs:=#[.int .i64 a1_0,.int .i64 a1_1]) (t:=73) ?_;intro gb314 hg w51 hbox hb;have BK314:=Aside0.mk (hbox);have GW314:=zb hg;have GE314:=zb hg;replace HB:=sb hb;have NB313_314:=nl BK313 hg;have NB314_313:=ng BK313 hg;replace BK313:=kb BK313 hb;clear hb hbox hg) | ((with_reducible refine gate_dst (N:=6) rfl ?_);refine bx (cs:=#[.int .i64 a2_0,.int .i64 a2_1]) (t:=73) ?_;intro gb315 hg w52 hbox hb;have BK315:=Aside0.mk (hbox);have GW315:=zb hg;have GE315:=zb hg;replace HB:=sb hb;have NB313_315:=nl BK313 hg;have NB315_313:=ng BK313 hg;replace BK313:=kb BK313 hb;have NB314_315:=nl BK314 hg;have NB315_314:=ng BK314 hg;replace BK314:=kb BK314 hb;clear hb hbox hg) | ((with_reducible refine gate_dst (N:=7) rfl ?_);refine bx (cs:=#[.int .i64 a3_0,.int .i64 a3_1]) (t:=73) ?_;intro gb316 hg w53 hbox hb;have BK316:=Aside0.mk (hbox);have GW316:=zb hg;have GE316:=zb hg;replace HB:=sb hb;have NB313_316:=nl BK313 hg;have NB316_313:=ng BK313 hg;replace BK313:=kb BK313 hb;have NB314_316:=nl BK314 hg;have NB316_314:=ng BK314 hg;replace BK314:=kb BK314 hb;have NB315_316:=nl BK315 hg;have NB316_315:=ng BK315 hg;replace BK315:=kb BK315 hb;clear hb hbox hg;have hnb54:=NB313_314.out;have hnc54:=NB314_313.out;have hnb55:=NB313_315.out;have hnc55:=NB315_313.out;have hnb56:=NB313_316.out;have hnc56:=NB316_313.out;have hcz57_0:=ck BK313 0;have hcz57_1:=ck BK313 1;have hfz57_0:=blk_frozen BK313.out 0;have hfz57_1:=blk_frozen BK313.out 1;have hnb58:=NB314_315.out;have hnc58:=NB315_314.out;have hnb59:=NB314_316.out;have hnc59:=NB316_314.out;have hcz60_0:=ck BK314 0;have hcz60_1:=ck BK314 1;have hfz60_0:=blk_frozen BK314.out 0;have hfz60_1:=blk_frozen BK314.out 1;have hnb61:=NB316_315.out;have hnc61:=NB315_316.out;have hcz62_0:=ck BK316 0;have hcz62_1:=ck BK316 1;have hfz62_0:=blk_frozen BK316.out 0;have hfz62_1:=blk_frozen BK316.out 1) | ((with_reducible refine gate_callee (f:=147) rfl ?_);refine goesL_ (some 12) rfl rfl Try.func147 (by kernel_rfl) rfl #[.agg #[.int .i64 a0_0,.int .i64 a0_1],.agg #[.int .i64 a1_0,.int .i64 a1_1],.agg #[.int .i64 a3_0,.int .i64 a3_1]] rfl (by (try simp only [List.map_toArray,List.map_cons,List.map_nil]);first | done | rfl | (simp only [List.length_drop,List.length_take];rfl)) ?_;(with_reducible refine (impl_side.calls a0_0 a0_1 a1_0 a1_1 a3_0 a3_1 t317 _ A5.out).mono ?_);rintro e w63 ⟨rfl,hb⟩;refine ⟨_,rfl,?_⟩;replace BK313:=kb BK313 hb;replace BK314:=kb BK314 hb;replace BK315:=kb BK315 hb;replace BK316:=kb BK316 hb;replace HB:=sb hb;(try clear hb);(try clear hb2);(try clear hk);(try clear hi)))
  go_ret
  exact ⟨by first | rfl | (simp [errW_none,errW_some] <;> rfl) | (simp [*,errW_none,errW_some] <;> rfl),ib⟩
end Go.Proofs.Ytnnchaggdnlfmaa.PFnExactTriangulate
