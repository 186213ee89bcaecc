/- Contracts of functions that FnExactEdgesOf reaches, out of the lines of the kit's print. -/
import Derived.Test.YtpeebobdbaemiaaQFnExactEdgesOfx0
import Derived.Test.YtpeebobdbaemiaaQFnExactEdgesOfx2
import Derived.Test.YtpeebobdbaemiaaQFnExactEdgesOfx5
namespace Go.Proofs.Ytpeebobdbaemiaa.PFnExactEdgesOf
set_option maxHeartbeats 8000000
set_option maxRecDepth 100000
open Go.RowKit Go.Proofs.YtpeebobdbaemiaaW.PrintWords Go.Proofs.YtpeebobdbaemiaaW.PrintLast Go.Proofs.YtpeebobdbaemiaaW.PrintMore
open Bool renaming true → tT, false → fF
open Go.World renaming block_lt_of_cell? → bL
open List renaming length_take → lT, length_drop → lD, map_toArray → mT, map_cons → mC, map_nil → mN
open Option renaming bind_eq_some_iff → bE
attribute [local go_sem] max2_int min2_int max_two min_two max_three min_three max_four min_four
set_option linter.unusedVariables false
set_option linter.unusedSimpArgs false
attribute [local go_sem high] eqA78
def laws_markFaceS.l0 : Nat → List (S64) → Int → Int → Option (Int × List (S64))
 | 0,_,_,_ => none
 | k + 1,x0,x1,x5 => if x5 < (x0.length : Int) then (if 0 ≤ x5 then ((laws_markText.f k x1).bind fun t => ((laws_markInt64S.f k ((x0.set x5.toNat (⟨t,(x0.getD x5.toNat z64).f1⟩ : S64)).getD x5.toNat z64).f1 (wrap64 (x1 + 1))).bind fun bt => (laws_markFaceS.l0 k ((x0.set x5.toNat (⟨t,(x0.getD x5.toNat z64).f1⟩ : S64)).set x5.toNat (⟨((x0.set x5.toNat (⟨t,(x0.getD x5.toNat z64).f1⟩ : S64)).getD x5.toNat z64).f0,bt.2⟩ : S64)) bt.1 (wrap64 (x5 + 1))))) else (none)) else (some (x1,x0))
def laws_markFaceS.f (k : Nat) (l0 : List (S64)) (a1 : Int) : Option (Int × List (S64)):=laws_markFaceS.l0 k l0 a1 0
theorem laws_markFaceS.calls (k : Nat) (P0_ : Nat → Prop) (u9000_ : Value) (l0 : List (S64)) (a1 : Int) (r1 : Int) (r2 : List (S64)) (w0 w : World) (hB : Below w0.heap.size w0 w) (ho0 : Kd.S k64 64 w w0.heap.size P0_ u9000_ l0) (h : laws_markFaceS.f k l0 a1 = some (r1,r2)) :
  Calls Try.prog 31 #[u9000_,.int .i64 a1] w fun e w' => e = .returned (.int .i64 r1) ∧ Kd.S k64 64 w' w0.heap.size (fun k_ => (P0_ k_ ∨ w.heap.size ≤ k_)) u9000_ r2 ∧ Below w0.heap.size w0 w' ∧ Kept w w' (fun k_ => P0_ k_):=by
 have HO0:=Aside0.mk (show Kd.S k64 64 w w0.heap.size (fun k_ => (P0_ k_ ∨ w.heap.size ≤ k_)) u9000_ l0 from Kd.S_mono ho0 (fun k_ hk => (.inl hk)))
 have HK:=Aside0.mk (Kept.refl w (fun k_ => P0_ k_))
 have HB:=Aside0.mk hB
 clear hB ho0
 have H : (laws_markFaceS.l0 k l0 a1 0) = some (r1,r2):=h
 clear h
 have H':=Aside0.mk H
 clear H
 have HO_0:=HO0
 clear HO0
 go_enter Try.func31,Try.ntmps31
 go_wp2
 go_loopg [1,5] k (fun kq v1 v5 w' => ∃ (x0_1 : List (S64)) (x1_1 : Int) (x5_1 : Int),v1 = .int .i64 x1_1 ∧ v5 = .int .i64 x5_1 ∧ Aside0 (laws_markFaceS.l0 kq x0_1 x1_1 x5_1 = some (r1,r2)) ∧ Aside0 (kq ≤ k) ∧ Aside0 (Kd.S k64 64 w' w0.heap.size (fun k_ => (P0_ k_ ∨ w.heap.size ≤ k_)) u9000_ x0_1) ∧ Aside0 (Kept w w' (fun k_ => P0_ k_)) ∧ Aside0 (Below w0.heap.size w0 w'))
 case atStart => exact ⟨(l0),(a1),(0),(by first | rfl | (simp;done) | (simp [*];done)),(by first | rfl | (simp;done) | (simp [*];done)),H',⟨Nat.le_refl _⟩,⟨(sO HO_0.out)⟩,⟨(by repeat (first | (with_reducible first | exact HK.out | apply Kept.alloc | apply Kept.drewN | apply Kept.drew) | exact HK.out))⟩,⟨ib⟩⟩
 case round =>
  clear H' HO_0 HK HB
  obtain ⟨x0_1,x1_1,x5_1,rfl,rfl,HA,HK1,HO_0,HK,HB⟩:=hrel
  cases gk with
  | zero => exact absurd HA.out (by simp [laws_markFaceS.l0])
  | succ k1 =>
   have H:=HA.out
   clear HA
   simp only [laws_markFaceS.l0] at H
   by_cases c3 : x5_1 < (x0_1.length : Int)
   ·rw [if_pos c3] at H
    have c3b0 : decide (x5_1 < (x0_1.length : Int)) = true:=decide_eq_true c3
    by_cases c4 : 0 ≤ x5_1
    ·rw [if_pos c4] at H
     have c4b0 : decide (0 ≤ x5_1) = true:=decide_eq_true c4
     obtain ⟨t5,A40_,H⟩:=bE.mp H
     obtain ⟨y0,hy0⟩ : ∃ y_ : List (S64),(x0_1.set x5_1.toNat (⟨t5,(x0_1.getD x5_1.toNat z64).f1⟩ : S64)) = y_:=⟨_,rfl⟩
     rw [hy0] at H
     obtain ⟨⟨y1,y2⟩,A50_,H⟩:=bE.mp H
     replace H : (laws_markFaceS.l0 k1 (y0.set x5_1.toNat (⟨(y0.getD x5_1.toNat z64).f0,y2⟩ : S64)) y1 (wrap64 (x5_1 + 1))) = some (r1,r2):=H
     obtain ⟨y5,hy5⟩ : ∃ y_ : S64,y0.getD x5_1.toNat z64 = y_:=⟨_,rfl⟩
     rw [hy5] at A50_ H
     have H':=Aside0.mk H
     clear H
     have A4:=Aside0.mk A40_
     have A5:=Aside0.mk A50_
     clear A40_ A50_
     have hly : y0.length = x0_1.length:=by rw [← hy0,List.length_set]
     have HY0:=Aside0.mk hy0
     have HY5:=Aside0.mk hy5
     have HLY:=Aside0.mk hly
     clear hy0 hy5 hly
     obtain ⟨go5,co5,eo5,gb5,gl5,cl5,HG5⟩:=Kd.S_form HO_0.out (by omega)
     subst eo5
     have GB5:=Aside0.mk gb5
     have HMgo5:=Aside0.mk (show (P0_ go5 ∨ w.heap.size ≤ go5) from (Kd.S_R HO_0.out).1 _ rfl)
     have HC34:=Aside0.mk (And.intro c4 c3)
     clear gb5 gl5 HG5
     replace c3:=eq_true c3
     replace c4:=eq_true c4
     go_wp2_with (first | ((with_reducible refine gate_callee (f:=52) rfl ?_);refine goesL_ (some 15) rfl rfl Try.func52 (by kernel_rfl) rfl #[.int .i64 x1_1] rfl (by (try simp only [mT,mC,mN]);first | done | rfl | (simp only [lD,lT];rfl)) ?_;(with_reducible refine (laws_markText.calls k1 x1_1 t5 _ A4.out).mono ?_);rintro e w6 ⟨rfl,hb⟩;refine ⟨_,rfl,?_⟩;replace HO_0:=Aside0.mk (Kd.S_below (sO HO_0.out) hb);replace HB:=Aside0.mk (below_weaken ib HB.out.size hb);replace HK:=Aside0.mk (Kept.below (by repeat (first | (with_reducible first | exact HK.out | apply Kept.alloc | apply Kept.drewN | apply Kept.drew) | exact HK.out)) hb);clear hb;obtain ⟨oki,c,hcl,hM,hcc,hfr,hoki,hH⟩:=Kd.S_elem HO_0.out z64 x5_1 HC34.out.1 HC34.out.2;obtain ⟨v5,rfl,hR⟩:=k64_openM hM;have hx5_0 : w6.cell? ⟨go5,x5_1.toNat * 2,none⟩ = some (.string (x0_1.getD x5_1.toNat z64).f0):=hcc 0 _ rfl;have hf5_0 : w6.frozen? ⟨go5,x5_1.toNat * 2,none⟩ = false:=hfr 0;have HP:=Aside0.mk (Kd.S_seg0 hH HC34.out.1 HC34.out.2 (seg:=[.string t5]) (j:=0) (show 1 ≤ 2 from by decide) (x':=(⟨t5,(x0_1.getD x5_1.toNat z64).f1⟩ : S64)) (k64_mkM _ _ _ (⟨t5,(x0_1.getD x5_1.toNat z64).f1⟩ : S64) hR) (fun _ h_ => h_));clear hcl hM hcc hfr hoki hH hR) | ((with_reducible refine gate_store (t:=9) (p:=17) rfl ?_);refine store_event (t:=9) (p:=17) (v:=?vo_w9) (w1:=(w6.setCell ⟨go5,x5_1.toNat * 2,none⟩ (.string t5))) ?hg ?ho ?hn ?hr ?_;(case ho => rfl);(case hg => rfl);(case hn => rfl);(case hr => first | (go_simp;done) | (go_simp;rfl));intro w9 hw;have hg : w6.grownBy w9 (some go5):=(by rw [hw];exact HP.out.2);have n0_:=Aside0.mk (show Kd.S k64 64 w9 w0.heap.size (fun k_ => (P0_ k_ ∨ w.heap.size ≤ k_)) (.slice (some ⟨go5,0,none⟩) x0_1.length co5) y0 from (by rw [hw,← HY0.out];exact HP.out.1));have n1_:=Aside0.mk ((by rw [hw];exact below_set (HB.out) GB5.out : Below w0.heap.size w0 w9));have n2_:=Aside0.mk (Kept.of_grown (S:=(fun k_ => P0_ k_)) hg HK.out (fun k_ e_ => (by injection e_ with e_;subst e_;exact HMgo5.out)));clear HO_0 HB HK HP hx5_0 hf5_0;have HO_0:=n0_;have HB:=n1_;have HK:=n2_;clear n0_ n1_ n2_ hg hw;obtain ⟨oki,c,hcl,hM,hcc,hoki,hH⟩:=Kd.S_lend HO_0.out z64 x5_1 HC34.out.1 HC34.out.2;rw [HY5.out] at hM;obtain ⟨v6,rfl,hR⟩:=k64_openM hM;obtain ⟨A6_,c6_,e6_⟩:=Kd.R_slice hR;subst e6_;have hx6_1 : w9.cell? ⟨go5,x5_1.toNat * 2 + 1,none⟩ = some (.slice A6_ y5.f1.length c6_):=hcc 1 _ rfl;have HR6:=Aside0.mk hR;have HH6:=Aside0.mk hH;have HOK:=Aside0.mk hoki;clear hcl hM hcc hR hH hoki) | ((with_reducible refine gate_callee (f:=12) rfl ?_);refine goesL_ (some 26) rfl rfl Try.func12 (by kernel_rfl) rfl #[.slice A6_ y5.f1.length c6_,.int .i64 (wrap64 (x1_1 + 1))] rfl (by (try simp only [mT,mC,mN]);first | done | rfl | (simp only [lD,lT];rfl)) ?_;(with_reducible refine (laws_markInt64S.calls k1 oki _ y5.f1 (wrap64 (x1_1 + 1)) y1 y2 w0 _ ib (rO HR6.out) A5.out).mono ?_);rintro e w10 ⟨rfl,ho,hb,hk⟩;refine ⟨_,rfl,?_⟩;have hK_ : Kept w w9 (fun k_ => P0_ k_):=(by repeat (first | (with_reducible first | exact HK.out | apply Kept.alloc | apply Kept.drewN | apply Kept.drew) | exact HK.out));replace HO_0:=Aside0.mk (Kd.H_back (Kd.H_step (Kd.H_widen (by (with_reducible repeat (first | apply Kd.H_drewN | apply Kd.H_drew));exact HH6.out)) (fun k_ _ hk2 hlt => hk.2 k_ hlt (fun h_ => hk2 (Or.inl h_)))) (okp:=fun k_ => oki k_ ∨ w9.heap.size ≤ k_) (x':=(⟨y5.f0,y2⟩ : S64)) (k64_mkM _ _ _ (⟨y5.f0,y2⟩ : S64) ho) (fun k_ h_ => Or.elim h_ Or.inl (fun h2_ => Or.inr (And.intro (Or.inr (Nat.le_trans hK_.1 h2_)) h2_))));replace HB:=Aside0.mk hb;replace HK:=Aside0.mk (Kept.then_ hK_ hk (fun k_ h_ => (HOK.out k_ h_).1));clear ho hb hk hK_ HR6 HH6 HOK))
     go_roundg k1
     case measure => have:=HK1.out;omega
     case rel => exact ⟨(y0.set x5_1.toNat (⟨y5.f0,y2⟩ : S64)),y1,(wrap64 (x5_1 + 1)),(by first | rfl | (simp;done) | (simp [*];done)),(by first | rfl | (simp;done) | (simp [*];done)),H',⟨by have:=HK1.out;omega⟩,⟨(sO HO_0.out)⟩,⟨(by repeat (first | (with_reducible first | exact HK.out | apply Kept.alloc | apply Kept.drewN | apply Kept.drew) | exact HK.out))⟩,⟨ib⟩⟩
    ·rw [if_neg c4] at H
     exact absurd H (by simp)
   ·rw [if_neg c3] at H
    have c3b0 : decide (x5_1 < (x0_1.length : Int)) = false:=decide_eq_false c3
    clear c3
    simp only [Option.some.injEq,Prod.mk.injEq] at H
    obtain ⟨rfl,rfl⟩:=H
    obtain ⟨Ao9,co9,eo9⟩:=Kd.S_slice HO_0.out
    subst eo9
    go_wp2
    go_ret
    exact ⟨by first | rfl | (simp [errW_none,errW_some] <;> rfl) | (simp [*,errW_none,errW_some] <;> rfl),(sO HO_0.out),ib,(by repeat (first | (with_reducible first | exact HK.out | apply Kept.alloc | apply Kept.drewN | apply Kept.drew) | exact HK.out))⟩
def laws_markDrawing.f (k : Nat) (a0_0 : Int) (a0_1 : Int) (l0_2 : List (S78)) (l0_3 : List (S64)) (a1 : Int) : Option (Int):=(laws_markPointS.f k l0_2 a1).bind fun bt => ((laws_markFaceS.f k l0_3 bt.1).bind fun bu => (some bu.1))
theorem laws_markDrawing.calls (k : Nat) (P0_ : Nat → Prop) (a0_0 : Int) (a0_1 : Int) (u9000_ : Value) (l0_2 : List (S78)) (u9001_ : Value) (l0_3 : List (S64)) (a1 : Int) (r1 : Int) (w0 w : World) (hB : Below w0.heap.size w0 w) (ho0 : Kd.R k78 78 w w0.heap.size P0_ u9000_ l0_2) (ho1 : Kd.S k64 64 w w0.heap.size P0_ u9001_ l0_3) (h : laws_markDrawing.f k a0_0 a0_1 l0_2 l0_3 a1 = some r1) :
  Calls Try.prog 11 #[.agg #[.int .i64 a0_0,.int .i64 a0_1,u9000_,u9001_],.int .i64 a1] w fun e w' => e = .returned (.int .i64 r1) ∧ Below w0.heap.size w0 w' ∧ Kept w w' (fun k_ => P0_ k_):=by
 have HB:=Aside0.mk hB
 have HK:=Aside0.mk (Kept.refl w (fun k_ => P0_ k_))
 have HO:=Aside0.mk ho0
 have HS:=Aside0.mk (Kd.S_apart' ho1 (Kd.R_typed ho0) (by decide))
 have HP:=Aside0.mk (ho0.1)
 clear hB ho0 ho1
 obtain ⟨⟨m1,m2⟩,A10_,H⟩:=bE.mp h
 obtain ⟨⟨m3,m4⟩,A20_,H⟩:=bE.mp H
 obtain rfl:=Option.some.inj H
 have A1:=Aside0.mk A10_
 have A2:=Aside0.mk A20_
 clear A10_ A20_ h H
 obtain ⟨A5_,c5_,e5_⟩:=Kd.R_slice HO.out
 subst e5_
 obtain ⟨A6_,c6_,e6_⟩:=Kd.S_slice HS.out
 subst e6_
 go_enter Try.func11,Try.ntmps11
 go_wp2_with (first | ((with_reducible refine gate_dst (N:=2) rfl ?_);refine bx (cs:=#[.int .i64 a0_0,.int .i64 a0_1,.slice A5_ l0_2.length c5_,.slice A6_ l0_3.length c6_]) (t:=33) ?_;intro gb hg w3 hbox hb;have n0_:=Aside0.mk (Kd.R_below HO.out hb);have n1_:=Aside0.mk (Kd.S_below HS.out hb);have n2_:=Aside0.mk (below_weaken ib HB.out.size hb);have n3_:=Aside0.mk (Kept.below (by repeat (first | (with_reducible first | exact HK.out | apply Kept.alloc | apply Kept.drewN | apply Kept.drew) | exact HK.out)) hb);have GNE:=Aside0.mk (show some gb ≠ (Value.slice A5_ l0_2.length c5_).ownBlock from (by rw [hg];exact Kd.R_ne_new HO.out 0));have hx2 : w3.cell? ⟨gb,2,none⟩ = some (.slice A5_ l0_2.length c5_):=(blk_cell hbox 2).trans rfl;have BX:=Aside0.mk hbox;clear HO HS HB HK hb hbox hg;have HO:=n0_;have HS:=n1_;have HB:=n2_;have HK:=n3_;clear n0_ n1_ n2_ n3_) | ((with_reducible refine gate_callee (f:=30) rfl ?_);refine goesL_ (some 8) rfl rfl Try.func30 (by kernel_rfl) rfl #[.slice A5_ l0_2.length c5_,.int .i64 a1] rfl (by (try simp only [mT,mC,mN]);first | done | rfl | (simp only [lD,lT];rfl)) ?_;(with_reducible refine (laws_markPointS.calls k (fun k_ => some k_ = (.slice A5_ l0_2.length c5_ : Value).ownBlock) _ l0_2 a1 m1 m2 w0 _ ib (Kd.R_tight rfl (rO HO.out)) A1.out).mono ?_);rintro e w5 ⟨rfl,ho,hb,hk⟩;refine ⟨_,rfl,?_⟩;have n1_:=Aside0.mk (Kd.S_kept HS.out hk (fun k_ h_ => h_.2));have n3_:=Aside0.mk (Kept.then_ (by repeat (first | (with_reducible first | exact HK.out | apply Kept.alloc | apply Kept.drewN | apply Kept.drew) | exact HK.out)) hk (fun k_ h_ => .inl (HP.out k_ h_.symm)));have hx3 : w5.cell? ⟨gb,3,none⟩ = some (.slice A6_ l0_3.length c6_):=(blk_cell (blk_kept BX.out hk GNE.out) 3).trans rfl;clear HO HS HB HK hk ho hx2;have HS:=n1_;have HB:=Aside0.mk hb;have HK:=n3_;clear n1_ n3_ hb) | ((with_reducible refine gate_callee (f:=31) rfl ?_);refine goesL_ (some 12) rfl rfl Try.func31 (by kernel_rfl) rfl #[.slice A6_ l0_3.length c6_,.int .i64 m1] rfl (by (try simp only [mT,mC,mN]);first | done | rfl | (simp only [lD,lT];rfl)) ?_;(with_reducible refine (laws_markFaceS.calls k P0_ _ l0_3 m1 m3 m4 w0 _ ib (Kd.S_mono HS.out (fun k_ h_ => h_.1)) A2.out).mono ?_);rintro e w6 ⟨rfl,ho,hb,hk⟩;refine ⟨_,rfl,?_⟩;have n3_:=Aside0.mk (Kept.then_ (by repeat (first | (with_reducible first | exact HK.out | apply Kept.alloc | apply Kept.drewN | apply Kept.drew) | exact HK.out)) hk (fun k_ h_ => .inl h_));clear HS HB HK hk ho;have HB:=Aside0.mk hb;have HK:=n3_;clear n3_ hb))
 go_ret
 exact ⟨(by first | rfl | (simp;done) | (simp [*];done)),ib,(by repeat (first | (with_reducible first | exact HK.out | apply Kept.alloc | apply Kept.drewN | apply Kept.drew) | exact HK.out))⟩
def spec_l00In.f (a0 : Int) (a1 : Int) (a2 : Int) : Option (Bool):=if a0 ≥ a1 then (some (decide (a0 ≤ a2))) else (some false)
theorem spec_l00In.calls (a0 : Int) (a1 : Int) (a2 : Int) (r : Bool) (w : World) (h : spec_l00In.f a0 a1 a2 = some r) :
  Calls Try.prog 38 #[.int .i64 a0,.int .i64 a1,.int .i64 a2] w fun e w' => e = .returned (.bool r) ∧ Drawn0 w w':=by
 have H : (if a0 ≥ a1 then (some (decide (a0 ≤ a2))) else (some false)) = some r:=h
 clear h
 by_cases c4 : a0 ≥ a1
 ·rw [if_pos c4] at H
  have c4b0 : decide (a1 ≤ a0) = true:=decide_eq_true c4
  clear c4
  obtain rfl:=Option.some.inj H
  go_enter Try.func38,Try.ntmps38
  go_wp2
  go_ret
  exact ⟨by first | rfl | (simp;done) | (simp [*];done),by repeat (first | exact Drawn0.refl _ | apply Drawn0.step)⟩
 ·rw [if_neg c4] at H
  have c4b0 : decide (a1 ≤ a0) = false:=decide_eq_false c4
  clear c4
  obtain rfl:=Option.some.inj H
  go_enter Try.func38,Try.ntmps38
  go_wp2
  go_ret
  exact ⟨by first | rfl | (simp;done) | (simp [*];done),by repeat (first | exact Drawn0.refl _ | apply Drawn0.step)⟩
def IsS33 (w0 W : World) (g : Nat) (f0 : Int) (f1 : Int) (f2 : List (S78)) (f3 : List (S64)) : Prop:=∃ A2 c2,∃ A3 c3,W.heap[g]? = some (.cells #[.int .i64 f0,.int .i64 f1,.slice A2 f2.length c2,.slice A3 f3.length c3] 33 (0,0)) ∧ w0.heap.size ≤ g ∧ Kd.C k78 w0 A2 f2.length f2 ∧ Kd.C k64 w0 A3 f3.length f3
theorem IsS33.grown {w0 W : World} {g : Nat} {f0 : Int} {f1 : Int} {f2 : List (S78)} {f3 : List (S64)} {W1 : World} {row : Option Nat} (h : IsS33 w0 W g f0 f1 f2 f3) (hw : W.grownBy W1 row) (hne : some g ≠ row) : IsS33 w0 W1 g f0 f1 f2 f3:=by
 obtain ⟨A2,c2,A3,c3,hb,hg,hr2,hr3⟩:=h
 exact ⟨A2,c2,A3,c3,blk_grown hb hw hne,hg,hr2,hr3⟩
theorem IsS33.own_neN {w0 W : World} {g : Nat} {f0 : Int} {f1 : Int} {f2 : List (S78)} {f3 : List (S64)} {α : Type} {d : Kd α} {e : Nat} {base : Nat} {ok : Nat → Prop} {v : Value} {xs : List α} (h : IsS33 w0 W g f0 f1 f2 f3) (ho : Kd.N d e W base ok v xs) (ht : e ≠ 33) : some g ≠ v.ownBlock:=by
 obtain ⟨A2,c2,A3,c3,hb,hg,hr2,hr3⟩:=h
 exact Kd.N_ne ho hb ht
theorem IsS33.fresh {w0 W : World} {g : Nat} {f0 : Int} {f1 : Int} {f2 : List (S78)} {f3 : List (S64)} (h : IsS33 w0 W g f0 f1 f2 f3) : ∀ k,W.heap.size ≤ k → k ≠ g:=by
 obtain ⟨A2,c2,A3,c3,hb,hg,hr2,hr3⟩:=h
 exact Kd.freshB hb
theorem IsS33.kept {w0 W : World} {g : Nat} {f0 : Int} {f1 : Int} {f2 : List (S78)} {f3 : List (S64)} {W1 : World} {S : Nat → Prop} (h : IsS33 w0 W g f0 f1 f2 f3) (hk : Kept W W1 S) (hne : ¬ S g) : IsS33 w0 W1 g f0 f1 f2 f3:=by
 obtain ⟨A2,c2,A3,c3,hb,hg,hr2,hr3⟩:=h
 exact ⟨A2,c2,A3,c3,blk_kept hb hk hne,hg,hr2,hr3⟩
theorem IsS33.below {w0 W : World} {g : Nat} {f0 : Int} {f1 : Int} {f2 : List (S78)} {f3 : List (S64)} {W1 : World} (h : IsS33 w0 W g f0 f1 f2 f3) (hw : Below W.heap.size W W1) : IsS33 w0 W1 g f0 f1 f2 f3:=h.grown (grown_of_below hw none) (by simp)
theorem IsS33.alloc {w0 W : World} {g : Nat} {f0 : Int} {f1 : Int} {f2 : List (S78)} {f3 : List (S64)} (h : IsS33 w0 W g f0 f1 f2 f3) (o : Obj) : IsS33 w0 (W.alloc o) g f0 f1 f2 f3:=h.below (below_alloc (Below.refl _ _) o)
theorem IsS33.drewN {w0 W : World} {g : Nat} {f0 : Int} {f1 : Int} {f2 : List (S78)} {f3 : List (S64)} (h : IsS33 w0 W g f0 f1 f2 f3) (m : Nat) : IsS33 w0 (W.drewN m) g f0 f1 f2 f3:=h
theorem IsS33.drew {w0 W : World} {g : Nat} {f0 : Int} {f1 : Int} {f2 : List (S78)} {f3 : List (S64)} (h : IsS33 w0 W g f0 f1 f2 f3) : IsS33 w0 W.drew g f0 f1 f2 f3:=h
theorem IsS33.at_ {w0 W : World} {g : Nat} {f0 : Int} {f1 : Int} {f2 : List (S78)} {f3 : List (S64)} {w' : World} {m : Nat} (hq : W.drewN m = w') (h : IsS33 w0 W g f0 f1 f2 f3) : IsS33 w0 w' g f0 f1 f2 f3:=by subst hq;exact IsS33.drewN h m
theorem IsS33.apart {w0 W : World} {g : Nat} {f0 : Int} {f1 : Int} {f2 : List (S78)} {f3 : List (S64)} {α : Type} {d : Kd α} {e : Nat} {base : Nat} {ok : Nat → Prop} {v : Value} {xs : List α} (h : IsS33 w0 W g f0 f1 f2 f3) (ho : d.R e W base ok v xs) (ht : ∀ q,q ∈ e :: d.E → q ≠ 33) : d.R e W base (fun k => ok k ∧ k ≠ g) v xs:=by
 obtain ⟨A2,c2,A3,c3,hb,hg,hr2,hr3⟩:=h
 exact Kd.R_types ho hb ht
theorem IsS33.own_ne {w0 W : World} {g : Nat} {f0 : Int} {f1 : Int} {f2 : List (S78)} {f3 : List (S64)} {α : Type} {d : Kd α} {e : Nat} {base : Nat} {ok : Nat → Prop} {v : Value} {xs : List α} (h : IsS33 w0 W g f0 f1 f2 f3) (ho : d.R e W base ok v xs) (ht : e ≠ 33) : some g ≠ v.ownBlock:=by
 obtain ⟨A2,c2,A3,c3,hb,hg,hr2,hr3⟩:=h
 exact Kd.R_ne ho hb ht
theorem IsS33.apartQ {w0 W : World} {g : Nat} {f0 : Int} {f1 : Int} {f2 : List (S78)} {f3 : List (S64)} {α : Type} {d : Kd α} {e : Nat} {base : Nat} {ok : Nat → Prop} {v : Value} {xs : List α} (h : IsS33 w0 W g f0 f1 f2 f3) (ho : d.Q e W base ok v xs) (ht : ∀ q,q ∈ e :: d.E → q ≠ 33) : d.Q e W base (fun k => ok k ∧ k ≠ g) v xs:=by
 obtain ⟨A2,c2,A3,c3,hb,hg,hr2,hr3⟩:=h
 exact Kd.Q_types ho hb ht
theorem IsS33.own_neQ {w0 W : World} {g : Nat} {f0 : Int} {f1 : Int} {f2 : List (S78)} {f3 : List (S64)} {α : Type} {d : Kd α} {e : Nat} {base : Nat} {ok : Nat → Prop} {v : Value} {xs : List α} (h : IsS33 w0 W g f0 f1 f2 f3) (ho : d.Q e W base ok v xs) (ht : e ≠ 33) : some g ≠ v.ownBlock:=by
 obtain ⟨A2,c2,A3,c3,hb,hg,hr2,hr3⟩:=h
 exact Kd.Q_ne ho hb ht
theorem IsS33.apartS {w0 W : World} {g : Nat} {f0 : Int} {f1 : Int} {f2 : List (S78)} {f3 : List (S64)} {α : Type} {d : Kd α} {e : Nat} {base : Nat} {ok : Nat → Prop} {v : Value} {xs : List α} (h : IsS33 w0 W g f0 f1 f2 f3) (ho : d.S e W base ok v xs) (ht : ∀ q,q ∈ e :: d.E → q ≠ 33) : d.S e W base (fun k => ok k ∧ k ≠ g) v xs:=by
 obtain ⟨A2,c2,A3,c3,hb,hg,hr2,hr3⟩:=h
 exact Kd.S_types ho hb ht
theorem IsS33.own_neS {w0 W : World} {g : Nat} {f0 : Int} {f1 : Int} {f2 : List (S78)} {f3 : List (S64)} {α : Type} {d : Kd α} {e : Nat} {base : Nat} {ok : Nat → Prop} {v : Value} {xs : List α} (h : IsS33 w0 W g f0 f1 f2 f3) (ho : d.S e W base ok v xs) (ht : e ≠ 33) : some g ≠ v.ownBlock:=by
 obtain ⟨A2,c2,A3,c3,hb,hg,hr2,hr3⟩:=h
 exact Kd.S_ne ho hb ht
theorem IsS33.lt {w0 W : World} {g : Nat} {f0 : Int} {f1 : Int} {f2 : List (S78)} {f3 : List (S64)} (h : IsS33 w0 W g f0 f1 f2 f3) : g < W.heap.size:=by
 obtain ⟨A2,c2,A3,c3,hb,hg,hr2,hr3⟩:=h
 exact blk_lt hb
theorem IsS33.ge {w0 W : World} {g : Nat} {f0 : Int} {f1 : Int} {f2 : List (S78)} {f3 : List (S64)} (h : IsS33 w0 W g f0 f1 f2 f3) : w0.heap.size ≤ g:=by
 obtain ⟨A2,c2,A3,c3,hb,hg,hr2,hr3⟩:=h
 exact hg
theorem IsS33.ne_blk {w0 W : World} {g : Nat} {f0 : Int} {f1 : Int} {f2 : List (S78)} {f3 : List (S64)} {a : Nat} {cs : Array Value} {t : TypeId} {fr : Nat × Nat} (h : IsS33 w0 W g f0 f1 f2 f3) (hb2 : W.heap[a]? = some (.cells cs t fr)) (ht : t ≠ 33) : g ≠ a:=by
 obtain ⟨A2,c2,A3,c3,hb,hg,hr2,hr3⟩:=h
 rintro rfl
 rw [hb] at hb2
 injection hb2 with hb2
 injection hb2 with _ ht2
 exact ht ht2.symm
theorem IsS33.far {w0 W : World} {g : Nat} {f0 : Int} {f1 : Int} {f2 : List (S78)} {f3 : List (S64)} {p : Addr} (h : IsS33 w0 W g f0 f1 f2 f3) (hne : g ≠ p.block) (u : Value) : IsS33 w0 (W.setCell p u) g f0 f1 f2 f3:=by
 obtain ⟨A2,c2,A3,c3,hb,hg,hr2,hr3⟩:=h
 exact ⟨A2,c2,A3,c3,blk_far hb hne u,hg,hr2,hr3⟩
theorem cellS33_0 {W : World} {g : Nat} {A2 : Option Addr} {c2 : Nat} {A3 : Option Addr} {c3 : Nat} {f0 : Int} {f1 : Int} {f2 : List (S78)} {f3 : List (S64)} (h : W.heap[g]? = some (.cells #[.int .i64 f0,.int .i64 f1,.slice A2 f2.length c2,.slice A3 f3.length c3] 33 (0,0))) : W.cell? ⟨g,0,none⟩ = some (.int .i64 f0):=(blk_cell h 0).trans rfl
theorem IsS33.set_0 {w0 W : World} {g : Nat} {f0 : Int} {f1 : Int} {f2 : List (S78)} {f3 : List (S64)} (h : IsS33 w0 W g f0 f1 f2 f3) (x : Int) : IsS33 w0 (W.setCell ⟨g,0,none⟩ (.int .i64 x)) g x f1 f2 f3:=by
 obtain ⟨A2,c2,A3,c3,hb,hg,hr2,hr3⟩:=h
 exact ⟨A2,c2,A3,c3,by simpa using blk_set hb 0 (.int .i64 x),hg,hr2,hr3⟩
theorem cellS33_1 {W : World} {g : Nat} {A2 : Option Addr} {c2 : Nat} {A3 : Option Addr} {c3 : Nat} {f0 : Int} {f1 : Int} {f2 : List (S78)} {f3 : List (S64)} (h : W.heap[g]? = some (.cells #[.int .i64 f0,.int .i64 f1,.slice A2 f2.length c2,.slice A3 f3.length c3] 33 (0,0))) : W.cell? ⟨g,1,none⟩ = some (.int .i64 f1):=(blk_cell h 1).trans rfl
theorem IsS33.set_1 {w0 W : World} {g : Nat} {f0 : Int} {f1 : Int} {f2 : List (S78)} {f3 : List (S64)} (h : IsS33 w0 W g f0 f1 f2 f3) (x : Int) : IsS33 w0 (W.setCell ⟨g,1,none⟩ (.int .i64 x)) g f0 x f2 f3:=by
 obtain ⟨A2,c2,A3,c3,hb,hg,hr2,hr3⟩:=h
 exact ⟨A2,c2,A3,c3,by simpa using blk_set hb 1 (.int .i64 x),hg,hr2,hr3⟩
theorem cellS33_2 {W : World} {g : Nat} {A2 : Option Addr} {c2 : Nat} {A3 : Option Addr} {c3 : Nat} {f0 : Int} {f1 : Int} {f2 : List (S78)} {f3 : List (S64)} (h : W.heap[g]? = some (.cells #[.int .i64 f0,.int .i64 f1,.slice A2 f2.length c2,.slice A3 f3.length c3] 33 (0,0))) : W.cell? ⟨g,2,none⟩ = some (.slice A2 f2.length c2):=(blk_cell h 2).trans rfl
theorem cellS33_3 {W : World} {g : Nat} {A2 : Option Addr} {c2 : Nat} {A3 : Option Addr} {c3 : Nat} {f0 : Int} {f1 : Int} {f2 : List (S78)} {f3 : List (S64)} (h : W.heap[g]? = some (.cells #[.int .i64 f0,.int .i64 f1,.slice A2 f2.length c2,.slice A3 f3.length c3] 33 (0,0))) : W.cell? ⟨g,3,none⟩ = some (.slice A3 f3.length c3):=(blk_cell h 3).trans rfl
theorem IsS33.new (w0 W : World) (A2 : Option Addr) (c2 : Nat) (A3 : Option Addr) (c3 : Nat) (f0 : Int) (f1 : Int) (f2 : List (S78)) (f3 : List (S64)) (hB : Below w0.heap.size w0 W) (hr2 : Kd.C k78 w0 A2 f2.length f2) (hr3 : Kd.C k64 w0 A3 f3.length f3) : IsS33 w0 (W.alloc (.cells #[.int .i64 f0,.int .i64 f1,.slice A2 f2.length c2,.slice A3 f3.length c3] 33)) W.heap.size f0 f1 f2 f3:=⟨A2,c2,A3,c3,by simpa using heap_alloc_new W _,hB.size,hr2,hr3⟩
mutual
def spec_l05Points.l0 : Nat → Int → Int → Int → List (S78) → List (S64) → Option (Bool × Int × Int)
 | 0,_,_,_,_,_ => none
 | k + 1,x3,x1000,x1001,x1002,x1003 => if x3 < (x1002.length : Int) then (if 0 ≤ x3 then ((spec_l00In.f ((rd_T78 x1002 x3).f0) 0 x1000).bind fun t171 => (if t171 = true then ((spec_l00In.f ((rd_T78 x1002 x3).f1) 0 x1001).bind fun t173 => (spec_l05Points.j1 k x3 (!t173) x1000 x1001 x1002 x1003)) else (spec_l05Points.j1 k x3 true x1000 x1001 x1002 x1003))) else (none)) else (some (true,x1000,x1001))
def spec_l05Points.j1 : Nat → Int → Bool → Int → Int → List (S78) → List (S64) → Option (Bool × Int × Int)
 | 0,_,_,_,_,_,_ => none
 | k + 1,x3,x49,x1000,x1001,x1002,x1003 => if x49 = true then (some (false,x1000,x1001)) else (spec_l05Points.l1 k x3 0 x1000 x1001 x1002 x1003)
def spec_l05Points.l1 : Nat → Int → Int → Int → Int → List (S78) → List (S64) → Option (Bool × Int × Int)
 | 0,_,_,_,_,_,_ => none
 | k + 1,x3,x4,x1000,x1001,x1002,x1003 => if x4 < x3 then (if 0 ≤ x3 then (if x3 < (x1002.length : Int) then (if 0 ≤ x4 then (if x4 < (x1002.length : Int) then (if (((rd_T78 x1002 x3).f0) == ((rd_T78 x1002 x4).f0) && (((rd_T78 x1002 x3).f1) == ((rd_T78 x1002 x4).f1))) = true then (some (false,x1000,x1001)) else (spec_l05Points.l1 k x3 (wrap64 (x4 + 1)) x1000 x1001 x1002 x1003)) else (none)) else (none)) else (none)) else (none)) else (spec_l05Points.l0 k (wrap64 (x3 + 1)) x1000 x1001 x1002 x1003)
end
def spec_l05Points.f (k : Nat) (s0_0 : Int) (s0_1 : Int) (s0_2 : List (S78)) (s0_3 : List (S64)) : Option (Bool × Int × Int):=if (s0_2.length : Int) > 48 then (some (false,s0_0,s0_1)) else (spec_l05Points.l0 k 0 s0_0 s0_1 s0_2 s0_3)
theorem spec_l05Points.calls (k : Nat) (g : Nat) (s0_0 : Int) (s0_1 : Int) (s0_2 : List (S78)) (s0_3 : List (S64)) (r1 : Bool) (r2 : Int) (r3 : Int) (w0 w : World) (hI : IsS33 w0 w g s0_0 s0_1 s0_2 s0_3) (hB : Below w0.heap.size w0 w) (h : spec_l05Points.f k s0_0 s0_1 s0_2 s0_3 = some (r1,r2,r3)) :
  Calls Try.prog 39 #[.pointer (some ⟨g,0,none⟩)] w fun e w' => e = .returned (.bool r1) ∧ IsS33 w0 w' g r2 r3 s0_2 s0_3 ∧ Below w0.heap.size w0 w' ∧ KeepBut w w' g none:=by
 have hu78:=Try.underlying78
 have HI0:=Aside0.mk hI
 have HK:=Aside0.mk (KeepBut.refl w g none)
 have HL:=Aside0.mk hB.size
 clear hI
 have HW0:=Aside0.mk hB.size
 have HB:=Aside0.mk hB
 clear hB
 have H : (if (s0_2.length : Int) > 48 then (some (false,s0_0,s0_1)) else (spec_l05Points.l0 k 0 s0_0 s0_1 s0_2 s0_3)) = some (r1,r2,r3):=h
 clear h
 obtain ⟨A2,c2,A3,c3,hblk,hge,hr2,hr3⟩:=HI0.out
 have q0 : w.cell? ⟨g,0,none⟩ = some (.int .i64 s0_0):=cellS33_0 hblk
 have q1 : w.cell? ⟨g,1,none⟩ = some (.int .i64 s0_1):=cellS33_1 hblk
 have q2 : w.cell? ⟨g,2,none⟩ = some (.slice A2 s0_2.length c2):=cellS33_2 hblk
 have pts : ∀ i : Int,0 ≤ i → i < (s0_2.length : Int) → ∃ ad,A2 = some ad ∧ w.cell? (ad.add (i.toNat * 2)) = some (.int .i64 (rd_T78 s0_2 i).f0) ∧ w.cell? ⟨(ad.add (i.toNat * 2)).block,(ad.add (i.toNat * 2)).off + 1,none⟩ = some (.int .i64 (rd_T78 s0_2 i).f1):=by
  intro i h0 h1
  obtain ⟨ad,e,x0,x1⟩:=at_T78 hr2 i h0 h1
  exact ⟨ad,e,(HB.out.cell (bL w0 _ x0)).trans x0,(HB.out.cell (bL w0 _ x1)).trans x1⟩
 have Hpts_:=Aside0.mk pts
 have Q0:=Aside0.mk q0
 have Q1:=Aside0.mk q1
 have Q2:=Aside0.mk q2
 clear hblk hge hr2 hr3 pts
 by_cases c1 : (s0_2.length : Int) > 48
 ·rw [if_pos c1] at H
  have c1b : decide (48 < (s0_2.length : Int)) = true:=decide_eq_true c1
  clear c1
  simp only [Option.some.injEq,Prod.mk.injEq] at H
  obtain ⟨rfl,rfl,rfl⟩:=H
  go_enter Try.func39,Try.ntmps39
  go_wp2
  go_ret
  exact ⟨(by first | rfl | (simp;done) | (simp [*];done)),(by repeat (first | exact HI0.out | apply IsS33.drewN | apply IsS33.drew)),(by repeat (first | exact HB.out | apply pw_below_drewN | apply below_drew1)),(by repeat (first | exact HK.out | apply keep_drewN | apply keep_drew))⟩
 ·rw [if_neg c1] at H
  have c1b : decide (48 < (s0_2.length : Int)) = false:=decide_eq_false c1
  clear c1
  have H':=Aside0.mk H
  clear H
  go_enter Try.func39,Try.ntmps39
  go_wp2
  go_loopg [3] k (fun kq v3 w' => ∃ (x3 : Int),v3 = .int .i64 x3 ∧ Aside0 (spec_l05Points.l0 kq x3 s0_0 s0_1 s0_2 s0_3 = some (r1,r2,r3)) ∧ Aside0 (kq ≤ k) ∧ Aside0 (Drawn0 w w'))
  case atStart => exact ⟨0,rfl,H',⟨Nat.le_refl _⟩,⟨by repeat (first | exact Drawn0.refl _ | apply Drawn0.step)⟩⟩
  case round =>
   clear H' q0 q1 q2
   obtain ⟨x3,rfl,HA,HK1,HD⟩:=hrel
   cases gk with
   | zero => exact absurd HA.out (by simp [spec_l05Points.l0])
   | succ k1 =>
    have H:=HA.out
    clear HA
    simp only [spec_l05Points.l0] at H
    have hD:=HD.out
    obtain ⟨m1,hm1⟩:=hD.out
    have q0 : wr.cell? ⟨g,0,none⟩ = some (.int .i64 s0_0):=by rw [hm1];exact Q0.out
    have q1 : wr.cell? ⟨g,1,none⟩ = some (.int .i64 s0_1):=by rw [hm1];exact Q1.out
    have q2 : wr.cell? ⟨g,2,none⟩ = some (.slice A2 s0_2.length c2):=by rw [hm1];exact Q2.out
    clear hD
    have HM:=Aside0.mk hm1
    clear hm1
    by_cases c2_ : x3 < (s0_2.length : Int)
    ·rw [if_pos c2_] at H
     have c2b : decide (x3 < (s0_2.length : Int)) = true:=decide_eq_true c2_
     by_cases c3_ : 0 ≤ x3
     ·rw [if_pos c3_] at H
      have c3b : decide (0 ≤ x3) = true:=decide_eq_true c3_
      replace H:=bE.mp H
      obtain ⟨t1,A10,H⟩:=H
      have A1:=Aside0.mk A10
      clear A10
      obtain ⟨ad,ea,y0_,y1_⟩:=Hpts_.out x3 c3_ c2_
      have y0 : wr.cell? (ad.add (x3.toNat * 2)) = some (.int .i64 (rd_T78 s0_2 x3).f0):=by rw [HM.out];exact y0_
      have y1 : wr.cell? ⟨(ad.add (x3.toNat * 2)).block,(ad.add (x3.toNat * 2)).off + 1,none⟩ = some (.int .i64 (rd_T78 s0_2 x3).f1):=by rw [HM.out];exact y1_
      clear y0_ y1_
      rw [ea] at q2
      have EA:=Aside0.mk ea
      clear ea
      cases t1 with
      | true =>
       replace H:=(show (((spec_l00In.f ((rd_T78 s0_2 x3).f1) 0 s0_1).bind fun t167 => (spec_l05Points.j1 k1 x3 (!t167) s0_0 s0_1 s0_2 s0_3))) = some (r1,r2,r3) from by first | exact H | simpa using H)
       replace H:=bE.mp H
       obtain ⟨t2,A20,H⟩:=H
       have A2_:=Aside0.mk A20
       clear A20
       cases k1 with
       | zero => exact absurd H (by simp [spec_l05Points.j1])
       | succ k2 =>
       simp only [spec_l05Points.j1] at H
       cases t2 with
       | false =>
        simp only [Bool.not_false,if_true,Option.some.injEq,Prod.mk.injEq] at H
        obtain ⟨rfl,rfl,rfl⟩:=H
        go_wp2
        go_quiet (first | (with_reducible exact Calls.quiet_of ((spec_l00In.calls _ _ _ _ _ A1.out).mono fun e w' h => ⟨h.1,h.2.out⟩)) | (with_reducible exact Calls.quiet_of ((spec_l00In.calls _ _ _ _ _ A2_.out).mono fun e w' h => ⟨h.1,h.2.out⟩)))
        go_wp2
        go_ret
        rw [HM.out];exact ⟨(by first | rfl | (simp;done) | (simp [*];done)),(by repeat (first | exact HI0.out | apply IsS33.drewN | apply IsS33.drew)),(by repeat (first | exact HB.out | apply pw_below_drewN | apply below_drew1)),(by repeat (first | exact HK.out | apply keep_drewN | apply keep_drew))⟩
       | true =>
        simp only [Bool.not_true,Bool.false_eq_true,if_false] at H
        have H':=Aside0.mk H
        clear H
        go_wp2
        go_quiet (first | (with_reducible exact Calls.quiet_of ((spec_l00In.calls _ _ _ _ _ A1.out).mono fun e w' h => ⟨h.1,h.2.out⟩)) | (with_reducible exact Calls.quiet_of ((spec_l00In.calls _ _ _ _ _ A2_.out).mono fun e w' h => ⟨h.1,h.2.out⟩)))
        go_wp2
        go_loopg [4] k2 (fun kq v4 w' => ∃ (x4 : Int),v4 = .int .i64 x4 ∧ Aside0 (spec_l05Points.l1 kq x3 x4 s0_0 s0_1 s0_2 s0_3 = some (r1,r2,r3)) ∧ Aside0 (kq ≤ k2) ∧ Aside0 (Drawn0 w w'))
        case atStart => exact ⟨0,rfl,H',⟨Nat.le_refl _⟩,⟨by repeat (first | exact HD.out | apply Drawn0.step)⟩⟩
        case round =>
         clear H' q0 q1 q2 y0 y1 HM HD A1 A2_
         obtain ⟨x4,rfl,HA,HK2,HD⟩:=hrel
         cases gk with
         | zero => exact absurd HA.out (by simp [spec_l05Points.l1])
         | succ k3 =>
          have H:=HA.out
          clear HA
          simp only [spec_l05Points.l1] at H
          have hD:=HD.out
          obtain ⟨m1,hm1⟩:=hD.out
          have q2 : wr.cell? ⟨g,2,none⟩ = some (.slice (some ad) s0_2.length c2):=by rw [hm1,← EA.out];exact Q2.out
          clear hD
          have HM:=Aside0.mk hm1
          clear hm1
          by_cases c4_ : x4 < x3
          ·rw [if_pos c4_] at H
           have c4b : decide (x4 < x3) = true:=decide_eq_true c4_
           rw [if_pos c3_,if_pos c2_] at H
           by_cases c5_ : 0 ≤ x4
           ·rw [if_pos c5_] at H
            have c5b : decide (0 ≤ x4) = true:=decide_eq_true c5_
            have c6_ : x4 < (s0_2.length : Int):=by omega
            rw [if_pos c6_] at H
            have c6b : decide (x4 < (s0_2.length : Int)) = true:=decide_eq_true c6_
            obtain ⟨ad',ea',y0_,y1_⟩:=Hpts_.out x3 c3_ c2_
            obtain rfl : ad = ad':=Option.some.inj (EA.out.symm.trans ea')
            obtain ⟨ad',ea2',z0_,z1_⟩:=Hpts_.out x4 c5_ c6_
            obtain rfl : ad = ad':=Option.some.inj (EA.out.symm.trans ea2')
            have y0 : wr.cell? (ad.add (x3.toNat * 2)) = some (.int .i64 (rd_T78 s0_2 x3).f0):=by rw [HM.out];exact y0_
            have y1 : wr.cell? ⟨(ad.add (x3.toNat * 2)).block,(ad.add (x3.toNat * 2)).off + 1,none⟩ = some (.int .i64 (rd_T78 s0_2 x3).f1):=by rw [HM.out];exact y1_
            have z0 : wr.cell? (ad.add (x4.toNat * 2)) = some (.int .i64 (rd_T78 s0_2 x4).f0):=by rw [HM.out];exact z0_
            have z1 : wr.cell? ⟨(ad.add (x4.toNat * 2)).block,(ad.add (x4.toNat * 2)).off + 1,none⟩ = some (.int .i64 (rd_T78 s0_2 x4).f1):=by rw [HM.out];exact z1_
            clear y0_ y1_ z0_ z1_ ea' ea2'
            cases c7_ : (((rd_T78 s0_2 x3).f0) == ((rd_T78 s0_2 x4).f0) && (((rd_T78 s0_2 x3).f1) == ((rd_T78 s0_2 x4).f1))) with
            | true =>
             rw [if_pos c7_] at H
             simp only [Option.some.injEq,Prod.mk.injEq] at H
             obtain ⟨rfl,rfl,rfl⟩:=H
             go_wp2
             go_quiet (fail)
             go_wp2
             go_ret
             rw [HM.out];exact ⟨(by first | rfl | (simp;done) | (simp [*];done)),(by repeat (first | exact HI0.out | apply IsS33.drewN | apply IsS33.drew)),(by repeat (first | exact HB.out | apply pw_below_drewN | apply below_drew1)),(by repeat (first | exact HK.out | apply keep_drewN | apply keep_drew))⟩
            | false =>
             rw [if_neg (by rw [c7_];decide)] at H
             have H':=Aside0.mk H
             clear H
             go_wp2
             go_quiet (fail)
             go_wp2
             go_roundg k3
             case measure => have:=HK1.out;have:=HK2.out;omega
             case rel => exact ⟨(wrap64 (x4 + 1)),(by first | rfl | (simp;done) | (simp [*];done)),H',⟨by have:=HK1.out;have:=HK2.out;omega⟩,⟨by repeat (first | exact HD.out | apply Drawn0.step)⟩⟩
           ·rw [if_neg c5_] at H
            exact absurd H (by simp)
          ·rw [if_neg c4_] at H
           have c4b : decide (x4 < x3) = false:=decide_eq_false c4_
           have H':=Aside0.mk H
           clear H
           go_wp2
           go_roundg k3
           case measure => have:=HK1.out;have:=HK2.out;omega
           case rel => exact ⟨(wrap64 (x3 + 1)),(by first | rfl | (simp;done) | (simp [*];done)),H',⟨by have:=HK1.out;have:=HK2.out;omega⟩,⟨by repeat (first | exact HD.out | apply Drawn0.step)⟩⟩
      | false =>
       replace H:=(show (spec_l05Points.j1 k1 x3 true s0_0 s0_1 s0_2 s0_3) = some (r1,r2,r3) from by first | exact H | simpa using H)
       cases k1 with
       | zero => exact absurd H (by simp [spec_l05Points.j1])
       | succ k2 =>
       simp only [spec_l05Points.j1,if_true,Option.some.injEq,Prod.mk.injEq] at H
       obtain ⟨rfl,rfl,rfl⟩:=H
       go_wp2
       go_quiet (with_reducible exact Calls.quiet_of ((spec_l00In.calls _ _ _ _ _ A1.out).mono fun e w' h => ⟨h.1,h.2.out⟩))
       go_wp2
       go_ret
       rw [HM.out];exact ⟨(by first | rfl | (simp;done) | (simp [*];done)),(by repeat (first | exact HI0.out | apply IsS33.drewN | apply IsS33.drew)),(by repeat (first | exact HB.out | apply pw_below_drewN | apply below_drew1)),(by repeat (first | exact HK.out | apply keep_drewN | apply keep_drew))⟩
     ·rw [if_neg c3_] at H
      exact absurd H (by simp)
    ·rw [if_neg c2_] at H
     have c2b : decide (x3 < (s0_2.length : Int)) = false:=decide_eq_false c2_
     simp only [Option.some.injEq,Prod.mk.injEq] at H
     obtain ⟨rfl,rfl,rfl⟩:=H
     go_wp2
     go_ret
     rw [HM.out];exact ⟨(by first | rfl | (simp;done) | (simp [*];done)),(by repeat (first | exact HI0.out | apply IsS33.drewN | apply IsS33.drew)),(by repeat (first | exact HB.out | apply pw_below_drewN | apply below_drew1)),(by repeat (first | exact HK.out | apply keep_drewN | apply keep_drew))⟩
def spec_l01Small.f (a0 : Int) : Option (Bool):=if a0 ≥ 97 then (some (decide (a0 ≤ 122))) else (some false)
theorem spec_l01Small.calls (a0 : Int) (r : Bool) (w : World) (h : spec_l01Small.f a0 = some r) :
  Calls Try.prog 61 #[.int .u8 a0] w fun e w' => e = .returned (.bool r) ∧ Drawn0 w w':=by
 have H : (if a0 ≥ 97 then (some (decide (a0 ≤ 122))) else (some false)) = some r:=h
 clear h
 by_cases c2 : a0 ≥ 97
 ·rw [if_pos c2] at H
  have c2b0 : decide (97 ≤ a0) = true:=decide_eq_true c2
  clear c2
  obtain rfl:=Option.some.inj H
  go_enter Try.func61,Try.ntmps61
  go_wp2
  go_ret
  exact ⟨by first | rfl | (simp;done) | (simp [*];done),by repeat (first | exact Drawn0.refl _ | apply Drawn0.step)⟩
 ·rw [if_neg c2] at H
  have c2b0 : decide (97 ≤ a0) = false:=decide_eq_false c2
  clear c2
  obtain rfl:=Option.some.inj H
  go_enter Try.func61,Try.ntmps61
  go_wp2
  go_ret
  exact ⟨by first | rfl | (simp;done) | (simp [*];done),by repeat (first | exact Drawn0.refl _ | apply Drawn0.step)⟩
def spec_l01Digit.f (a0 : Int) : Option (Bool):=if a0 ≥ 48 then (some (decide (a0 ≤ 57))) else (some false)
theorem spec_l01Digit.calls (a0 : Int) (r : Bool) (w : World) (h : spec_l01Digit.f a0 = some r) :
  Calls Try.prog 62 #[.int .u8 a0] w fun e w' => e = .returned (.bool r) ∧ Drawn0 w w':=by
 have H : (if a0 ≥ 48 then (some (decide (a0 ≤ 57))) else (some false)) = some r:=h
 clear h
 by_cases c2 : a0 ≥ 48
 ·rw [if_pos c2] at H
  have c2b0 : decide (48 ≤ a0) = true:=decide_eq_true c2
  clear c2
  obtain rfl:=Option.some.inj H
  go_enter Try.func62,Try.ntmps62
  go_wp2
  go_ret
  exact ⟨by first | rfl | (simp;done) | (simp [*];done),by repeat (first | exact Drawn0.refl _ | apply Drawn0.step)⟩
 ·rw [if_neg c2] at H
  have c2b0 : decide (48 ≤ a0) = false:=decide_eq_false c2
  clear c2
  obtain rfl:=Option.some.inj H
  go_enter Try.func62,Try.ntmps62
  go_wp2
  go_ret
  exact ⟨by first | rfl | (simp;done) | (simp [*];done),by repeat (first | exact Drawn0.refl _ | apply Drawn0.step)⟩
mutual
def spec_l01Name.j0 : Nat → ByteArray → Bool → Option (Bool)
 | 0,_,_ => none
 | k + 1,x0,x16 => if x16 = true then (some false) else (spec_l01Name.l0 k x0 0)
def spec_l01Name.l0 : Nat → ByteArray → Int → Option (Bool)
 | 0,_,_ => none
 | k + 1,x0,x3 => if x3 < (x0.size : Int) then (if 0 ≤ x3 then ((spec_l01Small.f (bt x0 x3)).bind fun t177 => (if t177 = true then (spec_l01Name.l0 k x0 (wrap64 (x3 + 1))) else ((spec_l01Digit.f (bt x0 x3)).bind fun t178 => (if t178 = true then (spec_l01Name.l0 k x0 (wrap64 (x3 + 1))) else (some false))))) else (none)) else (some true)
end
def spec_l01Name.f (k : Nat) (a0 : ByteArray) : Option (Bool):=if a0.toList = ([] : List UInt8) then (spec_l01Name.j0 k a0 true) else (if (a0.size : Int) > 10 then (spec_l01Name.j0 k a0 true) else (if 0 < (a0.size : Int) then ((spec_l01Small.f (bt a0 0)).bind fun t176 => (spec_l01Name.j0 k a0 (!t176))) else (none)))
theorem spec_l01Name.calls (k : Nat) (a0 : ByteArray) (r : Bool) (w : World) (h : spec_l01Name.f k a0 = some r) :
  Calls Try.prog 40 #[.string a0] w fun e w' => e = .returned (.bool r) ∧ Drawn0 w w':=by
 have H : (if a0.toList = ([] : List UInt8) then (spec_l01Name.j0 k a0 true) else (if (a0.size : Int) > 10 then (spec_l01Name.j0 k a0 true) else (if 0 < (a0.size : Int) then ((spec_l01Small.f (bt a0 0)).bind fun t176 => (spec_l01Name.j0 k a0 (!t176))) else (none)))) = some r:=h
 clear h
 have HC2:=Aside0.mk H
 clear H
 go_enter Try.func40,Try.ntmps40
 go_upto_region 1 with (fail)
 go_cut [16] (fun v16 wc => ∃ (kq : Nat) (x16_1 : Bool),v16 = .bool x16_1 ∧ Aside0 (spec_l01Name.j0 kq a0 x16_1 = some r) ∧ Aside0 (kq ≤ k) ∧ Drawn0 w wc)
 case first =>
  have H:=HC2.out
  clear HC2
  by_cases c3 : a0.toList = ([] : List UInt8)
  ·rw [if_pos c3] at H
   have c3b0 : (a0.toList == ([] : List UInt8)) = true:=beq_iff_eq.mpr c3
   have c3b1 : (a0.toList != ([] : List UInt8)) = false:=bne_eq_false_iff_eq.mpr c3
   clear c3
   (first | rw [c3b0] | (simp only [i64_w,i32_w];rw [c3b0]) | skip)
   have H':=Aside0.mk H
   clear H
   go_wp2
   go_meet
   case rel => exact ⟨_,(true),(by first | rfl | (simp;done) | (simp [*];done)),H',⟨by first | omega | exact Nat.le_refl _⟩,by repeat (first | exact Drawn0.refl _ | apply Drawn0.step)⟩
  ·rw [if_neg c3] at H
   have c3b0 : (a0.toList == ([] : List UInt8)) = false:=beq_eq_false_iff_ne.mpr c3
   have c3b1 : (a0.toList != ([] : List UInt8)) = true:=bne_iff_ne.mpr c3
   (first | rw [c3b0] | (simp only [i64_w,i32_w];rw [c3b0]) | skip)
   by_cases c4 : (a0.size : Int) > 10
   ·rw [if_pos c4] at H
    have c4b0 : decide (10 < (a0.size : Int)) = true:=decide_eq_true c4
    have c4b1 : decide (10 < a0.size) = true:=decide_eq_true (by omega)
    clear c4
    have H':=Aside0.mk H
    clear H
    go_wp2
    go_meet
    case rel => exact ⟨_,(true),(by first | rfl | (simp;done) | (simp [*];done)),H',⟨by first | omega | exact Nat.le_refl _⟩,by repeat (first | exact Drawn0.refl _ | apply Drawn0.step)⟩
   ·rw [if_neg c4] at H
    have c4b0 : decide (10 < (a0.size : Int)) = false:=decide_eq_false c4
    have c4b1 : decide (10 < a0.size) = false:=decide_eq_false (by omega)
    clear c4
    by_cases c5 : 0 < (a0.size : Int)
    ·rw [if_pos c5] at H
     have c5b0 : decide (0 < (a0.size : Int)) = true:=decide_eq_true c5
     have c5b1 : decide (0 < a0.size) = true:=decide_eq_true (by omega)
     clear c5
     replace H:=bE.mp H
     obtain ⟨t176,A70,H⟩:=H
     replace H : (spec_l01Name.j0 k a0 (!t176)) = some r:=H
     have A7:=Aside0.mk A70
     clear A70
     have H':=Aside0.mk H
     clear H
     have p6 : 0 ≤ (0 : Int):=(by omega)
     have q6 : 0 < a0.size:=(by have : (0 : Int) < (a0.size : Int):=da;omega)
     have hx6 : ∀ h : 0 < a0.size,((a0[0]'h).toNat : Int) = bt a0 0:=bt_at a0 0
     clear p6
     have qi6 : (0 < (a0.size : Int)) = True:=eq_true (da)
     replace q6:=eq_true q6
     go_wp2_with (first | (go_at_call 61;(with_reducible refine (spec_l01Small.calls (bt a0 0) t176 _ A7.out).mono ?_);rintro e w' ⟨rfl,⟨nd,rfl⟩⟩))
     go_meet
     case rel => exact ⟨_,(!t176),(by first | rfl | (simp;done) | (simp [*];done)),H',⟨by first | omega | exact Nat.le_refl _⟩,by repeat (first | exact Drawn0.refl _ | apply Drawn0.step)⟩
    ·rw [if_neg c5] at H
     exact absurd H (by simp)
 case rest =>
  clear HC2
  try clear p2
  try clear c3
  try clear c3b0
  try clear c3b1
  try clear c4
  try clear c4b0
  try clear c4b1
  try clear c5
  try clear c5b0
  try clear c5b1
  try clear p6
  try clear q6
  try clear hx6
  try clear qi6
  try clear p6
  try clear q6
  obtain ⟨kq,x16_1,rfl,HA,HJ1,⟨mc1,rfl⟩⟩:=hcut
  cases kq with
  | zero => exact absurd HA.out (by simp [spec_l01Name.j0])
  | succ kj1 =>
   have H:=HA.out
   clear HA
   simp only [spec_l01Name.j0] at H
   by_cases c8 : x16_1 = true
   ·subst c8
    have H1 : (some false) = some r:=by rw [if_pos rfl] at H;exact H
    clear H
    have H:=H1
    clear H1
    obtain rfl:=Option.some.inj H
    go_wp2
    go_ret
    exact ⟨by first | rfl | (simp;done) | (simp [*];done),by repeat (first | exact Drawn0.refl _ | apply Drawn0.step)⟩
   ·replace c8:=Bool.eq_false_iff.mpr c8
    subst c8
    have H1 : (spec_l01Name.l0 kj1 a0 0) = some r:=by rw [if_neg (show ¬ (false = true) by decide)] at H;exact H
    clear H
    have H:=H1
    clear H1
    have H':=Aside0.mk H
    clear H
    go_wp2
    go_loopg [3] kj1 (fun kq v3 w' => ∃ (x3_2 : Int),v3 = .int .i64 x3_2 ∧ Aside0 (spec_l01Name.l0 kq a0 x3_2 = some r) ∧ Aside0 (kq ≤ kj1) ∧ Drawn0 w w')
    case atStart => exact ⟨(0),(by first | rfl | (simp;done) | (simp [*];done)),H',⟨Nat.le_refl _⟩,by repeat (first | exact Drawn0.refl _ | apply Drawn0.step)⟩
    case round =>
     clear H'
     try clear c1
     try clear p2
     try clear c3
     try clear c3b0
     try clear c3b1
     try clear c4
     try clear c4b0
     try clear c4b1
     try clear c5
     try clear c5b0
     try clear c5b1
     try clear p6
     try clear q6
     try clear hx6
     try clear qi6
     try clear c8
     try clear p2
     try clear p6
     try clear q6
     obtain ⟨x3_2,rfl,HA,HK2,⟨m2,rfl⟩⟩:=hrel
     cases gk with
     | zero => exact absurd HA.out (by simp [spec_l01Name.l0])
     | succ k2 =>
      have H:=HA.out
      clear HA
      simp only [spec_l01Name.l0] at H
      by_cases c9 : x3_2 < (a0.size : Int)
      ·rw [if_pos c9] at H
       have c9b0 : decide (x3_2 < (a0.size : Int)) = true:=decide_eq_true c9
       clear c9
       by_cases c10 : 0 ≤ x3_2
       ·rw [if_pos c10] at H
        have c10b0 : decide (0 ≤ x3_2) = true:=decide_eq_true c10
        clear c10
        replace H:=bE.mp H
        obtain ⟨t177,A120,H⟩:=H
        replace H : (if t177 = true then (spec_l01Name.l0 k2 a0 (wrap64 (x3_2 + 1))) else ((spec_l01Digit.f (bt a0 x3_2)).bind fun t178 => (if t178 = true then (spec_l01Name.l0 k2 a0 (wrap64 (x3_2 + 1))) else (some false)))) = some r:=H
        have A12:=Aside0.mk A120
        clear A120
        by_cases c13 : t177 = true
        ·subst c13
         have H1 : (spec_l01Name.l0 k2 a0 (wrap64 (x3_2 + 1))) = some r:=by rw [if_pos rfl] at H;exact H
         clear H
         have H:=H1
         clear H1
         have H':=Aside0.mk H
         clear H
         have p11 : 0 ≤ (x3_2 : Int):=da
         have q11 : x3_2 < (a0.size : Int):=da
         have hx11:=bt_at a0 x3_2
         replace p11:=eq_true p11
         replace q11:=eq_true q11
         go_wp2_with (first | ((with_reducible refine gate_callee (f:=61) rfl ?_);refine goesL_ (some 26) rfl rfl Try.func61 (by kernel_rfl) rfl #[.int .u8 (bt a0 x3_2)] rfl (by (try simp only [mT,mC,mN]);first | done | rfl | (simp only [lD,lT];rfl)) ?_;(with_reducible refine (spec_l01Small.calls (bt a0 x3_2) true _ A12.out).mono ?_);rintro e w' ⟨rfl,⟨nd,rfl⟩⟩;refine ⟨_,rfl,?_⟩))
         go_roundg k2
         case measure => have:=HJ1.out;have:=HK2.out;omega
         case rel => exact ⟨(wrap64 (x3_2 + 1)),(by first | rfl | (simp;done) | (simp [*];done)),H',⟨by have:=HJ1.out;have:=HK2.out;omega⟩,by repeat (first | exact Drawn0.refl _ | apply Drawn0.step)⟩
        ·replace c13:=Bool.eq_false_iff.mpr c13
         subst c13
         have H1 : ((spec_l01Digit.f (bt a0 x3_2)).bind fun t178 => (if t178 = true then (spec_l01Name.l0 k2 a0 (wrap64 (x3_2 + 1))) else (some false))) = some r:=by rw [if_neg (show ¬ (false = true) by decide)] at H;exact H
         clear H
         have H:=H1
         clear H1
         replace H:=bE.mp H
         obtain ⟨t178,A150,H⟩:=H
         replace H : (if t178 = true then (spec_l01Name.l0 k2 a0 (wrap64 (x3_2 + 1))) else (some false)) = some r:=H
         have A15:=Aside0.mk A150
         clear A150
         by_cases c16 : t178 = true
         ·subst c16
          have H1 : (spec_l01Name.l0 k2 a0 (wrap64 (x3_2 + 1))) = some r:=by rw [if_pos rfl] at H;exact H
          clear H
          have H:=H1
          clear H1
          have H':=Aside0.mk H
          clear H
          have p11 : 0 ≤ (x3_2 : Int):=da
          have q11 : x3_2 < (a0.size : Int):=da
          have hx11:=bt_at a0 x3_2
          replace p11:=eq_true p11
          replace q11:=eq_true q11
          go_wp2_with (first | ((with_reducible refine gate_callee (f:=61) rfl ?_);refine goesL_ (some 26) rfl rfl Try.func61 (by kernel_rfl) rfl #[.int .u8 (bt a0 x3_2)] rfl (by (try simp only [mT,mC,mN]);first | done | rfl | (simp only [lD,lT];rfl)) ?_;(with_reducible refine (spec_l01Small.calls (bt a0 x3_2) false _ A12.out).mono ?_);rintro e w' ⟨rfl,⟨nd,rfl⟩⟩;refine ⟨_,rfl,?_⟩;have p14 : 0 ≤ (x3_2 : Int):=da;have q14 : x3_2 < (a0.size : Int):=da;have hx14:=bt_at a0 x3_2;replace p14:=eq_true p14;replace q14:=eq_true q14) | (go_at_call 62;(with_reducible refine (spec_l01Digit.calls (bt a0 x3_2) true _ A15.out).mono ?_);rintro e w' ⟨rfl,⟨nd,rfl⟩⟩))
          go_roundg k2
          case measure => have:=HJ1.out;have:=HK2.out;omega
          case rel => exact ⟨(wrap64 (x3_2 + 1)),(by first | rfl | (simp;done) | (simp [*];done)),H',⟨by have:=HJ1.out;have:=HK2.out;omega⟩,by repeat (first | exact Drawn0.refl _ | apply Drawn0.step)⟩
         ·replace c16:=Bool.eq_false_iff.mpr c16
          subst c16
          have H1 : (some false) = some r:=by rw [if_neg (show ¬ (false = true) by decide)] at H;exact H
          clear H
          have H:=H1
          clear H1
          obtain rfl:=Option.some.inj H
          have p11 : 0 ≤ (x3_2 : Int):=da
          have q11 : x3_2 < (a0.size : Int):=da
          have hx11:=bt_at a0 x3_2
          replace p11:=eq_true p11
          replace q11:=eq_true q11
          go_wp2_with (first | ((with_reducible refine gate_callee (f:=61) rfl ?_);refine goesL_ (some 26) rfl rfl Try.func61 (by kernel_rfl) rfl #[.int .u8 (bt a0 x3_2)] rfl (by (try simp only [mT,mC,mN]);first | done | rfl | (simp only [lD,lT];rfl)) ?_;(with_reducible refine (spec_l01Small.calls (bt a0 x3_2) false _ A12.out).mono ?_);rintro e w' ⟨rfl,⟨nd,rfl⟩⟩;refine ⟨_,rfl,?_⟩;have p14 : 0 ≤ (x3_2 : Int):=da;have q14 : x3_2 < (a0.size : Int):=da;have hx14:=bt_at a0 x3_2;replace p14:=eq_true p14;replace q14:=eq_true q14) | (go_at_call 62;(with_reducible refine (spec_l01Digit.calls (bt a0 x3_2) false _ A15.out).mono ?_);rintro e w' ⟨rfl,⟨nd,rfl⟩⟩))
          go_ret
          exact ⟨by first | rfl | (simp;done) | (simp [*];done),by repeat (first | exact Drawn0.refl _ | apply Drawn0.step)⟩
       ·rw [if_neg c10] at H
        exact absurd H (by simp)
      ·rw [if_neg c9] at H
       have c9b0 : decide (x3_2 < (a0.size : Int)) = false:=decide_eq_false c9
       clear c9
       obtain rfl:=Option.some.inj H
       go_wp2
       go_ret
       exact ⟨by first | rfl | (simp;done) | (simp [*];done),by repeat (first | exact Drawn0.refl _ | apply Drawn0.step)⟩
end Go.Proofs.Ytpeebobdbaemiaa.PFnExactEdgesOf
