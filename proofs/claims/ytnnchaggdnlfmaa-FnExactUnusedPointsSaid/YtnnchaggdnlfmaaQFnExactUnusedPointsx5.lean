/- Contracts of functions that FnExactUnusedPoints reaches, out of the lines of the kit's print. -/
import Derived.Test.YtnnchaggdnlfmaaQFnExactUnusedPointsx0
import Derived.Test.YtnnchaggdnlfmaaQFnExactUnusedPointsx4
namespace Go.Proofs.Ytnnchaggdnlfmaa.PFnExactUnusedPoints
set_option maxHeartbeats 8000000
set_option maxRecDepth 100000
open Go.RowKit Go.Proofs.YtnnchaggdnlfmaaW.PrintWords Go.Proofs.YtnnchaggdnlfmaaW.PrintLast Go.Proofs.YtnnchaggdnlfmaaW.PrintMore
open Bool renaming true → tT, false → fF
open Go.World renaming block_lt_of_cell? → bL
open List renaming length_take → lT, length_drop → lD, map_toArray → mT, map_cons → mC, map_nil → mN
open Option renaming bind_eq_some_iff → bE
attribute [local go_sem] max2_int min2_int max_two min_two max_three min_three max_four min_four
set_option linter.unusedVariables false
set_option linter.unusedSimpArgs false
def laws_markFaceS.l0 : Nat → List (S103) → Int → Int → Option (Int × List (S103))
 | 0,_,_,_ => none
 | k + 1,x0,x1,x5 => if x5 < (x0.length : Int) then (if 0 ≤ x5 then ((laws_markText.f k x1).bind fun t => ((laws_markInt64S.f k ((x0.set x5.toNat (⟨t,(x0.getD x5.toNat z103).f1⟩ : S103)).getD x5.toNat z103).f1 (wrap64 (x1 + 1))).bind fun bt => (laws_markFaceS.l0 k ((x0.set x5.toNat (⟨t,(x0.getD x5.toNat z103).f1⟩ : S103)).set x5.toNat (⟨((x0.set x5.toNat (⟨t,(x0.getD x5.toNat z103).f1⟩ : S103)).getD x5.toNat z103).f0,bt.2⟩ : S103)) bt.1 (wrap64 (x5 + 1))))) else (none)) else (some (x1,x0))
def laws_markFaceS.f (k : Nat) (l0 : List (S103)) (a1 : Int) : Option (Int × List (S103)):=laws_markFaceS.l0 k l0 a1 0
theorem laws_markFaceS.calls (k : Nat) (P0_ : Nat → Prop) (u9000_ : Value) (l0 : List (S103)) (a1 : Int) (r1 : Int) (r2 : List (S103)) (w0 w : World) (hB : Below w0.heap.size w0 w) (ho0 : Kd.S k103 103 w w0.heap.size P0_ u9000_ l0) (h : laws_markFaceS.f k l0 a1 = some (r1,r2)) :
  Calls Try.prog 80 #[u9000_,.int .i64 a1] w fun e w' => e = .returned (.int .i64 r1) ∧ Kd.S k103 103 w' w0.heap.size (fun k_ => (P0_ k_ ∨ w.heap.size ≤ k_)) u9000_ r2 ∧ Below w0.heap.size w0 w' ∧ Kept w w' (fun k_ => P0_ k_):=by
 have HO0:=Aside0.mk (show Kd.S k103 103 w w0.heap.size (fun k_ => (P0_ k_ ∨ w.heap.size ≤ k_)) u9000_ l0 from Kd.S_mono ho0 (fun k_ hk => (.inl hk)))
 have HK:=Aside0.mk (Kept.refl w (fun k_ => P0_ k_))
 have HB:=Aside0.mk hB
 clear hB ho0
 have H : (laws_markFaceS.l0 k l0 a1 0) = some (r1,r2):=h
 clear h
 have H':=Aside0.mk H
 clear H
 have HO_0:=HO0
 clear HO0
 go_enter Try.func80,Try.ntmps80
 go_wp2
 go_loopg [1,5] k (fun kq v1 v5 w' => ∃ (x0_1 : List (S103)) (x1_1 : Int) (x5_1 : Int),v1 = .int .i64 x1_1 ∧ v5 = .int .i64 x5_1 ∧ Aside0 (laws_markFaceS.l0 kq x0_1 x1_1 x5_1 = some (r1,r2)) ∧ Aside0 (kq ≤ k) ∧ Aside0 (Kd.S k103 103 w' w0.heap.size (fun k_ => (P0_ k_ ∨ w.heap.size ≤ k_)) u9000_ x0_1) ∧ Aside0 (Kept w w' (fun k_ => P0_ k_)) ∧ Aside0 (Below w0.heap.size w0 w'))
 case atStart => exact ⟨(l0),(a1),(0),(by first | rfl | (simp;done) | (simp [*];done)),(by first | rfl | (simp;done) | (simp [*];done)),H',⟨Nat.le_refl _⟩,⟨(sO HO_0.out)⟩,⟨(by repeat (first | (with_reducible first | exact HK.out | apply Kept.alloc | apply Kept.drewN | apply Kept.drew) | exact HK.out))⟩,⟨ib⟩⟩
 case round =>
  clear H' HO_0 HK HB
  obtain ⟨x0_1,x1_1,x5_1,rfl,rfl,HA,HK1,HO_0,HK,HB⟩:=hrel
  cases gk with
  | zero => exact absurd HA.out (by simp [laws_markFaceS.l0])
  | succ k1 =>
   have H:=HA.out
   clear HA
   simp only [laws_markFaceS.l0] at H
   by_cases c3 : x5_1 < (x0_1.length : Int)
   ·rw [if_pos c3] at H
    have c3b0 : decide (x5_1 < (x0_1.length : Int)) = true:=decide_eq_true c3
    by_cases c4 : 0 ≤ x5_1
    ·rw [if_pos c4] at H
     have c4b0 : decide (0 ≤ x5_1) = true:=decide_eq_true c4
     obtain ⟨t5,A40_,H⟩:=bE.mp H
     obtain ⟨y0,hy0⟩ : ∃ y_ : List (S103),(x0_1.set x5_1.toNat (⟨t5,(x0_1.getD x5_1.toNat z103).f1⟩ : S103)) = y_:=⟨_,rfl⟩
     rw [hy0] at H
     obtain ⟨⟨y1,y2⟩,A50_,H⟩:=bE.mp H
     replace H : (laws_markFaceS.l0 k1 (y0.set x5_1.toNat (⟨(y0.getD x5_1.toNat z103).f0,y2⟩ : S103)) y1 (wrap64 (x5_1 + 1))) = some (r1,r2):=H
     obtain ⟨y5,hy5⟩ : ∃ y_ : S103,y0.getD x5_1.toNat z103 = y_:=⟨_,rfl⟩
     rw [hy5] at A50_ H
     have H':=Aside0.mk H
     clear H
     have A4:=Aside0.mk A40_
     have A5:=Aside0.mk A50_
     clear A40_ A50_
     have hly : y0.length = x0_1.length:=by rw [← hy0,List.length_set]
     have HY0:=Aside0.mk hy0
     have HY5:=Aside0.mk hy5
     have HLY:=Aside0.mk hly
     clear hy0 hy5 hly
     obtain ⟨go5,co5,eo5,gb5,gl5,cl5,HG5⟩:=Kd.S_form HO_0.out (by omega)
     subst eo5
     have GB5:=Aside0.mk gb5
     have HMgo5:=Aside0.mk (show (P0_ go5 ∨ w.heap.size ≤ go5) from (Kd.S_R HO_0.out).1 _ rfl)
     have HC34:=Aside0.mk (And.intro c4 c3)
     clear gb5 gl5 HG5
     replace c3:=eq_true c3
     replace c4:=eq_true c4
     go_wp2_with (first | ((with_reducible refine gate_callee (f:=127) rfl ?_);refine goesL_ (some 15) rfl rfl Try.func127 (by kernel_rfl) rfl #[.int .i64 x1_1] rfl (by (try simp only [mT,mC,mN]);first | done | rfl | (simp only [lD,lT];rfl)) ?_;(with_reducible refine (laws_markText.calls k1 x1_1 t5 _ A4.out).mono ?_);rintro e w6 ⟨rfl,hb⟩;refine ⟨_,rfl,?_⟩;replace HO_0:=Aside0.mk (Kd.S_below (sO HO_0.out) hb);replace HB:=Aside0.mk (below_weaken ib HB.out.size hb);replace HK:=Aside0.mk (Kept.below (by repeat (first | (with_reducible first | exact HK.out | apply Kept.alloc | apply Kept.drewN | apply Kept.drew) | exact HK.out)) hb);clear hb;obtain ⟨oki,c,hcl,hM,hcc,hfr,hoki,hH⟩:=Kd.S_elem HO_0.out z103 x5_1 HC34.out.1 HC34.out.2;obtain ⟨v5,rfl,hR⟩:=k103_openM hM;have hx5_0 : w6.cell? ⟨go5,x5_1.toNat * 2,none⟩ = some (.string (x0_1.getD x5_1.toNat z103).f0):=hcc 0 _ rfl;have hf5_0 : w6.frozen? ⟨go5,x5_1.toNat * 2,none⟩ = false:=hfr 0;have HP:=Aside0.mk (Kd.S_seg0 hH HC34.out.1 HC34.out.2 (seg:=[.string t5]) (j:=0) (show 1 ≤ 2 from by decide) (x':=(⟨t5,(x0_1.getD x5_1.toNat z103).f1⟩ : S103)) (k103_mkM _ _ _ (⟨t5,(x0_1.getD x5_1.toNat z103).f1⟩ : S103) hR) (fun _ h_ => h_));clear hcl hM hcc hfr hoki hH hR) | ((with_reducible refine gate_store (t:=9) (p:=17) rfl ?_);refine store_event (t:=9) (p:=17) (v:=?vo_w9) (w1:=(w6.setCell ⟨go5,x5_1.toNat * 2,none⟩ (.string t5))) ?hg ?ho ?hn ?hr ?_;(case ho => rfl);(case hg => rfl);(case hn => rfl);(case hr => first | (go_simp;done) | (go_simp;rfl));intro w9 hw;have hg : w6.grownBy w9 (some go5):=(by rw [hw];exact HP.out.2);have n0_:=Aside0.mk (show Kd.S k103 103 w9 w0.heap.size (fun k_ => (P0_ k_ ∨ w.heap.size ≤ k_)) (.slice (some ⟨go5,0,none⟩) x0_1.length co5) y0 from (by rw [hw,← HY0.out];exact HP.out.1));have n1_:=Aside0.mk ((by rw [hw];exact below_set (HB.out) GB5.out : Below w0.heap.size w0 w9));have n2_:=Aside0.mk (Kept.of_grown (S:=(fun k_ => P0_ k_)) hg HK.out (fun k_ e_ => (by injection e_ with e_;subst e_;exact HMgo5.out)));clear HO_0 HB HK HP hx5_0 hf5_0;have HO_0:=n0_;have HB:=n1_;have HK:=n2_;clear n0_ n1_ n2_ hg hw;obtain ⟨oki,c,hcl,hM,hcc,hoki,hH⟩:=Kd.S_lend HO_0.out z103 x5_1 HC34.out.1 HC34.out.2;rw [HY5.out] at hM;obtain ⟨v6,rfl,hR⟩:=k103_openM hM;obtain ⟨A6_,c6_,e6_⟩:=Kd.R_slice hR;subst e6_;have hx6_1 : w9.cell? ⟨go5,x5_1.toNat * 2 + 1,none⟩ = some (.slice A6_ y5.f1.length c6_):=hcc 1 _ rfl;have HR6:=Aside0.mk hR;have HH6:=Aside0.mk hH;have HOK:=Aside0.mk hoki;clear hcl hM hcc hR hH hoki) | ((with_reducible refine gate_callee (f:=47) rfl ?_);refine goesL_ (some 26) rfl rfl Try.func47 (by kernel_rfl) rfl #[.slice A6_ y5.f1.length c6_,.int .i64 (wrap64 (x1_1 + 1))] rfl (by (try simp only [mT,mC,mN]);first | done | rfl | (simp only [lD,lT];rfl)) ?_;(with_reducible refine (laws_markInt64S.calls k1 oki _ y5.f1 (wrap64 (x1_1 + 1)) y1 y2 w0 _ ib (rO HR6.out) A5.out).mono ?_);rintro e w10 ⟨rfl,ho,hb,hk⟩;refine ⟨_,rfl,?_⟩;have hK_ : Kept w w9 (fun k_ => P0_ k_):=(by repeat (first | (with_reducible first | exact HK.out | apply Kept.alloc | apply Kept.drewN | apply Kept.drew) | exact HK.out));replace HO_0:=Aside0.mk (Kd.H_back (Kd.H_step (Kd.H_widen (by (with_reducible repeat (first | apply Kd.H_drewN | apply Kd.H_drew));exact HH6.out)) (fun k_ _ hk2 hlt => hk.2 k_ hlt (fun h_ => hk2 (Or.inl h_)))) (okp:=fun k_ => oki k_ ∨ w9.heap.size ≤ k_) (x':=(⟨y5.f0,y2⟩ : S103)) (k103_mkM _ _ _ (⟨y5.f0,y2⟩ : S103) ho) (fun k_ h_ => Or.elim h_ Or.inl (fun h2_ => Or.inr (And.intro (Or.inr (Nat.le_trans hK_.1 h2_)) h2_))));replace HB:=Aside0.mk hb;replace HK:=Aside0.mk (Kept.then_ hK_ hk (fun k_ h_ => (HOK.out k_ h_).1));clear ho hb hk hK_ HR6 HH6 HOK))
     go_roundg k1
     case measure => have:=HK1.out;omega
     case rel => exact ⟨(y0.set x5_1.toNat (⟨y5.f0,y2⟩ : S103)),y1,(wrap64 (x5_1 + 1)),(by first | rfl | (simp;done) | (simp [*];done)),(by first | rfl | (simp;done) | (simp [*];done)),H',⟨by have:=HK1.out;omega⟩,⟨(sO HO_0.out)⟩,⟨(by repeat (first | (with_reducible first | exact HK.out | apply Kept.alloc | apply Kept.drewN | apply Kept.drew) | exact HK.out))⟩,⟨ib⟩⟩
    ·rw [if_neg c4] at H
     exact absurd H (by simp)
   ·rw [if_neg c3] at H
    have c3b0 : decide (x5_1 < (x0_1.length : Int)) = false:=decide_eq_false c3
    clear c3
    simp only [Option.some.injEq,Prod.mk.injEq] at H
    obtain ⟨rfl,rfl⟩:=H
    obtain ⟨Ao9,co9,eo9⟩:=Kd.S_slice HO_0.out
    subst eo9
    go_wp2
    go_ret
    exact ⟨by first | rfl | (simp [errW_none,errW_some] <;> rfl) | (simp [*,errW_none,errW_some] <;> rfl),(sO HO_0.out),ib,(by repeat (first | (with_reducible first | exact HK.out | apply Kept.alloc | apply Kept.drewN | apply Kept.drew) | exact HK.out))⟩
def laws_markDrawing.f (k : Nat) (a0_0 : Int) (a0_1 : Int) (l0_2 : List (S73)) (l0_3 : List (S103)) (a1 : Int) : Option (Int):=(laws_markPointS.f k l0_2 a1).bind fun bt => ((laws_markFaceS.f k l0_3 bt.1).bind fun bu => (some bu.1))
theorem laws_markDrawing.calls (k : Nat) (P0_ : Nat → Prop) (a0_0 : Int) (a0_1 : Int) (u9000_ : Value) (l0_2 : List (S73)) (u9001_ : Value) (l0_3 : List (S103)) (a1 : Int) (r1 : Int) (w0 w : World) (hB : Below w0.heap.size w0 w) (ho0 : Kd.R k73 73 w w0.heap.size P0_ u9000_ l0_2) (ho1 : Kd.S k103 103 w w0.heap.size P0_ u9001_ l0_3) (h : laws_markDrawing.f k a0_0 a0_1 l0_2 l0_3 a1 = some r1) :
  Calls Try.prog 41 #[.agg #[.int .i64 a0_0,.int .i64 a0_1,u9000_,u9001_],.int .i64 a1] w fun e w' => e = .returned (.int .i64 r1) ∧ Below w0.heap.size w0 w' ∧ Kept w w' (fun k_ => P0_ k_):=by
 have HB:=Aside0.mk hB
 have HK:=Aside0.mk (Kept.refl w (fun k_ => P0_ k_))
 have HO:=Aside0.mk ho0
 have HS:=Aside0.mk (Kd.S_apart' ho1 (Kd.R_typed ho0) (by decide))
 have HP:=Aside0.mk (ho0.1)
 clear hB ho0 ho1
 obtain ⟨⟨m1,m2⟩,A10_,H⟩:=bE.mp h
 obtain ⟨⟨m3,m4⟩,A20_,H⟩:=bE.mp H
 obtain rfl:=Option.some.inj H
 have A1:=Aside0.mk A10_
 have A2:=Aside0.mk A20_
 clear A10_ A20_ h H
 obtain ⟨A5_,c5_,e5_⟩:=Kd.R_slice HO.out
 subst e5_
 obtain ⟨A6_,c6_,e6_⟩:=Kd.S_slice HS.out
 subst e6_
 go_enter Try.func41,Try.ntmps41
 go_wp2_with (first | ((with_reducible refine gate_dst (N:=2) rfl ?_);refine bx (cs:=#[.int .i64 a0_0,.int .i64 a0_1,.slice A5_ l0_2.length c5_,.slice A6_ l0_3.length c6_]) (t:=51) ?_;intro gb hg w3 hbox hb;have n0_:=Aside0.mk (Kd.R_below HO.out hb);have n1_:=Aside0.mk (Kd.S_below HS.out hb);have n2_:=Aside0.mk (below_weaken ib HB.out.size hb);have n3_:=Aside0.mk (Kept.below (by repeat (first | (with_reducible first | exact HK.out | apply Kept.alloc | apply Kept.drewN | apply Kept.drew) | exact HK.out)) hb);have GNE:=Aside0.mk (show some gb ≠ (Value.slice A5_ l0_2.length c5_).ownBlock from (by rw [hg];exact Kd.R_ne_new HO.out 0));have hx2 : w3.cell? ⟨gb,2,none⟩ = some (.slice A5_ l0_2.length c5_):=(blk_cell hbox 2).trans rfl;have BX:=Aside0.mk hbox;clear HO HS HB HK hb hbox hg;have HO:=n0_;have HS:=n1_;have HB:=n2_;have HK:=n3_;clear n0_ n1_ n2_ n3_) | ((with_reducible refine gate_callee (f:=23) rfl ?_);refine goesL_ (some 8) rfl rfl Try.func23 (by kernel_rfl) rfl #[.slice A5_ l0_2.length c5_,.int .i64 a1] rfl (by (try simp only [mT,mC,mN]);first | done | rfl | (simp only [lD,lT];rfl)) ?_;(with_reducible refine (laws_markPointS.calls k (fun k_ => some k_ = (.slice A5_ l0_2.length c5_ : Value).ownBlock) _ l0_2 a1 m1 m2 w0 _ ib (Kd.R_tight rfl (rO HO.out)) A1.out).mono ?_);rintro e w5 ⟨rfl,ho,hb,hk⟩;refine ⟨_,rfl,?_⟩;have n1_:=Aside0.mk (Kd.S_kept HS.out hk (fun k_ h_ => h_.2));have n3_:=Aside0.mk (Kept.then_ (by repeat (first | (with_reducible first | exact HK.out | apply Kept.alloc | apply Kept.drewN | apply Kept.drew) | exact HK.out)) hk (fun k_ h_ => .inl (HP.out k_ h_.symm)));have hx3 : w5.cell? ⟨gb,3,none⟩ = some (.slice A6_ l0_3.length c6_):=(blk_cell (blk_kept BX.out hk GNE.out) 3).trans rfl;clear HO HS HB HK hk ho hx2;have HS:=n1_;have HB:=Aside0.mk hb;have HK:=n3_;clear n1_ n3_ hb) | ((with_reducible refine gate_callee (f:=80) rfl ?_);refine goesL_ (some 12) rfl rfl Try.func80 (by kernel_rfl) rfl #[.slice A6_ l0_3.length c6_,.int .i64 m1] rfl (by (try simp only [mT,mC,mN]);first | done | rfl | (simp only [lD,lT];rfl)) ?_;(with_reducible refine (laws_markFaceS.calls k P0_ _ l0_3 m1 m3 m4 w0 _ ib (Kd.S_mono HS.out (fun k_ h_ => h_.1)) A2.out).mono ?_);rintro e w6 ⟨rfl,ho,hb,hk⟩;refine ⟨_,rfl,?_⟩;have n3_:=Aside0.mk (Kept.then_ (by repeat (first | (with_reducible first | exact HK.out | apply Kept.alloc | apply Kept.drewN | apply Kept.drew) | exact HK.out)) hk (fun k_ h_ => .inl h_));clear HS HB HK hk ho;have HB:=Aside0.mk hb;have HK:=n3_;clear n3_ hb))
 go_ret
 exact ⟨(by first | rfl | (simp;done) | (simp [*];done)),ib,(by repeat (first | (with_reducible first | exact HK.out | apply Kept.alloc | apply Kept.drewN | apply Kept.drew) | exact HK.out))⟩
def laws_heldInt64S.l0 : Nat → List Int → Int → Int → Option (Int)
 | 0,_,_,_ => none
 | k + 1,x0,x1,x5 => if x5 < (x0.length : Int) then (if 0 ≤ x5 then (if (rd x0 x5) = x1 then (laws_heldInt64S.l0 k x0 (wrap64 (x1 + 1)) (wrap64 (x5 + 1))) else (some (-1))) else (none)) else (some x1)
def laws_heldInt64S.f (k : Nat) (l0 : List Int) (a1 : Int) : Option (Int):=laws_heldInt64S.l0 k l0 a1 0
theorem laws_heldInt64S.calls (k : Nat) (A0 : Option Addr) (c0 : Nat) (l0 : List Int) (a1 : Int) (r : Int) (w : World) (hr0 : Kd.C (Kd.int .i64) w A0 l0.length l0) (hc0 : l0.length ≤ c0) (h : laws_heldInt64S.f k l0 a1 = some r) :
  Calls Try.prog 48 #[.slice A0 l0.length c0,.int .i64 a1] w fun e w' => e = .returned (.int .i64 r) ∧ Drawn0 w w':=by
 have HR0:=Aside0.mk hr0
 have HC0:=Aside0.mk hc0
 clear hr0 hc0
 have H : (laws_heldInt64S.l0 k l0 a1 0) = some r:=h
 clear h
 have H':=Aside0.mk H
 clear H
 go_enter Try.func48,Try.ntmps48
 go_wp2
 go_loopg [1,5] k (fun kq v1 v5 w' => ∃ (x1_1 : Int) (x5_1 : Int),v1 = .int .i64 x1_1 ∧ v5 = .int .i64 x5_1 ∧ Aside0 (laws_heldInt64S.l0 kq l0 x1_1 x5_1 = some r) ∧ Aside0 (kq ≤ k) ∧ Drawn0 w w')
 case atStart => exact ⟨(a1),(0),(by first | rfl | (simp;done) | (simp [*];done)),(by first | rfl | (simp;done) | (simp [*];done)),H',⟨Nat.le_refl _⟩,by repeat (first | exact Drawn0.refl _ | apply Drawn0.step)⟩
 case round =>
  clear H'
  try clear p2
  obtain ⟨x1_1,x5_1,rfl,rfl,HA,HK1,⟨m1,rfl⟩⟩:=hrel
  cases gk with
  | zero => exact absurd HA.out (by simp [laws_heldInt64S.l0])
  | succ k1 =>
   have H:=HA.out
   clear HA
   simp only [laws_heldInt64S.l0] at H
   by_cases c3 : x5_1 < (l0.length : Int)
   ·rw [if_pos c3] at H
    have c3b0 : decide (x5_1 < (l0.length : Int)) = true:=decide_eq_true c3
    clear c3
    by_cases c4 : 0 ≤ x5_1
    ·rw [if_pos c4] at H
     have c4b0 : decide (0 ≤ x5_1) = true:=decide_eq_true c4
     clear c4
     by_cases c5 : (rd l0 x5_1) = x1_1
     ·rw [if_pos c5] at H
      have c5b0 : ((rd l0 x5_1) == x1_1) = true:=beq_iff_eq.mpr c5
      have c5b1 : ((rd l0 x5_1) != x1_1) = false:=bne_eq_false_iff_eq.mpr c5
      clear c5
      have H':=Aside0.mk H
      clear H
      have p170 : 0 ≤ (x5_1 : Int):=da
      have q170 : x5_1 < (l0.length : Int):=da
      obtain ⟨ad170,e170,hx170_0⟩:=Kd.at_int HR0.out x5_1 p170 q170
      cases e170
      replace p170:=eq_true p170
      replace q170:=eq_true q170
      go_wp2
      go_roundg k1
      case measure => have:=HK1.out;omega
      case rel => exact ⟨(wrap64 (x1_1 + 1)),(wrap64 (x5_1 + 1)),(by first | rfl | (simp;done) | (simp [*];done)),(by first | rfl | (simp;done) | (simp [*];done)),H',⟨by have:=HK1.out;omega⟩,by repeat (first | exact Drawn0.refl _ | apply Drawn0.step)⟩
     ·rw [if_neg c5] at H
      have c5b0 : ((rd l0 x5_1) == x1_1) = false:=beq_eq_false_iff_ne.mpr c5
      have c5b1 : ((rd l0 x5_1) != x1_1) = true:=bne_iff_ne.mpr c5
      obtain rfl:=Option.some.inj H
      have p170 : 0 ≤ (x5_1 : Int):=da
      have q170 : x5_1 < (l0.length : Int):=da
      obtain ⟨ad170,e170,hx170_0⟩:=Kd.at_int HR0.out x5_1 p170 q170
      cases e170
      replace p170:=eq_true p170
      replace q170:=eq_true q170
      go_wp2
      go_ret
      exact ⟨by first | rfl | (simp;done) | (simp [*];done),by repeat (first | exact Drawn0.refl _ | apply Drawn0.step)⟩
    ·rw [if_neg c4] at H
     exact absurd H (by simp)
   ·rw [if_neg c3] at H
    have c3b0 : decide (x5_1 < (l0.length : Int)) = false:=decide_eq_false c3
    clear c3
    obtain rfl:=Option.some.inj H
    go_wp2
    go_ret
    exact ⟨by first | rfl | (simp;done) | (simp [*];done),by repeat (first | exact Drawn0.refl _ | apply Drawn0.step)⟩
def spec_l00In.f (a0 : Int) (a1 : Int) (a2 : Int) : Option (Bool):=if a0 ≥ a1 then (some (decide (a0 ≤ a2))) else (some false)
theorem spec_l00In.calls (a0 : Int) (a1 : Int) (a2 : Int) (r : Bool) (w : World) (h : spec_l00In.f a0 a1 a2 = some r) :
  Calls Try.prog 58 #[.int .i64 a0,.int .i64 a1,.int .i64 a2] w fun e w' => e = .returned (.bool r) ∧ Drawn0 w w':=by
 have H : (if a0 ≥ a1 then (some (decide (a0 ≤ a2))) else (some false)) = some r:=h
 clear h
 by_cases c4 : a0 ≥ a1
 ·rw [if_pos c4] at H
  have c4b0 : decide (a1 ≤ a0) = true:=decide_eq_true c4
  clear c4
  obtain rfl:=Option.some.inj H
  go_enter Try.func58,Try.ntmps58
  go_wp2
  go_ret
  exact ⟨by first | rfl | (simp;done) | (simp [*];done),by repeat (first | exact Drawn0.refl _ | apply Drawn0.step)⟩
 ·rw [if_neg c4] at H
  have c4b0 : decide (a1 ≤ a0) = false:=decide_eq_false c4
  clear c4
  obtain rfl:=Option.some.inj H
  go_enter Try.func58,Try.ntmps58
  go_wp2
  go_ret
  exact ⟨by first | rfl | (simp;done) | (simp [*];done),by repeat (first | exact Drawn0.refl _ | apply Drawn0.step)⟩
def spec_l02Ok.f (a0_0 : Int) (a0_1 : Int) : Option (Bool):=(spec_l00In.f a0_0 0 20000).bind fun t172 => (if t172 = true then ((spec_l00In.f a0_1 0 20000).bind fun t173 => (some t173)) else (some false))
theorem spec_l02Ok.calls (a0_0 : Int) (a0_1 : Int) (r : Bool) (w : World) (h : spec_l02Ok.f a0_0 a0_1 = some r) :
  Calls Try.prog 98 #[.agg #[.int .i64 a0_0,.int .i64 a0_1]] w fun e w' => e = .returned (.bool r) ∧ Below w.heap.size w w':=by
 have hu73:=Try.underlying73
 have HB:=Aside0.mk (Below.refl w.heap.size w)
 have H : ((spec_l00In.f a0_0 0 20000).bind fun t172 => (if t172 = true then ((spec_l00In.f a0_1 0 20000).bind fun t173 => (some t173)) else (some false))) = some r:=h
 clear h
 replace H:=bE.mp H
 obtain ⟨t172,A20,H⟩:=H
 replace H : (if t172 = true then ((spec_l00In.f a0_1 0 20000).bind fun t173 => (some t173)) else (some false)) = some r:=H
 have A2:=Aside0.mk A20
 clear A20
 by_cases c3 : t172 = true
 ·subst c3
  have H1 : ((spec_l00In.f a0_1 0 20000).bind fun t173 => (some t173)) = some r:=by rw [if_pos rfl] at H;exact H
  clear H
  have H:=H1
  clear H1
  replace H:=bE.mp H
  obtain ⟨t173,A40,H⟩:=H
  replace H : (some t173) = some r:=H
  have A4:=Aside0.mk A40
  clear A40
  obtain rfl:=Option.some.inj H
  go_enter Try.func98,Try.ntmps98
  go_wp2_with (first | ((with_reducible refine gate_dst (N:=1) rfl ?_);refine bx (cs:=#[.int .i64 a0_0,.int .i64 a0_1]) (t:=73) ?_;intro gb171 hg w5 hbox hb;have BK171:=Aside0.mk (hbox);have GW171:=zb hg;have GE171:=zb hg;replace HB:=sb hb;clear hb hbox hg;have hcz6_0:=ck BK171 0;have hcz6_1:=ck BK171 1;have hfz6_0:=blk_frozen BK171.out 0;have hfz6_1:=blk_frozen BK171.out 1) | ((with_reducible refine gate_callee (f:=58) rfl ?_);refine goesL_ (some 5) rfl rfl Try.func58 (by kernel_rfl) rfl #[.int .i64 a0_0,.int .i64 0,.int .i64 20000] rfl (by (try simp only [mT,mC,mN]);first | done | rfl | (simp only [lD,lT];rfl)) ?_;(with_reducible refine (spec_l00In.calls a0_0 0 20000 true _ A2.out).mono ?_);rintro e w' ⟨rfl,⟨nd,rfl⟩⟩;refine ⟨_,rfl,?_⟩) | (go_at_call 58;(with_reducible refine (spec_l00In.calls a0_1 0 20000 t173 _ A4.out).mono ?_);rintro e w' ⟨rfl,⟨nd,rfl⟩⟩))
  go_ret
  exact ⟨by first | rfl | (simp [errW_none,errW_some] <;> rfl) | (simp [*,errW_none,errW_some] <;> rfl),ib⟩
 ·replace c3:=Bool.eq_false_iff.mpr c3
  subst c3
  have H1 : (some false) = some r:=by rw [if_neg (show ¬ (false = true) by decide)] at H;exact H
  clear H
  have H:=H1
  clear H1
  obtain rfl:=Option.some.inj H
  go_enter Try.func98,Try.ntmps98
  go_wp2_with (first | ((with_reducible refine gate_dst (N:=1) rfl ?_);refine bx (cs:=#[.int .i64 a0_0,.int .i64 a0_1]) (t:=73) ?_;intro gb171 hg w7 hbox hb;have BK171:=Aside0.mk (hbox);have GW171:=zb hg;have GE171:=zb hg;replace HB:=sb hb;clear hb hbox hg;have hcz8_0:=ck BK171 0;have hcz8_1:=ck BK171 1;have hfz8_0:=blk_frozen BK171.out 0;have hfz8_1:=blk_frozen BK171.out 1) | ((with_reducible refine gate_callee (f:=58) rfl ?_);refine goesL_ (some 5) rfl rfl Try.func58 (by kernel_rfl) rfl #[.int .i64 a0_0,.int .i64 0,.int .i64 20000] rfl (by (try simp only [mT,mC,mN]);first | done | rfl | (simp only [lD,lT];rfl)) ?_;(with_reducible refine (spec_l00In.calls a0_0 0 20000 false _ A2.out).mono ?_);rintro e w' ⟨rfl,⟨nd,rfl⟩⟩;refine ⟨_,rfl,?_⟩))
  go_ret
  exact ⟨by first | rfl | (simp [errW_none,errW_some] <;> rfl) | (simp [*,errW_none,errW_some] <;> rfl),ib⟩
def spec_l02Cross.f (a0_0 : Int) (a0_1 : Int) (a1_0 : Int) (a1_1 : Int) (a2_0 : Int) (a2_1 : Int) : Option (Int):=some (wrap64 ((wrap64 ((wrap64 (a1_0 - a0_0)) * (wrap64 (a2_1 - a0_1)))) - (wrap64 ((wrap64 (a1_1 - a0_1)) * (wrap64 (a2_0 - a0_0))))))
theorem spec_l02Cross.calls (a0_0 : Int) (a0_1 : Int) (a1_0 : Int) (a1_1 : Int) (a2_0 : Int) (a2_1 : Int) (r : Int) (w : World) (h : spec_l02Cross.f a0_0 a0_1 a1_0 a1_1 a2_0 a2_1 = some r) :
  Calls Try.prog 145 #[.agg #[.int .i64 a0_0,.int .i64 a0_1],.agg #[.int .i64 a1_0,.int .i64 a1_1],.agg #[.int .i64 a2_0,.int .i64 a2_1]] w fun e w' => e = .returned (.int .i64 r) ∧ Below w.heap.size w w':=by
 have hu73:=Try.underlying73
 have HB:=Aside0.mk (Below.refl w.heap.size w)
 have H : (some (wrap64 ((wrap64 ((wrap64 (a1_0 - a0_0)) * (wrap64 (a2_1 - a0_1)))) - (wrap64 ((wrap64 (a1_1 - a0_1)) * (wrap64 (a2_0 - a0_0))))))) = some r:=h
 clear h
 obtain rfl:=Option.some.inj H
 go_enter Try.func145,Try.ntmps145
 go_wp2_with (first | ((with_reducible refine gate_dst (N:=3) rfl ?_);refine bx (cs:=#[.int .i64 a0_0,.int .i64 a0_1]) (t:=73) ?_;intro gb174 hg w4 hbox hb;have BK174:=Aside0.mk (hbox);have GW174:=zb hg;have GE174:=zb hg;replace HB:=sb hb;clear hb hbox hg) | ((with_reducible refine gate_dst (N:=4) rfl ?_);refine bx (cs:=#[.int .i64 a1_0,.int .i64 a1_1]) (t:=73) ?_;intro gb175 hg w5 hbox hb;have BK175:=Aside0.mk (hbox);have GW175:=zb hg;have GE175:=zb hg;replace HB:=sb hb;have NB174_175:=nl BK174 hg;have NB175_174:=ng BK174 hg;replace BK174:=kb BK174 hb;clear hb hbox hg) | ((with_reducible refine gate_dst (N:=5) rfl ?_);refine bx (cs:=#[.int .i64 a2_0,.int .i64 a2_1]) (t:=73) ?_;intro gb176 hg w6 hbox hb;have BK176:=Aside0.mk (hbox);have GW176:=zb hg;have GE176:=zb hg;replace HB:=sb hb;have NB174_176:=nl BK174 hg;have NB176_174:=ng BK174 hg;replace BK174:=kb BK174 hb;have NB175_176:=nl BK175 hg;have NB176_175:=ng BK175 hg;replace BK175:=kb BK175 hb;clear hb hbox hg;have hnb7:=NB175_174.out;have hnc7:=NB174_175.out;have hnb8:=NB175_176.out;have hnc8:=NB176_175.out;have hcz9_0:=ck BK175 0;have hcz9_1:=ck BK175 1;have hfz9_0:=blk_frozen BK175.out 0;have hfz9_1:=blk_frozen BK175.out 1;have hnb10:=NB174_176.out;have hnc10:=NB176_174.out;have hcz11_0:=ck BK174 0;have hcz11_1:=ck BK174 1;have hfz11_0:=blk_frozen BK174.out 0;have hfz11_1:=blk_frozen BK174.out 1;have hcz12_0:=ck BK176 0;have hcz12_1:=ck BK176 1;have hfz12_0:=blk_frozen BK176.out 0;have hfz12_1:=blk_frozen BK176.out 1))
 go_ret
 exact ⟨by first | rfl | (simp [errW_none,errW_some] <;> rfl) | (simp [*,errW_none,errW_some] <;> rfl),ib⟩
def spec_l02Side.f (a0_0 : Int) (a0_1 : Int) (a1_0 : Int) (a1_1 : Int) (a2_0 : Int) (a2_1 : Int) : Option (Int):=(spec_l02Cross.f a0_0 a0_1 a1_0 a1_1 a2_0 a2_1).bind fun t180 => (if t180 > 0 then (some 1) else (if t180 < 0 then (some (-1)) else (some 0)))
theorem spec_l02Side.calls (a0_0 : Int) (a0_1 : Int) (a1_0 : Int) (a1_1 : Int) (a2_0 : Int) (a2_1 : Int) (r : Int) (w : World) (h : spec_l02Side.f a0_0 a0_1 a1_0 a1_1 a2_0 a2_1 = some r) :
  Calls Try.prog 103 #[.agg #[.int .i64 a0_0,.int .i64 a0_1],.agg #[.int .i64 a1_0,.int .i64 a1_1],.agg #[.int .i64 a2_0,.int .i64 a2_1]] w fun e w' => e = .returned (.int .i64 r) ∧ Below w.heap.size w w':=by
 have hu73:=Try.underlying73
 have HB:=Aside0.mk (Below.refl w.heap.size w)
 have H : ((spec_l02Cross.f a0_0 a0_1 a1_0 a1_1 a2_0 a2_1).bind fun t180 => (if t180 > 0 then (some 1) else (if t180 < 0 then (some (-1)) else (some 0)))) = some r:=h
 clear h
 replace H:=bE.mp H
 obtain ⟨t180,A40,H⟩:=H
 replace H : (if t180 > 0 then (some 1) else (if t180 < 0 then (some (-1)) else (some 0))) = some r:=H
 have A4:=Aside0.mk A40
 clear A40
 by_cases c5 : t180 > 0
 ·rw [if_pos c5] at H
  have c5b0 : decide (0 < t180) = true:=decide_eq_true c5
  clear c5
  obtain rfl:=Option.some.inj H
  go_enter Try.func103,Try.ntmps103
  go_wp2_with (first | ((with_reducible refine gate_dst (N:=3) rfl ?_);refine bx (cs:=#[.int .i64 a0_0,.int .i64 a0_1]) (t:=73) ?_;intro gb177 hg w6 hbox hb;have BK177:=Aside0.mk (hbox);have GW177:=zb hg;have GE177:=zb hg;replace HB:=sb hb;clear hb hbox hg) | ((with_reducible refine gate_dst (N:=4) rfl ?_);refine bx (cs:=#[.int .i64 a1_0,.int .i64 a1_1]) (t:=73) ?_;intro gb178 hg w7 hbox hb;have BK178:=Aside0.mk (hbox);have GW178:=zb hg;have GE178:=zb hg;replace HB:=sb hb;have NB177_178:=nl BK177 hg;have NB178_177:=ng BK177 hg;replace BK177:=kb BK177 hb;clear hb hbox hg) | ((with_reducible refine gate_dst (N:=5) rfl ?_);refine bx (cs:=#[.int .i64 a2_0,.int .i64 a2_1]) (t:=73) ?_;intro gb179 hg w8 hbox hb;have BK179:=Aside0.mk (hbox);have GW179:=zb hg;have GE179:=zb hg;replace HB:=sb hb;have NB177_179:=nl BK177 hg;have NB179_177:=ng BK177 hg;replace BK177:=kb BK177 hb;have NB178_179:=nl BK178 hg;have NB179_178:=ng BK178 hg;replace BK178:=kb BK178 hb;clear hb hbox hg;have hnb9:=NB177_178.out;have hnc9:=NB178_177.out;have hnb10:=NB177_179.out;have hnc10:=NB179_177.out;have hcz11_0:=ck BK177 0;have hcz11_1:=ck BK177 1;have hfz11_0:=blk_frozen BK177.out 0;have hfz11_1:=blk_frozen BK177.out 1;have hnb12:=NB178_179.out;have hnc12:=NB179_178.out;have hcz13_0:=ck BK178 0;have hcz13_1:=ck BK178 1;have hfz13_0:=blk_frozen BK178.out 0;have hfz13_1:=blk_frozen BK178.out 1;have hcz14_0:=ck BK179 0;have hcz14_1:=ck BK179 1;have hfz14_0:=blk_frozen BK179.out 0;have hfz14_1:=blk_frozen BK179.out 1) | ((with_reducible refine gate_callee (f:=145) rfl ?_);refine goesL_ (some 11) rfl rfl Try.func145 (by kernel_rfl) rfl #[.agg #[.int .i64 a0_0,.int .i64 a0_1],.agg #[.int .i64 a1_0,.int .i64 a1_1],.agg #[.int .i64 a2_0,.int .i64 a2_1]] rfl (by (try simp only [mT,mC,mN]);first | done | rfl | (simp only [lD,lT];rfl)) ?_;(with_reducible refine (spec_l02Cross.calls a0_0 a0_1 a1_0 a1_1 a2_0 a2_1 t180 _ A4.out).mono ?_);rintro e w15 ⟨rfl,hb⟩;refine ⟨_,rfl,?_⟩;replace BK177:=kb BK177 hb;replace BK178:=kb BK178 hb;replace BK179:=kb BK179 hb;replace HB:=sb hb;(try clear hb);(try clear hb2);(try clear hk);(try clear hi)))
  go_ret
  exact ⟨by first | rfl | (simp [errW_none,errW_some] <;> rfl) | (simp [*,errW_none,errW_some] <;> rfl),ib⟩
 ·rw [if_neg c5] at H
  have c5b0 : decide (0 < t180) = false:=decide_eq_false c5
  clear c5
  by_cases c16 : t180 < 0
  ·rw [if_pos c16] at H
   have c16b0 : decide (t180 < 0) = true:=decide_eq_true c16
   clear c16
   obtain rfl:=Option.some.inj H
   go_enter Try.func103,Try.ntmps103
   go_wp2_with (first | ((with_reducible refine gate_dst (N:=3) rfl ?_);refine bx (cs:=#[.int .i64 a0_0,.int .i64 a0_1]) (t:=73) ?_;intro gb177 hg w17 hbox hb;have BK177:=Aside0.mk (hbox);have GW177:=zb hg;have GE177:=zb hg;replace HB:=sb hb;clear hb hbox hg) | ((with_reducible refine gate_dst (N:=4) rfl ?_);refine bx (cs:=#[.int .i64 a1_0,.int .i64 a1_1]) (t:=73) ?_;intro gb178 hg w18 hbox hb;have BK178:=Aside0.mk (hbox);have GW178:=zb hg;have GE178:=zb hg;replace HB:=sb hb;have NB177_178:=nl BK177 hg;have NB178_177:=ng BK177 hg;replace BK177:=kb BK177 hb;clear hb hbox hg) | ((with_reducible refine gate_dst (N:=5) rfl ?_);refine bx (cs:=#[.int .i64 a2_0,.int .i64 a2_1]) (t:=73) ?_;intro gb179 hg w19 hbox hb;have BK179:=Aside0.mk (hbox);have GW179:=zb hg;have GE179:=zb hg;replace HB:=sb hb;have NB177_179:=nl BK177 hg;have NB179_177:=ng BK177 hg;replace BK177:=kb BK177 hb;have NB178_179:=nl BK178 hg;have NB179_178:=ng BK178 hg;replace BK178:=kb BK178 hb;clear hb hbox hg;have hnb20:=NB177_178.out;have hnc20:=NB178_177.out;have hnb21:=NB177_179.out;have hnc21:=NB179_177.out;have hcz22_0:=ck BK177 0;have hcz22_1:=ck BK177 1;have hfz22_0:=blk_frozen BK177.out 0;have hfz22_1:=blk_frozen BK177.out 1;have hnb23:=NB178_179.out;have hnc23:=NB179_178.out;have hcz24_0:=ck BK178 0;have hcz24_1:=ck BK178 1;have hfz24_0:=blk_frozen BK178.out 0;have hfz24_1:=blk_frozen BK178.out 1;have hcz25_0:=ck BK179 0;have hcz25_1:=ck BK179 1;have hfz25_0:=blk_frozen BK179.out 0;have hfz25_1:=blk_frozen BK179.out 1) | ((with_reducible refine gate_callee (f:=145) rfl ?_);refine goesL_ (some 11) rfl rfl Try.func145 (by kernel_rfl) rfl #[.agg #[.int .i64 a0_0,.int .i64 a0_1],.agg #[.int .i64 a1_0,.int .i64 a1_1],.agg #[.int .i64 a2_0,.int .i64 a2_1]] rfl (by (try simp only [mT,mC,mN]);first | done | rfl | (simp only [lD,lT];rfl)) ?_;(with_reducible refine (spec_l02Cross.calls a0_0 a0_1 a1_0 a1_1 a2_0 a2_1 t180 _ A4.out).mono ?_);rintro e w26 ⟨rfl,hb⟩;refine ⟨_,rfl,?_⟩;replace BK177:=kb BK177 hb;replace BK178:=kb BK178 hb;replace BK179:=kb BK179 hb;replace HB:=sb hb;(try clear hb);(try clear hb2);(try clear hk);(try clear hi)))
   go_ret
   exact ⟨by first | rfl | (simp [errW_none,errW_some] <;> rfl) | (simp [*,errW_none,errW_some] <;> rfl),ib⟩
  ·rw [if_neg c16] at H
   have c16b0 : decide (t180 < 0) = false:=decide_eq_false c16
   clear c16
   obtain rfl:=Option.some.inj H
   go_enter Try.func103,Try.ntmps103
   go_wp2_with (first | ((with_reducible refine gate_dst (N:=3) rfl ?_);refine bx (cs:=#[.int .i64 a0_0,.int .i64 a0_1]) (t:=73) ?_;intro gb177 hg w27 hbox hb;have BK177:=Aside0.mk (hbox);have GW177:=zb hg;have GE177:=zb hg;replace HB:=sb hb;clear hb hbox hg) | ((with_reducible refine gate_dst (N:=4) rfl ?_);refine bx (cs:=#[.int .i64 a1_0,.int .i64 a1_1]) (t:=73) ?_;intro gb178 hg w28 hbox hb;have BK178:=Aside0.mk (hbox);have GW178:=zb hg;have GE178:=zb hg;replace HB:=sb hb;have NB177_178:=nl BK177 hg;have NB178_177:=ng BK177 hg;replace BK177:=kb BK177 hb;clear hb hbox hg) | ((with_reducible refine gate_dst (N:=5) rfl ?_);refine bx (cs:=#[.int .i64 a2_0,.int .i64 a2_1]) (t:=73) ?_;intro gb179 hg w29 hbox hb;have BK179:=Aside0.mk (hbox);have GW179:=zb hg;have GE179:=zb hg;replace HB:=sb hb;have NB177_179:=nl BK177 hg;have NB179_177:=ng BK177 hg;replace BK177:=kb BK177 hb;have NB178_179:=nl BK178 hg;have NB179_178:=ng BK178 hg;replace BK178:=kb BK178 hb;clear hb hbox hg;have hnb30:=NB177_178.out;have hnc30:=NB178_177.out;have hnb31:=NB177_179.out;have hnc31:=NB179_177.out;have hcz32_0:=ck BK177 0;have hcz32_1:=ck BK177 1;have hfz32_0:=blk_frozen BK177.out 0;have hfz32_1:=blk_frozen BK177.out 1;have hnb33:=NB178_179.out;have hnc33:=NB179_178.out;have hcz34_0:=ck BK178 0;have hcz34_1:=ck BK178 1;have hfz34_0:=blk_frozen BK178.out 0;have hfz34_1:=blk_frozen BK178.out 1;have hcz35_0:=ck BK179 0;have hcz35_1:=ck BK179 1;have hfz35_0:=blk_frozen BK179.out 0;have hfz35_1:=blk_frozen BK179.out 1) | ((with_reducible refine gate_callee (f:=145) rfl ?_);refine goesL_ (some 11) rfl rfl Try.func145 (by kernel_rfl) rfl #[.agg #[.int .i64 a0_0,.int .i64 a0_1],.agg #[.int .i64 a1_0,.int .i64 a1_1],.agg #[.int .i64 a2_0,.int .i64 a2_1]] rfl (by (try simp only [mT,mC,mN]);first | done | rfl | (simp only [lD,lT];rfl)) ?_;(with_reducible refine (spec_l02Cross.calls a0_0 a0_1 a1_0 a1_1 a2_0 a2_1 t180 _ A4.out).mono ?_);rintro e w36 ⟨rfl,hb⟩;refine ⟨_,rfl,?_⟩;replace BK177:=kb BK177 hb;replace BK178:=kb BK178 hb;replace BK179:=kb BK179 hb;replace HB:=sb hb;(try clear hb);(try clear hb2);(try clear hk);(try clear hi)))
   go_ret
   exact ⟨by first | rfl | (simp [errW_none,errW_some] <;> rfl) | (simp [*,errW_none,errW_some] <;> rfl),ib⟩
def spec_l00Min.f (a0 : Int) (a1 : Int) : Option (Int):=if a0 < a1 then (some a0) else (some a1)
theorem spec_l00Min.calls (a0 : Int) (a1 : Int) (r : Int) (w : World) (h : spec_l00Min.f a0 a1 = some r) :
  Calls Try.prog 143 #[.int .i64 a0,.int .i64 a1] w fun e w' => e = .returned (.int .i64 r) ∧ Drawn0 w w':=by
 have H : (if a0 < a1 then (some a0) else (some a1)) = some r:=h
 clear h
 by_cases c3 : a0 < a1
 ·rw [if_pos c3] at H
  have c3b0 : decide (a0 < a1) = true:=decide_eq_true c3
  clear c3
  obtain rfl:=Option.some.inj H
  go_enter Try.func143,Try.ntmps143
  go_wp2
  go_ret
  exact ⟨by first | rfl | (simp;done) | (simp [*];done),by repeat (first | exact Drawn0.refl _ | apply Drawn0.step)⟩
 ·rw [if_neg c3] at H
  have c3b0 : decide (a0 < a1) = false:=decide_eq_false c3
  clear c3
  obtain rfl:=Option.some.inj H
  go_enter Try.func143,Try.ntmps143
  go_wp2
  go_ret
  exact ⟨by first | rfl | (simp;done) | (simp [*];done),by repeat (first | exact Drawn0.refl _ | apply Drawn0.step)⟩
def spec_l00Max.f (a0 : Int) (a1 : Int) : Option (Int):=if a0 > a1 then (some a0) else (some a1)
theorem spec_l00Max.calls (a0 : Int) (a1 : Int) (r : Int) (w : World) (h : spec_l00Max.f a0 a1 = some r) :
  Calls Try.prog 144 #[.int .i64 a0,.int .i64 a1] w fun e w' => e = .returned (.int .i64 r) ∧ Drawn0 w w':=by
 have H : (if a0 > a1 then (some a0) else (some a1)) = some r:=h
 clear h
 by_cases c3 : a0 > a1
 ·rw [if_pos c3] at H
  have c3b0 : decide (a1 < a0) = true:=decide_eq_true c3
  clear c3
  obtain rfl:=Option.some.inj H
  go_enter Try.func144,Try.ntmps144
  go_wp2
  go_ret
  exact ⟨by first | rfl | (simp;done) | (simp [*];done),by repeat (first | exact Drawn0.refl _ | apply Drawn0.step)⟩
 ·rw [if_neg c3] at H
  have c3b0 : decide (a1 < a0) = false:=decide_eq_false c3
  clear c3
  obtain rfl:=Option.some.inj H
  go_enter Try.func144,Try.ntmps144
  go_wp2
  go_ret
  exact ⟨by first | rfl | (simp;done) | (simp [*];done),by repeat (first | exact Drawn0.refl _ | apply Drawn0.step)⟩
end Go.Proofs.Ytnnchaggdnlfmaa.PFnExactUnusedPoints
