/- Contracts of functions that FnExactNeighboursOf reaches, out of the lines of the kit's print. -/
import Derived.Test.YtpeebobdbaemiaaQFnExactNeighboursOfx0
import Derived.Test.YtpeebobdbaemiaaQFnExactNeighboursOfx3
import Derived.Test.YtpeebobdbaemiaaQFnExactNeighboursOfx9
import Derived.Test.YtpeebobdbaemiaaQFnExactNeighboursOfx10
import Derived.Test.YtpeebobdbaemiaaQFnExactNeighboursOfx17
import Derived.Test.YtpeebobdbaemiaaQFnExactNeighboursOfx18
namespace Go.Proofs.Ytpeebobdbaemiaa.PFnExactNeighboursOf
set_option maxHeartbeats 8000000
set_option maxRecDepth 100000
open Go.RowKit Go.Proofs.YtpeebobdbaemiaaW.PrintWords Go.Proofs.YtpeebobdbaemiaaW.PrintLast Go.Proofs.YtpeebobdbaemiaaW.PrintMore
open Bool renaming true → tT, false → fF
open Go.World renaming block_lt_of_cell? → bL
open List renaming length_take → lT, length_drop → lD, map_toArray → mT, map_cons → mC, map_nil → mN
open Option renaming bind_eq_some_iff → bE
attribute [local go_sem] max2_int min2_int max_two min_two max_three min_three max_four min_four
set_option linter.unusedVariables false
set_option linter.unusedSimpArgs false
def laws_markFaceS.l0 : Nat → List (S64) → Int → Int → Option (Int × List (S64))
 | 0,_,_,_ => none
 | k + 1,x0,x1,x5 => if x5 < (x0.length : Int) then (if 0 ≤ x5 then ((laws_markText.f k x1).bind fun t => ((laws_markInt64S.f k ((x0.set x5.toNat (⟨t,(x0.getD x5.toNat z64).f1⟩ : S64)).getD x5.toNat z64).f1 (wrap64 (x1 + 1))).bind fun bt => (laws_markFaceS.l0 k ((x0.set x5.toNat (⟨t,(x0.getD x5.toNat z64).f1⟩ : S64)).set x5.toNat (⟨((x0.set x5.toNat (⟨t,(x0.getD x5.toNat z64).f1⟩ : S64)).getD x5.toNat z64).f0,bt.2⟩ : S64)) bt.1 (wrap64 (x5 + 1))))) else (none)) else (some (x1,x0))
def laws_markFaceS.f (k : Nat) (l0 : List (S64)) (a1 : Int) : Option (Int × List (S64)):=laws_markFaceS.l0 k l0 a1 0
theorem laws_markFaceS.calls (k : Nat) (P0_ : Nat → Prop) (u9000_ : Value) (l0 : List (S64)) (a1 : Int) (r1 : Int) (r2 : List (S64)) (w0 w : World) (hB : Below w0.heap.size w0 w) (ho0 : Kd.S k64 64 w w0.heap.size P0_ u9000_ l0) (h : laws_markFaceS.f k l0 a1 = some (r1,r2)) :
  Calls Try.prog 31 #[u9000_,.int .i64 a1] w fun e w' => e = .returned (.int .i64 r1) ∧ Kd.S k64 64 w' w0.heap.size (fun k_ => (P0_ k_ ∨ w.heap.size ≤ k_)) u9000_ r2 ∧ Below w0.heap.size w0 w' ∧ Kept w w' (fun k_ => P0_ k_):=by
 have HO0:=Aside0.mk (show Kd.S k64 64 w w0.heap.size (fun k_ => (P0_ k_ ∨ w.heap.size ≤ k_)) u9000_ l0 from Kd.S_mono ho0 (fun k_ hk => (.inl hk)))
 have HK:=Aside0.mk (Kept.refl w (fun k_ => P0_ k_))
 have HB:=Aside0.mk hB
 clear hB ho0
 have H : (laws_markFaceS.l0 k l0 a1 0) = some (r1,r2):=h
 clear h
 have H':=Aside0.mk H
 clear H
 have HO_0:=HO0
 clear HO0
 go_enter Try.func31,Try.ntmps31
 go_wp2
 go_loopg [1,5] k (fun kq v1 v5 w' => ∃ (x0_1 : List (S64)) (x1_1 : Int) (x5_1 : Int),v1 = .int .i64 x1_1 ∧ v5 = .int .i64 x5_1 ∧ Aside0 (laws_markFaceS.l0 kq x0_1 x1_1 x5_1 = some (r1,r2)) ∧ Aside0 (kq ≤ k) ∧ Aside0 (Kd.S k64 64 w' w0.heap.size (fun k_ => (P0_ k_ ∨ w.heap.size ≤ k_)) u9000_ x0_1) ∧ Aside0 (Kept w w' (fun k_ => P0_ k_)) ∧ Aside0 (Below w0.heap.size w0 w'))
 case atStart => exact ⟨(l0),(a1),(0),(by first | rfl | (simp;done) | (simp [*];done)),(by first | rfl | (simp;done) | (simp [*];done)),H',⟨Nat.le_refl _⟩,⟨(sO HO_0.out)⟩,⟨(by repeat (first | (with_reducible first | exact HK.out | apply Kept.alloc | apply Kept.drewN | apply Kept.drew) | exact HK.out))⟩,⟨ib⟩⟩
 case round =>
  clear H' HO_0 HK HB
  obtain ⟨x0_1,x1_1,x5_1,rfl,rfl,HA,HK1,HO_0,HK,HB⟩:=hrel
  cases gk with
  | zero => exact absurd HA.out (by simp [laws_markFaceS.l0])
  | succ k1 =>
   have H:=HA.out
   clear HA
   simp only [laws_markFaceS.l0] at H
   by_cases c3 : x5_1 < (x0_1.length : Int)
   ·rw [if_pos c3] at H
    have c3b0 : decide (x5_1 < (x0_1.length : Int)) = true:=decide_eq_true c3
    by_cases c4 : 0 ≤ x5_1
    ·rw [if_pos c4] at H
     have c4b0 : decide (0 ≤ x5_1) = true:=decide_eq_true c4
     obtain ⟨t5,A40_,H⟩:=bE.mp H
     obtain ⟨y0,hy0⟩ : ∃ y_ : List (S64),(x0_1.set x5_1.toNat (⟨t5,(x0_1.getD x5_1.toNat z64).f1⟩ : S64)) = y_:=⟨_,rfl⟩
     rw [hy0] at H
     obtain ⟨⟨y1,y2⟩,A50_,H⟩:=bE.mp H
     replace H : (laws_markFaceS.l0 k1 (y0.set x5_1.toNat (⟨(y0.getD x5_1.toNat z64).f0,y2⟩ : S64)) y1 (wrap64 (x5_1 + 1))) = some (r1,r2):=H
     obtain ⟨y5,hy5⟩ : ∃ y_ : S64,y0.getD x5_1.toNat z64 = y_:=⟨_,rfl⟩
     rw [hy5] at A50_ H
     have H':=Aside0.mk H
     clear H
     have A4:=Aside0.mk A40_
     have A5:=Aside0.mk A50_
     clear A40_ A50_
     have hly : y0.length = x0_1.length:=by rw [← hy0,List.length_set]
     have HY0:=Aside0.mk hy0
     have HY5:=Aside0.mk hy5
     have HLY:=Aside0.mk hly
     clear hy0 hy5 hly
     obtain ⟨go5,co5,eo5,gb5,gl5,cl5,HG5⟩:=Kd.S_form HO_0.out (by omega)
     subst eo5
     have GB5:=Aside0.mk gb5
     have HMgo5:=Aside0.mk (show (P0_ go5 ∨ w.heap.size ≤ go5) from (Kd.S_R HO_0.out).1 _ rfl)
     have HC34:=Aside0.mk (And.intro c4 c3)
     clear gb5 gl5 HG5
     replace c3:=eq_true c3
     replace c4:=eq_true c4
     go_wp2_with (first | ((with_reducible refine gate_callee (f:=52) rfl ?_);refine goesL_ (some 15) rfl rfl Try.func52 (by kernel_rfl) rfl #[.int .i64 x1_1] rfl (by (try simp only [mT,mC,mN]);first | done | rfl | (simp only [lD,lT];rfl)) ?_;(with_reducible refine (laws_markText.calls k1 x1_1 t5 _ A4.out).mono ?_);rintro e w6 ⟨rfl,hb⟩;refine ⟨_,rfl,?_⟩;replace HO_0:=Aside0.mk (Kd.S_below (sO HO_0.out) hb);replace HB:=Aside0.mk (below_weaken ib HB.out.size hb);replace HK:=Aside0.mk (Kept.below (by repeat (first | (with_reducible first | exact HK.out | apply Kept.alloc | apply Kept.drewN | apply Kept.drew) | exact HK.out)) hb);clear hb;obtain ⟨oki,c,hcl,hM,hcc,hfr,hoki,hH⟩:=Kd.S_elem HO_0.out z64 x5_1 HC34.out.1 HC34.out.2;obtain ⟨v5,rfl,hR⟩:=k64_openM hM;have hx5_0 : w6.cell? ⟨go5,x5_1.toNat * 2,none⟩ = some (.string (x0_1.getD x5_1.toNat z64).f0):=hcc 0 _ rfl;have hf5_0 : w6.frozen? ⟨go5,x5_1.toNat * 2,none⟩ = false:=hfr 0;have HP:=Aside0.mk (Kd.S_seg0 hH HC34.out.1 HC34.out.2 (seg:=[.string t5]) (j:=0) (show 1 ≤ 2 from by decide) (x':=(⟨t5,(x0_1.getD x5_1.toNat z64).f1⟩ : S64)) (k64_mkM _ _ _ (⟨t5,(x0_1.getD x5_1.toNat z64).f1⟩ : S64) hR) (fun _ h_ => h_));clear hcl hM hcc hfr hoki hH hR) | ((with_reducible refine gate_store (t:=9) (p:=17) rfl ?_);refine store_event (t:=9) (p:=17) (v:=?vo_w9) (w1:=(w6.setCell ⟨go5,x5_1.toNat * 2,none⟩ (.string t5))) ?hg ?ho ?hn ?hr ?_;(case ho => rfl);(case hg => rfl);(case hn => rfl);(case hr => first | (go_simp;done) | (go_simp;rfl));intro w9 hw;have hg : w6.grownBy w9 (some go5):=(by rw [hw];exact HP.out.2);have n0_:=Aside0.mk (show Kd.S k64 64 w9 w0.heap.size (fun k_ => (P0_ k_ ∨ w.heap.size ≤ k_)) (.slice (some ⟨go5,0,none⟩) x0_1.length co5) y0 from (by rw [hw,← HY0.out];exact HP.out.1));have n1_:=Aside0.mk ((by rw [hw];exact below_set (HB.out) GB5.out : Below w0.heap.size w0 w9));have n2_:=Aside0.mk (Kept.of_grown (S:=(fun k_ => P0_ k_)) hg HK.out (fun k_ e_ => (by injection e_ with e_;subst e_;exact HMgo5.out)));clear HO_0 HB HK HP hx5_0 hf5_0;have HO_0:=n0_;have HB:=n1_;have HK:=n2_;clear n0_ n1_ n2_ hg hw;obtain ⟨oki,c,hcl,hM,hcc,hoki,hH⟩:=Kd.S_lend HO_0.out z64 x5_1 HC34.out.1 HC34.out.2;rw [HY5.out] at hM;obtain ⟨v6,rfl,hR⟩:=k64_openM hM;obtain ⟨A6_,c6_,e6_⟩:=Kd.R_slice hR;subst e6_;have hx6_1 : w9.cell? ⟨go5,x5_1.toNat * 2 + 1,none⟩ = some (.slice A6_ y5.f1.length c6_):=hcc 1 _ rfl;have HR6:=Aside0.mk hR;have HH6:=Aside0.mk hH;have HOK:=Aside0.mk hoki;clear hcl hM hcc hR hH hoki) | ((with_reducible refine gate_callee (f:=12) rfl ?_);refine goesL_ (some 26) rfl rfl Try.func12 (by kernel_rfl) rfl #[.slice A6_ y5.f1.length c6_,.int .i64 (wrap64 (x1_1 + 1))] rfl (by (try simp only [mT,mC,mN]);first | done | rfl | (simp only [lD,lT];rfl)) ?_;(with_reducible refine (laws_markInt64S.calls k1 oki _ y5.f1 (wrap64 (x1_1 + 1)) y1 y2 w0 _ ib (rO HR6.out) A5.out).mono ?_);rintro e w10 ⟨rfl,ho,hb,hk⟩;refine ⟨_,rfl,?_⟩;have hK_ : Kept w w9 (fun k_ => P0_ k_):=(by repeat (first | (with_reducible first | exact HK.out | apply Kept.alloc | apply Kept.drewN | apply Kept.drew) | exact HK.out));replace HO_0:=Aside0.mk (Kd.H_back (Kd.H_step (Kd.H_widen (by (with_reducible repeat (first | apply Kd.H_drewN | apply Kd.H_drew));exact HH6.out)) (fun k_ _ hk2 hlt => hk.2 k_ hlt (fun h_ => hk2 (Or.inl h_)))) (okp:=fun k_ => oki k_ ∨ w9.heap.size ≤ k_) (x':=(⟨y5.f0,y2⟩ : S64)) (k64_mkM _ _ _ (⟨y5.f0,y2⟩ : S64) ho) (fun k_ h_ => Or.elim h_ Or.inl (fun h2_ => Or.inr (And.intro (Or.inr (Nat.le_trans hK_.1 h2_)) h2_))));replace HB:=Aside0.mk hb;replace HK:=Aside0.mk (Kept.then_ hK_ hk (fun k_ h_ => (HOK.out k_ h_).1));clear ho hb hk hK_ HR6 HH6 HOK))
     go_roundg k1
     case measure => have:=HK1.out;omega
     case rel => exact ⟨(y0.set x5_1.toNat (⟨y5.f0,y2⟩ : S64)),y1,(wrap64 (x5_1 + 1)),(by first | rfl | (simp;done) | (simp [*];done)),(by first | rfl | (simp;done) | (simp [*];done)),H',⟨by have:=HK1.out;omega⟩,⟨(sO HO_0.out)⟩,⟨(by repeat (first | (with_reducible first | exact HK.out | apply Kept.alloc | apply Kept.drewN | apply Kept.drew) | exact HK.out))⟩,⟨ib⟩⟩
    ·rw [if_neg c4] at H
     exact absurd H (by simp)
   ·rw [if_neg c3] at H
    have c3b0 : decide (x5_1 < (x0_1.length : Int)) = false:=decide_eq_false c3
    clear c3
    simp only [Option.some.injEq,Prod.mk.injEq] at H
    obtain ⟨rfl,rfl⟩:=H
    obtain ⟨Ao9,co9,eo9⟩:=Kd.S_slice HO_0.out
    subst eo9
    go_wp2
    go_ret
    exact ⟨by first | rfl | (simp [errW_none,errW_some] <;> rfl) | (simp [*,errW_none,errW_some] <;> rfl),(sO HO_0.out),ib,(by repeat (first | (with_reducible first | exact HK.out | apply Kept.alloc | apply Kept.drewN | apply Kept.drew) | exact HK.out))⟩
def laws_markDrawing.f (k : Nat) (a0_0 : Int) (a0_1 : Int) (l0_2 : List (S78)) (l0_3 : List (S64)) (a1 : Int) : Option (Int):=(laws_markPointS.f k l0_2 a1).bind fun bt => ((laws_markFaceS.f k l0_3 bt.1).bind fun bu => (some bu.1))
theorem laws_markDrawing.calls (k : Nat) (P0_ : Nat → Prop) (a0_0 : Int) (a0_1 : Int) (u9000_ : Value) (l0_2 : List (S78)) (u9001_ : Value) (l0_3 : List (S64)) (a1 : Int) (r1 : Int) (w0 w : World) (hB : Below w0.heap.size w0 w) (ho0 : Kd.R k78 78 w w0.heap.size P0_ u9000_ l0_2) (ho1 : Kd.S k64 64 w w0.heap.size P0_ u9001_ l0_3) (h : laws_markDrawing.f k a0_0 a0_1 l0_2 l0_3 a1 = some r1) :
  Calls Try.prog 11 #[.agg #[.int .i64 a0_0,.int .i64 a0_1,u9000_,u9001_],.int .i64 a1] w fun e w' => e = .returned (.int .i64 r1) ∧ Below w0.heap.size w0 w' ∧ Kept w w' (fun k_ => P0_ k_):=by
 have HB:=Aside0.mk hB
 have HK:=Aside0.mk (Kept.refl w (fun k_ => P0_ k_))
 have HO:=Aside0.mk ho0
 have HS:=Aside0.mk (Kd.S_apart' ho1 (Kd.R_typed ho0) (by decide))
 have HP:=Aside0.mk (ho0.1)
 clear hB ho0 ho1
 obtain ⟨⟨m1,m2⟩,A10_,H⟩:=bE.mp h
 obtain ⟨⟨m3,m4⟩,A20_,H⟩:=bE.mp H
 obtain rfl:=Option.some.inj H
 have A1:=Aside0.mk A10_
 have A2:=Aside0.mk A20_
 clear A10_ A20_ h H
 obtain ⟨A5_,c5_,e5_⟩:=Kd.R_slice HO.out
 subst e5_
 obtain ⟨A6_,c6_,e6_⟩:=Kd.S_slice HS.out
 subst e6_
 go_enter Try.func11,Try.ntmps11
 go_wp2_with (first | ((with_reducible refine gate_dst (N:=2) rfl ?_);refine bx (cs:=#[.int .i64 a0_0,.int .i64 a0_1,.slice A5_ l0_2.length c5_,.slice A6_ l0_3.length c6_]) (t:=33) ?_;intro gb hg w3 hbox hb;have n0_:=Aside0.mk (Kd.R_below HO.out hb);have n1_:=Aside0.mk (Kd.S_below HS.out hb);have n2_:=Aside0.mk (below_weaken ib HB.out.size hb);have n3_:=Aside0.mk (Kept.below (by repeat (first | (with_reducible first | exact HK.out | apply Kept.alloc | apply Kept.drewN | apply Kept.drew) | exact HK.out)) hb);have GNE:=Aside0.mk (show some gb ≠ (Value.slice A5_ l0_2.length c5_).ownBlock from (by rw [hg];exact Kd.R_ne_new HO.out 0));have hx2 : w3.cell? ⟨gb,2,none⟩ = some (.slice A5_ l0_2.length c5_):=(blk_cell hbox 2).trans rfl;have BX:=Aside0.mk hbox;clear HO HS HB HK hb hbox hg;have HO:=n0_;have HS:=n1_;have HB:=n2_;have HK:=n3_;clear n0_ n1_ n2_ n3_) | ((with_reducible refine gate_callee (f:=30) rfl ?_);refine goesL_ (some 8) rfl rfl Try.func30 (by kernel_rfl) rfl #[.slice A5_ l0_2.length c5_,.int .i64 a1] rfl (by (try simp only [mT,mC,mN]);first | done | rfl | (simp only [lD,lT];rfl)) ?_;(with_reducible refine (laws_markPointS.calls k (fun k_ => some k_ = (.slice A5_ l0_2.length c5_ : Value).ownBlock) _ l0_2 a1 m1 m2 w0 _ ib (Kd.R_tight rfl (rO HO.out)) A1.out).mono ?_);rintro e w5 ⟨rfl,ho,hb,hk⟩;refine ⟨_,rfl,?_⟩;have n1_:=Aside0.mk (Kd.S_kept HS.out hk (fun k_ h_ => h_.2));have n3_:=Aside0.mk (Kept.then_ (by repeat (first | (with_reducible first | exact HK.out | apply Kept.alloc | apply Kept.drewN | apply Kept.drew) | exact HK.out)) hk (fun k_ h_ => .inl (HP.out k_ h_.symm)));have hx3 : w5.cell? ⟨gb,3,none⟩ = some (.slice A6_ l0_3.length c6_):=(blk_cell (blk_kept BX.out hk GNE.out) 3).trans rfl;clear HO HS HB HK hk ho hx2;have HS:=n1_;have HB:=Aside0.mk hb;have HK:=n3_;clear n1_ n3_ hb) | ((with_reducible refine gate_callee (f:=31) rfl ?_);refine goesL_ (some 12) rfl rfl Try.func31 (by kernel_rfl) rfl #[.slice A6_ l0_3.length c6_,.int .i64 m1] rfl (by (try simp only [mT,mC,mN]);first | done | rfl | (simp only [lD,lT];rfl)) ?_;(with_reducible refine (laws_markFaceS.calls k P0_ _ l0_3 m1 m3 m4 w0 _ ib (Kd.S_mono HS.out (fun k_ h_ => h_.1)) A2.out).mono ?_);rintro e w6 ⟨rfl,ho,hb,hk⟩;refine ⟨_,rfl,?_⟩;have n3_:=Aside0.mk (Kept.then_ (by repeat (first | (with_reducible first | exact HK.out | apply Kept.alloc | apply Kept.drewN | apply Kept.drew) | exact HK.out)) hk (fun k_ h_ => .inl h_));clear HS HB HK hk ho;have HB:=Aside0.mk hb;have HK:=n3_;clear n3_ hb))
 go_ret
 exact ⟨(by first | rfl | (simp;done) | (simp [*];done)),ib,(by repeat (first | (with_reducible first | exact HK.out | apply Kept.alloc | apply Kept.drewN | apply Kept.drew) | exact HK.out))⟩
def laws_heldInt64S.l0 : Nat → List Int → Int → Int → Option (Int)
 | 0,_,_,_ => none
 | k + 1,x0,x1,x5 => if x5 < (x0.length : Int) then (if 0 ≤ x5 then (if (rd x0 x5) = x1 then (laws_heldInt64S.l0 k x0 (wrap64 (x1 + 1)) (wrap64 (x5 + 1))) else (some (-1))) else (none)) else (some x1)
def laws_heldInt64S.f (k : Nat) (l0 : List Int) (a1 : Int) : Option (Int):=laws_heldInt64S.l0 k l0 a1 0
theorem laws_heldInt64S.calls (k : Nat) (A0 : Option Addr) (c0 : Nat) (l0 : List Int) (a1 : Int) (r : Int) (w : World) (hr0 : Kd.C (Kd.int .i64) w A0 l0.length l0) (hc0 : l0.length ≤ c0) (h : laws_heldInt64S.f k l0 a1 = some r) :
  Calls Try.prog 13 #[.slice A0 l0.length c0,.int .i64 a1] w fun e w' => e = .returned (.int .i64 r) ∧ Drawn0 w w':=by
 have HR0:=Aside0.mk hr0
 have HC0:=Aside0.mk hc0
 clear hr0 hc0
 have H : (laws_heldInt64S.l0 k l0 a1 0) = some r:=h
 clear h
 have H':=Aside0.mk H
 clear H
 go_enter Try.func13,Try.ntmps13
 go_wp2
 go_loopg [1,5] k (fun kq v1 v5 w' => ∃ (x1_1 : Int) (x5_1 : Int),v1 = .int .i64 x1_1 ∧ v5 = .int .i64 x5_1 ∧ Aside0 (laws_heldInt64S.l0 kq l0 x1_1 x5_1 = some r) ∧ Aside0 (kq ≤ k) ∧ Drawn0 w w')
 case atStart => exact ⟨(a1),(0),(by first | rfl | (simp;done) | (simp [*];done)),(by first | rfl | (simp;done) | (simp [*];done)),H',⟨Nat.le_refl _⟩,by repeat (first | exact Drawn0.refl _ | apply Drawn0.step)⟩
 case round =>
  clear H'
  try clear c1
  try clear p2
  obtain ⟨x1_1,x5_1,rfl,rfl,HA,HK1,⟨m1,rfl⟩⟩:=hrel
  cases gk with
  | zero => exact absurd HA.out (by simp [laws_heldInt64S.l0])
  | succ k1 =>
   have H:=HA.out
   clear HA
   simp only [laws_heldInt64S.l0] at H
   by_cases c3 : x5_1 < (l0.length : Int)
   ·rw [if_pos c3] at H
    have c3b0 : decide (x5_1 < (l0.length : Int)) = true:=decide_eq_true c3
    clear c3
    by_cases c4 : 0 ≤ x5_1
    ·rw [if_pos c4] at H
     have c4b0 : decide (0 ≤ x5_1) = true:=decide_eq_true c4
     clear c4
     by_cases c5 : (rd l0 x5_1) = x1_1
     ·rw [if_pos c5] at H
      have c5b0 : ((rd l0 x5_1) == x1_1) = true:=beq_iff_eq.mpr c5
      have c5b1 : ((rd l0 x5_1) != x1_1) = false:=bne_eq_false_iff_eq.mpr c5
      clear c5
      have H':=Aside0.mk H
      clear H
      have p419 : 0 ≤ (x5_1 : Int):=da
      have q419 : x5_1 < (l0.length : Int):=da
      obtain ⟨ad419,e419,hx419_0⟩:=Kd.at_int HR0.out x5_1 p419 q419
      cases e419
      replace p419:=eq_true p419
      replace q419:=eq_true q419
      go_wp2
      go_roundg k1
      case measure => have:=HK1.out;omega
      case rel => exact ⟨(wrap64 (x1_1 + 1)),(wrap64 (x5_1 + 1)),(by first | rfl | (simp;done) | (simp [*];done)),(by first | rfl | (simp;done) | (simp [*];done)),H',⟨by have:=HK1.out;omega⟩,by repeat (first | exact Drawn0.refl _ | apply Drawn0.step)⟩
     ·rw [if_neg c5] at H
      have c5b0 : ((rd l0 x5_1) == x1_1) = false:=beq_eq_false_iff_ne.mpr c5
      have c5b1 : ((rd l0 x5_1) != x1_1) = true:=bne_iff_ne.mpr c5
      obtain rfl:=Option.some.inj H
      have p419 : 0 ≤ (x5_1 : Int):=da
      have q419 : x5_1 < (l0.length : Int):=da
      obtain ⟨ad419,e419,hx419_0⟩:=Kd.at_int HR0.out x5_1 p419 q419
      cases e419
      replace p419:=eq_true p419
      replace q419:=eq_true q419
      go_wp2
      go_ret
      exact ⟨by first | rfl | (simp;done) | (simp [*];done),by repeat (first | exact Drawn0.refl _ | apply Drawn0.step)⟩
    ·rw [if_neg c4] at H
     exact absurd H (by simp)
   ·rw [if_neg c3] at H
    have c3b0 : decide (x5_1 < (l0.length : Int)) = false:=decide_eq_false c3
    clear c3
    obtain rfl:=Option.some.inj H
    go_wp2
    go_ret
    exact ⟨by first | rfl | (simp;done) | (simp [*];done),by repeat (first | exact Drawn0.refl _ | apply Drawn0.step)⟩
mutual
def laws_FnExactNeighboursOf.j0 : Nat → Int → List Int → Int → List Int → Int → Bool → Int → Int → List (S80) → List (S70) → Int → Int → List (S78) → List (S64) → Option (Bool)
 | 0,_,_,_,_,_,_,_,_,_,_,_,_,_,_ => none
 | k + 1,x1,x6,x7,x9,x10,x44,x421000,x421001,x421002,x421003,x443000,x443001,x443002,x443003 => if x44 = true then (some false) else ((laws_toDrawing.f k x421000 x421001 x421002 x421003).bind fun bt448 => ((laws_eqDrawing.f k x443000 x443001 x443002 x443003 bt448.1 bt448.2.1 bt448.2.2.1 bt448.2.2.2).bind fun t456 => (if t456 = true then ((laws_markDrawing.f k x443000 x443001 x443002 x443003 1).bind fun t457 => (if t457 < 0 then (laws_FnExactNeighboursOf.j1 k x1 x6 x7 x9 true x421000 x421001 x421002 x421003) else ((laws_eqInt64S.f k x9 x6).bind fun t458 => (if t458 = true then (laws_FnExactNeighboursOf.j1 k x1 x6 x7 x9 (x10 != x7) x421000 x421001 x421002 x421003) else (laws_FnExactNeighboursOf.j1 k x1 x6 x7 x9 true x421000 x421001 x421002 x421003))))) else (some false))))
def laws_FnExactNeighboursOf.j1 : Nat → Int → List Int → Int → List Int → Bool → Int → Int → List (S80) → List (S70) → Option (Bool)
 | 0,_,_,_,_,_,_,_,_,_ => none
 | k + 1,x1,x6,x7,x9,x65,x421000,x421001,x421002,x421003 => if x65 = true then (some false) else ((laws_markInt64S.f k x9 1).bind fun bt459 => ((laws_heldInt64S.f k bt459.2 1).bind fun t461 => (if t461 < 0 then (some false) else (if t461 = bt459.1 then ((laws_toDrawing.f k x421000 x421001 x421002 x421003).bind fun bt462 => ((impl_NeighboursOf.f k bt462.1 bt462.2.1 bt462.2.2.1 bt462.2.2.2 x1).bind fun bt470 => ((laws_eqInt64S.f k bt470.1 x6).bind fun t474 => (if t474 = true then (laws_FnExactNeighboursOf.j2 k bt459.2 bt459.1 (bt470.2 != x7)) else (laws_FnExactNeighboursOf.j2 k bt459.2 bt459.1 true))))) else (some false)))))
def laws_FnExactNeighboursOf.j2 : Nat → List Int → Int → Bool → Option (Bool)
 | 0,_,_,_ => none
 | k + 1,x9,x12,x92 => if x92 = true then (some false) else ((laws_heldInt64S.f k x9 1).bind fun t475 => (if t475 < 0 then (some false) else (if t475 = x12 then (some true) else (some false))))
end
def laws_FnExactNeighboursOf.f (k : Nat) (a0_0 : Int) (a0_1 : Int) (l0_2 : List (S80)) (l0_3 : List (S70)) (a1 : Int) : Option (Bool):=(laws_szDrawing.f k a0_0 a0_1 l0_2 l0_3 1048576).bind fun t421 => (if t421 < 0 then (some true) else ((laws_toDrawing.f k a0_0 a0_1 l0_2 l0_3).bind fun bt422 => ((spec_NeighboursOf.f k bt422.1 bt422.2.1 bt422.2.2.1 bt422.2.2.2 a1).bind fun bt430 => ((laws_toDrawing.f k a0_0 a0_1 l0_2 l0_3).bind fun bt434 => ((impl_NeighboursOf.f k bt434.1 bt434.2.1 bt434.2.2.1 bt434.2.2.2 a1).bind fun bt443 => ((laws_eqInt64S.f k bt443.1 bt430.1).bind fun t447 => (if t447 = true then (laws_FnExactNeighboursOf.j0 k a1 bt430.1 bt430.2 bt443.1 bt443.2 (bt443.2 != bt430.2) a0_0 a0_1 l0_2 l0_3 bt434.1 bt434.2.1 bt434.2.2.1 bt434.2.2.2) else (laws_FnExactNeighboursOf.j0 k a1 bt430.1 bt430.2 bt443.1 bt443.2 true a0_0 a0_1 l0_2 l0_3 bt434.1 bt434.2.1 bt434.2.2.1 bt434.2.2.2))))))))
theorem laws_FnExactNeighboursOf.calls (k : Nat) (a0_0 : Int) (a0_1 : Int) (A0_2 : Option Addr) (c0_2 : Nat) (l0_2 : List (S80)) (A0_3 : Option Addr) (c0_3 : Nat) (l0_3 : List (S70)) (a1 : Int) (w : World) (hr0_2 : Kd.C k80 w A0_2 l0_2.length l0_2) (hc0_2 : l0_2.length ≤ c0_2) (hr0_3 : Kd.C k70 w A0_3 l0_3.length l0_3) (hc0_3 : l0_3.length ≤ c0_3) (h : laws_FnExactNeighboursOf.f k a0_0 a0_1 l0_2 l0_3 a1 = some true) :
  Calls Try.prog 3 #[.agg #[.int .i64 a0_0,.int .i64 a0_1,.slice A0_2 l0_2.length c0_2,.slice A0_3 l0_3.length c0_3],.int .i64 a1] w fun e w' => e = .returned (.bool true) ∧ Below w.heap.size w w':=by
 have hu25:=Try.underlying25
 have hu33:=Try.underlying33
 have HR0_2:=Aside0.mk hr0_2
 have HC0_2:=Aside0.mk hc0_2
 clear hr0_2 hc0_2
 have HR0_3:=Aside0.mk hr0_3
 have HC0_3:=Aside0.mk hc0_3
 clear hr0_3 hc0_3
 have HB:=Aside0.mk (Below.refl w.heap.size w)
 have H : ((laws_szDrawing.f k a0_0 a0_1 l0_2 l0_3 1048576).bind fun t421 => (if t421 < 0 then (some true) else ((laws_toDrawing.f k a0_0 a0_1 l0_2 l0_3).bind fun bt422 => ((spec_NeighboursOf.f k bt422.1 bt422.2.1 bt422.2.2.1 bt422.2.2.2 a1).bind fun bt430 => ((laws_toDrawing.f k a0_0 a0_1 l0_2 l0_3).bind fun bt434 => ((impl_NeighboursOf.f k bt434.1 bt434.2.1 bt434.2.2.1 bt434.2.2.2 a1).bind fun bt443 => ((laws_eqInt64S.f k bt443.1 bt430.1).bind fun t447 => (if t447 = true then (laws_FnExactNeighboursOf.j0 k a1 bt430.1 bt430.2 bt443.1 bt443.2 (bt443.2 != bt430.2) a0_0 a0_1 l0_2 l0_3 bt434.1 bt434.2.1 bt434.2.2.1 bt434.2.2.2) else (laws_FnExactNeighboursOf.j0 k a1 bt430.1 bt430.2 bt443.1 bt443.2 true a0_0 a0_1 l0_2 l0_3 bt434.1 bt434.2.1 bt434.2.2.1 bt434.2.2.2))))))))) = some true:=h
 clear h
 obtain ⟨t1,A10_,H⟩:=bE.mp H
 have A1:=Aside0.mk A10_
 clear A10_
 by_cases c1 : t1 < 0
 ·have c1b0 : decide (t1 < 0) = true:=decide_eq_true c1
  clear c1 H
  go_enter Try.func3,Try.ntmps3
  go_wp2_with (first | ((with_reducible refine gate_dst (N:=2) rfl ?_);refine bx (cs:=#[.int .i64 a0_0,.int .i64 a0_1,.slice A0_2 l0_2.length c0_2,.slice A0_3 l0_3.length c0_3]) (t:=25) ?_;intro gB hg w5 hbox hb;have BB:=Aside0.mk hbox;have HBn_:=sb hb;clear HB;have HB:=HBn_;clear HBn_;(try clear hb0 hb1 hb2 hb3);have hb0 : w5.cell? ⟨gB,0,none⟩ = some (.int .i64 a0_0):=(blk_cell BB.out 0).trans rfl;have hb1 : w5.cell? ⟨gB,1,none⟩ = some (.int .i64 a0_1):=(blk_cell BB.out 1).trans rfl;have hb2 : w5.cell? ⟨gB,2,none⟩ = some (.slice A0_2 l0_2.length c0_2):=(blk_cell BB.out 2).trans rfl;have hb3 : w5.cell? ⟨gB,3,none⟩ = some (.slice A0_3 l0_3.length c0_3):=(blk_cell BB.out 3).trans rfl;clear hbox hb hg) | ((with_reducible refine gate_callee (f:=5) rfl ?_);refine goesL_ _ rfl rfl Try.func5 (by kernel_rfl) rfl #[.agg #[.int .i64 a0_0,.int .i64 a0_1,.slice A0_2 l0_2.length c0_2,.slice A0_3 l0_3.length c0_3],.int .i64 1048576] rfl (by (try simp only [mT,mC,mN]);first | done | rfl | (simp only [lD,lT];rfl)) ?_;(with_reducible refine (laws_szDrawing.calls _ a0_0 a0_1 _ _ l0_2 _ _ l0_3 1048576 t1 _ (cO ((Kd.C_below HR0_2.out ib))) HC0_2.out (cO ((Kd.C_below HR0_3.out ib))) HC0_3.out A1.out).mono ?_);rintro e w5 ⟨rfl,hb⟩;refine ⟨_,rfl,?_⟩;have BBn_:=Aside0.mk (blk_below (by repeat (first | exact BB.out | refine blk_drewN ?_ _ | refine blk_drew ?_)) hb);have HBn_:=sb hb;clear HB;have HB:=HBn_;clear HBn_;clear BB;have BB:=BBn_;clear BBn_;clear A1;(try clear hb0 hb1 hb2 hb3);have hb0 : w5.cell? ⟨gB,0,none⟩ = some (.int .i64 a0_0):=(blk_cell BB.out 0).trans rfl;have hb1 : w5.cell? ⟨gB,1,none⟩ = some (.int .i64 a0_1):=(blk_cell BB.out 1).trans rfl;have hb2 : w5.cell? ⟨gB,2,none⟩ = some (.slice A0_2 l0_2.length c0_2):=(blk_cell BB.out 2).trans rfl;have hb3 : w5.cell? ⟨gB,3,none⟩ = some (.slice A0_3 l0_3.length c0_3):=(blk_cell BB.out 3).trans rfl;clear hb))
  go_ret
  exact ⟨(by first | rfl | (simp;done) | (simp [*];done)),ib⟩
 ·replace H:=(if_neg c1).symm.trans H
  have c1b0 : decide (t1 < 0) = false:=decide_eq_false c1
  clear c1
  obtain ⟨⟨d0,d1,d2,d3⟩,A2_,H⟩:=bE.mp H
  obtain ⟨⟨s0,s1⟩,A3_,H⟩:=bE.mp H
  obtain ⟨⟨x0,x1,x2,x3⟩,A5_,H⟩:=bE.mp H
  obtain ⟨⟨g0,g1⟩,A6_,H⟩:=bE.mp H
  obtain ⟨t8,A8_,H⟩:=bE.mp H
  dsimp only at H A2_ A3_ A5_ A6_ A8_
  cases t8 with
  | false =>
   replace H:=(if_neg (show ¬ (false = true) by decide)).symm.trans H
   cases k <;> simp [laws_FnExactNeighboursOf.j0] at H
  | true =>
  replace H:=(if_pos rfl).symm.trans H
  cases e1 : (g1 != s1) with
  | true =>
   rw [e1] at H
   cases k <;> simp [laws_FnExactNeighboursOf.j0] at H
  | false =>
  rw [e1] at H
  cases k with
  | zero => simp [laws_FnExactNeighboursOf.j0] at H
  | succ k1 =>
  simp only [laws_FnExactNeighboursOf.j0,Bool.false_eq_true,if_false] at H
  obtain ⟨⟨q0,q1,q2,q3⟩,A9_,H⟩:=bE.mp H
  obtain ⟨t10,A10_,H⟩:=bE.mp H
  dsimp only at H A9_ A10_
  cases t10 with
  | false => exact absurd H (by simp)
  | true =>
  replace H:=(if_pos rfl).symm.trans H
  obtain ⟨t11,A11_,H⟩:=bE.mp H
  by_cases c2 : t11 < 0
  ·replace H:=(if_pos c2).symm.trans H
   cases k1 <;> simp [laws_FnExactNeighboursOf.j1] at H
  replace H:=(if_neg c2).symm.trans H
  have c2b0 : decide (t11 < 0) = false:=decide_eq_false c2
  clear c2
  obtain ⟨t13,A13_,H⟩:=bE.mp H
  cases t13 with
  | false =>
   replace H:=(if_neg (show ¬ (false = true) by decide)).symm.trans H
   cases k1 <;> simp [laws_FnExactNeighboursOf.j1] at H
  | true =>
  replace H:=(if_pos rfl).symm.trans H
  rw [e1] at H
  cases k1 with
  | zero => simp [laws_FnExactNeighboursOf.j1] at H
  | succ k2 =>
  simp only [laws_FnExactNeighboursOf.j1,Bool.false_eq_true,if_false] at H
  obtain ⟨⟨t14,y2⟩,A14_,H⟩:=bE.mp H
  obtain ⟨t16,A16_,H⟩:=bE.mp H
  dsimp only at H A14_ A16_
  by_cases c3 : t16 < 0
  ·exact absurd ((if_pos c3).symm.trans H) (by simp)
  replace H:=(if_neg c3).symm.trans H
  by_cases c4 : t16 = t14
  case neg => exact absurd ((if_neg c4).symm.trans H) (by simp)
  replace H:=(if_pos c4).symm.trans H
  subst c4
  have c3b0 : decide (t16 < 0) = false:=decide_eq_false c3
  clear c3
  obtain ⟨⟨z0,z1,z2,z3⟩,A17_,H⟩:=bE.mp H
  obtain ⟨⟨u0,u1⟩,A18_,H⟩:=bE.mp H
  obtain ⟨t20,A20_,H⟩:=bE.mp H
  dsimp only at H A17_ A18_ A20_
  cases t20 with
  | false =>
   replace H:=(if_neg (show ¬ (false = true) by decide)).symm.trans H
   cases k2 <;> simp [laws_FnExactNeighboursOf.j2] at H
  | true =>
  replace H:=(if_pos rfl).symm.trans H
  cases e2 : (u1 != s1) with
  | true =>
   rw [e2] at H
   cases k2 <;> simp [laws_FnExactNeighboursOf.j2] at H
  | false =>
  rw [e2] at H
  cases k2 with
  | zero => simp [laws_FnExactNeighboursOf.j2] at H
  | succ k3 =>
  simp only [laws_FnExactNeighboursOf.j2,Bool.false_eq_true,if_false] at H
  obtain ⟨t21,A21_,H⟩:=bE.mp H
  by_cases c5 : t21 < 0
  ·exact absurd ((if_pos c5).symm.trans H) (by simp)
  replace H:=(if_neg c5).symm.trans H
  by_cases c6 : t21 = t16
  case neg => exact absurd ((if_neg c6).symm.trans H) (by simp)
  subst c6
  clear H c5
  have A2:=Aside0.mk A2_;have A3:=Aside0.mk A3_;have A5:=Aside0.mk A5_;have A6:=Aside0.mk A6_;have A8:=Aside0.mk A8_;have A9:=Aside0.mk A9_;have A10:=Aside0.mk A10_;have A11:=Aside0.mk A11_;have A13:=Aside0.mk A13_;have A14:=Aside0.mk A14_;have A16:=Aside0.mk A16_;have A17:=Aside0.mk A17_;have A18:=Aside0.mk A18_;have A20:=Aside0.mk A20_;have A21:=Aside0.mk A21_
  clear A2_ A3_ A5_ A6_ A8_ A9_ A10_ A11_ A13_ A14_ A16_ A17_ A18_ A20_ A21_
  go_enter Try.func3,Try.ntmps3
  go_wp2_with (first | ((with_reducible refine gate_dst (N:=2) rfl ?_);refine bx (cs:=#[.int .i64 a0_0,.int .i64 a0_1,.slice A0_2 l0_2.length c0_2,.slice A0_3 l0_3.length c0_3]) (t:=25) ?_;intro gB hg w5 hbox hb;have BB:=Aside0.mk hbox;have HBn_:=sb hb;clear HB;have HB:=HBn_;clear HBn_;(try clear hb0 hb1 hb2 hb3);have hb0 : w5.cell? ⟨gB,0,none⟩ = some (.int .i64 a0_0):=(blk_cell BB.out 0).trans rfl;have hb1 : w5.cell? ⟨gB,1,none⟩ = some (.int .i64 a0_1):=(blk_cell BB.out 1).trans rfl;have hb2 : w5.cell? ⟨gB,2,none⟩ = some (.slice A0_2 l0_2.length c0_2):=(blk_cell BB.out 2).trans rfl;have hb3 : w5.cell? ⟨gB,3,none⟩ = some (.slice A0_3 l0_3.length c0_3):=(blk_cell BB.out 3).trans rfl;clear hbox hb hg) | ((with_reducible refine gate_callee (f:=5) rfl ?_);refine goesL_ _ rfl rfl Try.func5 (by kernel_rfl) rfl #[.agg #[.int .i64 a0_0,.int .i64 a0_1,.slice A0_2 l0_2.length c0_2,.slice A0_3 l0_3.length c0_3],.int .i64 1048576] rfl (by (try simp only [mT,mC,mN]);first | done | rfl | (simp only [lD,lT];rfl)) ?_;(with_reducible refine (laws_szDrawing.calls _ a0_0 a0_1 _ _ l0_2 _ _ l0_3 1048576 t1 _ (cO ((Kd.C_below HR0_2.out ib))) HC0_2.out (cO ((Kd.C_below HR0_3.out ib))) HC0_3.out A1.out).mono ?_);rintro e w5 ⟨rfl,hb⟩;refine ⟨_,rfl,?_⟩;have BBn_:=Aside0.mk (blk_below (by repeat (first | exact BB.out | refine blk_drewN ?_ _ | refine blk_drew ?_)) hb);have HBn_:=sb hb;clear HB;have HB:=HBn_;clear HBn_;clear BB;have BB:=BBn_;clear BBn_;clear A1;(try clear hb0 hb1 hb2 hb3);have hb0 : w5.cell? ⟨gB,0,none⟩ = some (.int .i64 a0_0):=(blk_cell BB.out 0).trans rfl;have hb1 : w5.cell? ⟨gB,1,none⟩ = some (.int .i64 a0_1):=(blk_cell BB.out 1).trans rfl;have hb2 : w5.cell? ⟨gB,2,none⟩ = some (.slice A0_2 l0_2.length c0_2):=(blk_cell BB.out 2).trans rfl;have hb3 : w5.cell? ⟨gB,3,none⟩ = some (.slice A0_3 l0_3.length c0_3):=(blk_cell BB.out 3).trans rfl;clear hb) | ((with_reducible refine gate_callee (f:=7) rfl ?_);refine goesL_ _ rfl rfl Try.func7 (by kernel_rfl) rfl #[.agg #[.int .i64 a0_0,.int .i64 a0_1,.slice A0_2 l0_2.length c0_2,.slice A0_3 l0_3.length c0_3]] rfl (by (try simp only [mT,mC,mN]);first | done | rfl | (simp only [lD,lT];rfl)) ?_;(with_reducible refine (laws_toDrawing.calls _ a0_0 a0_1 _ _ l0_2 _ _ l0_3 d0 d1 d2 d3 _ (cO ((Kd.C_below HR0_2.out ib))) HC0_2.out (cO ((Kd.C_below HR0_3.out ib))) HC0_3.out A2.out).mono ?_);rintro e w5 ⟨vp_,vf_,rfl,ho,hs,hb⟩;refine ⟨_,rfl,?_⟩;have BBn_:=Aside0.mk (blk_below (by repeat (first | exact BB.out | refine blk_drewN ?_ _ | refine blk_drew ?_)) hb);have XT:=Aside0.mk ho;have XF:=Aside0.mk hs;have HBn_:=sb hb;clear HB;have HB:=HBn_;clear HBn_;clear BB;have BB:=BBn_;clear BBn_;clear A2;obtain ⟨AT,cT,eT_⟩:=Kd.R_slice XT.out;subst eT_;obtain ⟨AF,cF,eF_⟩:=Kd.S_slice XF.out;subst eF_;(try clear hb0 hb1 hb2 hb3);have hb0 : w5.cell? ⟨gB,0,none⟩ = some (.int .i64 a0_0):=(blk_cell BB.out 0).trans rfl;have hb1 : w5.cell? ⟨gB,1,none⟩ = some (.int .i64 a0_1):=(blk_cell BB.out 1).trans rfl;have hb2 : w5.cell? ⟨gB,2,none⟩ = some (.slice A0_2 l0_2.length c0_2):=(blk_cell BB.out 2).trans rfl;have hb3 : w5.cell? ⟨gB,3,none⟩ = some (.slice A0_3 l0_3.length c0_3):=(blk_cell BB.out 3).trans rfl;clear hb) | ((with_reducible refine gate_callee (f:=6) rfl ?_);refine goesL_ _ rfl rfl Try.func6 (by kernel_rfl) rfl #[.agg #[.int .i64 d0,.int .i64 d1,.slice AT d2.length cT,.slice AF d3.length cF],.int .i64 a1] rfl (by (try simp only [mT,mC,mN]);first | done | rfl | (simp only [lD,lT];rfl)) ?_;(with_reducible refine (spec_NeighboursOf.calls _ d0 d1 _ _ d2 _ _ d3 a1 s0 s1 _ (cO ((Kd.R_reads' XT.out).2.2)) (Kd.R_reads' XT.out).2.1 (cO ((Kd.S_reads' XF.out).2.2)) (Kd.S_reads' XF.out).2.1 A3.out).mono ?_);rintro e w5 ⟨v0_,rfl,ho,hb⟩;refine ⟨_,rfl,?_⟩;have BBn_:=Aside0.mk (blk_below (by repeat (first | exact BB.out | refine blk_drewN ?_ _ | refine blk_drew ?_)) hb);obtain ⟨N1,hN1⟩ : ∃ n_,n_ = w5.heap.size:=⟨_,rfl⟩;have G0:=Aside0.mk (Kd.R_mono (ok':=fun k_ => k_ < N1) (Kd.R_lower (Kd.R_bound ho) (show Below w.heap.size w _ from ib).size) (fun k_ hk_ => by rw [hN1];exact hk_.2.2.1));have B1:=Aside0.mk (Nat.le_of_eq hN1);have HBn_:=sb hb;clear HB;have HB:=HBn_;clear HBn_;clear BB;have BB:=BBn_;clear BBn_;have GBN:=Aside0.mk (show gB < N1 by rw [hN1];exact blk_lt BB.out);clear A3 XT XF hN1;obtain ⟨AG,cG,eG_⟩:=Kd.R_slice G0.out;subst eG_;(try clear hb0 hb1 hb2 hb3);have hb0 : w5.cell? ⟨gB,0,none⟩ = some (.int .i64 a0_0):=(blk_cell BB.out 0).trans rfl;have hb1 : w5.cell? ⟨gB,1,none⟩ = some (.int .i64 a0_1):=(blk_cell BB.out 1).trans rfl;have hb2 : w5.cell? ⟨gB,2,none⟩ = some (.slice A0_2 l0_2.length c0_2):=(blk_cell BB.out 2).trans rfl;have hb3 : w5.cell? ⟨gB,3,none⟩ = some (.slice A0_3 l0_3.length c0_3):=(blk_cell BB.out 3).trans rfl;clear hb) | ((with_reducible refine gate_callee (f:=7) rfl ?_);refine goesL_ _ rfl rfl Try.func7 (by kernel_rfl) rfl #[.agg #[.int .i64 a0_0,.int .i64 a0_1,.slice A0_2 l0_2.length c0_2,.slice A0_3 l0_3.length c0_3]] rfl (by (try simp only [mT,mC,mN]);first | done | rfl | (simp only [lD,lT];rfl)) ?_;(with_reducible refine (laws_toDrawing.calls _ a0_0 a0_1 _ _ l0_2 _ _ l0_3 x0 x1 x2 x3 _ (cO ((Kd.C_below HR0_2.out ib))) HC0_2.out (cO ((Kd.C_below HR0_3.out ib))) HC0_3.out A5.out).mono ?_);rintro e w5 ⟨vp_,vf_,rfl,ho,hs,hb⟩;refine ⟨_,rfl,?_⟩;have BBn_:=Aside0.mk (blk_below (by repeat (first | exact BB.out | refine blk_drewN ?_ _ | refine blk_drew ?_)) hb);have G0n_:=Aside0.mk (Kd.R_below (rO G0.out) hb);obtain ⟨N2,hN2⟩ : ∃ n_,n_ = w5.heap.size:=⟨_,rfl⟩;have XP:=Aside0.mk (Kd.R_mono (ok':=fun k_ => N1 ≤ k_ ∧ k_ < N2) (Kd.R_lower (Kd.R_bound ho) (show Below w.heap.size w _ from ib).size) (fun k_ hk_ => ⟨Nat.le_trans B1.out hk_.2.1,by rw [hN2];exact hk_.2.2.1⟩));have XQ:=Aside0.mk (Kd.S_mono (ok':=fun k_ => N1 ≤ k_ ∧ k_ < N2) (Kd.S_lower (Kd.S_bound hs) (show Below w.heap.size w _ from ib).size) (fun k_ hk_ => ⟨Nat.le_trans B1.out hk_.2.1,by rw [hN2];exact hk_.2.2.1⟩));have B2:=Aside0.mk (Nat.le_of_eq hN2);have B12:=Aside0.mk (show N1 ≤ N2 by rw [hN2];exact Nat.le_trans B1.out hb.size);have HBn_:=sb hb;clear HB;have HB:=HBn_;clear HBn_;clear BB;have BB:=BBn_;clear BBn_;clear G0;have G0:=G0n_;clear G0n_;clear A5 hN2;obtain ⟨AP,cP,eP_⟩:=Kd.R_slice XP.out;subst eP_;obtain ⟨AQ,cQ,eQ_⟩:=Kd.S_slice XQ.out;subst eQ_;(try clear hb0 hb1 hb2 hb3);have hb0 : w5.cell? ⟨gB,0,none⟩ = some (.int .i64 a0_0):=(blk_cell BB.out 0).trans rfl;have hb1 : w5.cell? ⟨gB,1,none⟩ = some (.int .i64 a0_1):=(blk_cell BB.out 1).trans rfl;have hb2 : w5.cell? ⟨gB,2,none⟩ = some (.slice A0_2 l0_2.length c0_2):=(blk_cell BB.out 2).trans rfl;have hb3 : w5.cell? ⟨gB,3,none⟩ = some (.slice A0_3 l0_3.length c0_3):=(blk_cell BB.out 3).trans rfl;clear hb) | ((with_reducible refine gate_dst (N:=8) rfl ?_);refine bx (cs:=#[.int .i64 0,.int .i64 0,.slice none 0 0,.slice none 0 0]) (t:=33) ?_;intro gX hg w5 hbox hb;have BX:=Aside0.mk hbox;have NX:=Aside0.mk (show N2 ≤ gX by rw [hg];exact B2.out);have GEX:=Aside0.mk (show w.heap.size ≤ gX by rw [hg];exact HB.out.size);have BBn_:=Aside0.mk (blk_below (by repeat (first | exact BB.out | refine blk_drewN ?_ _ | refine blk_drew ?_)) hb);have G0n_:=Aside0.mk (Kd.R_below (rO G0.out) hb);have XPn_:=Aside0.mk (Kd.R_below (rO XP.out) hb);have XQn_:=Aside0.mk (Kd.S_below (sO XQ.out) hb);have HBn_:=sb hb;clear HB;have HB:=HBn_;clear HBn_;clear BB;have BB:=BBn_;clear BBn_;clear G0;have G0:=G0n_;clear G0n_;clear XP;have XP:=XPn_;clear XPn_;clear XQ;have XQ:=XQn_;clear XQn_;(try clear hb0 hb1 hb2 hb3);have hb0 : w5.cell? ⟨gB,0,none⟩ = some (.int .i64 a0_0):=(blk_cell BB.out 0).trans rfl;have hb1 : w5.cell? ⟨gB,1,none⟩ = some (.int .i64 a0_1):=(blk_cell BB.out 1).trans rfl;have hb2 : w5.cell? ⟨gB,2,none⟩ = some (.slice A0_2 l0_2.length c0_2):=(blk_cell BB.out 2).trans rfl;have hb3 : w5.cell? ⟨gB,3,none⟩ = some (.slice A0_3 l0_3.length c0_3):=(blk_cell BB.out 3).trans rfl;clear hb;clear hbox hg;have hz0:=(blk_cell BX.out 0).trans rfl;have hz1:=(blk_cell BX.out 1).trans rfl;have hz2:=(blk_cell BX.out 2).trans rfl;have hz3:=(blk_cell BX.out 3).trans rfl;have hf0:=blk_frozen BX.out 0;have hf1:=blk_frozen BX.out 1;have hf2:=blk_frozen BX.out 2;have hf3:=blk_frozen BX.out 3) | ((with_reducible refine gate_callee (f:=8) rfl ?_);obtain ⟨w9,hw⟩ : ∃ w_,w_ = ((((w5.setCell ⟨gX,0,none⟩ (.int .i64 x0)).setCell ⟨gX,1,none⟩ (.int .i64 x1)).setCell ⟨gX,2,none⟩ (.slice AP x2.length cP)).setCell ⟨gX,3,none⟩ (.slice AQ x3.length cQ)):=⟨_,rfl⟩;rw [← hw];have fa_ : ∀ k_,k_ ≠ gX → w9.heap[k_]? = w5.heap[k_]?:=fun k_ hk_ => (by rw [hw];exact (Below.heap_setCell _ _ _ k_ hk_).trans ((Below.heap_setCell _ _ _ k_ hk_).trans ((Below.heap_setCell _ _ _ k_ hk_).trans (Below.heap_setCell _ _ _ k_ hk_))));have G0n_:=Aside0.mk (Kd.R_step G0.out (fun k_ h_ _ => fa_ k_ (Nat.ne_of_lt (Nat.lt_of_lt_of_le h_ (Nat.le_trans B12.out NX.out)))));have XPn_:=Aside0.mk (Kd.R_step XP.out (fun k_ h_ _ => fa_ k_ (Nat.ne_of_lt (Nat.lt_of_lt_of_le h_.2 NX.out))));have XQn_:=Aside0.mk (Kd.S_step XQ.out (fun k_ h_ _ => fa_ k_ (Nat.ne_of_lt (Nat.lt_of_lt_of_le h_.2 NX.out))));have BBn_:=Aside0.mk ((fa_ gB (Nat.ne_of_lt (Nat.lt_of_lt_of_le GBN.out (Nat.le_trans B12.out NX.out)))).trans BB.out);have BXn_:=Aside0.mk (show w9.heap[gX]? = some (.cells #[.int .i64 x0,.int .i64 x1,.slice AP x2.length cP,.slice AQ x3.length cQ] 33 (0,0)) by rw [hw];simpa using blk_set (blk_set (blk_set (blk_set BX.out 0 (.int .i64 x0)) 1 (.int .i64 x1)) 2 (.slice AP x2.length cP)) 3 (.slice AQ x3.length cQ));have HBn_:=Aside0.mk (show Below w.heap.size w w9 by rw [hw];exact below_set (below_set (below_set (below_set HB.out GEX.out) GEX.out) GEX.out) GEX.out);clear hz0 hz1 hz2 hz3 hf0 hf1 hf2 hf3 fa_ hw HB;have HB:=HBn_;clear HBn_;clear G0;have G0:=G0n_;clear G0n_;clear XP;have XP:=XPn_;clear XPn_;clear XQ;have XQ:=XQn_;clear XQn_;clear BB;have BB:=BBn_;clear BBn_;clear BX;have BX:=BXn_;clear BXn_;refine goesL_ _ rfl rfl Try.func8 (by kernel_rfl) rfl #[.agg #[.int .i64 x0,.int .i64 x1,.slice AP x2.length cP,.slice AQ x3.length cQ],.int .i64 a1] rfl (by (try simp only [mT,mC,mN]);first | done | rfl | (simp only [lD,lT];rfl)) ?_;(with_reducible refine (impl_NeighboursOf.calls _ x0 x1 _ _ x2 _ _ x3 a1 g0 g1 _ (cO ((Kd.R_reads' XP.out).2.2)) (Kd.R_reads' XP.out).2.1 (cO ((Kd.S_reads' XQ.out).2.2)) (Kd.S_reads' XQ.out).2.1 A6.out).mono ?_);rintro e w5 ⟨v0_,rfl,ho,hb⟩;refine ⟨_,rfl,?_⟩;have BBn_:=Aside0.mk (blk_below (by repeat (first | exact BB.out | refine blk_drewN ?_ _ | refine blk_drew ?_)) hb);have G0n_:=Aside0.mk (Kd.R_below (rO G0.out) hb);have XPn_:=Aside0.mk (Kd.R_below (rO XP.out) hb);have XQn_:=Aside0.mk (Kd.S_below (sO XQ.out) hb);have BXn_:=Aside0.mk (blk_below (by repeat (first | exact BX.out | refine blk_drewN ?_ _ | refine blk_drew ?_)) hb);have G1:=Aside0.mk (Kd.R_mono (ok':=fun k_ => N2 ≤ k_) (Kd.R_lower (Kd.R_bound ho) (show Below w.heap.size w _ from ib).size) (fun k_ hk_ => Nat.le_trans NX.out (Nat.le_trans (Nat.le_of_lt (blk_lt BX.out)) hk_.2.1)));have HBn_:=sb hb;clear HB;have HB:=HBn_;clear HBn_;clear BB;have BB:=BBn_;clear BBn_;clear G0;have G0:=G0n_;clear G0n_;clear XP;have XP:=XPn_;clear XPn_;clear XQ;have XQ:=XQn_;clear XQn_;clear BX;have BX:=BXn_;clear BXn_;clear A6;obtain ⟨AI,cI,eI_⟩:=Kd.R_slice G1.out;subst eI_;(try clear hb0 hb1 hb2 hb3);have hb0 : w5.cell? ⟨gB,0,none⟩ = some (.int .i64 a0_0):=(blk_cell BB.out 0).trans rfl;have hb1 : w5.cell? ⟨gB,1,none⟩ = some (.int .i64 a0_1):=(blk_cell BB.out 1).trans rfl;have hb2 : w5.cell? ⟨gB,2,none⟩ = some (.slice A0_2 l0_2.length c0_2):=(blk_cell BB.out 2).trans rfl;have hb3 : w5.cell? ⟨gB,3,none⟩ = some (.slice A0_3 l0_3.length c0_3):=(blk_cell BB.out 3).trans rfl;(try clear hx0 hx1 hx2 hx3);have hx0 : w5.cell? ⟨gX,0,none⟩ = some (.int .i64 x0):=(blk_cell BX.out 0).trans rfl;have hx1 : w5.cell? ⟨gX,1,none⟩ = some (.int .i64 x1):=(blk_cell BX.out 1).trans rfl;have hx2 : w5.cell? ⟨gX,2,none⟩ = some (.slice AP x2.length cP):=(blk_cell BX.out 2).trans rfl;have hx3 : w5.cell? ⟨gX,3,none⟩ = some (.slice AQ x3.length cQ):=(blk_cell BX.out 3).trans rfl;clear hb) | ((with_reducible refine gate_callee (f:=9) rfl ?_);refine goesL_ _ rfl rfl Try.func9 (by kernel_rfl) rfl #[.slice AI g0.length cI,.slice AG s0.length cG] rfl (by (try simp only [mT,mC,mN]);first | done | rfl | (simp only [lD,lT];rfl)) ?_;(with_reducible refine (laws_eqInt64S.calls _ _ _ g0 _ _ s0 true _ (cO ((Kd.R_reads' G1.out).2.2)) (Kd.R_reads' G1.out).2.1 (cO ((Kd.R_reads' G0.out).2.2)) (Kd.R_reads' G0.out).2.1 A8.out).mono ?_);rintro e w5 ⟨rfl,hd_⟩;refine ⟨_,rfl,?_⟩;have hb:=hd_.below;clear hd_;have BBn_:=Aside0.mk (blk_below (by repeat (first | exact BB.out | refine blk_drewN ?_ _ | refine blk_drew ?_)) hb);have G0n_:=Aside0.mk (Kd.R_below (rO G0.out) hb);have XPn_:=Aside0.mk (Kd.R_below (rO XP.out) hb);have XQn_:=Aside0.mk (Kd.S_below (sO XQ.out) hb);have BXn_:=Aside0.mk (blk_below (by repeat (first | exact BX.out | refine blk_drewN ?_ _ | refine blk_drew ?_)) hb);have G1n_:=Aside0.mk (Kd.R_below (rO G1.out) hb);have HBn_:=sb hb;clear HB;have HB:=HBn_;clear HBn_;clear BB;have BB:=BBn_;clear BBn_;clear G0;have G0:=G0n_;clear G0n_;clear XP;have XP:=XPn_;clear XPn_;clear XQ;have XQ:=XQn_;clear XQn_;clear BX;have BX:=BXn_;clear BXn_;clear G1;have G1:=G1n_;clear G1n_;clear A8;(try clear hb0 hb1 hb2 hb3);have hb0 : w5.cell? ⟨gB,0,none⟩ = some (.int .i64 a0_0):=(blk_cell BB.out 0).trans rfl;have hb1 : w5.cell? ⟨gB,1,none⟩ = some (.int .i64 a0_1):=(blk_cell BB.out 1).trans rfl;have hb2 : w5.cell? ⟨gB,2,none⟩ = some (.slice A0_2 l0_2.length c0_2):=(blk_cell BB.out 2).trans rfl;have hb3 : w5.cell? ⟨gB,3,none⟩ = some (.slice A0_3 l0_3.length c0_3):=(blk_cell BB.out 3).trans rfl;(try clear hx0 hx1 hx2 hx3);have hx0 : w5.cell? ⟨gX,0,none⟩ = some (.int .i64 x0):=(blk_cell BX.out 0).trans rfl;have hx1 : w5.cell? ⟨gX,1,none⟩ = some (.int .i64 x1):=(blk_cell BX.out 1).trans rfl;have hx2 : w5.cell? ⟨gX,2,none⟩ = some (.slice AP x2.length cP):=(blk_cell BX.out 2).trans rfl;have hx3 : w5.cell? ⟨gX,3,none⟩ = some (.slice AQ x3.length cQ):=(blk_cell BX.out 3).trans rfl;clear hb))
  have G0n_:=Aside0.mk (Kd.R_drew G0.out)
  have G1n_:=Aside0.mk (Kd.R_drew G1.out)
  have XPn_:=Aside0.mk (Kd.R_drew XP.out)
  have XQn_:=Aside0.mk (Kd.S_drew XQ.out)
  have BBn_:=Aside0.mk (blk_drew BB.out)
  have BXn_:=Aside0.mk (blk_drew BX.out)
  have HBn_:=Aside0.mk (below_drew1 HB.out)
  clear HB hb0 hb1 hb2 hb3 hx0 hx1 hx2 hx3
  have HB:=HBn_
  clear HBn_
  clear G0
  have G0:=G0n_
  clear G0n_
  clear G1
  have G1:=G1n_
  clear G1n_
  clear XP
  have XP:=XPn_
  clear XPn_
  clear XQ
  have XQ:=XQn_
  clear XQn_
  clear BB
  have BB:=BBn_
  clear BBn_
  clear BX
  have BX:=BXn_
  clear BXn_
  refine start_ (n:=5) (S:=fun w' => w'.cell? ⟨gX,0,none⟩ = some (.int .i64 x0) ∧ w'.cell? ⟨gX,1,none⟩ = some (.int .i64 x1) ∧ w'.cell? ⟨gX,2,none⟩ = some (.slice AP x2.length cP) ∧ w'.cell? ⟨gX,3,none⟩ = some (.slice AQ x3.length cQ) ∧ w'.cell? ⟨gB,0,none⟩ = some (.int .i64 a0_0) ∧ w'.cell? ⟨gB,1,none⟩ = some (.int .i64 a0_1) ∧ w'.cell? ⟨gB,2,none⟩ = some (.slice A0_2 l0_2.length c0_2) ∧ w'.cell? ⟨gB,3,none⟩ = some (.slice A0_3 l0_3.length c0_3)) (ds:=[]) #[fF,fF,fF,fF,fF] (by kernel_rfl) rfl rfl ⟨(blk_cell BX.out 0).trans rfl,(blk_cell BX.out 1).trans rfl,(blk_cell BX.out 2).trans rfl,(blk_cell BX.out 3).trans rfl,(blk_cell BB.out 0).trans rfl,(blk_cell BB.out 1).trans rfl,(blk_cell BB.out 2).trans rfl,(blk_cell BB.out 3).trans rfl⟩ (fun hHeld => ?_)
  refine take_ (i:=0) (N:=some 45) (v:=?_) (a':=?_) #[tT,fF,fF,fF,fF] rfl rfl (by kernel_rfl) (fun _ _ _ h => h) (Or.inl ⟨by rfl,?_⟩) hHeld ?_ ?_
  rotate_left
  ·rintro w' ⟨s0_,s1_,s2_,s3_,s4_,s5_,s6_,s7_⟩
   go_simp
   with_reducible rfl
  rotate_left
  ·exact pa
  refine take_ (i:=1) (N:=some 46) (v:=?_) (a':=?_) #[tT,tT,fF,fF,fF] rfl rfl (by kernel_rfl) (fun _ _ _ h => h) (Or.inl ⟨by rfl,?_⟩) hHeld ?_ ?_
  rotate_left
  ·rintro w' ⟨s0_,s1_,s2_,s3_,s4_,s5_,s6_,s7_⟩
   go_simp
   with_reducible rfl
  rotate_left
  ·exact pa
  refine one_ (i:=2) (N:=some 47) #[tT,tT,tT,fF,fF] rfl rfl (by kernel_rfl) (by decide) (fun K hK => ?_)
  refine goes_ Try.func7 (by kernel_rfl) rfl #[.agg #[.int .i64 a0_0,.int .i64 a0_1,.slice A0_2 l0_2.length c0_2,.slice A0_3 l0_3.length c0_3]] (by rfl) rfl rfl (by (try simp only [mT,mC,mN]);first | done | rfl | (simp only [lD,lT];rfl)) ?_
  with_reducible refine (laws_toDrawing.calls _ a0_0 a0_1 _ _ l0_2 _ _ l0_3 q0 q1 q2 q3 _ (cO ((Kd.C_below HR0_2.out ib))) HC0_2.out (cO ((Kd.C_below HR0_3.out ib))) HC0_3.out A9.out).mono ?_
  rintro e w5 ⟨vp_,vf_,rfl,ho,hs,hb⟩
  refine ⟨_,rfl,?_⟩
  have BBn_:=Aside0.mk (blk_below (by repeat (first | exact BB.out | refine blk_drewN ?_ _ | refine blk_drew ?_)) hb);have G0n_:=Aside0.mk (Kd.R_below (rO G0.out) hb);have XPn_:=Aside0.mk (Kd.R_below (rO XP.out) hb);have XQn_:=Aside0.mk (Kd.S_below (sO XQ.out) hb);have BXn_:=Aside0.mk (blk_below (by repeat (first | exact BX.out | refine blk_drewN ?_ _ | refine blk_drew ?_)) hb);have G1n_:=Aside0.mk (Kd.R_below (rO G1.out) hb);have ZT:=Aside0.mk ho;have ZF:=Aside0.mk hs;have HBn_:=sb hb;clear HB;have HB:=HBn_;clear HBn_;clear BB;have BB:=BBn_;clear BBn_;clear G0;have G0:=G0n_;clear G0n_;clear XP;have XP:=XPn_;clear XPn_;clear XQ;have XQ:=XQn_;clear XQn_;clear BX;have BX:=BXn_;clear BXn_;clear G1;have G1:=G1n_;clear G1n_;clear A9;obtain ⟨AZ,cZ,eZ_⟩:=Kd.R_slice ZT.out;subst eZ_;obtain ⟨AY,cY,eY_⟩:=Kd.S_slice ZF.out;subst eY_;(try clear hb0 hb1 hb2 hb3)
  refine hK.out _ _ ⟨(blk_cell BX.out 0).trans rfl,(blk_cell BX.out 1).trans rfl,(blk_cell BX.out 2).trans rfl,(blk_cell BX.out 3).trans rfl,(blk_cell BB.out 0).trans rfl,(blk_cell BB.out 1).trans rfl,(blk_cell BB.out 2).trans rfl,(blk_cell BB.out 3).trans rfl⟩ (fun hHeld => ?_)
  clear hK K
  refine norm_ (a':=?_) ?_ ?_
  rotate_left
  ·show Act.put _ (some 47) _ = _
   simp only [Act.put,List.setIfInBounds_toArray,List.set_cons_zero,List.set_cons_succ,i64_w,i32_w]
   rfl
  refine one_ (i:=3) (N:=some 48) #[tT,tT,tT,tT,fF] rfl rfl (by kernel_rfl) (by decide) (fun K hK => ?_)
  refine goes_ Try.func10 (by kernel_rfl) rfl #[.agg #[.int .i64 x0,.int .i64 x1,.slice AP x2.length cP,.slice AQ x3.length cQ],.agg #[.int .i64 q0,.int .i64 q1,.slice AZ q2.length cZ,.slice AY q3.length cY]] (by rfl) rfl rfl (by (try simp only [mT,mC,mN]);first | done | rfl | (simp only [lD,lT];rfl)) ?_
  with_reducible refine (laws_eqDrawing.calls _ x0 x1 _ _ x2 _ _ x3 q0 q1 _ _ q2 _ _ q3 true _ (cO ((Kd.R_reads' XP.out).2.2)) (Kd.R_reads' XP.out).2.1 (cO ((Kd.S_reads' XQ.out).2.2)) (Kd.S_reads' XQ.out).2.1 (cO ((Kd.R_reads' ZT.out).2.2)) (Kd.R_reads' ZT.out).2.1 (cO ((Kd.S_reads' ZF.out).2.2)) (Kd.S_reads' ZF.out).2.1 A10.out).mono ?_
  rintro e w5 ⟨rfl,hb⟩
  refine ⟨_,rfl,?_⟩
  have BBn_:=Aside0.mk (blk_below (by repeat (first | exact BB.out | refine blk_drewN ?_ _ | refine blk_drew ?_)) hb);have G0n_:=Aside0.mk (Kd.R_below (rO G0.out) hb);have XPn_:=Aside0.mk (Kd.R_below (rO XP.out) hb);have XQn_:=Aside0.mk (Kd.S_below (sO XQ.out) hb);have BXn_:=Aside0.mk (blk_below (by repeat (first | exact BX.out | refine blk_drewN ?_ _ | refine blk_drew ?_)) hb);have G1n_:=Aside0.mk (Kd.R_below (rO G1.out) hb);have HBn_:=sb hb;clear HB;have HB:=HBn_;clear HBn_;clear BB;have BB:=BBn_;clear BBn_;clear G0;have G0:=G0n_;clear G0n_;clear XP;have XP:=XPn_;clear XPn_;clear XQ;have XQ:=XQn_;clear XQn_;clear BX;have BX:=BXn_;clear BXn_;clear G1;have G1:=G1n_;clear G1n_;clear A10 ZT ZF;(try clear hb0 hb1 hb2 hb3);have hb0 : w5.cell? ⟨gB,0,none⟩ = some (.int .i64 a0_0):=(blk_cell BB.out 0).trans rfl;have hb1 : w5.cell? ⟨gB,1,none⟩ = some (.int .i64 a0_1):=(blk_cell BB.out 1).trans rfl;have hb2 : w5.cell? ⟨gB,2,none⟩ = some (.slice A0_2 l0_2.length c0_2):=(blk_cell BB.out 2).trans rfl;have hb3 : w5.cell? ⟨gB,3,none⟩ = some (.slice A0_3 l0_3.length c0_3):=(blk_cell BB.out 3).trans rfl;(try clear hx0 hx1 hx2 hx3);have hx0 : w5.cell? ⟨gX,0,none⟩ = some (.int .i64 x0):=(blk_cell BX.out 0).trans rfl;have hx1 : w5.cell? ⟨gX,1,none⟩ = some (.int .i64 x1):=(blk_cell BX.out 1).trans rfl;have hx2 : w5.cell? ⟨gX,2,none⟩ = some (.slice AP x2.length cP):=(blk_cell BX.out 2).trans rfl;have hx3 : w5.cell? ⟨gX,3,none⟩ = some (.slice AQ x3.length cQ):=(blk_cell BX.out 3).trans rfl;clear hb
  refine hK.out _ _ ⟨(blk_cell BX.out 0).trans rfl,(blk_cell BX.out 1).trans rfl,(blk_cell BX.out 2).trans rfl,(blk_cell BX.out 3).trans rfl,(blk_cell BB.out 0).trans rfl,(blk_cell BB.out 1).trans rfl,(blk_cell BB.out 2).trans rfl,(blk_cell BB.out 3).trans rfl⟩ (fun hHeld => ?_)
  clear hK K
  refine norm_ (a':=?_) ?_ ?_
  rotate_left
  ·show Act.put _ (some 48) _ = _
   simp only [Act.put,List.setIfInBounds_toArray,List.set_cons_zero,List.set_cons_succ,i64_w,i32_w]
   rfl
  refine pure_ (i:=4) (N:=some 49) (v:=?_) (a':=?_) #[tT,tT,tT,tT,tT] rfl rfl (by kernel_rfl) (fun _ _ _ h => h) (Or.inl ⟨by rfl,?_⟩) ?_ ?_
  rotate_left
  ·intro w'
   go_simp
   with_reducible rfl
  rotate_left
  ·exact pa
  refine done_ (by kernel_rfl) ?_
  go_wp2_with (first | ((with_reducible refine gate_callee (f:=11) rfl ?_);refine goesL_ _ rfl rfl Try.func11 (by kernel_rfl) rfl #[.agg #[.int .i64 x0,.int .i64 x1,.slice AP x2.length cP,.slice AQ x3.length cQ],.int .i64 1] rfl (by (try simp only [mT,mC,mN]);first | done | rfl | (simp only [lD,lT];rfl)) ?_;(with_reducible refine (laws_markDrawing.calls _ (fun k_ => N1 ≤ k_ ∧ k_ < N2) x0 x1 _ x2 _ x3 1 t11 w _ ib (rO XP.out) (sO XQ.out) A11.out).mono ?_);rintro e w5 ⟨rfl,hb,hk⟩;refine ⟨_,rfl,?_⟩;have G0n_:=Aside0.mk (Kd.R_step (rO G0.out) (fun k_ h1_ hlt => hk.2 k_ hlt (fun h2_ => Nat.not_lt.2 h2_.1 h1_)));have G1n_:=Aside0.mk (Kd.R_step (rO G1.out) (fun k_ h1_ hlt => hk.2 k_ hlt (fun h2_ => Nat.not_lt.2 h1_ h2_.2)));have BBn_:=Aside0.mk ((hk.2 gB (blk_lt BB.out) (fun h2_ => Nat.not_lt.2 h2_.1 GBN.out)).trans BB.out);have HBn_:=Aside0.mk hb;clear HB XP XQ BX hx0 hx1 hx2 hx3;have HB:=HBn_;clear HBn_ hk hb;clear G0;have G0:=G0n_;clear G0n_;clear G1;have G1:=G1n_;clear G1n_;clear BB;have BB:=BBn_;clear BBn_;clear A11;(try clear hb0 hb1 hb2 hb3);have hb0 : w5.cell? ⟨gB,0,none⟩ = some (.int .i64 a0_0):=(blk_cell BB.out 0).trans rfl;have hb1 : w5.cell? ⟨gB,1,none⟩ = some (.int .i64 a0_1):=(blk_cell BB.out 1).trans rfl;have hb2 : w5.cell? ⟨gB,2,none⟩ = some (.slice A0_2 l0_2.length c0_2):=(blk_cell BB.out 2).trans rfl;have hb3 : w5.cell? ⟨gB,3,none⟩ = some (.slice A0_3 l0_3.length c0_3):=(blk_cell BB.out 3).trans rfl) | (go_at_call 9;(with_reducible refine (laws_eqInt64S.calls _ _ _ g0 _ _ s0 true _ (cO ((Kd.R_reads' G1.out).2.2)) (Kd.R_reads' G1.out).2.1 (cO ((Kd.R_reads' G0.out).2.2)) (Kd.R_reads' G0.out).2.1 A13.out).mono ?_);rintro e w5 ⟨rfl,hd_⟩;have hb:=hd_.below;clear hd_;have BBn_:=Aside0.mk (blk_below (by repeat (first | exact BB.out | refine blk_drewN ?_ _ | refine blk_drew ?_)) hb);have G0n_:=Aside0.mk (Kd.R_below (rO G0.out) hb);have G1n_:=Aside0.mk (Kd.R_below (rO G1.out) hb);have HBn_:=sb hb;clear HB;have HB:=HBn_;clear HBn_;clear BB;have BB:=BBn_;clear BBn_;clear G0;have G0:=G0n_;clear G0n_;clear G1;have G1:=G1n_;clear G1n_;clear A13;(try clear hb0 hb1 hb2 hb3);have hb0 : w5.cell? ⟨gB,0,none⟩ = some (.int .i64 a0_0):=(blk_cell BB.out 0).trans rfl;have hb1 : w5.cell? ⟨gB,1,none⟩ = some (.int .i64 a0_1):=(blk_cell BB.out 1).trans rfl;have hb2 : w5.cell? ⟨gB,2,none⟩ = some (.slice A0_2 l0_2.length c0_2):=(blk_cell BB.out 2).trans rfl;have hb3 : w5.cell? ⟨gB,3,none⟩ = some (.slice A0_3 l0_3.length c0_3):=(blk_cell BB.out 3).trans rfl;clear hb) | ((with_reducible refine gate_callee (f:=12) rfl ?_);refine goesL_ _ rfl rfl Try.func12 (by kernel_rfl) rfl #[.slice AI g0.length cI,.int .i64 1] rfl (by (try simp only [mT,mC,mN]);first | done | rfl | (simp only [lD,lT];rfl)) ?_;(with_reducible refine (laws_markInt64S.calls _ (fun k_ => N2 ≤ k_) _ g0 1 t21 y2 w _ ib (rO G1.out) A14.out).mono ?_);rintro e w5 ⟨rfl,ho,hb,hk⟩;refine ⟨_,rfl,?_⟩;have G0n_:=Aside0.mk (Kd.R_step (rO G0.out) (fun k_ h1_ hlt => hk.2 k_ hlt (fun h2_ => Nat.not_lt.2 (Nat.le_trans B12.out h2_) h1_)));have BBn_:=Aside0.mk ((hk.2 gB (blk_lt BB.out) (fun h2_ => Nat.not_lt.2 (Nat.le_trans B12.out h2_) GBN.out)).trans BB.out);have HBn_:=Aside0.mk hb;have G2:=Aside0.mk (Kd.R_mono (ok':=fun _ => True) ho (fun _ _ => trivial));clear HB G1;have HB:=HBn_;clear HBn_ hk ho hb;clear G0;have G0:=G0n_;clear G0n_;clear BB;have BB:=BBn_;clear BBn_;clear A14;(try clear hb0 hb1 hb2 hb3);have hb0 : w5.cell? ⟨gB,0,none⟩ = some (.int .i64 a0_0):=(blk_cell BB.out 0).trans rfl;have hb1 : w5.cell? ⟨gB,1,none⟩ = some (.int .i64 a0_1):=(blk_cell BB.out 1).trans rfl;have hb2 : w5.cell? ⟨gB,2,none⟩ = some (.slice A0_2 l0_2.length c0_2):=(blk_cell BB.out 2).trans rfl;have hb3 : w5.cell? ⟨gB,3,none⟩ = some (.slice A0_3 l0_3.length c0_3):=(blk_cell BB.out 3).trans rfl;have eL_ : y2.length = g0.length:=(Kd.R_reads' G2.out).1.symm;have G2n_:=Aside0.mk (show Kd.R (Kd.int .i64) 2 w5 w.heap.size (fun _ => True) (.slice AI y2.length cI) y2 by (rw [eL_];exact G2.out));clear G2;have G2:=G2n_;clear G2n_;rw [← eL_];clear eL_) | ((with_reducible refine gate_callee (f:=13) rfl ?_);refine goesL_ _ rfl rfl Try.func13 (by kernel_rfl) rfl #[.slice AI y2.length cI,.int .i64 1] rfl (by (try simp only [mT,mC,mN]);first | done | rfl | (simp only [lD,lT];rfl)) ?_;(with_reducible refine (laws_heldInt64S.calls _ _ _ y2 1 t21 _ (cO ((Kd.R_reads' G2.out).2.2)) (Kd.R_reads' G2.out).2.1 A16.out).mono ?_);rintro e w5 ⟨rfl,⟨nd,rfl⟩⟩;refine ⟨_,rfl,?_⟩;clear A16) | ((with_reducible refine gate_callee (f:=7) rfl ?_);refine goesL_ _ rfl rfl Try.func7 (by kernel_rfl) rfl #[.agg #[.int .i64 a0_0,.int .i64 a0_1,.slice A0_2 l0_2.length c0_2,.slice A0_3 l0_3.length c0_3]] rfl (by (try simp only [mT,mC,mN]);first | done | rfl | (simp only [lD,lT];rfl)) ?_;(with_reducible refine (laws_toDrawing.calls _ a0_0 a0_1 _ _ l0_2 _ _ l0_3 z0 z1 z2 z3 _ (cO ((Kd.C_below HR0_2.out ib))) HC0_2.out (cO ((Kd.C_below HR0_3.out ib))) HC0_3.out A17.out).mono ?_);rintro e w5 ⟨vp_,vf_,rfl,ho,hs,hb⟩;refine ⟨_,rfl,?_⟩;have BBn_:=Aside0.mk (blk_below (by repeat (first | exact BB.out | refine blk_drewN ?_ _ | refine blk_drew ?_)) hb);have G0n_:=Aside0.mk (Kd.R_below (rO G0.out) hb);have G2n_:=Aside0.mk (Kd.R_below (rO G2.out) hb);have XT:=Aside0.mk ho;have XF:=Aside0.mk hs;have HBn_:=sb hb;clear HB;have HB:=HBn_;clear HBn_;clear BB;have BB:=BBn_;clear BBn_;clear G0;have G0:=G0n_;clear G0n_;clear G2;have G2:=G2n_;clear G2n_;clear A17;obtain ⟨AT,cT,eT_⟩:=Kd.R_slice XT.out;subst eT_;obtain ⟨AF,cF,eF_⟩:=Kd.S_slice XF.out;subst eF_;(try clear hb0 hb1 hb2 hb3);have hb0 : w5.cell? ⟨gB,0,none⟩ = some (.int .i64 a0_0):=(blk_cell BB.out 0).trans rfl;have hb1 : w5.cell? ⟨gB,1,none⟩ = some (.int .i64 a0_1):=(blk_cell BB.out 1).trans rfl;have hb2 : w5.cell? ⟨gB,2,none⟩ = some (.slice A0_2 l0_2.length c0_2):=(blk_cell BB.out 2).trans rfl;have hb3 : w5.cell? ⟨gB,3,none⟩ = some (.slice A0_3 l0_3.length c0_3):=(blk_cell BB.out 3).trans rfl;clear hb) | ((with_reducible refine gate_callee (f:=8) rfl ?_);refine goesL_ _ rfl rfl Try.func8 (by kernel_rfl) rfl #[.agg #[.int .i64 z0,.int .i64 z1,.slice AT z2.length cT,.slice AF z3.length cF],.int .i64 a1] rfl (by (try simp only [mT,mC,mN]);first | done | rfl | (simp only [lD,lT];rfl)) ?_;(with_reducible refine (impl_NeighboursOf.calls _ z0 z1 _ _ z2 _ _ z3 a1 u0 u1 _ (cO ((Kd.R_reads' XT.out).2.2)) (Kd.R_reads' XT.out).2.1 (cO ((Kd.S_reads' XF.out).2.2)) (Kd.S_reads' XF.out).2.1 A18.out).mono ?_);rintro e w5 ⟨v0_,rfl,ho,hb⟩;refine ⟨_,rfl,?_⟩;have BBn_:=Aside0.mk (blk_below (by repeat (first | exact BB.out | refine blk_drewN ?_ _ | refine blk_drew ?_)) hb);have G0n_:=Aside0.mk (Kd.R_below (rO G0.out) hb);have G2n_:=Aside0.mk (Kd.R_below (rO G2.out) hb);have G3:=Aside0.mk ho;have HBn_:=sb hb;clear HB;have HB:=HBn_;clear HBn_;clear BB;have BB:=BBn_;clear BBn_;clear G0;have G0:=G0n_;clear G0n_;clear G2;have G2:=G2n_;clear G2n_;clear A18 XT XF;obtain ⟨AH,cH,eH_⟩:=Kd.R_slice G3.out;subst eH_;(try clear hb0 hb1 hb2 hb3);have hb0 : w5.cell? ⟨gB,0,none⟩ = some (.int .i64 a0_0):=(blk_cell BB.out 0).trans rfl;have hb1 : w5.cell? ⟨gB,1,none⟩ = some (.int .i64 a0_1):=(blk_cell BB.out 1).trans rfl;have hb2 : w5.cell? ⟨gB,2,none⟩ = some (.slice A0_2 l0_2.length c0_2):=(blk_cell BB.out 2).trans rfl;have hb3 : w5.cell? ⟨gB,3,none⟩ = some (.slice A0_3 l0_3.length c0_3):=(blk_cell BB.out 3).trans rfl;clear hb) | ((with_reducible refine gate_callee (f:=9) rfl ?_);refine goesL_ _ rfl rfl Try.func9 (by kernel_rfl) rfl #[.slice AH u0.length cH,.slice AG s0.length cG] rfl (by (try simp only [mT,mC,mN]);first | done | rfl | (simp only [lD,lT];rfl)) ?_;(with_reducible refine (laws_eqInt64S.calls _ _ _ u0 _ _ s0 true _ (cO ((Kd.R_reads' G3.out).2.2)) (Kd.R_reads' G3.out).2.1 (cO ((Kd.R_reads' G0.out).2.2)) (Kd.R_reads' G0.out).2.1 A20.out).mono ?_);rintro e w5 ⟨rfl,hd_⟩;refine ⟨_,rfl,?_⟩;have hb:=hd_.below;clear hd_;have BBn_:=Aside0.mk (blk_below (by repeat (first | exact BB.out | refine blk_drewN ?_ _ | refine blk_drew ?_)) hb);have G0n_:=Aside0.mk (Kd.R_below (rO G0.out) hb);have G2n_:=Aside0.mk (Kd.R_below (rO G2.out) hb);have G3n_:=Aside0.mk (Kd.R_below (rO G3.out) hb);have HBn_:=sb hb;clear HB;have HB:=HBn_;clear HBn_;clear BB;have BB:=BBn_;clear BBn_;clear G0;have G0:=G0n_;clear G0n_;clear G2;have G2:=G2n_;clear G2n_;clear G3;have G3:=G3n_;clear G3n_;clear A20;(try clear hb0 hb1 hb2 hb3);have hb0 : w5.cell? ⟨gB,0,none⟩ = some (.int .i64 a0_0):=(blk_cell BB.out 0).trans rfl;have hb1 : w5.cell? ⟨gB,1,none⟩ = some (.int .i64 a0_1):=(blk_cell BB.out 1).trans rfl;have hb2 : w5.cell? ⟨gB,2,none⟩ = some (.slice A0_2 l0_2.length c0_2):=(blk_cell BB.out 2).trans rfl;have hb3 : w5.cell? ⟨gB,3,none⟩ = some (.slice A0_3 l0_3.length c0_3):=(blk_cell BB.out 3).trans rfl;clear hb) | ((with_reducible refine gate_callee (f:=13) rfl ?_);refine goesL_ _ rfl rfl Try.func13 (by kernel_rfl) rfl #[.slice AI y2.length cI,.int .i64 1] rfl (by (try simp only [mT,mC,mN]);first | done | rfl | (simp only [lD,lT];rfl)) ?_;(with_reducible refine (laws_heldInt64S.calls _ _ _ y2 1 t21 _ (cO ((Kd.R_reads' G2.out).2.2)) (Kd.R_reads' G2.out).2.1 A21.out).mono ?_);rintro e w5 ⟨rfl,⟨nd,rfl⟩⟩;refine ⟨_,rfl,?_⟩;clear A21))
  go_ret
  exact ⟨(by first | rfl | (simp;done) | (simp [*];done)),ib⟩
end Go.Proofs.Ytpeebobdbaemiaa.PFnExactNeighboursOf
