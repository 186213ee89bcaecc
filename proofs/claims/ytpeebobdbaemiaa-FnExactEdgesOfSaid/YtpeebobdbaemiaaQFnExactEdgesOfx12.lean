/- Contracts of functions that FnExactEdgesOf reaches, out of the lines of the kit's print. -/
import Derived.Test.YtpeebobdbaemiaaQFnExactEdgesOfx0
import Derived.Test.YtpeebobdbaemiaaQFnExactEdgesOfx2
import Derived.Test.YtpeebobdbaemiaaQFnExactEdgesOfx6
import Derived.Test.YtpeebobdbaemiaaQFnExactEdgesOfx11
namespace Go.Proofs.Ytpeebobdbaemiaa.PFnExactEdgesOf
set_option maxHeartbeats 8000000
set_option maxRecDepth 100000
open Go.RowKit Go.Proofs.YtpeebobdbaemiaaW.PrintWords Go.Proofs.YtpeebobdbaemiaaW.PrintLast Go.Proofs.YtpeebobdbaemiaaW.PrintMore
open Bool renaming true → tT, false → fF
open Go.World renaming block_lt_of_cell? → bL
open List renaming map_toArray → mT, map_cons → mC, map_nil → mN
attribute [local go_sem] max2_int min2_int max_two min_two max_three min_three max_four min_four
set_option linter.unusedVariables false
set_option linter.unusedSimpArgs false
attribute [local go_sem high] eqA78
mutual
def spec_EdgesOf.l0 : Nat → List (List Int) → Int → Int → Int → Int → List (S78) → List (S64) → Option ((List (List Int)) × Int)
 | 0,_,_,_,_,_,_,_ => none
 | k + 1,x4,x5,x6,x272000,x272001,x272002,x272003 => if x6 < x5 then (spec_EdgesOf.l1 k x4 x5 x6 (wrap64 (x6 + 1)) x272000 x272001 x272002 x272003) else (some (x4,0))
def spec_EdgesOf.l1 : Nat → List (List Int) → Int → Int → Int → Int → Int → List (S78) → List (S64) → Option ((List (List Int)) × Int)
 | 0,_,_,_,_,_,_,_,_ => none
 | k + 1,x4,x5,x6,x7,x272000,x272001,x272002,x272003 => if x7 < x5 then ((spec_l05OnEdge.f k x272000 x272001 x272002 x272003 x6 x7).bind fun bt278 => (if (bt278.1.length : Int) > 0 then (if x4.length < 5864062014805 then (spec_EdgesOf.l1 k (x4 ++ [(([x6,x7] : List Int))]) x5 x6 (wrap64 (x7 + 1)) bt278.2.1 bt278.2.2 x272002 x272003) else (none)) else (spec_EdgesOf.l1 k x4 x5 x6 (wrap64 (x7 + 1)) bt278.2.1 bt278.2.2 x272002 x272003))) else (spec_EdgesOf.l0 k x4 x5 (wrap64 (x6 + 1)) x272000 x272001 x272002 x272003)
end
def spec_EdgesOf.f (k : Nat) (a0_0 : Int) (a0_1 : Int) (l0_2 : List (S78)) (l0_3 : List (S64)) : Option ((List (List Int)) × Int):=(spec_l05Ok.f k a0_0 a0_1 l0_2 l0_3).bind fun bt272 => (if bt272.1 = true then (spec_EdgesOf.l0 k (([] : List (List Int))) (l0_2.length : Int) 0 bt272.2.1 bt272.2.2 l0_2 l0_3) else (some (([] : List (List Int)),1)))
theorem spec_EdgesOf.calls (k : Nat) (a0_0 : Int) (a0_1 : Int) (A0_2 : Option Addr) (c0_2 : Nat) (l0_2 : List (S78)) (A0_3 : Option Addr) (c0_3 : Nat) (l0_3 : List (S64)) (r1 : List (List Int)) (r2 : Int) (w : World) (hr0_2 : Kd.C k78 w A0_2 l0_2.length l0_2) (hc0_2 : l0_2.length ≤ c0_2) (hr0_3 : Kd.C k64 w A0_3 l0_3.length l0_3) (hc0_3 : l0_3.length ≤ c0_3) (h : spec_EdgesOf.f k a0_0 a0_1 l0_2 l0_3 = some (r1,r2)) :
  Calls Try.prog 14 #[.agg #[.int .i64 a0_0,.int .i64 a0_1,.slice A0_2 l0_2.length c0_2,.slice A0_3 l0_3.length c0_3]] w fun e w' => ∃ v0_ : Value,e = .returned (.tuple #[v0_,.int .i64 r2]) ∧ Kd.S (Kd.slice 2 (Kd.int .i64)) 27 w' w.heap.size (fun _ => True) v0_ r1 ∧ Below w.heap.size w w':=by
 have hu33:=Try.underlying33
 have HR0_2:=Aside0.mk hr0_2
 have HC0_2:=Aside0.mk hc0_2
 clear hr0_2 hc0_2
 have HR0_3:=Aside0.mk hr0_3
 have HC0_3:=Aside0.mk hc0_3
 clear hr0_3 hc0_3
 have HB:=Aside0.mk (Below.refl w.heap.size w)
 have H : ((spec_l05Ok.f k a0_0 a0_1 l0_2 l0_3).bind fun bt272 => (if bt272.1 = true then (spec_EdgesOf.l0 k (([] : List (List Int))) (l0_2.length : Int) 0 bt272.2.1 bt272.2.2 l0_2 l0_3) else (some (([] : List (List Int)),1)))) = some (r1,r2):=h
 clear h
 obtain ⟨⟨b,x,y⟩,A10,H⟩:=Option.bind_eq_some_iff.mp H
 have A1_:=Aside0.mk A10
 clear A10
 cases b with
 | false =>
  replace H : some (([] : List (List Int)),(1 : Int)) = some (r1,r2):=H
  simp only [Option.some.injEq,Prod.mk.injEq] at H
  obtain ⟨rfl,rfl⟩:=H
  go_enter Try.func14,Try.ntmps14
  go_wp2_with (first | ((with_reducible refine gate_dst (N:=1) rfl ?_);refine bx (cs:=#[.int .i64 a0_0,.int .i64 a0_1,.slice A0_2 l0_2.length c0_2,.slice A0_3 l0_3.length c0_3]) (t:=33) ?_;intro gb hg w3 hbox hb;have HI:=Aside0.mk (show IsS33 w w3 gb a0_0 a0_1 l0_2 l0_3 from ⟨A0_2,c0_2,A0_3,c0_3,hbox,Nat.le_of_eq hg.symm,HR0_2.out,HR0_3.out⟩);have n1_:=Aside0.mk (below_step ib hb);clear HB;have HB:=n1_;clear n1_ hbox hb hg) | ((with_reducible refine gate_callee (f:=21) rfl ?_);refine goesL_ _ rfl rfl Try.func21 (by kernel_rfl) rfl #[.pointer (some ⟨gb,0,none⟩)] rfl (by (try simp only [mT,mC,mN]);first | done | rfl) ?_;(with_reducible refine (spec_l05Ok.calls _ gb a0_0 a0_1 l0_2 l0_3 _ _ _ w _ (by repeat (first | exact HI.out | apply IsS33.alloc | apply IsS33.drewN | apply IsS33.drew)) ib A1_.out).mono ?_);rintro e w5 ⟨rfl,hi,hb,hk⟩;refine ⟨_,rfl,?_⟩;have n1_:=Aside0.mk hb;have n2_:=Aside0.mk hi;clear hi hb hk HB HI;have HB:=n1_;have HI:=n2_;clear n1_ n2_;obtain ⟨A2q,c2q,A3q,c3q,hbx_,_⟩:=HI.out;have hp2_ : w5.cell? ⟨gb,2,none⟩ = some (.slice A2q l0_2.length c2q):=(blk_cell hbx_ 2).trans rfl;clear hbx_) | (go_at_call 21;(with_reducible refine (spec_l05Ok.calls _ gb a0_0 a0_1 l0_2 l0_3 _ _ _ w _ (by repeat (first | exact HI.out | apply IsS33.alloc | apply IsS33.drewN | apply IsS33.drew)) ib A1_.out).mono ?_);rintro e w5 ⟨rfl,hi,hb,hk⟩;have n1_:=Aside0.mk hb;have n2_:=Aside0.mk hi;clear hi hb hk HB HI;have HB:=n1_;have HI:=n2_;clear n1_ n2_;obtain ⟨A2q,c2q,A3q,c3q,hbx_,_⟩:=HI.out;have hp2_ : w5.cell? ⟨gb,2,none⟩ = some (.slice A2q l0_2.length c2q):=(blk_cell hbx_ 2).trans rfl;clear hbx_))
  go_ret2
  exact ⟨.slice none 0 0,(by first | rfl | (simp;done) | (simp [*];done)),Kd.S_nil _ _ _ _ _,ib⟩
 | true =>
  replace H:=(if_pos rfl).symm.trans H
  have H':=Aside0.mk (show spec_EdgesOf.l0 k ([] : List (List Int)) (l0_2.length : Int) 0 x y l0_2 l0_3 = some (r1,r2) from H)
  clear H
  go_enter Try.func14,Try.ntmps14
  go_wp2_with (first | ((with_reducible refine gate_dst (N:=1) rfl ?_);refine bx (cs:=#[.int .i64 a0_0,.int .i64 a0_1,.slice A0_2 l0_2.length c0_2,.slice A0_3 l0_3.length c0_3]) (t:=33) ?_;intro gb hg w3 hbox hb;have HI:=Aside0.mk (show IsS33 w w3 gb a0_0 a0_1 l0_2 l0_3 from ⟨A0_2,c0_2,A0_3,c0_3,hbox,Nat.le_of_eq hg.symm,HR0_2.out,HR0_3.out⟩);have n1_:=Aside0.mk (below_step ib hb);clear HB;have HB:=n1_;clear n1_ hbox hb hg) | ((with_reducible refine gate_callee (f:=21) rfl ?_);refine goesL_ _ rfl rfl Try.func21 (by kernel_rfl) rfl #[.pointer (some ⟨gb,0,none⟩)] rfl (by (try simp only [mT,mC,mN]);first | done | rfl) ?_;(with_reducible refine (spec_l05Ok.calls _ gb a0_0 a0_1 l0_2 l0_3 _ _ _ w _ (by repeat (first | exact HI.out | apply IsS33.alloc | apply IsS33.drewN | apply IsS33.drew)) ib A1_.out).mono ?_);rintro e w5 ⟨rfl,hi,hb,hk⟩;refine ⟨_,rfl,?_⟩;have n1_:=Aside0.mk hb;have n2_:=Aside0.mk hi;clear hi hb hk HB HI;have HB:=n1_;have HI:=n2_;clear n1_ n2_;obtain ⟨A2q,c2q,A3q,c3q,hbx_,_⟩:=HI.out;have hp2_ : w5.cell? ⟨gb,2,none⟩ = some (.slice A2q l0_2.length c2q):=(blk_cell hbx_ 2).trans rfl;clear hbx_) | (go_at_call 21;(with_reducible refine (spec_l05Ok.calls _ gb a0_0 a0_1 l0_2 l0_3 _ _ _ w _ (by repeat (first | exact HI.out | apply IsS33.alloc | apply IsS33.drewN | apply IsS33.drew)) ib A1_.out).mono ?_);rintro e w5 ⟨rfl,hi,hb,hk⟩;have n1_:=Aside0.mk hb;have n2_:=Aside0.mk hi;clear hi hb hk HB HI;have HB:=n1_;have HI:=n2_;clear n1_ n2_;obtain ⟨A2q,c2q,A3q,c3q,hbx_,_⟩:=HI.out;have hp2_ : w5.cell? ⟨gb,2,none⟩ = some (.slice A2q l0_2.length c2q):=(blk_cell hbx_ 2).trans rfl;clear hbx_) | ((with_reducible refine gate_dst (N:=10) rfl ?_);refine Kd.S_lit (Kd.slice 2 (Kd.int .i64)) _ 27 ?hg (N:=10) ?hd (xs:=([] : List (List Int))) (inner:=[]) (ok:=fun _ => True) (okp:=fun _ => True) ?hr ?hp (fun _ hk => hk) trivial (Below.refl _ _) (Nat.le_refl _) (by simp) ?_;(case hd => rfl);(case hg => rfl);(case hr => first | (go_simp;done) | (go_simp;rfl));(case hp => exact (Reps.none _ _));intro v5 w6 ho hb hg_ hnew_;clear hg_ hnew_;have n1_:=Aside0.mk (Kd.S_lower ho (below_size ib));have n2_:=Aside0.mk (IsS33.below (by repeat (first | exact HI.out | apply IsS33.alloc | apply IsS33.drewN | apply IsS33.drew)) hb);have n3_:=sb hb;obtain ⟨A2z,c2z,A3z,c3z,hbz_,_⟩:=n2_.out;have hp3_ : w6.cell? ⟨gb,2,none⟩ = some (.slice A2z l0_2.length c2z):=(blk_cell hbz_ 2).trans rfl;clear hbz_ ho hb HI HB;(try clear hp2_);have HO:=n1_;have HI:=n2_;have HB:=n3_;clear n1_ n2_ n3_))
  repeat (go_quiet (fail);try go_wp2)
  go_loopg [4,6,7] k (fun kq v4 v6 v7 w' => ∃ (x4 : List (List Int)) (x6 : Int) (x y : Int),v6 = .int .i64 x6 ∧ Aside0 (spec_EdgesOf.l0 kq x4 (l0_2.length : Int) x6 x y l0_2 l0_3 = some (r1,r2)) ∧ Aside0 (kq ≤ k) ∧ Aside0 (Kd.S (Kd.slice 2 (Kd.int .i64)) 27 w' w.heap.size (fun _ => True) v4 x4) ∧ Aside0 (IsS33 w w' gb x y l0_2 l0_3) ∧ Aside0 (Below w.heap.size w w'))
  case atStart => exact ⟨[],(0),x,y,(by first | rfl | (simp;done) | (simp [*];done)),H',⟨Nat.le_refl _⟩,⟨(sO HO.out)⟩,⟨(by repeat (first | exact HI.out | apply IsS33.alloc | apply IsS33.drewN | apply IsS33.drew))⟩,⟨ib⟩⟩
  case round =>
   clear H' HO HB HI
   (try clear hp3_)
   obtain ⟨x4,x6,x,y,rfl,HA,HK1,HO,HI,HB⟩:=hrel
   cases gk with
   | zero => exact absurd HA.out (by simp [spec_EdgesOf.l0])
   | succ k1 =>
    have H:=HA.out
    clear HA
    simp only [spec_EdgesOf.l0] at H
    by_cases c4 : x6 < (l0_2.length : Int)
    ·rw [if_pos c4] at H
     have c4b0 : decide (x6 < (l0_2.length : Int)) = true:=decide_eq_true c4
     clear c4
     have H':=Aside0.mk H
     clear H
     go_wp2
     repeat (go_quiet (fail);try go_wp2)
     go_loopg [4,7] k1 (fun kq v4 v7 w' => ∃ (x4 : List (List Int)) (x7 : Int) (x y : Int),v7 = .int .i64 x7 ∧ Aside0 (spec_EdgesOf.l1 kq x4 (l0_2.length : Int) x6 x7 x y l0_2 l0_3 = some (r1,r2)) ∧ Aside0 (kq ≤ k1) ∧ Aside0 (Kd.S (Kd.slice 2 (Kd.int .i64)) 27 w' w.heap.size (fun _ => True) v4 x4) ∧ Aside0 (IsS33 w w' gb x y l0_2 l0_3) ∧ Aside0 (Below w.heap.size w w'))
     case atStart => exact ⟨x4,(wrap64 (x6 + 1)),x,y,(by first | rfl | (simp;done) | (simp [*];done)),H',⟨Nat.le_refl _⟩,⟨(sO HO.out)⟩,⟨(by repeat (first | exact HI.out | apply IsS33.alloc | apply IsS33.drewN | apply IsS33.drew))⟩,⟨ib⟩⟩
     case round =>
      clear H' HO HB HI
      obtain ⟨x4,x7,x,y,rfl,HA,HK2,HO,HI,HB⟩:=hrel
      cases gk with
      | zero => exact absurd HA.out (by simp [spec_EdgesOf.l1])
      | succ k2 =>
       have H:=HA.out
       clear HA
       simp only [spec_EdgesOf.l1] at H
       by_cases c7 : x7 < (l0_2.length : Int)
       ·rw [if_pos c7] at H
        have c7b0 : decide (x7 < (l0_2.length : Int)) = true:=decide_eq_true c7
        clear c7
        obtain ⟨⟨q,x3,y3⟩,A40,H⟩:=Option.bind_eq_some_iff.mp H
        have A4_:=Aside0.mk A40
        clear A40
        by_cases c9 : (q.length : Int) > 0
        ·replace H:=(if_pos c9).symm.trans H
         have c9b0 : decide (0 < q.length) = true:=decide_eq_true (by omega)
         clear c9
         by_cases cl : x4.length < 5864062014805
         ·replace H:=(if_pos cl).symm.trans H
          have CL:=Aside0.mk cl
          clear cl
          obtain ⟨y2,hy2⟩ : ∃ y_ : List Int,y_ = [x6,x7]:=⟨_,rfl⟩
          have Ny2:=Aside0.mk hy2
          obtain ⟨y4,hy4⟩ : ∃ y_,y_ = x4 ++ [y2]:=⟨_,rfl⟩
          have Ny3:=Aside0.mk hy4
          have H':=Aside0.mk (show spec_EdgesOf.l1 k2 y4 (l0_2.length : Int) x6 (wrap64 (x7 + 1)) x3 y3 l0_2 l0_3 = some (r1,r2) by rw [hy4,hy2];exact H)
          clear H hy2 hy4
          go_wp2_with (first | ((with_reducible refine gate_callee (f:=32) rfl ?_);refine goesL_ _ rfl rfl Try.func32 (by kernel_rfl) rfl #[.pointer (some ⟨gb,0,none⟩),.int .i64 x6,.int .i64 x7] rfl (by (try simp only [mT,mC,mN]);first | done | rfl) ?_;(with_reducible refine (spec_l05OnEdge.calls k2 gb _ _ l0_2 l0_3 x6 x7 _ _ _ w _ (by repeat (first | exact HI.out | apply IsS33.alloc | apply IsS33.drewN | apply IsS33.drew)) ib A4_.out).mono ?_);rintro e w5 ⟨vp,rfl,ho,hi,hb,hk⟩;refine ⟨_,rfl,?_⟩;have HOn_:=Aside0.mk (Kd.S_mono (Kd.S_keep (IsS33.apartS (by repeat (first | exact HI.out | apply IsS33.alloc | apply IsS33.drewN | apply IsS33.drew)) (sO HO.out) (by decide)) hk (fun _ h_ => h_.2)) (fun _ _ => trivial) : Kd.S (Kd.slice 2 (Kd.int .i64)) 27 w5 w.heap.size (fun _ => True) u4 x4);clear HO;have HO:=HOn_;clear HOn_;obtain ⟨Aq,cq,eq_⟩:=Kd.R_slice ho;subst eq_;clear ho;have n1_:=Aside0.mk hb;have n2_:=Aside0.mk hi;clear hi hb hk HB HI;have HB:=n1_;have HI:=n2_;clear n1_ n2_) | (go_at_call 32;(with_reducible refine (spec_l05OnEdge.calls k2 gb _ _ l0_2 l0_3 x6 x7 _ _ _ w _ (by repeat (first | exact HI.out | apply IsS33.alloc | apply IsS33.drewN | apply IsS33.drew)) ib A4_.out).mono ?_);rintro e w5 ⟨vp,rfl,ho,hi,hb,hk⟩;have HOn_:=Aside0.mk (Kd.S_mono (Kd.S_keep (IsS33.apartS (by repeat (first | exact HI.out | apply IsS33.alloc | apply IsS33.drewN | apply IsS33.drew)) (sO HO.out) (by decide)) hk (fun _ h_ => h_.2)) (fun _ _ => trivial) : Kd.S (Kd.slice 2 (Kd.int .i64)) 27 w5 w.heap.size (fun _ => True) u4 x4);clear HO;have HO:=HOn_;clear HOn_;obtain ⟨Aq,cq,eq_⟩:=Kd.R_slice ho;subst eq_;clear ho;have n1_:=Aside0.mk hb;have n2_:=Aside0.mk hi;clear hi hb hk HB HI;have HB:=n1_;have HI:=n2_;clear n1_ n2_) | ((with_reducible refine gate_dst (N:=34) rfl ?_);refine Kd.R_lit (Kd.int .i64) _ 2 ?hg (N:=34) ?hd (xs:=([x6,x7] : List Int)) (inner:=[.int .i64 x6,.int .i64 x7]) (ok:=fun _ => True) (okp:=fun _ => True) ?hr ?hp (fun _ hk => hk) trivial (Below.refl _ _) (Nat.le_refl _) (by simp) ?_;(case hd => rfl);(case hg => rfl);(case hr => first | (go_simp;done) | (go_simp;rfl));(case hp => exact (Reps.one (show Kd.M (Kd.int .i64) _ _ _ x6 [.int .i64 x6] from rfl) (Reps.one (show Kd.M (Kd.int .i64) _ _ _ x7 [.int .i64 x7] from rfl) (Reps.none _ _))));intro v405 w34 ho35 hb hg_ hnew_;clear hg_ hnew_;rw [← Ny2.out] at ho35;have n1_:=Aside0.mk (Kd.S_elder' (sO HO.out) (Kd.R_base ho35) hb);have n3_:=Aside0.mk (Kd.R_lower ho35 (below_size ib));have n2_:=Aside0.mk (IsS33.below (by repeat (first | exact HI.out | apply IsS33.alloc | apply IsS33.drewN | apply IsS33.drew)) hb);have n6_:=sb hb;clear HO HI HB;have HO:=n1_;have HO4:=n3_;have HI:=n2_;have HB:=n6_;clear n1_ n2_ n3_ n6_;clear hb ho35;obtain ⟨Ao37,co37,eo37⟩:=Kd.R_slice HO4.out;subst eo37) | ((with_reducible refine gate_builtin (b:=.append) (xs:=#[.tmp 31,.tmp 35]) rfl ?_);at_builtin;refine Kd.S_append (Kd.slice 2 (Kd.int .i64)) (w0:=w) w.heap.size rfl (.tmp 31) (.tmp 35) 40 27 (.slice none 0 0) 24 rfl Try.underlying40 info27 rfl (by decide) (by omega) u4 x4 y2 [.slice Ao37 y2.length co37] (fun _ => True) (fun k_ => some k_ = (.slice Ao37 y2.length co37 : Value).ownBlock) rfl rfl ?aP (fun k_ hk_ => ((Kd.R_mono (ok':=fun k_ => ((fun _ => True)) k_ ∧ some k_ ≠ (u4 : Value).ownBlock) (Kd.R_apart' (HO4.out) (Kd.S_typed HO.out) (by decide)) (fun k_ hk => ⟨trivial,hk.2⟩))).1 k_ hk_.symm) ?aF ?aO ?aB ?aS ?aL ?_;(case aP => exact Kd.M_row (Kd.R_mono (Kd.R_tight rfl (Kd.R_mono (ok':=fun k_ => ((fun _ => True)) k_ ∧ some k_ ≠ (u4 : Value).ownBlock) (Kd.R_apart' (HO4.out) (Kd.S_typed HO.out) (by decide)) (fun k_ hk => ⟨trivial,hk.2⟩))) (fun _ h_ => h_)));(case aB => exact ib);(case aF => exact (fun _ _ => trivial));(case aO => exact (sO (Kd.S_mono HO.out (fun k_ hk => ⟨trivial,fun e_ => hk.2 e_⟩))));(case aS => exact (below_size ib));(case aL => have:=CL.out;omega);intro v408 w36 ho hb hg hat;rw [← Ny3.out] at ho;have n2_:=Aside0.mk (IsS33.grown (by repeat (first | exact HI.out | apply IsS33.alloc | apply IsS33.drewN | apply IsS33.drew)) hg (IsS33.own_neS HI.out HO.out (by decide)));have n4_:=Aside0.mk hb;have n5_:=Aside0.mk ho;clear HI HB HO HO4;have HI:=n2_;have HB:=n4_;have HO:=n5_;clear n2_ n4_ n5_;clear ho hb hg hat))
          repeat (go_quiet (first | ((with_reducible refine gate_callee (f:=32) rfl ?_);refine goesL_ _ rfl rfl Try.func32 (by kernel_rfl) rfl #[.pointer (some ⟨gb,0,none⟩),.int .i64 x6,.int .i64 x7] rfl (by (try simp only [mT,mC,mN]);first | done | rfl) ?_;(with_reducible refine (spec_l05OnEdge.calls k2 gb _ _ l0_2 l0_3 x6 x7 _ _ _ w _ (by repeat (first | exact HI.out | apply IsS33.alloc | apply IsS33.drewN | apply IsS33.drew)) ib A4_.out).mono ?_);rintro e w5 ⟨vp,rfl,ho,hi,hb,hk⟩;refine ⟨_,rfl,?_⟩;have HOn_:=Aside0.mk (Kd.S_mono (Kd.S_keep (IsS33.apartS (by repeat (first | exact HI.out | apply IsS33.alloc | apply IsS33.drewN | apply IsS33.drew)) (sO HO.out) (by decide)) hk (fun _ h_ => h_.2)) (fun _ _ => trivial) : Kd.S (Kd.slice 2 (Kd.int .i64)) 27 w5 w.heap.size (fun _ => True) u4 x4);clear HO;have HO:=HOn_;clear HOn_;obtain ⟨Aq,cq,eq_⟩:=Kd.R_slice ho;subst eq_;clear ho;have n1_:=Aside0.mk hb;have n2_:=Aside0.mk hi;clear hi hb hk HB HI;have HB:=n1_;have HI:=n2_;clear n1_ n2_) | (go_at_call 32;(with_reducible refine (spec_l05OnEdge.calls k2 gb _ _ l0_2 l0_3 x6 x7 _ _ _ w _ (by repeat (first | exact HI.out | apply IsS33.alloc | apply IsS33.drewN | apply IsS33.drew)) ib A4_.out).mono ?_);rintro e w5 ⟨vp,rfl,ho,hi,hb,hk⟩;have HOn_:=Aside0.mk (Kd.S_mono (Kd.S_keep (IsS33.apartS (by repeat (first | exact HI.out | apply IsS33.alloc | apply IsS33.drewN | apply IsS33.drew)) (sO HO.out) (by decide)) hk (fun _ h_ => h_.2)) (fun _ _ => trivial) : Kd.S (Kd.slice 2 (Kd.int .i64)) 27 w5 w.heap.size (fun _ => True) u4 x4);clear HO;have HO:=HOn_;clear HOn_;obtain ⟨Aq,cq,eq_⟩:=Kd.R_slice ho;subst eq_;clear ho;have n1_:=Aside0.mk hb;have n2_:=Aside0.mk hi;clear hi hb hk HB HI;have HB:=n1_;have HI:=n2_;clear n1_ n2_) | ((with_reducible refine gate_dst (N:=34) rfl ?_);refine Kd.R_lit (Kd.int .i64) _ 2 ?hg (N:=34) ?hd (xs:=([x6,x7] : List Int)) (inner:=[.int .i64 x6,.int .i64 x7]) (ok:=fun _ => True) (okp:=fun _ => True) ?hr ?hp (fun _ hk => hk) trivial (Below.refl _ _) (Nat.le_refl _) (by simp) ?_;(case hd => rfl);(case hg => rfl);(case hr => first | (go_simp;done) | (go_simp;rfl));(case hp => exact (Reps.one (show Kd.M (Kd.int .i64) _ _ _ x6 [.int .i64 x6] from rfl) (Reps.one (show Kd.M (Kd.int .i64) _ _ _ x7 [.int .i64 x7] from rfl) (Reps.none _ _))));intro v405 w34 ho35 hb hg_ hnew_;clear hg_ hnew_;rw [← Ny2.out] at ho35;have n1_:=Aside0.mk (Kd.S_elder' (sO HO.out) (Kd.R_base ho35) hb);have n3_:=Aside0.mk (Kd.R_lower ho35 (below_size ib));have n2_:=Aside0.mk (IsS33.below (by repeat (first | exact HI.out | apply IsS33.alloc | apply IsS33.drewN | apply IsS33.drew)) hb);have n6_:=sb hb;clear HO HI HB;have HO:=n1_;have HO4:=n3_;have HI:=n2_;have HB:=n6_;clear n1_ n2_ n3_ n6_;clear hb ho35;obtain ⟨Ao37,co37,eo37⟩:=Kd.R_slice HO4.out;subst eo37) | ((with_reducible refine gate_builtin (b:=.append) (xs:=#[.tmp 31,.tmp 35]) rfl ?_);at_builtin;refine Kd.S_append (Kd.slice 2 (Kd.int .i64)) (w0:=w) w.heap.size rfl (.tmp 31) (.tmp 35) 40 27 (.slice none 0 0) 24 rfl Try.underlying40 info27 rfl (by decide) (by omega) u4 x4 y2 [.slice Ao37 y2.length co37] (fun _ => True) (fun k_ => some k_ = (.slice Ao37 y2.length co37 : Value).ownBlock) rfl rfl ?aP (fun k_ hk_ => ((Kd.R_mono (ok':=fun k_ => ((fun _ => True)) k_ ∧ some k_ ≠ (u4 : Value).ownBlock) (Kd.R_apart' (HO4.out) (Kd.S_typed HO.out) (by decide)) (fun k_ hk => ⟨trivial,hk.2⟩))).1 k_ hk_.symm) ?aF ?aO ?aB ?aS ?aL ?_;(case aP => exact Kd.M_row (Kd.R_mono (Kd.R_tight rfl (Kd.R_mono (ok':=fun k_ => ((fun _ => True)) k_ ∧ some k_ ≠ (u4 : Value).ownBlock) (Kd.R_apart' (HO4.out) (Kd.S_typed HO.out) (by decide)) (fun k_ hk => ⟨trivial,hk.2⟩))) (fun _ h_ => h_)));(case aB => exact ib);(case aF => exact (fun _ _ => trivial));(case aO => exact (sO (Kd.S_mono HO.out (fun k_ hk => ⟨trivial,fun e_ => hk.2 e_⟩))));(case aS => exact (below_size ib));(case aL => have:=CL.out;omega);intro v408 w36 ho hb hg hat;rw [← Ny3.out] at ho;have n2_:=Aside0.mk (IsS33.grown (by repeat (first | exact HI.out | apply IsS33.alloc | apply IsS33.drewN | apply IsS33.drew)) hg (IsS33.own_neS HI.out HO.out (by decide)));have n4_:=Aside0.mk hb;have n5_:=Aside0.mk ho;clear HI HB HO HO4;have HI:=n2_;have HB:=n4_;have HO:=n5_;clear n2_ n4_ n5_;clear ho hb hg hat));try go_wp2_with (first | ((with_reducible refine gate_callee (f:=32) rfl ?_);refine goesL_ _ rfl rfl Try.func32 (by kernel_rfl) rfl #[.pointer (some ⟨gb,0,none⟩),.int .i64 x6,.int .i64 x7] rfl (by (try simp only [mT,mC,mN]);first | done | rfl) ?_;(with_reducible refine (spec_l05OnEdge.calls k2 gb _ _ l0_2 l0_3 x6 x7 _ _ _ w _ (by repeat (first | exact HI.out | apply IsS33.alloc | apply IsS33.drewN | apply IsS33.drew)) ib A4_.out).mono ?_);rintro e w5 ⟨vp,rfl,ho,hi,hb,hk⟩;refine ⟨_,rfl,?_⟩;have HOn_:=Aside0.mk (Kd.S_mono (Kd.S_keep (IsS33.apartS (by repeat (first | exact HI.out | apply IsS33.alloc | apply IsS33.drewN | apply IsS33.drew)) (sO HO.out) (by decide)) hk (fun _ h_ => h_.2)) (fun _ _ => trivial) : Kd.S (Kd.slice 2 (Kd.int .i64)) 27 w5 w.heap.size (fun _ => True) u4 x4);clear HO;have HO:=HOn_;clear HOn_;obtain ⟨Aq,cq,eq_⟩:=Kd.R_slice ho;subst eq_;clear ho;have n1_:=Aside0.mk hb;have n2_:=Aside0.mk hi;clear hi hb hk HB HI;have HB:=n1_;have HI:=n2_;clear n1_ n2_) | (go_at_call 32;(with_reducible refine (spec_l05OnEdge.calls k2 gb _ _ l0_2 l0_3 x6 x7 _ _ _ w _ (by repeat (first | exact HI.out | apply IsS33.alloc | apply IsS33.drewN | apply IsS33.drew)) ib A4_.out).mono ?_);rintro e w5 ⟨vp,rfl,ho,hi,hb,hk⟩;have HOn_:=Aside0.mk (Kd.S_mono (Kd.S_keep (IsS33.apartS (by repeat (first | exact HI.out | apply IsS33.alloc | apply IsS33.drewN | apply IsS33.drew)) (sO HO.out) (by decide)) hk (fun _ h_ => h_.2)) (fun _ _ => trivial) : Kd.S (Kd.slice 2 (Kd.int .i64)) 27 w5 w.heap.size (fun _ => True) u4 x4);clear HO;have HO:=HOn_;clear HOn_;obtain ⟨Aq,cq,eq_⟩:=Kd.R_slice ho;subst eq_;clear ho;have n1_:=Aside0.mk hb;have n2_:=Aside0.mk hi;clear hi hb hk HB HI;have HB:=n1_;have HI:=n2_;clear n1_ n2_) | ((with_reducible refine gate_dst (N:=34) rfl ?_);refine Kd.R_lit (Kd.int .i64) _ 2 ?hg (N:=34) ?hd (xs:=([x6,x7] : List Int)) (inner:=[.int .i64 x6,.int .i64 x7]) (ok:=fun _ => True) (okp:=fun _ => True) ?hr ?hp (fun _ hk => hk) trivial (Below.refl _ _) (Nat.le_refl _) (by simp) ?_;(case hd => rfl);(case hg => rfl);(case hr => first | (go_simp;done) | (go_simp;rfl));(case hp => exact (Reps.one (show Kd.M (Kd.int .i64) _ _ _ x6 [.int .i64 x6] from rfl) (Reps.one (show Kd.M (Kd.int .i64) _ _ _ x7 [.int .i64 x7] from rfl) (Reps.none _ _))));intro v405 w34 ho35 hb hg_ hnew_;clear hg_ hnew_;rw [← Ny2.out] at ho35;have n1_:=Aside0.mk (Kd.S_elder' (sO HO.out) (Kd.R_base ho35) hb);have n3_:=Aside0.mk (Kd.R_lower ho35 (below_size ib));have n2_:=Aside0.mk (IsS33.below (by repeat (first | exact HI.out | apply IsS33.alloc | apply IsS33.drewN | apply IsS33.drew)) hb);have n6_:=sb hb;clear HO HI HB;have HO:=n1_;have HO4:=n3_;have HI:=n2_;have HB:=n6_;clear n1_ n2_ n3_ n6_;clear hb ho35;obtain ⟨Ao37,co37,eo37⟩:=Kd.R_slice HO4.out;subst eo37) | ((with_reducible refine gate_builtin (b:=.append) (xs:=#[.tmp 31,.tmp 35]) rfl ?_);at_builtin;refine Kd.S_append (Kd.slice 2 (Kd.int .i64)) (w0:=w) w.heap.size rfl (.tmp 31) (.tmp 35) 40 27 (.slice none 0 0) 24 rfl Try.underlying40 info27 rfl (by decide) (by omega) u4 x4 y2 [.slice Ao37 y2.length co37] (fun _ => True) (fun k_ => some k_ = (.slice Ao37 y2.length co37 : Value).ownBlock) rfl rfl ?aP (fun k_ hk_ => ((Kd.R_mono (ok':=fun k_ => ((fun _ => True)) k_ ∧ some k_ ≠ (u4 : Value).ownBlock) (Kd.R_apart' (HO4.out) (Kd.S_typed HO.out) (by decide)) (fun k_ hk => ⟨trivial,hk.2⟩))).1 k_ hk_.symm) ?aF ?aO ?aB ?aS ?aL ?_;(case aP => exact Kd.M_row (Kd.R_mono (Kd.R_tight rfl (Kd.R_mono (ok':=fun k_ => ((fun _ => True)) k_ ∧ some k_ ≠ (u4 : Value).ownBlock) (Kd.R_apart' (HO4.out) (Kd.S_typed HO.out) (by decide)) (fun k_ hk => ⟨trivial,hk.2⟩))) (fun _ h_ => h_)));(case aB => exact ib);(case aF => exact (fun _ _ => trivial));(case aO => exact (sO (Kd.S_mono HO.out (fun k_ hk => ⟨trivial,fun e_ => hk.2 e_⟩))));(case aS => exact (below_size ib));(case aL => have:=CL.out;omega);intro v408 w36 ho hb hg hat;rw [← Ny3.out] at ho;have n2_:=Aside0.mk (IsS33.grown (by repeat (first | exact HI.out | apply IsS33.alloc | apply IsS33.drewN | apply IsS33.drew)) hg (IsS33.own_neS HI.out HO.out (by decide)));have n4_:=Aside0.mk hb;have n5_:=Aside0.mk ho;clear HI HB HO HO4;have HI:=n2_;have HB:=n4_;have HO:=n5_;clear n2_ n4_ n5_;clear ho hb hg hat)))
          go_roundg k2
          case measure => have:=HK2.out;omega
          case rel => exact ⟨y4,(wrap64 (x7 + 1)),x3,y3,(by first | rfl | (simp;done) | (simp [*];done)),H',⟨by have:=HK2.out;omega⟩,⟨(sO HO.out)⟩,⟨(by repeat (first | exact HI.out | apply IsS33.alloc | apply IsS33.drewN | apply IsS33.drew))⟩,⟨ib⟩⟩
         ·replace H:=(if_neg cl).symm.trans H
          exact absurd H (by simp)
        ·replace H:=(if_neg c9).symm.trans H
         have c9b0 : decide (0 < q.length) = false:=decide_eq_false (by omega)
         clear c9
         have H':=Aside0.mk H
         clear H
         go_wp2_with (first | ((with_reducible refine gate_callee (f:=32) rfl ?_);refine goesL_ _ rfl rfl Try.func32 (by kernel_rfl) rfl #[.pointer (some ⟨gb,0,none⟩),.int .i64 x6,.int .i64 x7] rfl (by (try simp only [mT,mC,mN]);first | done | rfl) ?_;(with_reducible refine (spec_l05OnEdge.calls k2 gb _ _ l0_2 l0_3 x6 x7 _ _ _ w _ (by repeat (first | exact HI.out | apply IsS33.alloc | apply IsS33.drewN | apply IsS33.drew)) ib A4_.out).mono ?_);rintro e w5 ⟨vp,rfl,ho,hi,hb,hk⟩;refine ⟨_,rfl,?_⟩;have HOn_:=Aside0.mk (Kd.S_mono (Kd.S_keep (IsS33.apartS (by repeat (first | exact HI.out | apply IsS33.alloc | apply IsS33.drewN | apply IsS33.drew)) (sO HO.out) (by decide)) hk (fun _ h_ => h_.2)) (fun _ _ => trivial) : Kd.S (Kd.slice 2 (Kd.int .i64)) 27 w5 w.heap.size (fun _ => True) u4 x4);clear HO;have HO:=HOn_;clear HOn_;obtain ⟨Aq,cq,eq_⟩:=Kd.R_slice ho;subst eq_;clear ho;have n1_:=Aside0.mk hb;have n2_:=Aside0.mk hi;clear hi hb hk HB HI;have HB:=n1_;have HI:=n2_;clear n1_ n2_) | (go_at_call 32;(with_reducible refine (spec_l05OnEdge.calls k2 gb _ _ l0_2 l0_3 x6 x7 _ _ _ w _ (by repeat (first | exact HI.out | apply IsS33.alloc | apply IsS33.drewN | apply IsS33.drew)) ib A4_.out).mono ?_);rintro e w5 ⟨vp,rfl,ho,hi,hb,hk⟩;have HOn_:=Aside0.mk (Kd.S_mono (Kd.S_keep (IsS33.apartS (by repeat (first | exact HI.out | apply IsS33.alloc | apply IsS33.drewN | apply IsS33.drew)) (sO HO.out) (by decide)) hk (fun _ h_ => h_.2)) (fun _ _ => trivial) : Kd.S (Kd.slice 2 (Kd.int .i64)) 27 w5 w.heap.size (fun _ => True) u4 x4);clear HO;have HO:=HOn_;clear HOn_;obtain ⟨Aq,cq,eq_⟩:=Kd.R_slice ho;subst eq_;clear ho;have n1_:=Aside0.mk hb;have n2_:=Aside0.mk hi;clear hi hb hk HB HI;have HB:=n1_;have HI:=n2_;clear n1_ n2_))
         repeat (go_quiet (first | ((with_reducible refine gate_callee (f:=32) rfl ?_);refine goesL_ _ rfl rfl Try.func32 (by kernel_rfl) rfl #[.pointer (some ⟨gb,0,none⟩),.int .i64 x6,.int .i64 x7] rfl (by (try simp only [mT,mC,mN]);first | done | rfl) ?_;(with_reducible refine (spec_l05OnEdge.calls k2 gb _ _ l0_2 l0_3 x6 x7 _ _ _ w _ (by repeat (first | exact HI.out | apply IsS33.alloc | apply IsS33.drewN | apply IsS33.drew)) ib A4_.out).mono ?_);rintro e w5 ⟨vp,rfl,ho,hi,hb,hk⟩;refine ⟨_,rfl,?_⟩;have HOn_:=Aside0.mk (Kd.S_mono (Kd.S_keep (IsS33.apartS (by repeat (first | exact HI.out | apply IsS33.alloc | apply IsS33.drewN | apply IsS33.drew)) (sO HO.out) (by decide)) hk (fun _ h_ => h_.2)) (fun _ _ => trivial) : Kd.S (Kd.slice 2 (Kd.int .i64)) 27 w5 w.heap.size (fun _ => True) u4 x4);clear HO;have HO:=HOn_;clear HOn_;obtain ⟨Aq,cq,eq_⟩:=Kd.R_slice ho;subst eq_;clear ho;have n1_:=Aside0.mk hb;have n2_:=Aside0.mk hi;clear hi hb hk HB HI;have HB:=n1_;have HI:=n2_;clear n1_ n2_) | (go_at_call 32;(with_reducible refine (spec_l05OnEdge.calls k2 gb _ _ l0_2 l0_3 x6 x7 _ _ _ w _ (by repeat (first | exact HI.out | apply IsS33.alloc | apply IsS33.drewN | apply IsS33.drew)) ib A4_.out).mono ?_);rintro e w5 ⟨vp,rfl,ho,hi,hb,hk⟩;have HOn_:=Aside0.mk (Kd.S_mono (Kd.S_keep (IsS33.apartS (by repeat (first | exact HI.out | apply IsS33.alloc | apply IsS33.drewN | apply IsS33.drew)) (sO HO.out) (by decide)) hk (fun _ h_ => h_.2)) (fun _ _ => trivial) : Kd.S (Kd.slice 2 (Kd.int .i64)) 27 w5 w.heap.size (fun _ => True) u4 x4);clear HO;have HO:=HOn_;clear HOn_;obtain ⟨Aq,cq,eq_⟩:=Kd.R_slice ho;subst eq_;clear ho;have n1_:=Aside0.mk hb;have n2_:=Aside0.mk hi;clear hi hb hk HB HI;have HB:=n1_;have HI:=n2_;clear n1_ n2_));try go_wp2_with (first | ((with_reducible refine gate_callee (f:=32) rfl ?_);refine goesL_ _ rfl rfl Try.func32 (by kernel_rfl) rfl #[.pointer (some ⟨gb,0,none⟩),.int .i64 x6,.int .i64 x7] rfl (by (try simp only [mT,mC,mN]);first | done | rfl) ?_;(with_reducible refine (spec_l05OnEdge.calls k2 gb _ _ l0_2 l0_3 x6 x7 _ _ _ w _ (by repeat (first | exact HI.out | apply IsS33.alloc | apply IsS33.drewN | apply IsS33.drew)) ib A4_.out).mono ?_);rintro e w5 ⟨vp,rfl,ho,hi,hb,hk⟩;refine ⟨_,rfl,?_⟩;have HOn_:=Aside0.mk (Kd.S_mono (Kd.S_keep (IsS33.apartS (by repeat (first | exact HI.out | apply IsS33.alloc | apply IsS33.drewN | apply IsS33.drew)) (sO HO.out) (by decide)) hk (fun _ h_ => h_.2)) (fun _ _ => trivial) : Kd.S (Kd.slice 2 (Kd.int .i64)) 27 w5 w.heap.size (fun _ => True) u4 x4);clear HO;have HO:=HOn_;clear HOn_;obtain ⟨Aq,cq,eq_⟩:=Kd.R_slice ho;subst eq_;clear ho;have n1_:=Aside0.mk hb;have n2_:=Aside0.mk hi;clear hi hb hk HB HI;have HB:=n1_;have HI:=n2_;clear n1_ n2_) | (go_at_call 32;(with_reducible refine (spec_l05OnEdge.calls k2 gb _ _ l0_2 l0_3 x6 x7 _ _ _ w _ (by repeat (first | exact HI.out | apply IsS33.alloc | apply IsS33.drewN | apply IsS33.drew)) ib A4_.out).mono ?_);rintro e w5 ⟨vp,rfl,ho,hi,hb,hk⟩;have HOn_:=Aside0.mk (Kd.S_mono (Kd.S_keep (IsS33.apartS (by repeat (first | exact HI.out | apply IsS33.alloc | apply IsS33.drewN | apply IsS33.drew)) (sO HO.out) (by decide)) hk (fun _ h_ => h_.2)) (fun _ _ => trivial) : Kd.S (Kd.slice 2 (Kd.int .i64)) 27 w5 w.heap.size (fun _ => True) u4 x4);clear HO;have HO:=HOn_;clear HOn_;obtain ⟨Aq,cq,eq_⟩:=Kd.R_slice ho;subst eq_;clear ho;have n1_:=Aside0.mk hb;have n2_:=Aside0.mk hi;clear hi hb hk HB HI;have HB:=n1_;have HI:=n2_;clear n1_ n2_)))
         go_roundg k2
         case measure => have:=HK2.out;omega
         case rel => exact ⟨x4,(wrap64 (x7 + 1)),x3,y3,(by first | rfl | (simp;done) | (simp [*];done)),H',⟨by have:=HK2.out;omega⟩,⟨(sO HO.out)⟩,⟨(by repeat (first | exact HI.out | apply IsS33.alloc | apply IsS33.drewN | apply IsS33.drew))⟩,⟨ib⟩⟩
       ·rw [if_neg c7] at H
        have c7b0 : decide (x7 < (l0_2.length : Int)) = false:=decide_eq_false c7
        clear c7
        have H':=Aside0.mk H
        clear H
        go_wp2
        repeat (go_quiet (fail);try go_wp2)
        go_roundg k2
        case measure => have:=HK1.out;have:=HK2.out;omega
        case rel => exact ⟨x4,(wrap64 (x6 + 1)),x,y,(by first | rfl | (simp;done) | (simp [*];done)),H',⟨by have:=HK1.out;have:=HK2.out;omega⟩,⟨(sO HO.out)⟩,⟨(by repeat (first | exact HI.out | apply IsS33.alloc | apply IsS33.drewN | apply IsS33.drew))⟩,⟨ib⟩⟩
    ·rw [if_neg c4] at H
     have c4b0 : decide (x6 < (l0_2.length : Int)) = false:=decide_eq_false c4
     clear c4
     simp only [Option.some.injEq,Prod.mk.injEq] at H
     obtain ⟨rfl,rfl⟩:=H
     go_wp2
     go_ret2
     exact ⟨_,(by first | rfl | (simp;done) | (simp [*];done)),(sO HO.out),ib⟩
def impl_within.f (a0 : Int) (a1 : Int) (a2 : Int) : Option (Bool):=if a0 ≥ a1 then (some (decide (a0 ≤ a2))) else (some false)
theorem impl_within.calls (a0 : Int) (a1 : Int) (a2 : Int) (r : Bool) (w : World) (h : impl_within.f a0 a1 a2 = some r) :
  Calls Try.prog 46 #[.int .i64 a0,.int .i64 a1,.int .i64 a2] w fun e w' => e = .returned (.bool r) ∧ Drawn0 w w':=by
 have H : (if a0 ≥ a1 then (some (decide (a0 ≤ a2))) else (some false)) = some r:=h
 clear h
 by_cases c4 : a0 ≥ a1
 ·rw [if_pos c4] at H
  have c4b0 : decide (a1 ≤ a0) = true:=decide_eq_true c4
  clear c4
  obtain rfl:=Option.some.inj H
  go_enter Try.func46,Try.ntmps46
  go_wp2
  go_ret
  exact ⟨by first | rfl | (simp;done) | (simp [*];done),by repeat (first | exact Drawn0.refl _ | apply Drawn0.step)⟩
 ·rw [if_neg c4] at H
  have c4b0 : decide (a1 ≤ a0) = false:=decide_eq_false c4
  clear c4
  obtain rfl:=Option.some.inj H
  go_enter Try.func46,Try.ntmps46
  go_wp2
  go_ret
  exact ⟨by first | rfl | (simp;done) | (simp [*];done),by repeat (first | exact Drawn0.refl _ | apply Drawn0.step)⟩
def impl_Point_70.l0 : Nat → List (S78) → Int → Int → Int → Int → Option (Int)
 | 0,_,_,_,_,_ => none
 | k + 1,x0,x7,x8,x290000,x290001 => if x8 < x7 then (if 0 ≤ x8 then (if x8 < (x0.length : Int) then (if (x290000 == ((rd_T78 x0 x8).f0) && (x290001 == ((rd_T78 x0 x8).f1))) = true then (some x8) else (impl_Point_70.l0 k x0 x7 (wrap64 (x8 + 1)) x290000 x290001)) else (none)) else (none)) else (some (-1))
def impl_Point_70.f (k : Nat) (l0 : List (S78)) (a1_0 : Int) (a1_1 : Int) : Option (Int):=impl_Point_70.l0 k l0 (l0.length : Int) 0 a1_0 a1_1
theorem impl_Point_70.calls (k : Nat) (A0 : Option Addr) (c0 : Nat) (l0 : List (S78)) (a1_0 : Int) (a1_1 : Int) (r : Int) (w : World) (hr0 : Kd.C k78 w A0 l0.length l0) (hc0 : l0.length ≤ c0) (h : impl_Point_70.f k l0 a1_0 a1_1 = some r) :
  Calls Try.prog 70 #[.slice A0 l0.length c0,.agg #[.int .i64 a1_0,.int .i64 a1_1]] w fun e w' => e = .returned (.int .i64 r) ∧ Below w.heap.size w w':=by
 have hu78:=Try.underlying78
 have HR0:=Aside0.mk hr0
 have HC0:=Aside0.mk hc0
 clear hr0 hc0
 have HB:=Aside0.mk (Below.refl w.heap.size w)
 have H : (impl_Point_70.l0 k l0 (l0.length : Int) 0 a1_0 a1_1) = some r:=h
 clear h
 have H':=Aside0.mk H
 clear H
 go_enter Try.func70,Try.ntmps70
 go_wp2_with (first | ((with_reducible refine gate_dst (N:=3) rfl ?_);refine bx (cs:=#[.int .i64 a1_0,.int .i64 a1_1]) (t:=78) ?_;intro gb289 hg w3 hbox hb;have BK289:=Aside0.mk (hbox);have GW289:=zb hg;have GE289:=zb hg;replace HB:=sb hb;clear hb hbox hg))
 repeat (go_quiet (first | ((with_reducible refine gate_dst (N:=3) rfl ?_);refine bx (cs:=#[.int .i64 a1_0,.int .i64 a1_1]) (t:=78) ?_;intro gb289 hg w3 hbox hb;have BK289:=Aside0.mk (hbox);have GW289:=zb hg;have GE289:=zb hg;replace HB:=sb hb;clear hb hbox hg));try go_wp2_with (first | ((with_reducible refine gate_dst (N:=3) rfl ?_);refine bx (cs:=#[.int .i64 a1_0,.int .i64 a1_1]) (t:=78) ?_;intro gb289 hg w3 hbox hb;have BK289:=Aside0.mk (hbox);have GW289:=zb hg;have GE289:=zb hg;replace HB:=sb hb;clear hb hbox hg)))
 go_loopg [8] k (fun kq v8 w' => ∃ (x8_1 : Int),v8 = .int .i64 x8_1 ∧ Aside0 (impl_Point_70.l0 kq l0 (l0.length : Int) x8_1 a1_0 a1_1 = some r) ∧ Aside0 (kq ≤ k) ∧ Aside0 (w'.heap[gb289]? = some (.cells #[.int .i64 a1_0,.int .i64 a1_1] 78 (0,0))) ∧ Aside0 (Below w.heap.size w w'))
 case atStart => exact ⟨(0),(by first | rfl | (simp;done) | (simp [*];done)),H',⟨Nat.le_refl _⟩,⟨by exact bk BK289⟩,⟨ib⟩⟩
 case round =>
  clear H'
  try clear p2
  obtain ⟨x8_1,rfl,HA,HK1,BK289,HB⟩:=hrel
  cases gk with
  | zero => exact absurd HA.out (by simp [impl_Point_70.l0])
  | succ k1 =>
   have H:=HA.out
   clear HA
   simp only [impl_Point_70.l0] at H
   by_cases c4 : x8_1 < (l0.length : Int)
   ·rw [if_pos c4] at H
    have c4b0 : decide (x8_1 < (l0.length : Int)) = true:=decide_eq_true c4
    clear c4
    by_cases c5 : 0 ≤ x8_1
    ·rw [if_pos c5] at H
     have c5b0 : decide (0 ≤ x8_1) = true:=decide_eq_true c5
     clear c5
     by_cases c6 : x8_1 < (l0.length : Int)
     ·rw [if_pos c6] at H
      have c6b0 : decide (x8_1 < (l0.length : Int)) = true:=decide_eq_true c6
      clear c6
      by_cases c7 : (a1_0 == ((rd_T78 l0 x8_1).f0) && (a1_1 == ((rd_T78 l0 x8_1).f1))) = true
      ·rw [if_pos c7] at H
       have c7b0 : (a1_0 == ((rd_T78 l0 x8_1).f0) && (a1_1 == ((rd_T78 l0 x8_1).f1))) = true:=c7
       (try (have c7b1 : decide (a1_0 = ((rd_T78 l0 x8_1).f0) && (a1_1 == ((rd_T78 l0 x8_1).f1))) = true:=by simpa using c7))
       (try (have c7b2 : (a1_0 == ((rd_T78 l0 x8_1).f0) && (a1_1 == ((rd_T78 l0 x8_1).f1))) = true:=by simpa using c7))
       clear c7
       obtain rfl:=Option.some.inj H
       have hcz8_0 : wr.cell? ⟨gb289,0,none⟩ = some (.int .i64 a1_0):=(blk_cell BK289.out 0).trans rfl
       have hcz8_1 : wr.cell? ⟨gb289,1,none⟩ = some (.int .i64 a1_1):=(blk_cell BK289.out 1).trans rfl
       have hfz8_0:=blk_frozen BK289.out 0
       have hfz8_1:=blk_frozen BK289.out 1
       have p290 : 0 ≤ (x8_1 : Int):=da
       have q290 : x8_1 < (l0.length : Int):=da
       obtain ⟨ad290,e290,hx290_0,hx290_1⟩:=at_T78 HR0.out x8_1 p290 q290
       cases e290
       replace hx290_0:=cq HB.out hx290_0
       replace hx290_1:=cq HB.out hx290_1
       replace p290:=eq_true p290
       replace q290:=eq_true q290
       go_wp2
       repeat (go_quiet (fail);try go_wp2)
       go_ret
       exact ⟨by first | rfl | (simp [errW_none,errW_some] <;> rfl) | (simp [*,errW_none,errW_some] <;> rfl),ib⟩
      ·rw [if_neg c7] at H
       have c7b0 : (a1_0 == ((rd_T78 l0 x8_1).f0) && (a1_1 == ((rd_T78 l0 x8_1).f1))) = false:=by simpa using c7
       (try (have c7b1 : decide (a1_0 = ((rd_T78 l0 x8_1).f0) && (a1_1 == ((rd_T78 l0 x8_1).f1))) = false:=by simpa using c7))
       (try (have c7b2 : (a1_0 == ((rd_T78 l0 x8_1).f0) && (a1_1 == ((rd_T78 l0 x8_1).f1))) = false:=by simpa using c7))
       (try (have c7b3 : ¬ (a1_0 = ((rd_T78 l0 x8_1).f0) && (a1_1 == ((rd_T78 l0 x8_1).f1))):=by simpa using c7))
       clear c7
       have H':=Aside0.mk H
       clear H
       have hcz9_0 : wr.cell? ⟨gb289,0,none⟩ = some (.int .i64 a1_0):=(blk_cell BK289.out 0).trans rfl
       have hcz9_1 : wr.cell? ⟨gb289,1,none⟩ = some (.int .i64 a1_1):=(blk_cell BK289.out 1).trans rfl
       have hfz9_0:=blk_frozen BK289.out 0
       have hfz9_1:=blk_frozen BK289.out 1
       have p290 : 0 ≤ (x8_1 : Int):=da
       have q290 : x8_1 < (l0.length : Int):=da
       obtain ⟨ad290,e290,hx290_0,hx290_1⟩:=at_T78 HR0.out x8_1 p290 q290
       cases e290
       replace hx290_0:=cq HB.out hx290_0
       replace hx290_1:=cq HB.out hx290_1
       replace p290:=eq_true p290
       replace q290:=eq_true q290
       go_wp2
       repeat (go_quiet (fail);try go_wp2)
       go_roundg k1
       case measure => have:=HK1.out;omega
       case rel => exact ⟨(wrap64 (x8_1 + 1)),(by first | rfl | (simp;done) | (simp [*];done)),H',⟨by have:=HK1.out;omega⟩,⟨by exact bk BK289⟩,⟨ib⟩⟩
     ·first | (exfalso;have z_:=of_decide_eq_true c4b0;omega) | (rw [if_neg c6] at H;exact absurd H (by simp))
    ·rw [if_neg c5] at H
     exact absurd H (by simp)
   ·rw [if_neg c4] at H
    have c4b0 : decide (x8_1 < (l0.length : Int)) = false:=decide_eq_false c4
    clear c4
    obtain rfl:=Option.some.inj H
    go_wp2
    repeat (go_quiet (fail);try go_wp2)
    go_ret
    exact ⟨by first | rfl | (simp [errW_none,errW_some] <;> rfl) | (simp [*,errW_none,errW_some] <;> rfl),ib⟩
def impl_Point_53.f (k : Nat) (l0 : List (S78)) (a1_0 : Int) (a1_1 : Int) : Option (Bool):=(impl_Point_70.f k l0 a1_0 a1_1).bind fun t292 => (some (decide (t292 ≥ 0)))
theorem impl_Point_53.calls (k : Nat) (A0 : Option Addr) (c0 : Nat) (l0 : List (S78)) (a1_0 : Int) (a1_1 : Int) (r : Bool) (w : World) (hr0 : Kd.C k78 w A0 l0.length l0) (hc0 : l0.length ≤ c0) (h : impl_Point_53.f k l0 a1_0 a1_1 = some r) :
  Calls Try.prog 53 #[.slice A0 l0.length c0,.agg #[.int .i64 a1_0,.int .i64 a1_1]] w fun e w' => e = .returned (.bool r) ∧ Below w.heap.size w w':=by
 have hu78:=Try.underlying78
 have HR0:=Aside0.mk hr0
 have HC0:=Aside0.mk hc0
 clear hr0 hc0
 have HB:=Aside0.mk (Below.refl w.heap.size w)
 have H : ((impl_Point_70.f k l0 a1_0 a1_1).bind fun t292 => (some (decide (t292 ≥ 0)))) = some r:=h
 clear h
 replace H:=Option.bind_eq_some_iff.mp H
 obtain ⟨t292,A30,H⟩:=H
 replace H : (some (decide (t292 ≥ 0))) = some r:=H
 have A3:=Aside0.mk A30
 clear A30
 obtain rfl:=Option.some.inj H
 go_enter Try.func53,Try.ntmps53
 go_wp2_with (first | ((with_reducible refine gate_dst (N:=3) rfl ?_);refine bx (cs:=#[.int .i64 a1_0,.int .i64 a1_1]) (t:=78) ?_;intro gb291 hg w4 hbox hb;have BK291:=Aside0.mk (hbox);have GW291:=zb hg;have GE291:=zb hg;replace HB:=sb hb;clear hb hbox hg;have hcz5_0:=ck BK291 0;have hcz5_1:=ck BK291 1;have hfz5_0:=blk_frozen BK291.out 0;have hfz5_1:=blk_frozen BK291.out 1) | ((with_reducible refine gate_callee (f:=70) rfl ?_);refine goesL_ (some 7) rfl rfl Try.func70 (by kernel_rfl) rfl #[.slice A0 l0.length c0,.agg #[.int .i64 a1_0,.int .i64 a1_1]] rfl (by (try simp only [mT,mC,mN]);first | done | rfl | (simp only [List.length_drop,List.length_take];rfl)) ?_;(with_reducible refine (impl_Point_70.calls k _ _ l0 a1_0 a1_1 t292 _ ?side1 ?side2 A3.out).mono ?_);(case side1 => exact cO ((Kd.C_below HR0.out HB.out)));(case side2 => exact HC0.out);rintro e w6 ⟨rfl,hb⟩;refine ⟨_,rfl,?_⟩;replace BK291:=kb BK291 hb;replace HB:=sb hb;(try clear hb);(try clear hb2);(try clear hk);(try clear hi)))
 go_ret
 exact ⟨by first | rfl | (simp [errW_none,errW_some] <;> rfl) | (simp [*,errW_none,errW_some] <;> rfl),ib⟩
mutual
def impl_IsName.j0 : Nat → ByteArray → Bool → Option (Bool)
 | 0,_,_ => none
 | k + 1,x0,x21 => if x21 = true then (some false) else (impl_IsName.l0 k x0 0)
def impl_IsName.l0 : Nat → ByteArray → Int → Option (Bool)
 | 0,_,_ => none
 | k + 1,x0,x3 => if x3 < (x0.size : Int) then (if 0 ≤ x3 then (if (bt x0 x3) < 97 then (if (bt x0 x3) < 48 then (some false) else (if (bt x0 x3) > 57 then (some false) else (impl_IsName.l0 k x0 (wrap64 (x3 + 1))))) else (if (bt x0 x3) > 122 then (if (bt x0 x3) < 48 then (some false) else (if (bt x0 x3) > 57 then (some false) else (impl_IsName.l0 k x0 (wrap64 (x3 + 1))))) else (impl_IsName.l0 k x0 (wrap64 (x3 + 1))))) else (none)) else (some true)
end
def impl_IsName.f (k : Nat) (a0 : ByteArray) : Option (Bool):=if (a0.size : Int) < 1 then (impl_IsName.j0 k a0 true) else (if (a0.size : Int) > 10 then (impl_IsName.j0 k a0 true) else (if 0 < (a0.size : Int) then (if (bt a0 0) < 97 then (impl_IsName.j0 k a0 true) else (impl_IsName.j0 k a0 (decide ((bt a0 0) > 122)))) else (none)))
theorem impl_IsName.mono_l : ∀ k,(∀ y0 y1,LeO (impl_IsName.j0 k y0 y1) (impl_IsName.j0 (k + 1) y0 y1)) ∧ (∀ y0 y1,LeO (impl_IsName.l0 k y0 y1) (impl_IsName.l0 (k + 1) y0 y1))
 | 0 => ⟨fun _ _ r h => by simp [impl_IsName.j0] at h,fun _ _ r h => by simp [impl_IsName.l0] at h⟩
 | k + 1 => by
  obtain ⟨ih0,ih1⟩:=impl_IsName.mono_l k
  refine ⟨?_,?_⟩
  ·intro y0 y1
   unfold impl_IsName.j0
   repeat' first
   | (with_reducible exact ih0 _ _)
   | (with_reducible exact ih1 _ _)
   | (with_reducible exact LeO.refl _)
   | (with_reducible exact LeO.none _)
   | (with_reducible refine LeO.ite ?_ ?_)
   | (with_reducible refine LeO.bind ?_ (fun _ => ?_))
   | exact ih0 _ _
   | exact ih1 _ _
   | exact LeO.none _
   | refine LeO.ite ?_ ?_
   | refine LeO.bind ?_ (fun _ => ?_)
  ·intro y0 y1
   unfold impl_IsName.l0
   repeat' first
   | (with_reducible exact ih0 _ _)
   | (with_reducible exact ih1 _ _)
   | (with_reducible exact LeO.refl _)
   | (with_reducible exact LeO.none _)
   | (with_reducible refine LeO.ite ?_ ?_)
   | (with_reducible refine LeO.bind ?_ (fun _ => ?_))
   | exact ih0 _ _
   | exact ih1 _ _
   | exact LeO.none _
   | refine LeO.ite ?_ ?_
   | refine LeO.bind ?_ (fun _ => ?_)
theorem impl_IsName.mono : ∀ a0 k,LeO (impl_IsName.f k a0) (impl_IsName.f (k + 1) a0):=by
 intro a0 k
 obtain ⟨ih0,ih1⟩:=impl_IsName.mono_l k
 unfold impl_IsName.f
 repeat' first
   | (with_reducible exact ih0 _ _)
   | (with_reducible exact ih1 _ _)
   | (with_reducible exact LeO.refl _)
   | (with_reducible exact LeO.none _)
   | (with_reducible refine LeO.ite ?_ ?_)
   | (with_reducible refine LeO.bind ?_ (fun _ => ?_))
   | exact ih0 _ _
   | exact ih1 _ _
   | exact LeO.none _
   | refine LeO.ite ?_ ?_
   | refine LeO.bind ?_ (fun _ => ?_)
theorem impl_IsName.calls (k : Nat) (a0 : ByteArray) (r : Bool) (w : World) (h : impl_IsName.f k a0 = some r) :
  Calls Try.prog 54 #[.string a0] w fun e w' => e = .returned (.bool r) ∧ Drawn0 w w':=by
 have H : (if (a0.size : Int) < 1 then (impl_IsName.j0 k a0 true) else (if (a0.size : Int) > 10 then (impl_IsName.j0 k a0 true) else (if 0 < (a0.size : Int) then (if (bt a0 0) < 97 then (impl_IsName.j0 k a0 true) else (impl_IsName.j0 k a0 (decide ((bt a0 0) > 122)))) else (none)))) = some r:=h
 clear h
 have HC2:=Aside0.mk H
 clear H
 go_enter Try.func54,Try.ntmps54
 go_upto_region 1 with (fail)
 go_cut [21] (fun v21 wc => ∃ (kq : Nat) (x21_1 : Bool),v21 = .bool x21_1 ∧ Aside0 (impl_IsName.j0 kq a0 x21_1 = some r) ∧ Aside0 (kq ≤ k) ∧ Drawn0 w wc)
 case first =>
  have H:=HC2.out
  clear HC2
  by_cases c3 : (a0.size : Int) < 1
  ·rw [if_pos c3] at H
   have c3b0 : decide ((a0.size : Int) < 1) = true:=decide_eq_true c3
   have c3b1 : decide (a0.size < 1) = true:=decide_eq_true (by omega)
   clear c3
   (first | rw [c3b0] | (simp only [i64_w,i32_w];rw [c3b0]) | skip)
   have H':=Aside0.mk H
   clear H
   go_wp2
   go_meet
   case rel => exact ⟨_,(true),(by first | rfl | (simp;done) | (simp [*];done)),H',⟨by first | omega | exact Nat.le_refl _⟩,by repeat (first | exact Drawn0.refl _ | apply Drawn0.step)⟩
  ·rw [if_neg c3] at H
   have c3b0 : decide ((a0.size : Int) < 1) = false:=decide_eq_false c3
   have c3b1 : decide (a0.size < 1) = false:=decide_eq_false (by omega)
   clear c3
   (first | rw [c3b0] | (simp only [i64_w,i32_w];rw [c3b0]) | skip)
   by_cases c4 : (a0.size : Int) > 10
   ·rw [if_pos c4] at H
    have c4b0 : decide (10 < (a0.size : Int)) = true:=decide_eq_true c4
    have c4b1 : decide (10 < a0.size) = true:=decide_eq_true (by omega)
    clear c4
    have H':=Aside0.mk H
    clear H
    go_wp2
    go_meet
    case rel => exact ⟨_,(true),(by first | rfl | (simp;done) | (simp [*];done)),H',⟨by first | omega | exact Nat.le_refl _⟩,by repeat (first | exact Drawn0.refl _ | apply Drawn0.step)⟩
   ·rw [if_neg c4] at H
    have c4b0 : decide (10 < (a0.size : Int)) = false:=decide_eq_false c4
    have c4b1 : decide (10 < a0.size) = false:=decide_eq_false (by omega)
    clear c4
    by_cases c5 : 0 < (a0.size : Int)
    ·rw [if_pos c5] at H
     have c5b0 : decide (0 < (a0.size : Int)) = true:=decide_eq_true c5
     have c5b1 : decide (0 < a0.size) = true:=decide_eq_true (by omega)
     clear c5
     by_cases c7 : (bt a0 0) < 97
     ·rw [if_pos c7] at H
      have c7b0 : decide ((bt a0 0) < 97) = true:=decide_eq_true c7
      clear c7
      have H':=Aside0.mk H
      clear H
      have p6 : 0 ≤ (0 : Int):=(by omega)
      have q6 : 0 < a0.size:=(by have : (0 : Int) < (a0.size : Int):=da;omega)
      have hx6 : ∀ h : 0 < a0.size,((a0[0]'h).toNat : Int) = bt a0 0:=bt_at a0 0
      clear p6
      have qi6 : (0 < (a0.size : Int)) = True:=eq_true (da)
      replace q6:=eq_true q6
      go_wp2
      go_meet
      case rel => exact ⟨_,(true),(by first | rfl | (simp;done) | (simp [*];done)),H',⟨by first | omega | exact Nat.le_refl _⟩,by repeat (first | exact Drawn0.refl _ | apply Drawn0.step)⟩
     ·rw [if_neg c7] at H
      have c7b0 : decide ((bt a0 0) < 97) = false:=decide_eq_false c7
      clear c7
      have H':=Aside0.mk H
      clear H
      have p6 : 0 ≤ (0 : Int):=(by omega)
      have q6 : 0 < a0.size:=(by have : (0 : Int) < (a0.size : Int):=da;omega)
      have hx6 : ∀ h : 0 < a0.size,((a0[0]'h).toNat : Int) = bt a0 0:=bt_at a0 0
      clear p6
      have qi6 : (0 < (a0.size : Int)) = True:=eq_true (da)
      replace q6:=eq_true q6
      have p8 : 0 ≤ (0 : Int):=(by omega)
      have q8 : 0 < a0.size:=(by have : (0 : Int) < (a0.size : Int):=da;omega)
      have hx8 : ∀ h : 0 < a0.size,((a0[0]'h).toNat : Int) = bt a0 0:=bt_at a0 0
      clear p8
      have qi8 : (0 < (a0.size : Int)) = True:=eq_true (da)
      replace q8:=eq_true q8
      go_wp2
      go_meet
      case rel => exact ⟨_,(decide ((bt a0 0) > 122)),(by first | rfl | (simp;done) | (simp [*];done)),H',⟨by first | omega | exact Nat.le_refl _⟩,by repeat (first | exact Drawn0.refl _ | apply Drawn0.step)⟩
    ·rw [if_neg c5] at H
     exact absurd H (by simp)
 case rest =>
  clear HC2
  try clear p2
  try clear c3
  try clear c3b0
  try clear c3b1
  try clear c4
  try clear c4b0
  try clear c4b1
  try clear c5
  try clear c5b0
  try clear c5b1
  try clear p6
  try clear q6
  try clear hx6
  try clear qi6
  try clear c7
  try clear c7b0
  try clear p8
  try clear q8
  try clear hx8
  try clear qi8
  try clear p6
  try clear p8
  try clear q6
  try clear q8
  obtain ⟨kq,x21_1,rfl,HA,HJ1,⟨mc1,rfl⟩⟩:=hcut
  cases kq with
  | zero => exact absurd HA.out (by simp [impl_IsName.j0])
  | succ kj1 =>
   have H:=HA.out
   clear HA
   simp only [impl_IsName.j0] at H
   by_cases c9 : x21_1 = true
   ·subst c9
    have H1 : (some false) = some r:=by rw [if_pos rfl] at H;exact H
    clear H
    have H:=H1
    clear H1
    obtain rfl:=Option.some.inj H
    go_wp2
    go_ret
    exact ⟨by first | rfl | (simp;done) | (simp [*];done),by repeat (first | exact Drawn0.refl _ | apply Drawn0.step)⟩
   ·replace c9:=Bool.eq_false_iff.mpr c9
    subst c9
    have H1 : (impl_IsName.l0 kj1 a0 0) = some r:=by rw [if_neg (show ¬ (false = true) by decide)] at H;exact H
    clear H
    have H:=H1
    clear H1
    have H':=Aside0.mk H
    clear H
    go_wp2
    go_loopg [3] kj1 (fun kq v3 w' => ∃ (x3_2 : Int),v3 = .int .i64 x3_2 ∧ Aside0 (impl_IsName.l0 kq a0 x3_2 = some r) ∧ Aside0 (kq ≤ kj1) ∧ Drawn0 w w')
    case atStart => exact ⟨(0),(by first | rfl | (simp;done) | (simp [*];done)),H',⟨Nat.le_refl _⟩,by repeat (first | exact Drawn0.refl _ | apply Drawn0.step)⟩
    case round =>
     clear H'
     try clear c1
     try clear p2
     try clear c3
     try clear c3b0
     try clear c3b1
     try clear c4
     try clear c4b0
     try clear c4b1
     try clear c5
     try clear c5b0
     try clear c5b1
     try clear p6
     try clear q6
     try clear hx6
     try clear qi6
     try clear c7
     try clear c7b0
     try clear p8
     try clear q8
     try clear hx8
     try clear qi8
     try clear c9
     try clear p2
     try clear p6
     try clear p8
     try clear q6
     try clear q8
     obtain ⟨x3_2,rfl,HA,HK2,⟨m2,rfl⟩⟩:=hrel
     cases gk with
     | zero => exact absurd HA.out (by simp [impl_IsName.l0])
     | succ k2 =>
      have H:=HA.out
      clear HA
      simp only [impl_IsName.l0] at H
      by_cases c10 : x3_2 < (a0.size : Int)
      ·rw [if_pos c10] at H
       have c10b0 : decide (x3_2 < (a0.size : Int)) = true:=decide_eq_true c10
       clear c10
       by_cases c11 : 0 ≤ x3_2
       ·rw [if_pos c11] at H
        have c11b0 : decide (0 ≤ x3_2) = true:=decide_eq_true c11
        clear c11
        by_cases c13 : (bt a0 x3_2) < 97
        ·rw [if_pos c13] at H
         have c13b0 : decide ((bt a0 x3_2) < 97) = true:=decide_eq_true c13
         clear c13
         by_cases c15 : (bt a0 x3_2) < 48
         ·rw [if_pos c15] at H
          have c15b0 : decide ((bt a0 x3_2) < 48) = true:=decide_eq_true c15
          clear c15
          obtain rfl:=Option.some.inj H
          have p12 : 0 ≤ (x3_2 : Int):=da
          have q12 : x3_2 < (a0.size : Int):=da
          have hx12:=bt_at a0 x3_2
          replace p12:=eq_true p12
          replace q12:=eq_true q12
          have p14 : 0 ≤ (x3_2 : Int):=da
          have q14 : x3_2 < (a0.size : Int):=da
          have hx14:=bt_at a0 x3_2
          replace p14:=eq_true p14
          replace q14:=eq_true q14
          go_wp2
          go_ret
          exact ⟨by first | rfl | (simp;done) | (simp [*];done),by repeat (first | exact Drawn0.refl _ | apply Drawn0.step)⟩
         ·rw [if_neg c15] at H
          have c15b0 : decide ((bt a0 x3_2) < 48) = false:=decide_eq_false c15
          clear c15
          by_cases c17 : (bt a0 x3_2) > 57
          ·rw [if_pos c17] at H
           have c17b0 : decide (57 < (bt a0 x3_2)) = true:=decide_eq_true c17
           clear c17
           obtain rfl:=Option.some.inj H
           have p12 : 0 ≤ (x3_2 : Int):=da
           have q12 : x3_2 < (a0.size : Int):=da
           have hx12:=bt_at a0 x3_2
           replace p12:=eq_true p12
           replace q12:=eq_true q12
           have p14 : 0 ≤ (x3_2 : Int):=da
           have q14 : x3_2 < (a0.size : Int):=da
           have hx14:=bt_at a0 x3_2
           replace p14:=eq_true p14
           replace q14:=eq_true q14
           have p16 : 0 ≤ (x3_2 : Int):=da
           have q16 : x3_2 < (a0.size : Int):=da
           have hx16:=bt_at a0 x3_2
           replace p16:=eq_true p16
           replace q16:=eq_true q16
           go_wp2
           go_ret
           exact ⟨by first | rfl | (simp;done) | (simp [*];done),by repeat (first | exact Drawn0.refl _ | apply Drawn0.step)⟩
          ·rw [if_neg c17] at H
           have c17b0 : decide (57 < (bt a0 x3_2)) = false:=decide_eq_false c17
           clear c17
           have H':=Aside0.mk H
           clear H
           have p12 : 0 ≤ (x3_2 : Int):=da
           have q12 : x3_2 < (a0.size : Int):=da
           have hx12:=bt_at a0 x3_2
           replace p12:=eq_true p12
           replace q12:=eq_true q12
           have p14 : 0 ≤ (x3_2 : Int):=da
           have q14 : x3_2 < (a0.size : Int):=da
           have hx14:=bt_at a0 x3_2
           replace p14:=eq_true p14
           replace q14:=eq_true q14
           have p16 : 0 ≤ (x3_2 : Int):=da
           have q16 : x3_2 < (a0.size : Int):=da
           have hx16:=bt_at a0 x3_2
           replace p16:=eq_true p16
           replace q16:=eq_true q16
           go_wp2
           go_roundg k2
           case measure => have:=HJ1.out;have:=HK2.out;omega
           case rel => exact ⟨(wrap64 (x3_2 + 1)),(by first | rfl | (simp;done) | (simp [*];done)),H',⟨by have:=HJ1.out;have:=HK2.out;omega⟩,by repeat (first | exact Drawn0.refl _ | apply Drawn0.step)⟩
        ·rw [if_neg c13] at H
         have c13b0 : decide ((bt a0 x3_2) < 97) = false:=decide_eq_false c13
         clear c13
         by_cases c19 : (bt a0 x3_2) > 122
         ·rw [if_pos c19] at H
          have c19b0 : decide (122 < (bt a0 x3_2)) = true:=decide_eq_true c19
          clear c19
          by_cases c21 : (bt a0 x3_2) < 48
          ·rw [if_pos c21] at H
           have c21b0 : decide ((bt a0 x3_2) < 48) = true:=decide_eq_true c21
           clear c21
           obtain rfl:=Option.some.inj H
           have p12 : 0 ≤ (x3_2 : Int):=da
           have q12 : x3_2 < (a0.size : Int):=da
           have hx12:=bt_at a0 x3_2
           replace p12:=eq_true p12
           replace q12:=eq_true q12
           have p18 : 0 ≤ (x3_2 : Int):=da
           have q18 : x3_2 < (a0.size : Int):=da
           have hx18:=bt_at a0 x3_2
           replace p18:=eq_true p18
           replace q18:=eq_true q18
           have p20 : 0 ≤ (x3_2 : Int):=da
           have q20 : x3_2 < (a0.size : Int):=da
           have hx20:=bt_at a0 x3_2
           replace p20:=eq_true p20
           replace q20:=eq_true q20
           go_wp2
           go_ret
           exact ⟨by first | rfl | (simp;done) | (simp [*];done),by repeat (first | exact Drawn0.refl _ | apply Drawn0.step)⟩
          ·rw [if_neg c21] at H
           have c21b0 : decide ((bt a0 x3_2) < 48) = false:=decide_eq_false c21
           clear c21
           by_cases c23 : (bt a0 x3_2) > 57
           ·rw [if_pos c23] at H
            have c23b0 : decide (57 < (bt a0 x3_2)) = true:=decide_eq_true c23
            clear c23
            obtain rfl:=Option.some.inj H
            have p12 : 0 ≤ (x3_2 : Int):=da
            have q12 : x3_2 < (a0.size : Int):=da
            have hx12:=bt_at a0 x3_2
            replace p12:=eq_true p12
            replace q12:=eq_true q12
            have p18 : 0 ≤ (x3_2 : Int):=da
            have q18 : x3_2 < (a0.size : Int):=da
            have hx18:=bt_at a0 x3_2
            replace p18:=eq_true p18
            replace q18:=eq_true q18
            have p20 : 0 ≤ (x3_2 : Int):=da
            have q20 : x3_2 < (a0.size : Int):=da
            have hx20:=bt_at a0 x3_2
            replace p20:=eq_true p20
            replace q20:=eq_true q20
            have p22 : 0 ≤ (x3_2 : Int):=da
            have q22 : x3_2 < (a0.size : Int):=da
            have hx22:=bt_at a0 x3_2
            replace p22:=eq_true p22
            replace q22:=eq_true q22
            go_wp2
            go_ret
            exact ⟨by first | rfl | (simp;done) | (simp [*];done),by repeat (first | exact Drawn0.refl _ | apply Drawn0.step)⟩
           ·rw [if_neg c23] at H
            have c23b0 : decide (57 < (bt a0 x3_2)) = false:=decide_eq_false c23
            clear c23
            have H':=Aside0.mk H
            clear H
            have p12 : 0 ≤ (x3_2 : Int):=da
            have q12 : x3_2 < (a0.size : Int):=da
            have hx12:=bt_at a0 x3_2
            replace p12:=eq_true p12
            replace q12:=eq_true q12
            have p18 : 0 ≤ (x3_2 : Int):=da
            have q18 : x3_2 < (a0.size : Int):=da
            have hx18:=bt_at a0 x3_2
            replace p18:=eq_true p18
            replace q18:=eq_true q18
            have p20 : 0 ≤ (x3_2 : Int):=da
            have q20 : x3_2 < (a0.size : Int):=da
            have hx20:=bt_at a0 x3_2
            replace p20:=eq_true p20
            replace q20:=eq_true q20
            have p22 : 0 ≤ (x3_2 : Int):=da
            have q22 : x3_2 < (a0.size : Int):=da
            have hx22:=bt_at a0 x3_2
            replace p22:=eq_true p22
            replace q22:=eq_true q22
            go_wp2
            go_roundg k2
            case measure => have:=HJ1.out;have:=HK2.out;omega
            case rel => exact ⟨(wrap64 (x3_2 + 1)),(by first | rfl | (simp;done) | (simp [*];done)),H',⟨by have:=HJ1.out;have:=HK2.out;omega⟩,by repeat (first | exact Drawn0.refl _ | apply Drawn0.step)⟩
         ·rw [if_neg c19] at H
          have c19b0 : decide (122 < (bt a0 x3_2)) = false:=decide_eq_false c19
          clear c19
          have H':=Aside0.mk H
          clear H
          have p12 : 0 ≤ (x3_2 : Int):=da
          have q12 : x3_2 < (a0.size : Int):=da
          have hx12:=bt_at a0 x3_2
          replace p12:=eq_true p12
          replace q12:=eq_true q12
          have p18 : 0 ≤ (x3_2 : Int):=da
          have q18 : x3_2 < (a0.size : Int):=da
          have hx18:=bt_at a0 x3_2
          replace p18:=eq_true p18
          replace q18:=eq_true q18
          go_wp2
          go_roundg k2
          case measure => have:=HJ1.out;have:=HK2.out;omega
          case rel => exact ⟨(wrap64 (x3_2 + 1)),(by first | rfl | (simp;done) | (simp [*];done)),H',⟨by have:=HJ1.out;have:=HK2.out;omega⟩,by repeat (first | exact Drawn0.refl _ | apply Drawn0.step)⟩
       ·rw [if_neg c11] at H
        exact absurd H (by simp)
      ·rw [if_neg c10] at H
       have c10b0 : decide (x3_2 < (a0.size : Int)) = false:=decide_eq_false c10
       clear c10
       obtain rfl:=Option.some.inj H
       go_wp2
       go_ret
       exact ⟨by first | rfl | (simp;done) | (simp [*];done),by repeat (first | exact Drawn0.refl _ | apply Drawn0.step)⟩
end Go.Proofs.Ytpeebobdbaemiaa.PFnExactEdgesOf
