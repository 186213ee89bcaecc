/- Contracts of functions that FnExactStartAt reaches, out of the lines of the kit's print. -/
import Derived.Test.YtnnchaggdnlfmaaQFnExactStartAtx0
import Derived.Test.YtnnchaggdnlfmaaQFnExactStartAtx2
import Derived.Test.YtnnchaggdnlfmaaQFnExactStartAtx6
namespace Go.Proofs.Ytnnchaggdnlfmaa.PFnExactStartAt
set_option maxHeartbeats 8000000
set_option maxRecDepth 100000
open Go.RowKit Go.Proofs.YtnnchaggdnlfmaaW.PrintWords Go.Proofs.YtnnchaggdnlfmaaW.PrintLast Go.Proofs.YtnnchaggdnlfmaaW.PrintMore
open Bool renaming true → tT, false → fF
open Go.World renaming block_lt_of_cell? → bL
open List renaming length_take → lT, length_drop → lD, map_toArray → mT, map_cons → mC, map_nil → mN
open Option renaming bind_eq_some_iff → bE
attribute [local go_sem] max2_int min2_int max_two min_two max_three min_three max_four min_four
set_option linter.unusedVariables false
set_option linter.unusedSimpArgs false
def spec_l03From.f (l0 : List (S73)) (a1 : Int) : Option ((List (S73))):=(some (([] : List (S73)) : List (S73))).bind fun y175 => (if 0 ≤ a1 then (if a1 ≤ (l0.length : Int) then ((some (l0.drop (a1 : Int).toNat : List (S73))).bind fun y178 => (if y175.length + y178.length < 8796093022208 then ((some (y175 ++ y178 : List (S73))).bind fun y182 => ((some (l0.take (a1 : Int).toNat : List (S73))).bind fun y185 => (if y182.length + y185.length < 8796093022208 then (some (y182 ++ y185)) else (none)))) else (none))) else (none)) else (none))
def spec_l03From.T1 : Bool × List (List Nat × List Nat):=(true,[([],[]),([],[]),([],[]),([1,2],[1,2]),([0,3],[0,3]),([],[]),([],[]),([5,6],[5,6]),([4,7,4],[4,7]),([8,8,0,1,2,3,4,5,6,7,8],[8])])
def spec_l03From.B1 : List Nat:=[0,0,0,6,15,0,0,96,255,511]
theorem spec_l03From.tab1 : rtab .any (opsOf Try.f87 1) = spec_l03From.T1:=by kernel_rfl
theorem spec_l03From.bits1 : waitsOk spec_l03From.T1.2 spec_l03From.B1 = true:=by kernel_rfl
theorem spec_l03From.calls (A0 : Option Addr) (c0 : Nat) (l0 : List (S73)) (a1 : Int) (r : List (S73)) (w : World) (hr0 : Kd.C k73 w A0 l0.length l0) (hc0 : l0.length ≤ c0) (h : spec_l03From.f l0 a1 = some r) :
  Calls Try.prog 87 #[.slice A0 l0.length c0,.int .i64 a1] w fun e w' => ∃ v0_ : Value,e = .returned (v0_) ∧ Kd.R k73 73 w' w.heap.size (fun _ => True) v0_ r ∧ Below w.heap.size w w':=by
 have HR0:=Aside0.mk hr0
 have HC0:=Aside0.mk hc0
 clear hr0 hc0
 have HB:=Aside0.mk (Below.refl w.heap.size w)
 have H : ((some (([] : List (S73)) : List (S73))).bind fun y175 => (if 0 ≤ a1 then (if a1 ≤ (l0.length : Int) then ((some (l0.drop (a1 : Int).toNat : List (S73))).bind fun y178 => (if y175.length + y178.length < 8796093022208 then ((some (y175 ++ y178 : List (S73))).bind fun y182 => ((some (l0.take (a1 : Int).toNat : List (S73))).bind fun y185 => (if y182.length + y185.length < 8796093022208 then (some (y182 ++ y185)) else (none)))) else (none))) else (none)) else (none))) = some r:=h
 clear h
 obtain ⟨y175,hy175⟩ : ∃ y_ : List (S73),y_ = (([] : List (S73))):=⟨_,rfl⟩
 replace H : (if 0 ≤ a1 then (if a1 ≤ (l0.length : Int) then ((some (l0.drop (a1 : Int).toNat : List (S73))).bind fun y178 => (if y175.length + y178.length < 8796093022208 then ((some (y175 ++ y178 : List (S73))).bind fun y182 => ((some (l0.take (a1 : Int).toNat : List (S73))).bind fun y185 => (if y182.length + y185.length < 8796093022208 then (some (y182 ++ y185)) else (none)))) else (none))) else (none)) else (none)) = some r:=by first | (rw [hy175];with_reducible exact H) | (have H2_:=(Option.bind_some _ _).symm.trans H;rw [hy175];with_reducible exact H2_) | (have H2_:=(Option.bind_some _ _).symm.trans H;with_reducible exact H2_) | with_reducible exact H | (rw [hy175];exact H) | exact H
 have Ny175:=Aside0.mk hy175
 clear hy175
 by_cases c3 : 0 ≤ a1
 ·rw [if_pos c3] at H
  have c3b0:=eq_true c3
  have c3b1 : decide (0 ≤ a1) = true:=decide_eq_true c3
  clear c3
  by_cases c4 : a1 ≤ (l0.length : Int)
  ·rw [if_pos c4] at H
   have c4b0:=eq_true c4
   have c4b1 : decide (a1 ≤ (l0.length : Int)) = true:=decide_eq_true c4
   clear c4
   obtain ⟨y178,hy178⟩ : ∃ y_ : List (S73),y_ = (l0.drop (a1 : Int).toNat):=⟨_,rfl⟩
   replace H : (if y175.length + y178.length < 8796093022208 then ((some (y175 ++ y178 : List (S73))).bind fun y182 => ((some (l0.take (a1 : Int).toNat : List (S73))).bind fun y185 => (if y182.length + y185.length < 8796093022208 then (some (y182 ++ y185)) else (none)))) else (none)) = some r:=by first | (rw [hy178];with_reducible exact H) | (have H2_:=(Option.bind_some _ _).symm.trans H;rw [hy178];with_reducible exact H2_) | (have H2_:=(Option.bind_some _ _).symm.trans H;with_reducible exact H2_) | with_reducible exact H | (rw [hy178];exact H) | exact H
   have Ny178:=Aside0.mk hy178
   clear hy178
   by_cases c5 : y175.length + y178.length < 8796093022208
   ·rw [if_pos c5] at H
    have LMc5:=Aside0.mk c5
    clear c5
    obtain ⟨y182,hy182⟩ : ∃ y_ : List (S73),y_ = (y175 ++ y178):=⟨_,rfl⟩
    replace H : ((some (l0.take (a1 : Int).toNat : List (S73))).bind fun y185 => (if y182.length + y185.length < 8796093022208 then (some (y182 ++ y185)) else (none))) = some r:=by first | (rw [hy182];with_reducible exact H) | (have H2_:=(Option.bind_some _ _).symm.trans H;rw [hy182];with_reducible exact H2_) | (have H2_:=(Option.bind_some _ _).symm.trans H;with_reducible exact H2_) | with_reducible exact H | (rw [hy182];exact H) | exact H
    have Ny182:=Aside0.mk hy182
    clear hy182
    have c6b0:=eq_true (da : 0 ≤ a1)
    have c7b0:=eq_true (da : a1 ≤ (l0.length : Int))
    obtain ⟨y185,hy185⟩ : ∃ y_ : List (S73),y_ = (l0.take (a1 : Int).toNat):=⟨_,rfl⟩
    replace H : (if y182.length + y185.length < 8796093022208 then (some (y182 ++ y185)) else (none)) = some r:=by first | (rw [hy185];with_reducible exact H) | (have H2_:=(Option.bind_some _ _).symm.trans H;rw [hy185];with_reducible exact H2_) | (have H2_:=(Option.bind_some _ _).symm.trans H;with_reducible exact H2_) | with_reducible exact H | (rw [hy185];exact H) | exact H
    have Ny185:=Aside0.mk hy185
    clear hy185
    by_cases c8 : y182.length + y185.length < 8796093022208
    ·rw [if_pos c8] at H
     have LMc8:=Aside0.mk c8
     clear c8
     obtain ⟨y189,hy189⟩ : ∃ y_ : List (S73),y_ = (y182 ++ y185):=⟨_,rfl⟩
     replace H : (some y189) = some r:=by first | (rw [hy189];with_reducible exact H) | (have H2_:=(Option.bind_some _ _).symm.trans H;rw [hy189];with_reducible exact H2_) | (have H2_:=(Option.bind_some _ _).symm.trans H;with_reducible exact H2_) | with_reducible exact H | (rw [hy189];exact H) | exact H
     have Ny189:=Aside0.mk hy189
     clear hy189
     obtain rfl:=Option.some.inj H
     go_enter Try.func87,Try.ntmps87
     try go_wp2
     replace HB:=Aside0.mk (below_drew1 HB.out)
     have q10 : (a1 : Int) ≤ ((l0.length : Int) : Int):=da
     obtain ⟨i010,hi010,_,hsz10,_⟩:=info_parts info73
     have hroom10 : l0.length ≤ c0:=HC0.out
     have hC10 : Kd.C k73 _ A0 l0.length l0:=HR0.out
     have q010 : (0 : Int) ≤ (a1 : Int):=da
     have hcut10:=cut_from (P:=Try.prog) 25 73 .i64 Try.underlying25 hi010 2 hsz10 A0 l0.length c0 a1 q010 q10
     have hr10:=Kd.C_drop (m:=(a1 : Int).toNat) (c:=c0) hC10 (by omega) hroom10
     obtain ⟨A10,hA10⟩ : ∃ A1,A1 = (if c0 = (a1 : Int).toNat then A0 else (A0 : Option Addr).map (·.add ((a1 : Int).toNat * 2))):=⟨_,rfl⟩
     obtain ⟨c10,hc10⟩ : ∃ c1,c1 = c0 - (a1 : Int).toNat:=⟨_,rfl⟩
     have hy10 : y178.length = l0.length - (a1 : Int).toNat:=(by rw [Ny178.out,lD] <;> omega)
     rw [show (l0).drop (a1 : Int).toNat = y178 from Ny178.out.symm] at hr10
     replace hr10 : Kd.C k73 _ A10 y178.length y178:=(by rw [hA10];exact hr10)
     rw [← hy10,← hA10,← hc10] at hcut10
     have HR181:=Aside0.mk hr10
     have HC181:=Aside0.mk (show y178.length ≤ c10 from by rw [hy10,hc10];exact Nat.sub_le_sub_right hroom10 _)
     clear hr10 hC10 hroom10 hi010 hsz10 hc10
     have KY10:=Aside0.mk hy10
     have KA10:=Aside0.mk hA10
     clear hy10 hA10
     replace q10:=eq_true q10
     have q11 : (a1 : Int) ≤ ((l0.length : Int) : Int):=da
     obtain ⟨i011,hi011,_,hsz11,_⟩:=info_parts info73
     have hroom11 : l0.length ≤ c0:=HC0.out
     have hC11 : Kd.C k73 _ A0 l0.length l0:=HR0.out
     have hcut11:=cut_to (P:=Try.prog) 25 73 .i64 Try.underlying25 hi011 A0 l0.length c0 a1 (da) q11 hroom11
     have hr11:=Kd.C_take (m:=(a1 : Int).toNat) hC11 (by omega)
     have hy11 : y185.length = (a1 : Int).toNat:=(by rw [Ny185.out,lT];omega)
     rw [← Ny185.out] at hr11
     rw [← hy11] at hcut11
     have HR188:=Aside0.mk hr11
     have HC188:=Aside0.mk (show y185.length ≤ c0 from by omega)
     clear hr11 hC11 hroom11 hi011 hsz11
     have KY11:=Aside0.mk hy11
     clear hy11
     replace q11:=eq_true q11
     refine start_ (n:=10) (S:=fun w' => True) (ds:=[]) #[fF,fF,fF,fF,fF,fF,fF,fF,fF,fF] (by kernel_rfl) rfl rfl trivial (fun hHeld => ?_);refine with_tabW spec_l03From.tab1 spec_l03From.bits1 (fun HT_ HW_ => ?_)
     generalize w.drew = w9 at HB HR181 HR188 hHeld ⊢
     refine pu 1 6 HT_ ?_
     refine pu 2 7 HT_ ?_
     refine pu 3 8 HT_ ?_
     refine pu 5 10 HT_ ?_
     refine pu 6 11 HT_ ?_
     refine pu 7 12 HT_ ?_
     refine on 0 5 HT_ (fun K hK => ?_)
     refine Kd.R_lit_step k73 _ 73 ?hg (N:=5) ?hd (xs:=([] : List (S73))) (inner:=[]) (ok:=fun _ => True) (okp:=fun _ => True) ?hr ?hp (fun _ hk => hk) trivial (Below.refl _ _) (Nat.le_refl _) (by simp) ?_;(case hd => rfl);(case hg => rfl);(case hr => first | (go_simp;done) | (go_simp;rfl));(case hp => exact (Reps.none _ _))
     intro v176 w12 ho13 hb hg_ hnew_
     clear hg_ hnew_
     (first | rw [← Ny175.out] at ho13 | (simp only [Int.reduceToNat] at ho13;rw [← Ny175.out] at ho13))
     have HO177:=Aside0.mk (Kd.R_lower ho13 (below_size ib))
     replace HB:=sb hb
     clear hb ho13
     refine hK.out _ _ trivial (fun hHeld => ?_)
     clear hK K
     refine norm_ (a':=?_) ?_ ?_
     rotate_left
     ·show Act.put _ (some 5) _ = _
      simp only [Act.put,List.setIfInBounds_toArray,List.set_cons_zero,List.set_cons_succ,i64_w,i32_w]
      rfl
     refine on 4 9 HT_ (fun K hK => ?_)
     refine Kd.R_append_rows_step k73 (w0:=w) w.heap.size (by rfl) (.tmp 5) (.tmp 8) 25 73 (.agg #[(.int .i64 0),(.int .i64 0)]) 16 rfl Try.underlying25 info73 rfl (by decide) (by omega) v176 y175 y178 _ _ _ (fun _ => True) (fun _ => False) rfl rfl ?aO ?aR (fun _ _ h => h) (fun _ h => h.elim) ?aF ?aB ?aS ?aL ?_
     (case aR => exact cO ((Kd.C_below HR181.out HB.out)))
     (case aB => exact ib)
     (case aF => exact (fun _ _ => trivial))
     (case aO => exact (rO HO177.out))
     (case aS => exact (below_size ib))
     (case aL => have:=LMc5.out;omega)
     intro v183 w14 ho hb hg hat
     rw [← Ny182.out] at ho
     replace HB:=Aside0.mk (hb)
     have HO184:=Aside0.mk (ho)
     clear HO177
     clear ho hb hg hat
     refine hK.out _ _ trivial (fun hHeld => ?_)
     clear hK K
     refine norm_ (a':=?_) ?_ ?_
     rotate_left
     ·show Act.put _ (some 9) _ = _
      simp only [Act.put,List.setIfInBounds_toArray,List.set_cons_zero,List.set_cons_succ,i64_w,i32_w]
      rfl
     refine on 8 13 HT_ (fun K hK => ?_)
     refine Kd.R_append_rows_step k73 (w0:=w) w.heap.size (by rfl) (.tmp 9) (.tmp 12) 25 73 (.agg #[(.int .i64 0),(.int .i64 0)]) 16 rfl Try.underlying25 info73 rfl (by decide) (by omega) v183 y182 y185 _ _ _ (fun _ => True) (fun _ => False) rfl rfl ?aO ?aR (fun _ _ h => h) (fun _ h => h.elim) ?aF ?aB ?aS ?aL ?_
     (case aR => exact cO ((Kd.C_below HR188.out HB.out)))
     (case aB => exact ib)
     (case aF => exact (fun _ _ => trivial))
     (case aO => exact (rO HO184.out))
     (case aS => exact (below_size ib))
     (case aL => have:=LMc8.out;omega)
     intro v190 w15 ho hb hg hat
     rw [← Ny189.out] at ho
     replace HB:=Aside0.mk (hb)
     have HO191:=Aside0.mk (ho)
     clear HO184
     clear ho hb hg hat
     refine hK.out _ _ trivial (fun hHeld => ?_)
     clear hK K
     refine norm_ (a':=?_) ?_ ?_
     rotate_left
     ·show Act.put _ (some 13) _ = _
      simp only [Act.put,List.setIfInBounds_toArray,List.set_cons_zero,List.set_cons_succ,i64_w,i32_w]
      rfl
     refine pu 9 4 HT_ ?_
     refine done_ (done_of HT_.out (by kernel_rfl)) ?_
     try go_wp2
     go_ret
     exact ⟨_,by first | rfl | (simp [errW_none,errW_some] <;> rfl) | (simp [*,errW_none,errW_some] <;> rfl),rO HO191.out,ib⟩
    ·rw [if_neg c8] at H
     exact absurd H (by simp)
   ·rw [if_neg c5] at H
    exact absurd H (by simp)
  ·rw [if_neg c4] at H
   exact absurd H (by simp)
 ·rw [if_neg c3] at H
  exact absurd H (by simp)
def spec_StartAt.f (k : Nat) (l0 : List (S73)) (a1 : Int) : Option ((List (S73)) × Int):=(spec_l03Ok.f k l0).bind fun t192 => (if t192 = true then ((spec_l00In.f a1 0 (wrap64 ((l0.length : Int) - 1))).bind fun t193 => (if t193 = true then ((spec_l03From.f l0 a1).bind fun t194 => (some (t194,0))) else (some (([] : List (S73)),2)))) else (some (([] : List (S73)),1)))
theorem spec_StartAt.calls (k : Nat) (A0 : Option Addr) (c0 : Nat) (l0 : List (S73)) (a1 : Int) (r1 : List (S73)) (r2 : Int) (w : World) (hr0 : Kd.C k73 w A0 l0.length l0) (hc0 : l0.length ≤ c0) (h : spec_StartAt.f k l0 a1 = some (r1,r2)) :
  Calls Try.prog 49 #[.slice A0 l0.length c0,.int .i64 a1] w fun e w' => ∃ v0_ : Value,e = .returned (.tuple #[v0_,.int .i64 r2]) ∧ Kd.R k73 73 w' w.heap.size (fun _ => True) v0_ r1 ∧ Below w.heap.size w w':=by
 have HR0:=Aside0.mk hr0
 have HC0:=Aside0.mk hc0
 clear hr0 hc0
 have HB:=Aside0.mk (Below.refl w.heap.size w)
 have H : ((spec_l03Ok.f k l0).bind fun t192 => (if t192 = true then ((spec_l00In.f a1 0 (wrap64 ((l0.length : Int) - 1))).bind fun t193 => (if t193 = true then ((spec_l03From.f l0 a1).bind fun t194 => (some (t194,0))) else (some (([] : List (S73)),2)))) else (some (([] : List (S73)),1)))) = some (r1,r2):=h
 clear h
 replace H:=bE.mp H
 obtain ⟨t192,A30,H⟩:=H
 replace H : (if t192 = true then ((spec_l00In.f a1 0 (wrap64 ((l0.length : Int) - 1))).bind fun t193 => (if t193 = true then ((spec_l03From.f l0 a1).bind fun t194 => (some (t194,0))) else (some (([] : List (S73)),2)))) else (some (([] : List (S73)),1))) = some (r1,r2):=H
 have A3:=Aside0.mk A30
 clear A30
 by_cases c4 : t192 = true
 ·subst c4
  have H1 : ((spec_l00In.f a1 0 (wrap64 ((l0.length : Int) - 1))).bind fun t193 => (if t193 = true then ((spec_l03From.f l0 a1).bind fun t194 => (some (t194,0))) else (some (([] : List (S73)),2)))) = some (r1,r2):=by rw [if_pos rfl] at H;exact H
  clear H
  have H:=H1
  clear H1
  replace H:=bE.mp H
  obtain ⟨t193,A50,H⟩:=H
  replace H : (if t193 = true then ((spec_l03From.f l0 a1).bind fun t194 => (some (t194,0))) else (some (([] : List (S73)),2))) = some (r1,r2):=H
  have A5:=Aside0.mk A50
  clear A50
  by_cases c6 : t193 = true
  ·subst c6
   have H1 : ((spec_l03From.f l0 a1).bind fun t194 => (some (t194,0))) = some (r1,r2):=by rw [if_pos rfl] at H;exact H
   clear H
   have H:=H1
   clear H1
   replace H:=bE.mp H
   obtain ⟨t194,A70,H⟩:=H
   replace H : (some (t194,0)) = some (r1,r2):=H
   have A7:=Aside0.mk A70
   clear A70
   simp only [Option.some.injEq,Prod.mk.injEq] at H
   obtain ⟨rfl,rfl⟩:=H
   go_enter Try.func49,Try.ntmps49
   go_wp2_with (first | ((with_reducible refine gate_callee (f:=57) rfl ?_);refine goesL_ (some 7) rfl rfl Try.func57 (by kernel_rfl) rfl #[.slice A0 l0.length c0] rfl (by (try simp only [mT,mC,mN]);first | done | rfl | (simp only [lD,lT];rfl)) ?_;(with_reducible refine (spec_l03Ok.calls k _ _ l0 true _ ?side1 ?side2 A3.out).mono ?_);(case side1 => exact cO HR0.out);(case side2 => exact HC0.out);rintro e w8 ⟨rfl,hb⟩;refine ⟨_,rfl,?_⟩;replace HB:=sb hb;(try clear hb);(try clear hb2);(try clear hk);(try clear hi)) | ((with_reducible refine gate_callee (f:=58) rfl ?_);refine goesL_ (some 13) rfl rfl Try.func58 (by kernel_rfl) rfl #[.int .i64 a1,.int .i64 0,.int .i64 (wrap64 ((l0.length : Int) - 1))] rfl (by (try simp only [mT,mC,mN]);first | done | rfl | (simp only [lD,lT];rfl)) ?_;(with_reducible refine (spec_l00In.calls a1 0 (wrap64 ((l0.length : Int) - 1)) true _ A5.out).mono ?_);rintro e w' ⟨rfl,⟨nd,rfl⟩⟩;refine ⟨_,rfl,?_⟩) | ((with_reducible refine gate_callee (f:=87) rfl ?_);refine goesL_ (some 17) rfl rfl Try.func87 (by kernel_rfl) rfl #[.slice A0 l0.length c0,.int .i64 a1] rfl (by (try simp only [mT,mC,mN]);first | done | rfl | (simp only [lD,lT];rfl)) ?_;(with_reducible refine (spec_l03From.calls _ _ l0 a1 t194 _ ?side1 ?side2 A7.out).mono ?_);(case side1 => exact cO ((Kd.C_below HR0.out ib)));(case side2 => exact HC0.out);rintro e w9 ⟨v195,rfl,ho0,hb⟩;refine ⟨_,rfl,?_⟩;have HO196:=Aside0.mk (Kd.R_lower ho0 (below_size ib));replace HB:=sb hb;(try clear hb);(try clear hb2);(try clear hk);(try clear hi);(try clear ho0)))
   go_ret2
   exact ⟨_,by first | rfl | (simp [errW_none,errW_some] <;> rfl) | (simp [*,errW_none,errW_some] <;> rfl),rO HO196.out,ib⟩
  ·replace c6:=Bool.eq_false_iff.mpr c6
   subst c6
   have H1 : (some (([] : List (S73)),2)) = some (r1,r2):=by rw [if_neg (show ¬ (false = true) by decide)] at H;exact H
   clear H
   have H:=H1
   clear H1
   simp only [Option.some.injEq,Prod.mk.injEq] at H
   obtain ⟨rfl,rfl⟩:=H
   go_enter Try.func49,Try.ntmps49
   go_wp2_with (first | ((with_reducible refine gate_callee (f:=57) rfl ?_);refine goesL_ (some 7) rfl rfl Try.func57 (by kernel_rfl) rfl #[.slice A0 l0.length c0] rfl (by (try simp only [mT,mC,mN]);first | done | rfl | (simp only [lD,lT];rfl)) ?_;(with_reducible refine (spec_l03Ok.calls k _ _ l0 true _ ?side1 ?side2 A3.out).mono ?_);(case side1 => exact cO HR0.out);(case side2 => exact HC0.out);rintro e w10 ⟨rfl,hb⟩;refine ⟨_,rfl,?_⟩;replace HB:=sb hb;(try clear hb);(try clear hb2);(try clear hk);(try clear hi)) | ((with_reducible refine gate_callee (f:=58) rfl ?_);refine goesL_ (some 13) rfl rfl Try.func58 (by kernel_rfl) rfl #[.int .i64 a1,.int .i64 0,.int .i64 (wrap64 ((l0.length : Int) - 1))] rfl (by (try simp only [mT,mC,mN]);first | done | rfl | (simp only [lD,lT];rfl)) ?_;(with_reducible refine (spec_l00In.calls a1 0 (wrap64 ((l0.length : Int) - 1)) false _ A5.out).mono ?_);rintro e w' ⟨rfl,⟨nd,rfl⟩⟩;refine ⟨_,rfl,?_⟩))
   go_ret2
   exact ⟨_,by first | rfl | (simp [errW_none,errW_some] <;> rfl) | (simp [*,errW_none,errW_some] <;> rfl),by first | exact Kd.R_nil _ _ _ _ _ | exact Kd.N_nil _ _ _ _ _ | exact Kd.V_nil _ _ _ _ _ | exact Kd.Q_nil _ _ _ _ _ | exact Kd.S_nil _ _ _ _ _,ib⟩
 ·replace c4:=Bool.eq_false_iff.mpr c4
  subst c4
  have H1 : (some (([] : List (S73)),1)) = some (r1,r2):=by rw [if_neg (show ¬ (false = true) by decide)] at H;exact H
  clear H
  have H:=H1
  clear H1
  simp only [Option.some.injEq,Prod.mk.injEq] at H
  obtain ⟨rfl,rfl⟩:=H
  go_enter Try.func49,Try.ntmps49
  go_wp2_with (first | ((with_reducible refine gate_callee (f:=57) rfl ?_);refine goesL_ (some 7) rfl rfl Try.func57 (by kernel_rfl) rfl #[.slice A0 l0.length c0] rfl (by (try simp only [mT,mC,mN]);first | done | rfl | (simp only [lD,lT];rfl)) ?_;(with_reducible refine (spec_l03Ok.calls k _ _ l0 false _ ?side1 ?side2 A3.out).mono ?_);(case side1 => exact cO HR0.out);(case side2 => exact HC0.out);rintro e w11 ⟨rfl,hb⟩;refine ⟨_,rfl,?_⟩;replace HB:=sb hb;(try clear hb);(try clear hb2);(try clear hk);(try clear hi)))
  go_ret2
  exact ⟨_,by first | rfl | (simp [errW_none,errW_some] <;> rfl) | (simp [*,errW_none,errW_some] <;> rfl),by first | exact Kd.R_nil _ _ _ _ _ | exact Kd.N_nil _ _ _ _ _ | exact Kd.V_nil _ _ _ _ _ | exact Kd.Q_nil _ _ _ _ _ | exact Kd.S_nil _ _ _ _ _,ib⟩
def impl_within.f (a0 : Int) (a1 : Int) (a2 : Int) : Option (Bool):=if a0 ≥ a1 then (some (decide (a0 ≤ a2))) else (some false)
theorem impl_within.calls (a0 : Int) (a1 : Int) (a2 : Int) (r : Bool) (w : World) (h : impl_within.f a0 a1 a2 = some r) :
  Calls Try.prog 62 #[.int .i64 a0,.int .i64 a1,.int .i64 a2] w fun e w' => e = .returned (.bool r) ∧ Drawn0 w w':=by
 have H : (if a0 ≥ a1 then (some (decide (a0 ≤ a2))) else (some false)) = some r:=h
 clear h
 by_cases c4 : a0 ≥ a1
 ·rw [if_pos c4] at H
  have c4b0 : decide (a1 ≤ a0) = true:=decide_eq_true c4
  clear c4
  obtain rfl:=Option.some.inj H
  go_enter Try.func62,Try.ntmps62
  go_wp2
  go_ret
  exact ⟨by first | rfl | (simp;done) | (simp [*];done),by repeat (first | exact Drawn0.refl _ | apply Drawn0.step)⟩
 ·rw [if_neg c4] at H
  have c4b0 : decide (a1 ≤ a0) = false:=decide_eq_false c4
  clear c4
  obtain rfl:=Option.some.inj H
  go_enter Try.func62,Try.ntmps62
  go_wp2
  go_ret
  exact ⟨by first | rfl | (simp;done) | (simp [*];done),by repeat (first | exact Drawn0.refl _ | apply Drawn0.step)⟩
def impl_ValidPoint.f (a0_0 : Int) (a0_1 : Int) : Option (Bool):=(impl_within.f a0_0 0 20000).bind fun t198 => (if t198 = true then ((impl_within.f a0_1 0 20000).bind fun t199 => (some t199)) else (some false))
theorem impl_ValidPoint.calls (a0_0 : Int) (a0_1 : Int) (r : Bool) (w : World) (h : impl_ValidPoint.f a0_0 a0_1 = some r) :
  Calls Try.prog 146 #[.agg #[.int .i64 a0_0,.int .i64 a0_1]] w fun e w' => e = .returned (.bool r) ∧ Below w.heap.size w w':=by
 have hu73:=Try.underlying73
 have HB:=Aside0.mk (Below.refl w.heap.size w)
 have H : ((impl_within.f a0_0 0 20000).bind fun t198 => (if t198 = true then ((impl_within.f a0_1 0 20000).bind fun t199 => (some t199)) else (some false))) = some r:=h
 clear h
 replace H:=bE.mp H
 obtain ⟨t198,A20,H⟩:=H
 replace H : (if t198 = true then ((impl_within.f a0_1 0 20000).bind fun t199 => (some t199)) else (some false)) = some r:=H
 have A2:=Aside0.mk A20
 clear A20
 by_cases c3 : t198 = true
 ·subst c3
  have H1 : ((impl_within.f a0_1 0 20000).bind fun t199 => (some t199)) = some r:=by rw [if_pos rfl] at H;exact H
  clear H
  have H:=H1
  clear H1
  replace H:=bE.mp H
  obtain ⟨t199,A40,H⟩:=H
  replace H : (some t199) = some r:=H
  have A4:=Aside0.mk A40
  clear A40
  obtain rfl:=Option.some.inj H
  go_enter Try.func146,Try.ntmps146
  go_wp2_with (first | ((with_reducible refine gate_dst (N:=1) rfl ?_);refine bx (cs:=#[.int .i64 a0_0,.int .i64 a0_1]) (t:=73) ?_;intro gb197 hg w5 hbox hb;have BK197:=Aside0.mk (hbox);have GW197:=zb hg;have GE197:=zb hg;replace HB:=sb hb;clear hb hbox hg;have hcz6_0:=ck BK197 0;have hcz6_1:=ck BK197 1;have hfz6_0:=blk_frozen BK197.out 0;have hfz6_1:=blk_frozen BK197.out 1) | ((with_reducible refine gate_callee (f:=62) rfl ?_);refine goesL_ (some 5) rfl rfl Try.func62 (by kernel_rfl) rfl #[.int .i64 a0_0,.int .i64 0,.int .i64 20000] rfl (by (try simp only [mT,mC,mN]);first | done | rfl | (simp only [lD,lT];rfl)) ?_;(with_reducible refine (impl_within.calls a0_0 0 20000 true _ A2.out).mono ?_);rintro e w' ⟨rfl,⟨nd,rfl⟩⟩;refine ⟨_,rfl,?_⟩) | (go_at_call 62;(with_reducible refine (impl_within.calls a0_1 0 20000 t199 _ A4.out).mono ?_);rintro e w' ⟨rfl,⟨nd,rfl⟩⟩))
  go_ret
  exact ⟨by first | rfl | (simp [errW_none,errW_some] <;> rfl) | (simp [*,errW_none,errW_some] <;> rfl),ib⟩
 ·replace c3:=Bool.eq_false_iff.mpr c3
  subst c3
  have H1 : (some false) = some r:=by rw [if_neg (show ¬ (false = true) by decide)] at H;exact H
  clear H
  have H:=H1
  clear H1
  obtain rfl:=Option.some.inj H
  go_enter Try.func146,Try.ntmps146
  go_wp2_with (first | ((with_reducible refine gate_dst (N:=1) rfl ?_);refine bx (cs:=#[.int .i64 a0_0,.int .i64 a0_1]) (t:=73) ?_;intro gb197 hg w7 hbox hb;have BK197:=Aside0.mk (hbox);have GW197:=zb hg;have GE197:=zb hg;replace HB:=sb hb;clear hb hbox hg;have hcz8_0:=ck BK197 0;have hcz8_1:=ck BK197 1;have hfz8_0:=blk_frozen BK197.out 0;have hfz8_1:=blk_frozen BK197.out 1) | ((with_reducible refine gate_callee (f:=62) rfl ?_);refine goesL_ (some 5) rfl rfl Try.func62 (by kernel_rfl) rfl #[.int .i64 a0_0,.int .i64 0,.int .i64 20000] rfl (by (try simp only [mT,mC,mN]);first | done | rfl | (simp only [lD,lT];rfl)) ?_;(with_reducible refine (impl_within.calls a0_0 0 20000 false _ A2.out).mono ?_);rintro e w' ⟨rfl,⟨nd,rfl⟩⟩;refine ⟨_,rfl,?_⟩))
  go_ret
  exact ⟨by first | rfl | (simp [errW_none,errW_some] <;> rfl) | (simp [*,errW_none,errW_some] <;> rfl),ib⟩
def impl_validPoints.l0 : Nat → List (S73) → Int → Int → Option (Bool)
 | 0,_,_,_ => none
 | k + 1,x5,x6,x7 => if x7 < x6 then (if 0 ≤ x7 then (if x7 < (x5.length : Int) then ((impl_ValidPoint.f ((rd_T73 x5 x7).f0) ((rd_T73 x5 x7).f1)).bind fun t202 => (if t202 = true then (impl_validPoints.l0 k x5 x6 (wrap64 (x7 + 1))) else (some false))) else (none)) else (none)) else (some true)
def impl_validPoints.f (k : Nat) (l0 : List (S73)) : Option (Bool):=impl_validPoints.l0 k l0 (l0.length : Int) 0
theorem impl_validPoints.calls (k : Nat) (A0 : Option Addr) (c0 : Nat) (l0 : List (S73)) (r : Bool) (w : World) (hr0 : Kd.C k73 w A0 l0.length l0) (hc0 : l0.length ≤ c0) (h : impl_validPoints.f k l0 = some r) :
  Calls Try.prog 104 #[.slice A0 l0.length c0] w fun e w' => e = .returned (.bool r) ∧ Below w.heap.size w w':=by
 have hu73:=Try.underlying73
 have HR0:=Aside0.mk hr0
 have HC0:=Aside0.mk hc0
 clear hr0 hc0
 have HB:=Aside0.mk (Below.refl w.heap.size w)
 have H : (impl_validPoints.l0 k l0 (l0.length : Int) 0) = some r:=h
 clear h
 have H':=Aside0.mk H
 clear H
 go_enter Try.func104,Try.ntmps104
 go_wp2
 go_loopg [7] k (fun kq v7 w' => ∃ (x7_1 : Int),v7 = .int .i64 x7_1 ∧ Aside0 (impl_validPoints.l0 kq l0 (l0.length : Int) x7_1 = some r) ∧ Aside0 (kq ≤ k) ∧ Aside0 (Below w.heap.size w w'))
 case atStart => exact ⟨(0),(by first | rfl | (simp;done) | (simp [*];done)),H',⟨Nat.le_refl _⟩,⟨ib⟩⟩
 case round =>
  clear H'
  try clear c1
  obtain ⟨x7_1,rfl,HA,HK1,HB⟩:=hrel
  cases gk with
  | zero => exact absurd HA.out (by simp [impl_validPoints.l0])
  | succ k1 =>
   have H:=HA.out
   clear HA
   simp only [impl_validPoints.l0] at H
   by_cases c2 : x7_1 < (l0.length : Int)
   ·rw [if_pos c2] at H
    have c2b0 : decide (x7_1 < (l0.length : Int)) = true:=decide_eq_true c2
    clear c2
    by_cases c3 : 0 ≤ x7_1
    ·rw [if_pos c3] at H
     have c3b0 : decide (0 ≤ x7_1) = true:=decide_eq_true c3
     clear c3
     by_cases c4 : x7_1 < (l0.length : Int)
     ·rw [if_pos c4] at H
      have c4b0 : decide (x7_1 < (l0.length : Int)) = true:=decide_eq_true c4
      clear c4
      replace H:=bE.mp H
      obtain ⟨t202,A50,H⟩:=H
      replace H : (if t202 = true then (impl_validPoints.l0 k1 l0 (l0.length : Int) (wrap64 (x7_1 + 1))) else (some false)) = some r:=H
      have A5:=Aside0.mk A50
      clear A50
      by_cases c6 : t202 = true
      ·subst c6
       have H1 : (impl_validPoints.l0 k1 l0 (l0.length : Int) (wrap64 (x7_1 + 1))) = some r:=by rw [if_pos rfl] at H;exact H
       clear H
       have H:=H1
       clear H1
       have H':=Aside0.mk H
       clear H
       have p200 : 0 ≤ (x7_1 : Int):=da
       have q200 : x7_1 < (l0.length : Int):=da
       obtain ⟨ad200,e200,hx200_0,hx200_1⟩:=at_T73 HR0.out x7_1 p200 q200
       cases e200
       replace hx200_0:=cq HB.out hx200_0
       replace hx200_1:=cq HB.out hx200_1
       replace p200:=eq_true p200
       replace q200:=eq_true q200
       go_wp2_with (first | ((with_reducible refine gate_dst (N:=4) rfl ?_);refine bx (cs:=#[.int .i64 0,.int .i64 0]) (t:=73) ?_;intro gb201 hg w7 hbox hb;have BK201:=Aside0.mk (hbox);have GW201:=zb hg;have GE201:=zb hg;replace HB:=sb hb;clear hb hbox hg;have hcz8_0:=ck BK201 0;have hcz8_1:=ck BK201 1;have hfz8_0:=blk_frozen BK201.out 0;have hfz8_1:=blk_frozen BK201.out 1) | ((with_reducible refine gate_callee (f:=146) rfl ?_);refine goesL_ (some 12) rfl rfl Try.func146 (by kernel_rfl) rfl #[.agg #[.int .i64 ((rd_T73 l0 x7_1).f0),.int .i64 ((rd_T73 l0 x7_1).f1)]] rfl (by (try simp only [mT,mC,mN]);first | done | rfl | (simp only [lD,lT];rfl)) ?_;(with_reducible refine (impl_ValidPoint.calls ((rd_T73 l0 x7_1).f0) ((rd_T73 l0 x7_1).f1) true _ A5.out).mono ?_);rintro e w9 ⟨rfl,hb⟩;refine ⟨_,rfl,?_⟩;replace BK201:=Aside0.mk (blk_below (g:=gb201) (o:=.cells #[.int .i64 ((rd_T73 l0 x7_1).f0),.int .i64 ((rd_T73 l0 x7_1).f1)] 73 (0,0)) (by refine bP (cs:=#[.int .i64 ((rd_T73 l0 x7_1).f0),.int .i64 0]) 1 ?_;refine bP (cs:=#[.int .i64 0,.int .i64 0]) 0 ?_;exact bk BK201) hb);replace HB:=sb hb;(try clear hb);(try clear hb2);(try clear hk);(try clear hi)))
       go_roundg k1
       case measure => have:=HK1.out;omega
       case rel => exact ⟨(wrap64 (x7_1 + 1)),(by first | rfl | (simp;done) | (simp [*];done)),H',⟨by have:=HK1.out;omega⟩,⟨ib⟩⟩
      ·replace c6:=Bool.eq_false_iff.mpr c6
       subst c6
       have H1 : (some false) = some r:=by rw [if_neg (show ¬ (false = true) by decide)] at H;exact H
       clear H
       have H:=H1
       clear H1
       obtain rfl:=Option.some.inj H
       have p200 : 0 ≤ (x7_1 : Int):=da
       have q200 : x7_1 < (l0.length : Int):=da
       obtain ⟨ad200,e200,hx200_0,hx200_1⟩:=at_T73 HR0.out x7_1 p200 q200
       cases e200
       replace hx200_0:=cq HB.out hx200_0
       replace hx200_1:=cq HB.out hx200_1
       replace p200:=eq_true p200
       replace q200:=eq_true q200
       go_wp2_with (first | ((with_reducible refine gate_dst (N:=4) rfl ?_);refine bx (cs:=#[.int .i64 0,.int .i64 0]) (t:=73) ?_;intro gb201 hg w10 hbox hb;have BK201:=Aside0.mk (hbox);have GW201:=zb hg;have GE201:=zb hg;replace HB:=sb hb;clear hb hbox hg;have hcz11_0:=ck BK201 0;have hcz11_1:=ck BK201 1;have hfz11_0:=blk_frozen BK201.out 0;have hfz11_1:=blk_frozen BK201.out 1) | ((with_reducible refine gate_callee (f:=146) rfl ?_);refine goesL_ (some 12) rfl rfl Try.func146 (by kernel_rfl) rfl #[.agg #[.int .i64 ((rd_T73 l0 x7_1).f0),.int .i64 ((rd_T73 l0 x7_1).f1)]] rfl (by (try simp only [mT,mC,mN]);first | done | rfl | (simp only [lD,lT];rfl)) ?_;(with_reducible refine (impl_ValidPoint.calls ((rd_T73 l0 x7_1).f0) ((rd_T73 l0 x7_1).f1) false _ A5.out).mono ?_);rintro e w12 ⟨rfl,hb⟩;refine ⟨_,rfl,?_⟩;replace BK201:=Aside0.mk (blk_below (g:=gb201) (o:=.cells #[.int .i64 ((rd_T73 l0 x7_1).f0),.int .i64 ((rd_T73 l0 x7_1).f1)] 73 (0,0)) (by refine bP (cs:=#[.int .i64 ((rd_T73 l0 x7_1).f0),.int .i64 0]) 1 ?_;refine bP (cs:=#[.int .i64 0,.int .i64 0]) 0 ?_;exact bk BK201) hb);replace HB:=sb hb;(try clear hb);(try clear hb2);(try clear hk);(try clear hi)))
       go_ret
       exact ⟨by first | rfl | (simp [errW_none,errW_some] <;> rfl) | (simp [*,errW_none,errW_some] <;> rfl),ib⟩
     ·first | (exfalso;have z_:=of_decide_eq_true c2b0;omega) | (rw [if_neg c4] at H;exact absurd H (by simp))
    ·rw [if_neg c3] at H
     exact absurd H (by simp)
   ·rw [if_neg c2] at H
    have c2b0 : decide (x7_1 < (l0.length : Int)) = false:=decide_eq_false c2
    clear c2
    obtain rfl:=Option.some.inj H
    go_wp2
    go_ret
    exact ⟨by first | rfl | (simp [errW_none,errW_some] <;> rfl) | (simp [*,errW_none,errW_some] <;> rfl),ib⟩
def impl_side.f (a0_0 : Int) (a0_1 : Int) (a1_0 : Int) (a1_1 : Int) (a2_0 : Int) (a2_1 : Int) : Option (Int):=if (wrap64 ((wrap64 ((wrap64 (a1_0 - a0_0)) * (wrap64 (a2_1 - a0_1)))) - (wrap64 ((wrap64 (a1_1 - a0_1)) * (wrap64 (a2_0 - a0_0)))))) > 0 then (some 1) else (if (wrap64 ((wrap64 ((wrap64 (a1_0 - a0_0)) * (wrap64 (a2_1 - a0_1)))) - (wrap64 ((wrap64 (a1_1 - a0_1)) * (wrap64 (a2_0 - a0_0)))))) < 0 then (some (-1)) else (some 0))
theorem impl_side.calls (a0_0 : Int) (a0_1 : Int) (a1_0 : Int) (a1_1 : Int) (a2_0 : Int) (a2_1 : Int) (r : Int) (w : World) (h : impl_side.f a0_0 a0_1 a1_0 a1_1 a2_0 a2_1 = some r) :
  Calls Try.prog 147 #[.agg #[.int .i64 a0_0,.int .i64 a0_1],.agg #[.int .i64 a1_0,.int .i64 a1_1],.agg #[.int .i64 a2_0,.int .i64 a2_1]] w fun e w' => e = .returned (.int .i64 r) ∧ Below w.heap.size w w':=by
 have hu73:=Try.underlying73
 have HB:=Aside0.mk (Below.refl w.heap.size w)
 have H : (if (wrap64 ((wrap64 ((wrap64 (a1_0 - a0_0)) * (wrap64 (a2_1 - a0_1)))) - (wrap64 ((wrap64 (a1_1 - a0_1)) * (wrap64 (a2_0 - a0_0)))))) > 0 then (some 1) else (if (wrap64 ((wrap64 ((wrap64 (a1_0 - a0_0)) * (wrap64 (a2_1 - a0_1)))) - (wrap64 ((wrap64 (a1_1 - a0_1)) * (wrap64 (a2_0 - a0_0)))))) < 0 then (some (-1)) else (some 0))) = some r:=h
 clear h
 by_cases c4 : (wrap64 ((wrap64 ((wrap64 (a1_0 - a0_0)) * (wrap64 (a2_1 - a0_1)))) - (wrap64 ((wrap64 (a1_1 - a0_1)) * (wrap64 (a2_0 - a0_0)))))) > 0
 ·rw [if_pos c4] at H
  have c4b0 : decide (0 < (wrap64 ((wrap64 ((wrap64 (a1_0 - a0_0)) * (wrap64 (a2_1 - a0_1)))) - (wrap64 ((wrap64 (a1_1 - a0_1)) * (wrap64 (a2_0 - a0_0))))))) = true:=decide_eq_true c4
  clear c4
  obtain rfl:=Option.some.inj H
  go_enter Try.func147,Try.ntmps147
  go_wp2_with (first | ((with_reducible refine gate_dst (N:=3) rfl ?_);refine bx (cs:=#[.int .i64 a0_0,.int .i64 a0_1]) (t:=73) ?_;intro gb203 hg w5 hbox hb;have BK203:=Aside0.mk (hbox);have GW203:=zb hg;have GE203:=zb hg;replace HB:=sb hb;clear hb hbox hg) | ((with_reducible refine gate_dst (N:=4) rfl ?_);refine bx (cs:=#[.int .i64 a1_0,.int .i64 a1_1]) (t:=73) ?_;intro gb204 hg w6 hbox hb;have BK204:=Aside0.mk (hbox);have GW204:=zb hg;have GE204:=zb hg;replace HB:=sb hb;have NB203_204:=nl BK203 hg;have NB204_203:=ng BK203 hg;replace BK203:=kb BK203 hb;clear hb hbox hg) | ((with_reducible refine gate_dst (N:=5) rfl ?_);refine bx (cs:=#[.int .i64 a2_0,.int .i64 a2_1]) (t:=73) ?_;intro gb205 hg w7 hbox hb;have BK205:=Aside0.mk (hbox);have GW205:=zb hg;have GE205:=zb hg;replace HB:=sb hb;have NB203_205:=nl BK203 hg;have NB205_203:=ng BK203 hg;replace BK203:=kb BK203 hb;have NB204_205:=nl BK204 hg;have NB205_204:=ng BK204 hg;replace BK204:=kb BK204 hb;clear hb hbox hg;have hnb8:=NB204_203.out;have hnc8:=NB203_204.out;have hnb9:=NB204_205.out;have hnc9:=NB205_204.out;have hcz10_0:=ck BK204 0;have hcz10_1:=ck BK204 1;have hfz10_0:=blk_frozen BK204.out 0;have hfz10_1:=blk_frozen BK204.out 1;have hnb11:=NB203_205.out;have hnc11:=NB205_203.out;have hcz12_0:=ck BK203 0;have hcz12_1:=ck BK203 1;have hfz12_0:=blk_frozen BK203.out 0;have hfz12_1:=blk_frozen BK203.out 1;have hcz13_0:=ck BK205 0;have hcz13_1:=ck BK205 1;have hfz13_0:=blk_frozen BK205.out 0;have hfz13_1:=blk_frozen BK205.out 1))
  go_ret
  exact ⟨by first | rfl | (simp [errW_none,errW_some] <;> rfl) | (simp [*,errW_none,errW_some] <;> rfl),ib⟩
 ·rw [if_neg c4] at H
  have c4b0 : decide (0 < (wrap64 ((wrap64 ((wrap64 (a1_0 - a0_0)) * (wrap64 (a2_1 - a0_1)))) - (wrap64 ((wrap64 (a1_1 - a0_1)) * (wrap64 (a2_0 - a0_0))))))) = false:=decide_eq_false c4
  clear c4
  by_cases c14 : (wrap64 ((wrap64 ((wrap64 (a1_0 - a0_0)) * (wrap64 (a2_1 - a0_1)))) - (wrap64 ((wrap64 (a1_1 - a0_1)) * (wrap64 (a2_0 - a0_0)))))) < 0
  ·rw [if_pos c14] at H
   have c14b0 : decide ((wrap64 ((wrap64 ((wrap64 (a1_0 - a0_0)) * (wrap64 (a2_1 - a0_1)))) - (wrap64 ((wrap64 (a1_1 - a0_1)) * (wrap64 (a2_0 - a0_0)))))) < 0) = true:=decide_eq_true c14
   clear c14
   obtain rfl:=Option.some.inj H
   go_enter Try.func147,Try.ntmps147
   go_wp2_with (first | ((with_reducible refine gate_dst (N:=3) rfl ?_);refine bx (cs:=#[.int .i64 a0_0,.int .i64 a0_1]) (t:=73) ?_;intro gb203 hg w15 hbox hb;have BK203:=Aside0.mk (hbox);have GW203:=zb hg;have GE203:=zb hg;replace HB:=sb hb;clear hb hbox hg) | ((with_reducible refine gate_dst (N:=4) rfl ?_);refine bx (cs:=#[.int .i64 a1_0,.int .i64 a1_1]) (t:=73) ?_;intro gb204 hg w16 hbox hb;have BK204:=Aside0.mk (hbox);have GW204:=zb hg;have GE204:=zb hg;replace HB:=sb hb;have NB203_204:=nl BK203 hg;have NB204_203:=ng BK203 hg;replace BK203:=kb BK203 hb;clear hb hbox hg) | ((with_reducible refine gate_dst (N:=5) rfl ?_);refine bx (cs:=#[.int .i64 a2_0,.int .i64 a2_1]) (t:=73) ?_;intro gb205 hg w17 hbox hb;have BK205:=Aside0.mk (hbox);have GW205:=zb hg;have GE205:=zb hg;replace HB:=sb hb;have NB203_205:=nl BK203 hg;have NB205_203:=ng BK203 hg;replace BK203:=kb BK203 hb;have NB204_205:=nl BK204 hg;have NB205_204:=ng BK204 hg;replace BK204:=kb BK204 hb;clear hb hbox hg;have hnb18:=NB204_203.out;have hnc18:=NB203_204.out;have hnb19:=NB204_205.out;have hnc19:=NB205_204.out;have hcz20_0:=ck BK204 0;have hcz20_1:=ck BK204 1;have hfz20_0:=blk_frozen BK204.out 0;have hfz20_1:=blk_frozen BK204.out 1;have hnb21:=NB203_205.out;have hnc21:=NB205_203.out;have hcz22_0:=ck BK203 0;have hcz22_1:=ck BK203 1;have hfz22_0:=blk_frozen BK203.out 0;have hfz22_1:=blk_frozen BK203.out 1;have hcz23_0:=ck BK205 0;have hcz23_1:=ck BK205 1;have hfz23_0:=blk_frozen BK205.out 0;have hfz23_1:=blk_frozen BK205.out 1))
   go_ret
   exact ⟨by first | rfl | (simp [errW_none,errW_some] <;> rfl) | (simp [*,errW_none,errW_some] <;> rfl),ib⟩
  ·rw [if_neg c14] at H
   have c14b0 : decide ((wrap64 ((wrap64 ((wrap64 (a1_0 - a0_0)) * (wrap64 (a2_1 - a0_1)))) - (wrap64 ((wrap64 (a1_1 - a0_1)) * (wrap64 (a2_0 - a0_0)))))) < 0) = false:=decide_eq_false c14
   clear c14
   obtain rfl:=Option.some.inj H
   go_enter Try.func147,Try.ntmps147
   go_wp2_with (first | ((with_reducible refine gate_dst (N:=3) rfl ?_);refine bx (cs:=#[.int .i64 a0_0,.int .i64 a0_1]) (t:=73) ?_;intro gb203 hg w24 hbox hb;have BK203:=Aside0.mk (hbox);have GW203:=zb hg;have GE203:=zb hg;replace HB:=sb hb;clear hb hbox hg) | ((with_reducible refine gate_dst (N:=4) rfl ?_);refine bx (cs:=#[.int .i64 a1_0,.int .i64 a1_1]) (t:=73) ?_;intro gb204 hg w25 hbox hb;have BK204:=Aside0.mk (hbox);have GW204:=zb hg;have GE204:=zb hg;replace HB:=sb hb;have NB203_204:=nl BK203 hg;have NB204_203:=ng BK203 hg;replace BK203:=kb BK203 hb;clear hb hbox hg) | ((with_reducible refine gate_dst (N:=5) rfl ?_);refine bx (cs:=#[.int .i64 a2_0,.int .i64 a2_1]) (t:=73) ?_;intro gb205 hg w26 hbox hb;have BK205:=Aside0.mk (hbox);have GW205:=zb hg;have GE205:=zb hg;replace HB:=sb hb;have NB203_205:=nl BK203 hg;have NB205_203:=ng BK203 hg;replace BK203:=kb BK203 hb;have NB204_205:=nl BK204 hg;have NB205_204:=ng BK204 hg;replace BK204:=kb BK204 hb;clear hb hbox hg;have hnb27:=NB204_203.out;have hnc27:=NB203_204.out;have hnb28:=NB204_205.out;have hnc28:=NB205_204.out;have hcz29_0:=ck BK204 0;have hcz29_1:=ck BK204 1;have hfz29_0:=blk_frozen BK204.out 0;have hfz29_1:=blk_frozen BK204.out 1;have hnb30:=NB203_205.out;have hnc30:=NB205_203.out;have hcz31_0:=ck BK203 0;have hcz31_1:=ck BK203 1;have hfz31_0:=blk_frozen BK203.out 0;have hfz31_1:=blk_frozen BK203.out 1;have hcz32_0:=ck BK205 0;have hcz32_1:=ck BK205 1;have hfz32_0:=blk_frozen BK205.out 0;have hfz32_1:=blk_frozen BK205.out 1))
   go_ret
   exact ⟨by first | rfl | (simp [errW_none,errW_some] <;> rfl) | (simp [*,errW_none,errW_some] <;> rfl),ib⟩
def impl_on.f (a0_0 : Int) (a0_1 : Int) (a1_0 : Int) (a1_1 : Int) (a2_0 : Int) (a2_1 : Int) : Option (Bool):=(impl_side.f a0_0 a0_1 a1_0 a1_1 a2_0 a2_1).bind fun t209 => (if t209 = 0 then ((impl_within.f a2_0 (mn a0_0 a1_0) (mx a0_0 a1_0)).bind fun t210 => (if t210 = true then ((impl_within.f a2_1 (mn a0_1 a1_1) (mx a0_1 a1_1)).bind fun t211 => (some t211)) else (some false))) else (some false))
theorem impl_on.calls (a0_0 : Int) (a0_1 : Int) (a1_0 : Int) (a1_1 : Int) (a2_0 : Int) (a2_1 : Int) (r : Bool) (w : World) (h : impl_on.f a0_0 a0_1 a1_0 a1_1 a2_0 a2_1 = some r) :
  Calls Try.prog 105 #[.agg #[.int .i64 a0_0,.int .i64 a0_1],.agg #[.int .i64 a1_0,.int .i64 a1_1],.agg #[.int .i64 a2_0,.int .i64 a2_1]] w fun e w' => e = .returned (.bool r) ∧ Below w.heap.size w w':=by
 have hu73:=Try.underlying73
 have HB:=Aside0.mk (Below.refl w.heap.size w)
 have H : ((impl_side.f a0_0 a0_1 a1_0 a1_1 a2_0 a2_1).bind fun t209 => (if t209 = 0 then ((impl_within.f a2_0 (mn a0_0 a1_0) (mx a0_0 a1_0)).bind fun t210 => (if t210 = true then ((impl_within.f a2_1 (mn a0_1 a1_1) (mx a0_1 a1_1)).bind fun t211 => (some t211)) else (some false))) else (some false))) = some r:=h
 clear h
 replace H:=bE.mp H
 obtain ⟨t209,A40,H⟩:=H
 replace H : (if t209 = 0 then ((impl_within.f a2_0 (mn a0_0 a1_0) (mx a0_0 a1_0)).bind fun t210 => (if t210 = true then ((impl_within.f a2_1 (mn a0_1 a1_1) (mx a0_1 a1_1)).bind fun t211 => (some t211)) else (some false))) else (some false)) = some r:=H
 have A4:=Aside0.mk A40
 clear A40
 by_cases c5 : t209 = 0
 ·rw [if_pos c5] at H
  have c5b0 : (t209 == 0) = true:=beq_iff_eq.mpr c5
  have c5b1 : (t209 != 0) = false:=bne_eq_false_iff_eq.mpr c5
  clear c5
  obtain ⟨ji6,hji6⟩ : ∃ j_ : Int,(mn a0_0 a1_0) = j_:=⟨_,rfl⟩
  replace H : ((impl_within.f a2_0 (ji6) (mx a0_0 a1_0)).bind fun t210 => (if t210 = true then ((impl_within.f a2_1 (mn a0_1 a1_1) (mx a0_1 a1_1)).bind fun t211 => (some t211)) else (some false))) = some r:=by first | (rw [hji6] at H;exact H) | (simp only [hji6] at H ⊢;exact H)
  (try rw [hji6] at A4)
  have hji6_ : (if a1_0 < a0_0 then a1_0 else a0_0) = ji6:=hji6
  obtain ⟨ji7,hji7⟩ : ∃ j_ : Int,(mx a0_0 a1_0) = j_:=⟨_,rfl⟩
  replace H : ((impl_within.f a2_0 (ji6) (ji7)).bind fun t210 => (if t210 = true then ((impl_within.f a2_1 (mn a0_1 a1_1) (mx a0_1 a1_1)).bind fun t211 => (some t211)) else (some false))) = some r:=by first | (rw [hji7] at H;exact H) | (simp only [hji7] at H ⊢;exact H)
  (try rw [hji7] at A4)
  have hji7_ : (if a0_0 < a1_0 then a1_0 else a0_0) = ji7:=hji7
  replace H:=bE.mp H
  obtain ⟨t210,A80,H⟩:=H
  replace H : (if t210 = true then ((impl_within.f a2_1 (mn a0_1 a1_1) (mx a0_1 a1_1)).bind fun t211 => (some t211)) else (some false)) = some r:=H
  have A8:=Aside0.mk A80
  clear A80
  by_cases c9 : t210 = true
  ·subst c9
   have H1 : ((impl_within.f a2_1 (mn a0_1 a1_1) (mx a0_1 a1_1)).bind fun t211 => (some t211)) = some r:=by rw [if_pos rfl] at H;exact H
   clear H
   have H:=H1
   clear H1
   obtain ⟨ji10,hji10⟩ : ∃ j_ : Int,(mn a0_1 a1_1) = j_:=⟨_,rfl⟩
   replace H : ((impl_within.f a2_1 (ji10) (mx a0_1 a1_1)).bind fun t211 => (some t211)) = some r:=by first | (rw [hji10] at H;exact H) | (simp only [hji10] at H ⊢;exact H)
   (try rw [hji10] at A4)
   (try rw [hji10] at A8)
   have hji10_ : (if a1_1 < a0_1 then a1_1 else a0_1) = ji10:=hji10
   obtain ⟨ji11,hji11⟩ : ∃ j_ : Int,(mx a0_1 a1_1) = j_:=⟨_,rfl⟩
   replace H : ((impl_within.f a2_1 (ji10) (ji11)).bind fun t211 => (some t211)) = some r:=by first | (rw [hji11] at H;exact H) | (simp only [hji11] at H ⊢;exact H)
   (try rw [hji11] at A4)
   (try rw [hji11] at A8)
   have hji11_ : (if a0_1 < a1_1 then a1_1 else a0_1) = ji11:=hji11
   replace H:=bE.mp H
   obtain ⟨t211,A120,H⟩:=H
   replace H : (some t211) = some r:=H
   have A12:=Aside0.mk A120
   clear A120
   obtain rfl:=Option.some.inj H
   go_enter Try.func105,Try.ntmps105
   go_wp2_with (first | ((with_reducible refine gate_dst (N:=3) rfl ?_);(try (refine gate_guard (by rfl) ?_;dsimp only));refine bx (cs:=#[.int .i64 a0_0,.int .i64 a0_1]) (t:=73) ?_;intro gb206 hg w13 hbox hb;have BK206:=Aside0.mk (hbox);have GW206:=zb hg;have GE206:=zb hg;replace HB:=sb hb;clear hb hbox hg) | ((with_reducible refine gate_dst (N:=4) rfl ?_);(try (refine gate_guard (by rfl) ?_;dsimp only));refine bx (cs:=#[.int .i64 a1_0,.int .i64 a1_1]) (t:=73) ?_;intro gb207 hg w14 hbox hb;have BK207:=Aside0.mk (hbox);have GW207:=zb hg;have GE207:=zb hg;replace HB:=sb hb;have NB206_207:=nl BK206 hg;have NB207_206:=ng BK206 hg;replace BK206:=kb BK206 hb;clear hb hbox hg) | ((with_reducible refine gate_dst (N:=5) rfl ?_);(try (refine gate_guard (by rfl) ?_;dsimp only));refine bx (cs:=#[.int .i64 a2_0,.int .i64 a2_1]) (t:=73) ?_;intro gb208 hg w15 hbox hb;have BK208:=Aside0.mk (hbox);have GW208:=zb hg;have GE208:=zb hg;replace HB:=sb hb;have NB206_208:=nl BK206 hg;have NB208_206:=ng BK206 hg;replace BK206:=kb BK206 hb;have NB207_208:=nl BK207 hg;have NB208_207:=ng BK207 hg;replace BK207:=kb BK207 hb;clear hb hbox hg;have hnb16:=NB206_207.out;have hnc16:=NB207_206.out;have hnb17:=NB206_208.out;have hnc17:=NB208_206.out;have hcz18_0:=ck BK206 0;have hcz18_1:=ck BK206 1;have hfz18_0:=blk_frozen BK206.out 0;have hfz18_1:=blk_frozen BK206.out 1;have hnb19:=NB207_208.out;have hnc19:=NB208_207.out;have hcz20_0:=ck BK207 0;have hcz20_1:=ck BK207 1;have hfz20_0:=blk_frozen BK207.out 0;have hfz20_1:=blk_frozen BK207.out 1;have hcz21_0:=ck BK208 0;have hcz21_1:=ck BK208 1;have hfz21_0:=blk_frozen BK208.out 0;have hfz21_1:=blk_frozen BK208.out 1) | ((with_reducible refine gate_callee (f:=147) rfl ?_);refine goesL_ (some 10) rfl rfl Try.func147 (by kernel_rfl) rfl #[.agg #[.int .i64 a0_0,.int .i64 a0_1],.agg #[.int .i64 a1_0,.int .i64 a1_1],.agg #[.int .i64 a2_0,.int .i64 a2_1]] rfl (by (try simp only [mT,mC,mN]);first | done | rfl | (simp only [lD,lT];rfl)) ?_;(with_reducible refine (impl_side.calls a0_0 a0_1 a1_0 a1_1 a2_0 a2_1 t209 _ A4.out).mono ?_);rintro e w22 ⟨rfl,hb⟩;refine ⟨_,rfl,?_⟩;replace BK206:=kb BK206 hb;replace BK207:=kb BK207 hb;replace BK208:=kb BK208 hb;replace HB:=sb hb;(try clear hb);(try clear hb2);(try clear hk);(try clear hi);have hcz23_0:=ck BK208 0;have hcz23_1:=ck BK208 1;have hfz23_0:=blk_frozen BK208.out 0;have hfz23_1:=blk_frozen BK208.out 1;have hcz24_0:=ck BK206 0;have hcz24_1:=ck BK206 1;have hfz24_0:=blk_frozen BK206.out 0;have hfz24_1:=blk_frozen BK206.out 1;have hcz25_0:=ck BK207 0;have hcz25_1:=ck BK207 1;have hfz25_0:=blk_frozen BK207.out 0;have hfz25_1:=blk_frozen BK207.out 1) | (go_at_call 62;(with_reducible refine (impl_within.calls a2_0 ji6 ji7 true _ A8.out).mono ?_);rintro e w' ⟨rfl,⟨nd,rfl⟩⟩) | (go_at_call 62;(with_reducible refine (impl_within.calls a2_1 ji10 ji11 t211 _ A12.out).mono ?_);rintro e w' ⟨rfl,⟨nd,rfl⟩⟩))
   go_ret
   exact ⟨by first | rfl | (simp [errW_none,errW_some] <;> rfl) | (simp only [← hji6,← hji7,← hji10,← hji11];first | rfl | (simp [errW_none,errW_some] <;> rfl)) | (simp [*,errW_none,errW_some] <;> rfl),ib⟩
  ·replace c9:=Bool.eq_false_iff.mpr c9
   subst c9
   have H1 : (some false) = some r:=by rw [if_neg (show ¬ (false = true) by decide)] at H;exact H
   clear H
   have H:=H1
   clear H1
   obtain rfl:=Option.some.inj H
   go_enter Try.func105,Try.ntmps105
   go_wp2_with (first | ((with_reducible refine gate_dst (N:=3) rfl ?_);(try (refine gate_guard (by rfl) ?_;dsimp only));refine bx (cs:=#[.int .i64 a0_0,.int .i64 a0_1]) (t:=73) ?_;intro gb206 hg w26 hbox hb;have BK206:=Aside0.mk (hbox);have GW206:=zb hg;have GE206:=zb hg;replace HB:=sb hb;clear hb hbox hg) | ((with_reducible refine gate_dst (N:=4) rfl ?_);(try (refine gate_guard (by rfl) ?_;dsimp only));refine bx (cs:=#[.int .i64 a1_0,.int .i64 a1_1]) (t:=73) ?_;intro gb207 hg w27 hbox hb;have BK207:=Aside0.mk (hbox);have GW207:=zb hg;have GE207:=zb hg;replace HB:=sb hb;have NB206_207:=nl BK206 hg;have NB207_206:=ng BK206 hg;replace BK206:=kb BK206 hb;clear hb hbox hg) | ((with_reducible refine gate_dst (N:=5) rfl ?_);(try (refine gate_guard (by rfl) ?_;dsimp only));refine bx (cs:=#[.int .i64 a2_0,.int .i64 a2_1]) (t:=73) ?_;intro gb208 hg w28 hbox hb;have BK208:=Aside0.mk (hbox);have GW208:=zb hg;have GE208:=zb hg;replace HB:=sb hb;have NB206_208:=nl BK206 hg;have NB208_206:=ng BK206 hg;replace BK206:=kb BK206 hb;have NB207_208:=nl BK207 hg;have NB208_207:=ng BK207 hg;replace BK207:=kb BK207 hb;clear hb hbox hg;have hnb29:=NB206_207.out;have hnc29:=NB207_206.out;have hnb30:=NB206_208.out;have hnc30:=NB208_206.out;have hcz31_0:=ck BK206 0;have hcz31_1:=ck BK206 1;have hfz31_0:=blk_frozen BK206.out 0;have hfz31_1:=blk_frozen BK206.out 1;have hnb32:=NB207_208.out;have hnc32:=NB208_207.out;have hcz33_0:=ck BK207 0;have hcz33_1:=ck BK207 1;have hfz33_0:=blk_frozen BK207.out 0;have hfz33_1:=blk_frozen BK207.out 1;have hcz34_0:=ck BK208 0;have hcz34_1:=ck BK208 1;have hfz34_0:=blk_frozen BK208.out 0;have hfz34_1:=blk_frozen BK208.out 1) | ((with_reducible refine gate_callee (f:=147) rfl ?_);refine goesL_ (some 10) rfl rfl Try.func147 (by kernel_rfl) rfl #[.agg #[.int .i64 a0_0,.int .i64 a0_1],.agg #[.int .i64 a1_0,.int .i64 a1_1],.agg #[.int .i64 a2_0,.int .i64 a2_1]] rfl (by (try simp only [mT,mC,mN]);first | done | rfl | (simp only [lD,lT];rfl)) ?_;(with_reducible refine (impl_side.calls a0_0 a0_1 a1_0 a1_1 a2_0 a2_1 t209 _ A4.out).mono ?_);rintro e w35 ⟨rfl,hb⟩;refine ⟨_,rfl,?_⟩;replace BK206:=kb BK206 hb;replace BK207:=kb BK207 hb;replace BK208:=kb BK208 hb;replace HB:=sb hb;(try clear hb);(try clear hb2);(try clear hk);(try clear hi);have hcz36_0:=ck BK208 0;have hcz36_1:=ck BK208 1;have hfz36_0:=blk_frozen BK208.out 0;have hfz36_1:=blk_frozen BK208.out 1;have hcz37_0:=ck BK206 0;have hcz37_1:=ck BK206 1;have hfz37_0:=blk_frozen BK206.out 0;have hfz37_1:=blk_frozen BK206.out 1;have hcz38_0:=ck BK207 0;have hcz38_1:=ck BK207 1;have hfz38_0:=blk_frozen BK207.out 0;have hfz38_1:=blk_frozen BK207.out 1) | (go_at_call 62;(with_reducible refine (impl_within.calls a2_0 ji6 ji7 false _ A8.out).mono ?_);rintro e w' ⟨rfl,⟨nd,rfl⟩⟩))
   go_ret
   exact ⟨by first | rfl | (simp [errW_none,errW_some] <;> rfl) | (simp only [← hji6,← hji7];first | rfl | (simp [errW_none,errW_some] <;> rfl)) | (simp [*,errW_none,errW_some] <;> rfl),ib⟩
 ·rw [if_neg c5] at H
  have c5b0 : (t209 == 0) = false:=beq_eq_false_iff_ne.mpr c5
  have c5b1 : (t209 != 0) = true:=bne_iff_ne.mpr c5
  obtain rfl:=Option.some.inj H
  go_enter Try.func105,Try.ntmps105
  go_wp2_with (first | ((with_reducible refine gate_dst (N:=3) rfl ?_);(try (refine gate_guard (by rfl) ?_;dsimp only));refine bx (cs:=#[.int .i64 a0_0,.int .i64 a0_1]) (t:=73) ?_;intro gb206 hg w39 hbox hb;have BK206:=Aside0.mk (hbox);have GW206:=zb hg;have GE206:=zb hg;replace HB:=sb hb;clear hb hbox hg) | ((with_reducible refine gate_dst (N:=4) rfl ?_);(try (refine gate_guard (by rfl) ?_;dsimp only));refine bx (cs:=#[.int .i64 a1_0,.int .i64 a1_1]) (t:=73) ?_;intro gb207 hg w40 hbox hb;have BK207:=Aside0.mk (hbox);have GW207:=zb hg;have GE207:=zb hg;replace HB:=sb hb;have NB206_207:=nl BK206 hg;have NB207_206:=ng BK206 hg;replace BK206:=kb BK206 hb;clear hb hbox hg) | ((with_reducible refine gate_dst (N:=5) rfl ?_);(try (refine gate_guard (by rfl) ?_;dsimp only));refine bx (cs:=#[.int .i64 a2_0,.int .i64 a2_1]) (t:=73) ?_;intro gb208 hg w41 hbox hb;have BK208:=Aside0.mk (hbox);have GW208:=zb hg;have GE208:=zb hg;replace HB:=sb hb;have NB206_208:=nl BK206 hg;have NB208_206:=ng BK206 hg;replace BK206:=kb BK206 hb;have NB207_208:=nl BK207 hg;have NB208_207:=ng BK207 hg;replace BK207:=kb BK207 hb;clear hb hbox hg;have hnb42:=NB206_207.out;have hnc42:=NB207_206.out;have hnb43:=NB206_208.out;have hnc43:=NB208_206.out;have hcz44_0:=ck BK206 0;have hcz44_1:=ck BK206 1;have hfz44_0:=blk_frozen BK206.out 0;have hfz44_1:=blk_frozen BK206.out 1;have hnb45:=NB207_208.out;have hnc45:=NB208_207.out;have hcz46_0:=ck BK207 0;have hcz46_1:=ck BK207 1;have hfz46_0:=blk_frozen BK207.out 0;have hfz46_1:=blk_frozen BK207.out 1;have hcz47_0:=ck BK208 0;have hcz47_1:=ck BK208 1;have hfz47_0:=blk_frozen BK208.out 0;have hfz47_1:=blk_frozen BK208.out 1) | ((with_reducible refine gate_callee (f:=147) rfl ?_);refine goesL_ (some 10) rfl rfl Try.func147 (by kernel_rfl) rfl #[.agg #[.int .i64 a0_0,.int .i64 a0_1],.agg #[.int .i64 a1_0,.int .i64 a1_1],.agg #[.int .i64 a2_0,.int .i64 a2_1]] rfl (by (try simp only [mT,mC,mN]);first | done | rfl | (simp only [lD,lT];rfl)) ?_;(with_reducible refine (impl_side.calls a0_0 a0_1 a1_0 a1_1 a2_0 a2_1 t209 _ A4.out).mono ?_);rintro e w48 ⟨rfl,hb⟩;refine ⟨_,rfl,?_⟩;replace BK206:=kb BK206 hb;replace BK207:=kb BK207 hb;replace BK208:=kb BK208 hb;replace HB:=sb hb;(try clear hb);(try clear hb2);(try clear hk);(try clear hi)))
  go_ret
  exact ⟨by first | rfl | (simp [errW_none,errW_some] <;> rfl) | (simp [*,errW_none,errW_some] <;> rfl),ib⟩
end Go.Proofs.Ytnnchaggdnlfmaa.PFnExactStartAt
