/- Contracts of functions that the law reaches. -/
import Derived.Test.YtlnbppilafoeoaaQFnExactOverlapsOfx0
namespace Go.Proofs.Ytlnbppilafoeoaa.PFnExactOverlapsOf
open Go.RowKit Go.Proofs.YtlnbppilafoeoaaW.PrintWords Go.Proofs.YtlnbppilafoeoaaW.PrintLast Go.Proofs.YtlnbppilafoeoaaW.PrintMore
open Bool renaming true → tT, false → fF
open Go.World renaming block_lt_of_cell? → bL
attribute [local go_sem] max2_int min2_int max_two min_two max_three min_three max_four min_four
set_option linter.unusedVariables false
set_option linter.unusedSimpArgs false
def impl_Point_76.f (l0 : List (S67)) (a1 : Int) (a2 : Int) : Option (List (S67)):=if 0 ≤ a1 then (if a1 < (l0.length : Int) then (if a2 = a1 + 1 then some (l0.eraseIdx a1.toNat) else none) else none) else none
theorem impl_Point_76.spare {α : Type} {d : Kd α} {e base : Nat} {ok : Nat → Prop} {w : World} {g n c : Nat} {xs : List α} (h : Kd.R d e w base ok (.slice (some ⟨g,0,none⟩) n c) xs) (us : List Value) (o : Nat) (h1 : n * d.sz ≤ o) (h2 : o + us.length ≤ c * d.sz) :
  Kd.R d e (w.setCells g o us) base ok (.slice (some ⟨g,0,none⟩) n c) xs:=by
 obtain ⟨hn,_⟩:=Kd.zE h;obtain ⟨hok,inner,hown,hr⟩:=h;rcases hown.2 with ⟨hv,_⟩ | ⟨g',cap',cur,hv,hb,hh,hle,hcm,hcs,htake⟩;(·cases hv);injection hv with ha _ hc;injection ha with ha;injection ha with hg;subst hg;subst hc;obtain ⟨cur',h3,h4,h5⟩:=setCells_row us o w cur hh (by rw [hcs];exact h2);rw [← hn] at htake hle;refine ⟨hok,inner,⟨hown.1,.inr ⟨g,c,cur',by rw [hn],hb,h3,by rw [← hn];exact hle,hcm,h4.trans hcs,?_⟩⟩,hr.imp_ (fun _ _ hp => d.M_move (fun k hk => setCells_far us o k (fun e_ => hk.2 (by rw [e_];rfl))) hp)⟩;(have hl : n * d.sz ≤ (cur.toList.take o).length:=by rw [List.length_take,Array.length_toList];omega);rw [← hn,h5,List.append_assoc,List.take_append_of_le_length hl,List.take_take,Nat.min_eq_left h1];exact htake
set_option maxRecDepth 100000 in
theorem impl_Point_76.clears {w : World} {base : Nat} {ok : Nat → Prop} {g n c : Nat} {xs : List (S67)} (h : Kd.R k67 67 w base ok (.slice (some ⟨g,0,none⟩) n c) xs) (hc : n + 1 ≤ c) (ty c2 : Nat) :
  (Builtin.clear_ #[30] ty #[.slice (some ⟨g,n * 2,none⟩) 1 c2]).run Try.prog w = .ok (.tuple #[]) (w.setCells g (n * 2) [.int .i64 0,.int .i64 0]):=by
 obtain ⟨hok,inner,hown,hr⟩:=h;rcases hown.2 with ⟨hv,_⟩ | ⟨g',cap',cur,hv,hb,hh,hle,hcm,hcs,htake⟩;(·cases hv);injection hv with ha _ hc';injection ha with ha;injection ha with hg;subst hg;subst hc';obtain ⟨i0,hi,hz,hsz,hby⟩:=info_parts info67;have hcs : cur.size = c * 2:=hcs;have hst:=run_storeCells_cells (P:=Try.prog) g (n * 2) [.int .i64 0,.int .i64 0] 0 w (by intro j hj;rw [cell_of_row w g _ cur 67 (0,0) hh];simp at hj;simp;omega) (by intro j _;exact zB hh _) (by intro v hv;simp at hv;subst hv;rfl);(have hzv : (zeroValue 67).run Try.prog w = .ok (.agg #[(.int .i64 0),(.int .i64 0)]) w:=by simp [zeroValue,typeInfo,hi,hz]);(have hzc : (Builtin.zeroCells (Value.agg #[(.int .i64 0),(.int .i64 0)]).cells 1).toList = [.int .i64 0,.int .i64 0]:=by first | kernel_rfl | (simp [Builtin.zeroCells,Value.cells,List.range_succ]));simp [Builtin.clear_,run_underlying Try.underlying30,hzv,hzc,Result.andThen] at hst ⊢;rw [hst]
def impl_Point_76.T5 : Bool × List (List Nat × List Nat):=(true,[([],[]),([],[]),([0,1],[0,1]),([],[]),([],[]),([3,4],[3,4]),([2,5],[2,5]),([6,6,0,1,2,3,4,5,6],[0,3,6])])
def impl_Point_76.B5 : List Nat:=[0,0,3,0,0,24,63,127]
theorem impl_Point_76.tab5 : rtab .any (opsOf Try.f76 5) = impl_Point_76.T5:=by kernel_rfl
theorem impl_Point_76.bits5 : waitsOk impl_Point_76.T5.2 impl_Point_76.B5 = true:=by kernel_rfl
set_option maxHeartbeats 8000000 in
set_option maxRecDepth 100000 in
theorem impl_Point_76.calls (P0_ : Nat → Prop) (u9000_ : Value) (l0 : List (S67)) (a1 : Int) (a2 : Int) (r : List (S67)) (w0 w : World) (hB : Below w0.heap.size w0 w) (ho0 : Kd.R k67 67 w w0.heap.size P0_ u9000_ l0) (h : impl_Point_76.f l0 a1 a2 = some r) :
  Calls Try.prog 76 #[u9000_,.int .i64 a1,.int .i64 a2] w fun e w' => ∃ v0_ : Value,e = .returned (v0_) ∧ Kd.R k67 67 w' w0.heap.size (fun k_ => (P0_ k_ ∨ w.heap.size ≤ k_)) v0_ r ∧ Below w0.heap.size w0 w' ∧ Kept w w' (fun k_ => P0_ k_):=by
 unfold impl_Point_76.f at h
 by_cases c1 : 0 ≤ a1
 case neg => rw [if_neg c1] at h;cases h
 rw [if_pos c1] at h
 by_cases c2 : a1 < (l0.length : Int)
 case neg => rw [if_neg c2] at h;cases h
 rw [if_pos c2] at h
 by_cases c3 : a2 = a1 + 1
 case neg => rw [if_neg c3] at h;cases h
 rw [if_pos c3] at h
 obtain rfl:=sI h
 clear h
 subst c3
 obtain ⟨i,rfl⟩ : ∃ i : Nat,a1 = (i : Int):=⟨a1.toNat,by omega⟩
 have hi_ : i < l0.length:=by omega
 rw [Int.toNat_natCast]
 obtain ⟨g,c,rfl,gb,gl,cl⟩:=Kd.R_form ho0 (by omega)
 obtain ⟨_,hnc,_⟩:=Kd.zE ho0
 have HP:=zM (ho0.1 g rfl)
 obtain ⟨i0,hi,hz,hsz,hby⟩:=info_parts info67
 have hel : Try.prog.elem 30 = 67:=by simp [Program.elem,Try.underlying30]
 have hu : Try.prog.underlying 30 = some (.slice (Try.prog.elem 30)):=by rw [hel];exact Try.underlying30
 have tn1 : ((i : Int) + 1).toNat = i + 1:=by omega
 obtain ⟨V13,q13⟩ : ∃ V13,∀ W : World,(Instr.slice 30 (.slice (some ⟨g,0,none⟩) l0.length c) (some (.int .i64 (i : Int))) (some (.int .i64 ((i : Int) + 1))) (some (.int .i64 (l0.length : Int)))).run Try.prog W = .ok V13 W:=⟨_,fun W => by
  rw [run_slice_lhm W 30 (some ⟨g,0,none⟩) l0.length c hu .i64 .i64 .i64 (i : Int) ((i : Int) + 1) (l0.length : Int) (by omega) (by omega) (by omega) (by omega),hel]
  simp only [sizeOf,typeInfo,hi,Sem.run_bind,Sem.run_pure,Result.andThen]
  rfl⟩
 have q22 : ∀ W : World,(Instr.slice 30 (.slice (some ⟨g,0,none⟩) l0.length c) none (some (.int .i64 (i : Int))) none).run Try.prog W = .ok (.slice (some ⟨g,0,none⟩) i c) W:=cut_to 30 67 .i64 Try.underlying30 hi _ _ _ (i : Int) (by omega) (by omega) hnc
 obtain ⟨AA,hAA⟩ : ∃ A : Option Addr,A = if c = i + 1 then some ⟨g,0,none⟩ else (some (⟨g,0,none⟩ : Addr)).map (·.add ((i + 1) * k67.sz)):=⟨_,rfl⟩
 have qSL : ∀ W : World,(Instr.slice 30 (.slice (some ⟨g,0,none⟩) l0.length c) (some (.int .i64 ((i : Int) + 1))) none none).run Try.prog W = .ok (.slice AA (l0.length - (i + 1)) (c - (i + 1))) W:=fun W => by
  have:=cut_from 30 67 .i64 Try.underlying30 hi 2 hsz (some ⟨g,0,none⟩) l0.length c ((i : Int) + 1) (by omega) (by omega) W
  rw [tn1] at this
  rw [hAA]
  exact this
 have HAA:=zM hAA
 clear hAA
 obtain ⟨m,hm⟩ : ∃ m,m = l0.length - 1:=⟨_,rfl⟩
 have hm1 : l0.length = m + 1:=by omega
 have q31 : ∀ W : World,(Instr.slice 30 (.slice (some ⟨g,0,none⟩) m c) (some (.int .i64 (m : Int))) (some (.int .i64 (l0.length : Int))) none).run Try.prog W = .ok (.slice (some ⟨g,m * 2,none⟩) 1 (c - m)) W:=fun W => by
  rw [run_slice_lh W 30 (some ⟨g,0,none⟩) m c hu .i64 .i64 (m : Int) (l0.length : Int) (by omega) (by omega) (by omega),hel]
  have e1 : (l0.length : Int).toNat - m = 1:=by omega
  have e2 : ¬ c = m:=by omega
  simp [sizeOf,typeInfo,hi,hsz,sliced,Result.andThen,e1,e2,hm1,Addr.add_lit]
 have e1 : ((i : Int) == (i : Int) + 1) = false:=by simp;omega
 have e2 : decide ((i : Int) = (i : Int) + 1) = false:=by simp;omega
 have e3 : ¬ ((i : Int) = (i : Int) + 1):=by omega
 have HI:=zM hi_
 have HM1:=zM hm1
 have HNC:=zM hnc
 have HMD:=zM hm
 have HB:=zM hB
 have HK:=zM (Kept.refl w P0_)
 have HO:=zM ho0
 clear c1 c2 hi_ gb gl cl hnc hm hm1 hB ho0 tn1 hz hby hu hel hi hsz
 go_enter Try.func76,Try.ntmps76
 try go_wp2
 replace HO:=zM (Kd.R_drew HO.out)
 replace HK:=zM (Kept.drew HK.out)
 replace HB:=zM (below_drew1 HB.out)
 refine start_ (n:=8) (S:=fun _ => True) (ds:=[6]) #[fF,fF,fF,fF,fF,fF,fF,fF] kr rfl rfl trivial (fun hHeld => ?_);refine with_tabW impl_Point_76.tab5 impl_Point_76.bits5 (fun HT_ HW_ => ?_)
 generalize w.drew = w10 at HK HO HB ⊢
 refine pu 0 20 HT_ ?_
 refine pu 1 21 HT_ ?_
 refine pu 2 22 HT_ ?_
 refine pu 3 23 HT_ ?_
 refine pu 4 24 HT_ ?_
 refine pu 5 25 HT_ ?_
 refine last_ (i:=6) (N:=some 26) #[tT,tT,tT,tT,tT,tT,tT,fF] rfl rfl (one_of HT_.out kr) (by decide) (fun K hK => ?_)
 refine Kd.R_delete_step k67 (w0:=w0) w0.heap.size (by rfl) (.tmp 22) (.tmp 25) 30 67 rfl Try.underlying30 kr (g:=g) (n:=l0.length) (c:=c) (k:=i) rfl rfl ?hA ?hm (rO HO.out) ?hk ib (zG ib) ?_
 (case hA => exact HAA.out)
 (case hm => rfl)
 (case hk => exact HI.out)
 intro w1 ho hb hg
 have n0_:=zM ho
 have n1_:=zM hb
 have n2_:=zM (Kept.of_grown (S:=P0_) hg (by repeat (first | (with_reducible first | exact HK.out | apply Kept.alloc | apply Kept.drewN | apply Kept.drew) | exact HK.out)) (fun k_ e_ => by injection e_ with e_;subst e_;exact .inl HP.out))
 clear HO HB HK
 have HO:=n0_
 have HB:=n1_
 have HK:=n2_
 clear n0_ n1_ n2_ ho hb hg
 refine hK.out _ _ ?_
 clear hK K
 refine norm_ (a':=?_) ?_ ?_
 rotate_left
 ·show Act.put _ (some 26) _ = _
  simp only [Act.put,List.setIfInBounds_toArray,List.set_cons_zero,List.set_cons_succ,i64_w,i32_w]
  rfl
 refine pu 7 0 HT_ ?_
 refine done_ (done_of HT_.out kr) ?_
 have hel1:=(Kd.zE HO.out).1
 have h28 : l0.length - 1 = m:=HMD.out.symm
 rw [h28] at HO ⊢
 have hcl:=fun ty => impl_Point_76.clears HO.out (show m + 1 ≤ c by have:=HNC.out;have:=HM1.out;omega) ty (c - m)
 have HO2:=zM (impl_Point_76.spare HO.out [.int .i64 0,.int .i64 0] (m * 2) (Nat.le_refl _) (show m * 2 + 2 ≤ c * 2 by have:=HNC.out;have:=HM1.out;omega))
 have HG2 : w1.grownBy (w1.setCells g (m * 2) [.int .i64 0,.int .i64 0]) (some g):=by
  obtain ⟨s1,s2,s3,s4⟩:=setCells_same g [.int .i64 0,.int .i64 0] (m * 2) w1
  exact ⟨s1,s2,s3,by rw [s4];exact Nat.le_refl _,fun k' _ hk' => setCells_far _ _ k' (fun e_ => hk' (by rw [e_]))⟩
 have HB2:=zM (HB.out.grown HG2 HB.out.size (fun k hk => by injection hk with hk;subst hk;exact Kd.R_base HO.out _ rfl))
 have HK2:=zM (Kept.of_grown HG2 HK.out (fun k_ e_ => by injection e_ with e_;subst e_;exact .inl HP.out))
 clear HG2 hel1 h28 HO HB HK
 go_wp2
 go_ret
 exact ⟨_,rfl,Kd.R_mono HO2.out (fun k_ hk => .inl hk),HB2.out,HK2.out⟩
end Go.Proofs.Ytlnbppilafoeoaa.PFnExactOverlapsOf
