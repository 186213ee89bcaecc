/- Contracts of functions that FnExactDisjoint reaches, out of the lines of the kit's print. -/
import Derived.Test.YtnnchaggdnlfmaaQFnExactDisjointx0
namespace Go.Proofs.Ytnnchaggdnlfmaa.PFnExactDisjoint
open Go.RowKit Go.Proofs.YtnnchaggdnlfmaaW.PrintWords Go.Proofs.YtnnchaggdnlfmaaW.PrintLast Go.Proofs.YtnnchaggdnlfmaaW.PrintMore
open Bool renaming true → tT, false → fF
open Go.World renaming block_lt_of_cell? → bL
open List renaming setIfInBounds_toArray → iT, set_cons_zero → sZ, set_cons_succ → sC
attribute [local go_sem] max2_int min2_int max_two min_two max_three min_three max_four min_four
set_option linter.unusedVariables false
set_option linter.unusedSimpArgs false
def impl_bounds.l0 : Nat → List (S73) → Int → Int → Int → Int → Int → Int → Option (Int × Int × Int × Int)
 | 0,_,_,_,_,_,_,_ => none
 | k + 1,x14,x15,x16,x382000,x382001,x383000,x383001 => if x16 < x15 then (if 0 ≤ x16 then (if x16 < (x14.length : Int) then (impl_bounds.l0 k x14 x15 (wrap64 (x16 + 1)) (mn x382000 ((rd_T73 x14 x16).f0)) (mn x382001 ((rd_T73 x14 x16).f1)) (mx x383000 ((rd_T73 x14 x16).f0)) (mx x383001 ((rd_T73 x14 x16).f1))) else (none)) else (none)) else (some (x382000,x382001,x383000,x383001))
def impl_bounds.f (k : Nat) (l0 : List (S73)) : Option (Int × Int × Int × Int):=if 0 < (l0.length : Int) then (impl_bounds.l0 k l0 (l0.length : Int) 0 ((rd_T73 l0 0).f0) ((rd_T73 l0 0).f1) ((rd_T73 l0 0).f0) ((rd_T73 l0 0).f1)) else (none)
def impl_bounds.T1 : Bool × List (List Nat × List Nat):=(true,[([],[]),([0],[0]),([1],[1]),([],[]),([3],[3]),([4],[4]),([],[]),([],[]),([6,2,0,1,2,6,7],[2,6]),([7,5,8,0,1,2,3,4,5,6,7,8],[5,7])])
def impl_bounds.B1 : List Nat:=[0,1,3,0,8,24,0,0,199,511]
theorem impl_bounds.tab1 : rtab .any (opsOf Try.f114 1) = impl_bounds.T1:=by kernel_rfl
theorem impl_bounds.bits1 : waitsOk impl_bounds.T1.2 impl_bounds.B1 = true:=by kernel_rfl
set_option maxHeartbeats 8000000 in
set_option maxRecDepth 100000 in
theorem impl_bounds.calls (k : Nat) (A0 : Option Addr) (c0 : Nat) (l0 : List (S73)) (r1 : Int) (r2 : Int) (r3 : Int) (r4 : Int) (w : World) (hr0 : Kd.C k73 w A0 l0.length l0) (hc0 : l0.length ≤ c0) (h : impl_bounds.f k l0 = some (r1,r2,r3,r4)) :
  Calls Try.prog 114 #[.slice A0 l0.length c0] w fun e w' => e = .returned (.tuple #[.agg #[.int .i64 r1,.int .i64 r2],.agg #[.int .i64 r3,.int .i64 r4]]) ∧ Below w.heap.size w w':=by
 have hu73:=Try.underlying73
 have HR0:=Aside0.mk hr0
 have HC0:=Aside0.mk hc0
 clear hr0 hc0
 have HB:=Aside0.mk (Below.refl w.heap.size w)
 have H : (if 0 < (l0.length : Int) then (impl_bounds.l0 k l0 (l0.length : Int) 0 ((rd_T73 l0 0).f0) ((rd_T73 l0 0).f1) ((rd_T73 l0 0).f0) ((rd_T73 l0 0).f1)) else (none)) = some (r1,r2,r3,r4):=h
 clear h
 by_cases c2 : 0 < (l0.length : Int)
 ·rw [if_pos c2] at H
  have c2b0 : decide (0 < (l0.length : Int)) = true:=decide_eq_true c2
  have c2b1 : decide (0 < l0.length) = true:=decide_eq_true (by omega)
  clear c2
  have H':=Aside0.mk H
  clear H
  go_enter Try.func114,Try.ntmps114
  try go_wp2_with (first | ((with_reducible refine gate_dst (N:=2) rfl ?_);refine bx (cs:=#[.int .i64 0,.int .i64 0]) (t:=73) ?_;intro gb377 hg w3 hbox hb;have BK377:=Aside0.mk (hbox);have GW377:=zb hg;have GE377:=zb hg;replace HB:=sb hb;clear hb hbox hg) | ((with_reducible refine gate_dst (N:=3) rfl ?_);refine bx (cs:=#[.int .i64 0,.int .i64 0]) (t:=73) ?_;intro gb378 hg w4 hbox hb;have BK378:=Aside0.mk (hbox);have GW378:=zb hg;have GE378:=zb hg;replace HB:=sb hb;have NB377_378:=nl BK377 hg;have NB378_377:=ng BK377 hg;replace BK377:=kb BK377 hb;clear hb hbox hg))
  replace BK377:=Aside0.mk (blk_drew BK377.out)
  replace BK378:=Aside0.mk (blk_drew BK378.out)
  replace HB:=Aside0.mk (below_drew1 HB.out)
  have p379 : 0 ≤ (0 : Int):=(by omega)
  have q379 : 0 < (l0.length : Int):=da
  obtain ⟨ad379,e379,hx379_0,hx379_1⟩:=at_T73 HR0.out 0 p379 q379
  have hw379_1:=hx379_1
  (try rw [show ((0 : Int)).toNat = 0 from rfl] at hw379_1)
  (try rw [show 0 * 2 = 0 from rfl] at hw379_1)
  (try rw [Addr.add_zero'] at hw379_1)
  have hw379_0:=hx379_0
  (try rw [show ((0 : Int)).toNat = 0 from rfl] at hw379_0)
  (try rw [show 0 * 2 = 0 from rfl] at hw379_0)
  (try rw [Addr.add_zero'] at hw379_0)
  cases e379
  have qi379 : (0 < l0.length) = True:=eq_true (by omega)
  (try rw [show ((0 : Int)).toNat = 0 from rfl] at hx379_0)
  (try rw [show 0 * 2 = 0 from rfl] at hx379_0)
  (try rw [Addr.add_zero'] at hx379_0)
  (try rw [show ((0 : Int)).toNat = 0 from rfl] at hx379_1)
  (try rw [show 0 * 2 = 0 from rfl] at hx379_1)
  (try rw [Addr.add_zero'] at hx379_1)
  replace hx379_0:=cq HB.out hx379_0
  replace hx379_1:=cq HB.out hx379_1
  replace p379:=eq_true p379
  replace q379:=eq_true q379
  have p380 : 0 ≤ (0 : Int):=(by omega)
  have q380 : 0 < (l0.length : Int):=da
  obtain ⟨ad380,e380,hx380_0,hx380_1⟩:=at_T73 HR0.out 0 p380 q380
  have hw380_1:=hx380_1
  (try rw [show ((0 : Int)).toNat = 0 from rfl] at hw380_1)
  (try rw [show 0 * 2 = 0 from rfl] at hw380_1)
  (try rw [Addr.add_zero'] at hw380_1)
  have hw380_0:=hx380_0
  (try rw [show ((0 : Int)).toNat = 0 from rfl] at hw380_0)
  (try rw [show 0 * 2 = 0 from rfl] at hw380_0)
  (try rw [Addr.add_zero'] at hw380_0)
  obtain rfl : ad379 = ad380:=(by injection e380)
  have qi380 : (0 < l0.length) = True:=eq_true (by omega)
  (try rw [show ((0 : Int)).toNat = 0 from rfl] at hx380_0)
  (try rw [show 0 * 2 = 0 from rfl] at hx380_0)
  (try rw [Addr.add_zero'] at hx380_0)
  (try rw [show ((0 : Int)).toNat = 0 from rfl] at hx380_1)
  (try rw [show 0 * 2 = 0 from rfl] at hx380_1)
  (try rw [Addr.add_zero'] at hx380_1)
  replace hx380_0:=cq HB.out hx380_0
  replace hx380_1:=cq HB.out hx380_1
  replace p380:=eq_true p380
  replace q380:=eq_true q380
  refine start_ (n:=10) (S:=fun w' => w'.cell? ad379 = some (.int .i64 ((rd_T73 l0 0).f0)) ∧ w'.cell? ⟨ad379.block,ad379.off + 1,none⟩ = some (.int .i64 ((rd_T73 l0 0).f1)) ∧ w'.cell? ad379 = some (.int .i64 ((rd_T73 l0 0).f0)) ∧ w'.cell? ⟨ad379.block,ad379.off + 1,none⟩ = some (.int .i64 ((rd_T73 l0 0).f1))) (ds:=[]) #[fF,fF,fF,fF,fF,fF,fF,fF,fF,fF] (by kernel_rfl) rfl rfl ⟨cq HB.out hw379_0,cq HB.out hw379_1,cq HB.out hw380_0,cq HB.out hw380_1⟩ (fun hHeld => ?_);refine with_tabW impl_bounds.tab1 impl_bounds.bits1 (fun HT_ HW_ => ?_)
  generalize w4.drew = w5 at BK377 BK378 HB hx379_0 hx379_1 hx380_0 hx380_1 hHeld ⊢
  refine pu 0 8 HT_ ?_
  refine pu 1 9 HT_ ?_
  refine pu 3 11 HT_ ?_
  refine pu 4 12 HT_ ?_
  refine tk 2 10 HT_ HW_ hHeld ?_
  refine tk 5 13 HT_ HW_ hHeld ?_
  refine join_ (σ:=Nat × Nat) 2 #[tT,tT,tT,tT,tT,tT,tT,tT,fF,fF] (fun s_ => [(4,.pointer (some ⟨s_.1,0,none⟩)),(5,.pointer (some ⟨s_.2,0,none⟩))]) (fun s_ w' => (w'.cell? ad379 = some (.int .i64 ((rd_T73 l0 0).f0)) ∧ w'.cell? ⟨ad379.block,ad379.off + 1,none⟩ = some (.int .i64 ((rd_T73 l0 0).f1)) ∧ w'.cell? ad379 = some (.int .i64 ((rd_T73 l0 0).f0)) ∧ w'.cell? ⟨ad379.block,ad379.off + 1,none⟩ = some (.int .i64 ((rd_T73 l0 0).f1))) ∧ (w'.heap[gb377]? = some (.cells #[.int .i64 0,.int .i64 0] 73 (0,0))) ∧ (w'.heap[gb378]? = some (.cells #[.int .i64 0,.int .i64 0] 73 (0,0))) ∧ (w'.heap[s_.1]? = some (.cells #[.int .i64 0,.int .i64 0] 73 (0,0))) ∧ (w'.heap[s_.2]? = some (.cells #[.int .i64 0,.int .i64 0] 73 (0,0))) ∧ (w.heap.size ≤ s_.1) ∧ (w.heap.size ≤ s_.1) ∧ (gb377 ≠ s_.1) ∧ (s_.1 ≠ gb377) ∧ (gb378 ≠ s_.1) ∧ (s_.1 ≠ gb378) ∧ (s_.2 ≠ s_.1) ∧ (s_.1 ≠ s_.2) ∧ (w.heap.size ≤ s_.2) ∧ (w.heap.size ≤ s_.2) ∧ (gb377 ≠ s_.2) ∧ (s_.2 ≠ gb377) ∧ (gb378 ≠ s_.2) ∧ (s_.2 ≠ gb378) ∧ (Below w.heap.size w w')) ?_ ?_
  rotate_left
  ·intro hCont
   refine two_ (i:=6) (j:=7) (Ni:=some 4) (Nj:=some 5) #[tT,tT,tT,tT,tT,tT,tT,fF,fF,fF] #[tT,tT,tT,tT,tT,tT,fF,tT,fF,fF] rfl rfl rfl rfl (two_of HT_.out (by kernel_rfl)) (by decide) (by decide) (fun K hK => ?_) (fun K hK => ?_)
   ·skip
    refine box_step ?hg (N:=4) ?hd (cs:=#[.int .i64 0,.int .i64 0]) (t:=73) ?hr ?_;(case hd => rfl);(case hg => rfl);(case hr => first | (go_simp;done) | (go_simp;rfl))
    intro gb381 hg w6 hbox hb
    have BK381:=Aside0.mk (hbox)
    have GW381:=zb hg
    have GE381:=zb hg
    replace HB:=sb hb
    have NB377_381:=nl BK377 hg
    have NB381_377:=ng BK377 hg
    replace BK377:=kb BK377 hb
    have NB378_381:=nl BK378 hg
    have NB381_378:=ng BK378 hg
    replace BK378:=kb BK378 hb
    clear hb hbox hg
    refine hK.out _ _ ⟨cq HB.out hw379_0,cq HB.out hw379_1,cq HB.out hw380_0,cq HB.out hw380_1⟩ (fun hHeld => ?_)
    clear hK K
    refine norm_ (a':=?_) ?_ ?_
    rotate_left
    ·show Act.put _ (some 4) _ = _
     simp only [Act.put,iT,sZ,sC,i64_w,i32_w]
     rfl
    refine on 7 5 HT_ (fun K hK => ?_)
    refine box_step ?hg (N:=5) ?hd (cs:=#[.int .i64 0,.int .i64 0]) (t:=73) ?hr ?_;(case hd => rfl);(case hg => rfl);(case hr => first | (go_simp;done) | (go_simp;rfl))
    intro gb382 hg w7 hbox hb
    have BK382:=Aside0.mk (hbox)
    have GW382:=zb hg
    have GE382:=zb hg
    replace HB:=sb hb
    have NB377_382:=nl BK377 hg
    have NB382_377:=ng BK377 hg
    replace BK377:=kb BK377 hb
    have NB378_382:=nl BK378 hg
    have NB382_378:=ng BK378 hg
    replace BK378:=kb BK378 hb
    have NB381_382:=nl BK381 hg
    have NB382_381:=ng BK381 hg
    replace BK381:=kb BK381 hb
    clear hb hbox hg
    refine hK.out _ _ ⟨cq HB.out hw379_0,cq HB.out hw379_1,cq HB.out hw380_0,cq HB.out hw380_1⟩ (fun hHeld => ?_)
    clear hK K
    refine norm_ (a':=?_) ?_ ?_
    rotate_left
    ·show Act.put _ (some 5) _ = _
     simp only [Act.put,iT,sZ,sC,i64_w,i32_w]
     rfl
    exact norm_ (by simp only [putAll,Act.put,iT,sZ,sC]) (hCont (gb381,gb382) _ ⟨hHeld,(bk BK377),(bk BK378),(bk BK381),(bk BK382),GW381.out,GE381.out,NB377_381.out,NB381_377.out,NB378_381.out,NB381_378.out,NB382_381.out,NB381_382.out,GW382.out,GE382.out,NB377_382.out,NB382_377.out,NB378_382.out,NB382_378.out,ib⟩)
   ·skip
    refine box_step ?hg (N:=5) ?hd (cs:=#[.int .i64 0,.int .i64 0]) (t:=73) ?hr ?_;(case hd => rfl);(case hg => rfl);(case hr => first | (go_simp;done) | (go_simp;rfl))
    intro gb382 hg w6 hbox hb
    have BK382:=Aside0.mk (hbox)
    have GW382:=zb hg
    have GE382:=zb hg
    replace HB:=sb hb
    have NB377_382:=nl BK377 hg
    have NB382_377:=ng BK377 hg
    replace BK377:=kb BK377 hb
    have NB378_382:=nl BK378 hg
    have NB382_378:=ng BK378 hg
    replace BK378:=kb BK378 hb
    clear hb hbox hg
    refine hK.out _ _ ⟨cq HB.out hw379_0,cq HB.out hw379_1,cq HB.out hw380_0,cq HB.out hw380_1⟩ (fun hHeld => ?_)
    clear hK K
    refine norm_ (a':=?_) ?_ ?_
    rotate_left
    ·show Act.put _ (some 5) _ = _
     simp only [Act.put,iT,sZ,sC,i64_w,i32_w]
     rfl
    refine on 6 4 HT_ (fun K hK => ?_)
    refine box_step ?hg (N:=4) ?hd (cs:=#[.int .i64 0,.int .i64 0]) (t:=73) ?hr ?_;(case hd => rfl);(case hg => rfl);(case hr => first | (go_simp;done) | (go_simp;rfl))
    intro gb381 hg w7 hbox hb
    have BK381:=Aside0.mk (hbox)
    have GW381:=zb hg
    have GE381:=zb hg
    replace HB:=sb hb
    have NB377_381:=nl BK377 hg
    have NB381_377:=ng BK377 hg
    replace BK377:=kb BK377 hb
    have NB378_381:=nl BK378 hg
    have NB381_378:=ng BK378 hg
    replace BK378:=kb BK378 hb
    have NB382_381:=nl BK382 hg
    have NB381_382:=ng BK382 hg
    replace BK382:=kb BK382 hb
    clear hb hbox hg
    refine hK.out _ _ ⟨cq HB.out hw379_0,cq HB.out hw379_1,cq HB.out hw380_0,cq HB.out hw380_1⟩ (fun hHeld => ?_)
    clear hK K
    refine norm_ (a':=?_) ?_ ?_
    rotate_left
    ·show Act.put _ (some 4) _ = _
     simp only [Act.put,iT,sZ,sC,i64_w,i32_w]
     rfl
    exact norm_ (by simp only [putAll,Act.put,iT,sZ,sC]) (hCont (gb381,gb382) _ ⟨hHeld,(bk BK377),(bk BK378),(bk BK381),(bk BK382),GW381.out,GE381.out,NB377_381.out,NB381_377.out,NB378_381.out,NB381_378.out,NB382_381.out,NB381_382.out,GW382.out,GE382.out,NB377_382.out,NB382_377.out,NB378_382.out,NB382_378.out,ib⟩)
  rintro ⟨gb381,gb382⟩ w8 ⟨hS_,h0_,h1_,h2_,h3_,h4_,h5_,h6_,h7_,h8_,h9_,h10_,h11_,h12_,h13_,h14_,h15_,h16_,h17_,h18_⟩
  have n0_ : Aside0 (w8.heap[gb377]? = some (.cells #[.int .i64 0,.int .i64 0] 73 (0,0))):=⟨h0_⟩
  have n1_ : Aside0 (w8.heap[gb378]? = some (.cells #[.int .i64 0,.int .i64 0] 73 (0,0))):=⟨h1_⟩
  have n2_ : Aside0 (w8.heap[gb381]? = some (.cells #[.int .i64 0,.int .i64 0] 73 (0,0))):=⟨h2_⟩
  have n3_ : Aside0 (w8.heap[gb382]? = some (.cells #[.int .i64 0,.int .i64 0] 73 (0,0))):=⟨h3_⟩
  have n4_ : Aside0 (w.heap.size ≤ gb381):=⟨h4_⟩
  have n5_ : Aside0 (w.heap.size ≤ gb381):=⟨h5_⟩
  have n6_ : Aside0 (gb377 ≠ gb381):=⟨h6_⟩
  have n7_ : Aside0 (gb381 ≠ gb377):=⟨h7_⟩
  have n8_ : Aside0 (gb378 ≠ gb381):=⟨h8_⟩
  have n9_ : Aside0 (gb381 ≠ gb378):=⟨h9_⟩
  have n10_ : Aside0 (gb382 ≠ gb381):=⟨h10_⟩
  have n11_ : Aside0 (gb381 ≠ gb382):=⟨h11_⟩
  have n12_ : Aside0 (w.heap.size ≤ gb382):=⟨h12_⟩
  have n13_ : Aside0 (w.heap.size ≤ gb382):=⟨h13_⟩
  have n14_ : Aside0 (gb377 ≠ gb382):=⟨h14_⟩
  have n15_ : Aside0 (gb382 ≠ gb377):=⟨h15_⟩
  have n16_ : Aside0 (gb378 ≠ gb382):=⟨h16_⟩
  have n17_ : Aside0 (gb382 ≠ gb378):=⟨h17_⟩
  have n18_ : Aside0 (Below w.heap.size w w8):=⟨h18_⟩
  clear BK377
  clear BK378
  clear HB
  clear h0_ h1_ h2_ h3_ h4_ h5_ h6_ h7_ h8_ h9_ h10_ h11_ h12_ h13_ h14_ h15_ h16_ h17_ h18_
  have BK377:=n0_
  have BK378:=n1_
  have BK381:=n2_
  have BK382:=n3_
  have GW381:=n4_
  have GE381:=n5_
  have NB377_381:=n6_
  have NB381_377:=n7_
  have NB378_381:=n8_
  have NB381_378:=n9_
  have NB382_381:=n10_
  have NB381_382:=n11_
  have GW382:=n12_
  have GE382:=n13_
  have NB377_382:=n14_
  have NB382_377:=n15_
  have NB378_382:=n16_
  have NB382_378:=n17_
  have HB:=n18_
  clear n0_ n1_ n2_ n3_ n4_ n5_ n6_ n7_ n8_ n9_ n10_ n11_ n12_ n13_ n14_ n15_ n16_ n17_ n18_
  have hHeld : w8.cell? ad379 = some (.int .i64 ((rd_T73 l0 0).f0)) ∧ w8.cell? ⟨ad379.block,ad379.off + 1,none⟩ = some (.int .i64 ((rd_T73 l0 0).f1)) ∧ w8.cell? ad379 = some (.int .i64 ((rd_T73 l0 0).f0)) ∧ w8.cell? ⟨ad379.block,ad379.off + 1,none⟩ = some (.int .i64 ((rd_T73 l0 0).f1)):=hS_
  refine norm_ (a':=?_) ?_ ?_
  rotate_left
  ·simp only [putAll,Act.put,iT,sZ,sC]
   rfl
  refine one_ (i:=8) (N:=none) #[tT,tT,tT,tT,tT,tT,tT,tT,tT,fF] rfl rfl (one_of HT_.out (by kernel_rfl)) (by decide) (fun K hK => ?_)
  have hs9 : w8.cell? ⟨gb381,0,none⟩ = some (.int .i64 0):=(blk_cell BK381.out 0).trans rfl
  have hfs9:=blk_frozen BK381.out 0
  have hns9_0:=NB377_381.out
  have hns9_1:=NB378_381.out
  have hns9_3:=NB382_381.out
  have hms9_0:=NB381_377.out
  have hms9_1:=NB381_378.out
  have hms9_3:=NB381_382.out
  have hs10 : w8.cell? ⟨gb381,1,none⟩ = some (.int .i64 0):=(blk_cell BK381.out 1).trans rfl
  have hfs10:=blk_frozen BK381.out 1
  have hns10_0:=NB377_381.out
  have hns10_1:=NB378_381.out
  have hns10_3:=NB382_381.out
  have hms10_0:=NB381_377.out
  have hms10_1:=NB381_378.out
  have hms10_3:=NB381_382.out
  refine skip_ (w1:=?_) (by rfl) rfl ?_ ?_
  rotate_left
  ·go_simp
   rfl
  refine hK.out _ _ ⟨(cg hw379_0 GW381 ((cg hw379_0 GW381 (hHeld.1)))),(cg hw379_1 GW381 ((cg hw379_1 GW381 (hHeld.2.1)))),(cg hw380_0 GW381 ((cg hw380_0 GW381 (hHeld.2.2.1)))),(cg hw380_1 GW381 ((cg hw380_1 GW381 (hHeld.2.2.2))))⟩ (fun hHeld => ?_)
  clear hK K
  refine one_ (i:=9) (N:=none) #[tT,tT,tT,tT,tT,tT,tT,tT,tT,tT] rfl rfl (one_of HT_.out (by kernel_rfl)) (by decide) (fun K hK => ?_)
  have hs11 : w8.cell? ⟨gb382,0,none⟩ = some (.int .i64 0):=(blk_cell BK382.out 0).trans rfl
  have hfs11:=blk_frozen BK382.out 0
  have hns11_0:=NB377_382.out
  have hns11_1:=NB378_382.out
  have hns11_2:=NB381_382.out
  have hms11_0:=NB382_377.out
  have hms11_1:=NB382_378.out
  have hms11_2:=NB382_381.out
  have hs12 : w8.cell? ⟨gb382,1,none⟩ = some (.int .i64 0):=(blk_cell BK382.out 1).trans rfl
  have hfs12:=blk_frozen BK382.out 1
  have hns12_0:=NB377_382.out
  have hns12_1:=NB378_382.out
  have hns12_2:=NB381_382.out
  have hms12_0:=NB382_377.out
  have hms12_1:=NB382_378.out
  have hms12_2:=NB382_381.out
  refine skip_ (w1:=?_) (by rfl) rfl ?_ ?_
  rotate_left
  ·go_simp
   rfl
  refine hK.out _ _ ⟨(cg hw379_0 GW382 ((cg hw379_0 GW382 (hHeld.1)))),(cg hw379_1 GW382 ((cg hw379_1 GW382 (hHeld.2.1)))),(cg hw380_0 GW382 ((cg hw380_0 GW382 (hHeld.2.2.1)))),(cg hw380_1 GW382 ((cg hw380_1 GW382 (hHeld.2.2.2))))⟩ (fun hHeld => ?_)
  clear hK K
  refine done_ (done_of HT_.out (by kernel_rfl)) ?_
  try go_wp2
  go_loopg [16] k (fun kq v16 w' => ∃ (x16_1 : Int) (x382000_1 : Int) (x382001_1 : Int) (x383000_1 : Int) (x383001_1 : Int),v16 = .int .i64 x16_1 ∧ Aside0 (impl_bounds.l0 kq l0 (l0.length : Int) x16_1 x382000_1 x382001_1 x383000_1 x383001_1 = some (r1,r2,r3,r4)) ∧ Aside0 (kq ≤ k) ∧ Aside0 (w'.heap[gb377]? = some (.cells #[.int .i64 0,.int .i64 0] 73 (0,0))) ∧ Aside0 (w'.heap[gb378]? = some (.cells #[.int .i64 0,.int .i64 0] 73 (0,0))) ∧ Aside0 (w'.heap[gb381]? = some (.cells #[.int .i64 x382000_1,.int .i64 x382001_1] 73 (0,0))) ∧ Aside0 (w'.heap[gb382]? = some (.cells #[.int .i64 x383000_1,.int .i64 x383001_1] 73 (0,0))) ∧ Aside0 (Below w.heap.size w w'))
  case atStart => exact ⟨(0),((rd_T73 l0 0).f0),((rd_T73 l0 0).f1),((rd_T73 l0 0).f0),((rd_T73 l0 0).f1),(by first | rfl | (simp;done) | (simp [*];done)),H',⟨Nat.le_refl _⟩,⟨by refine bF NB377_382.out ?_;refine bF NB377_382.out ?_;refine bF NB377_381.out ?_;refine bF NB377_381.out ?_;exact bk BK377⟩,⟨by refine bF NB378_382.out ?_;refine bF NB378_382.out ?_;refine bF NB378_381.out ?_;refine bF NB378_381.out ?_;exact bk BK378⟩,⟨by refine bF NB381_382.out ?_;refine bF NB381_382.out ?_;refine bP (cs:=#[.int .i64 ((rd_T73 l0 0).f0),.int .i64 0]) 1 ?_;refine bP (cs:=#[.int .i64 0,.int .i64 0]) 0 ?_;exact bk BK381⟩,⟨by refine bP (cs:=#[.int .i64 ((rd_T73 l0 0).f0),.int .i64 0]) 1 ?_;refine bP (cs:=#[.int .i64 0,.int .i64 0]) 0 ?_;refine bF NB382_381.out ?_;refine bF NB382_381.out ?_;exact bk BK382⟩,⟨ib⟩⟩
  case round =>
   clear H'
   try clear c1
   try clear c2
   try clear c2b0
   try clear c2b1
   try clear p2
   try clear p3
   try clear q3
   try clear hx3
   try clear qi3
   try clear c11
   try clear hx379_0
   try clear hx379_1
   try clear hx380_0
   try clear hx380_1
   try clear p379
   try clear p380
   try clear q379
   try clear q380
   obtain ⟨x16_1,x382000_1,x382001_1,x383000_1,x383001_1,rfl,HA,HK1,BK377,BK378,BK381,BK382,HB⟩:=hrel
   cases gk with
   | zero => exact absurd HA.out (by simp [impl_bounds.l0])
   | succ k1 =>
    have H:=HA.out
    clear HA
    simp only [impl_bounds.l0] at H
    by_cases c13 : x16_1 < (l0.length : Int)
    ·rw [if_pos c13] at H
     have c13b0 : decide (x16_1 < (l0.length : Int)) = true:=decide_eq_true c13
     clear c13
     by_cases c14 : 0 ≤ x16_1
     ·rw [if_pos c14] at H
      have c14b0 : decide (0 ≤ x16_1) = true:=decide_eq_true c14
      clear c14
      by_cases c15 : x16_1 < (l0.length : Int)
      ·rw [if_pos c15] at H
       have c15b0 : decide (x16_1 < (l0.length : Int)) = true:=decide_eq_true c15
       clear c15
       obtain ⟨ji16,hji16⟩ : ∃ j_ : Int,(mn x382000_1 ((rd_T73 l0 x16_1).f0)) = j_:=⟨_,rfl⟩
       replace H : (impl_bounds.l0 k1 l0 (l0.length : Int) (wrap64 (x16_1 + 1)) ji16 (mn x382001_1 ((rd_T73 l0 x16_1).f1)) (mx x383000_1 ((rd_T73 l0 x16_1).f0)) (mx x383001_1 ((rd_T73 l0 x16_1).f1))) = some (r1,r2,r3,r4):=by first | (rw [hji16] at H;exact H) | (simp only [hji16] at H ⊢;exact H)
       have hji16_ : (if ((rd_T73 l0 x16_1).f0) < x382000_1 then ((rd_T73 l0 x16_1).f0) else x382000_1) = ji16:=hji16
       obtain ⟨ji17,hji17⟩ : ∃ j_ : Int,(mn x382001_1 ((rd_T73 l0 x16_1).f1)) = j_:=⟨_,rfl⟩
       replace H : (impl_bounds.l0 k1 l0 (l0.length : Int) (wrap64 (x16_1 + 1)) ji16 ji17 (mx x383000_1 ((rd_T73 l0 x16_1).f0)) (mx x383001_1 ((rd_T73 l0 x16_1).f1))) = some (r1,r2,r3,r4):=by first | (rw [hji17] at H;exact H) | (simp only [hji17] at H ⊢;exact H)
       have hji17_ : (if ((rd_T73 l0 x16_1).f1) < x382001_1 then ((rd_T73 l0 x16_1).f1) else x382001_1) = ji17:=hji17
       obtain ⟨ji18,hji18⟩ : ∃ j_ : Int,(mx x383000_1 ((rd_T73 l0 x16_1).f0)) = j_:=⟨_,rfl⟩
       replace H : (impl_bounds.l0 k1 l0 (l0.length : Int) (wrap64 (x16_1 + 1)) ji16 ji17 ji18 (mx x383001_1 ((rd_T73 l0 x16_1).f1))) = some (r1,r2,r3,r4):=by first | (rw [hji18] at H;exact H) | (simp only [hji18] at H ⊢;exact H)
       have hji18_ : (if x383000_1 < ((rd_T73 l0 x16_1).f0) then ((rd_T73 l0 x16_1).f0) else x383000_1) = ji18:=hji18
       obtain ⟨ji19,hji19⟩ : ∃ j_ : Int,(mx x383001_1 ((rd_T73 l0 x16_1).f1)) = j_:=⟨_,rfl⟩
       replace H : (impl_bounds.l0 k1 l0 (l0.length : Int) (wrap64 (x16_1 + 1)) ji16 ji17 ji18 ji19) = some (r1,r2,r3,r4):=by first | (rw [hji19] at H;exact H) | (simp only [hji19] at H ⊢;exact H)
       have hji19_ : (if x383001_1 < ((rd_T73 l0 x16_1).f1) then ((rd_T73 l0 x16_1).f1) else x383001_1) = ji19:=hji19
       have H':=Aside0.mk H
       clear H
       have p383 : 0 ≤ (x16_1 : Int):=da
       have q383 : x16_1 < (l0.length : Int):=da
       obtain ⟨ad383,e383,hx383_0,hx383_1⟩:=at_T73 HR0.out x16_1 p383 q383
       obtain rfl : ad379 = ad383:=(by injection e383)
       replace hx383_0:=cq HB.out hx383_0
       replace hx383_1:=cq HB.out hx383_1
       replace p383:=eq_true p383
       replace q383:=eq_true q383
       go_wp2_with (first | ((with_reducible refine gate_dst (N:=7) rfl ?_);refine bx (cs:=#[.int .i64 0,.int .i64 0]) (t:=73) ?_;intro gb384 hg w20 hbox hb;have BK384:=Aside0.mk (hbox);have GW384:=zb hg;have GE384:=zb hg;replace HB:=sb hb;have NB377_384:=nl BK377 hg;have NB384_377:=ng BK377 hg;replace BK377:=kb BK377 hb;have NB378_384:=nl BK378 hg;have NB384_378:=ng BK378 hg;replace BK378:=kb BK378 hb;have NB381_384:=nl BK381 hg;have NB384_381:=ng BK381 hg;replace BK381:=kb BK381 hb;have NB382_384:=nl BK382 hg;have NB384_382:=ng BK382 hg;replace BK382:=kb BK382 hb;clear hb hbox hg;have hnb21:=NB384_377.out;have hnc21:=NB377_384.out;have hnb22:=NB384_378.out;have hnc22:=NB378_384.out;have hnb23:=NB384_381.out;have hnc23:=NB381_384.out;have hnb24:=NB384_382.out;have hnc24:=NB382_384.out;have hcz25_0:=ck BK384 0;have hcz25_1:=ck BK384 1;have hfz25_0:=blk_frozen BK384.out 0;have hfz25_1:=blk_frozen BK384.out 1;have hnb26:=NB381_377.out;have hnc26:=NB377_381.out;have hnb27:=NB381_378.out;have hnc27:=NB378_381.out;have hnb28:=NB381_382.out;have hnc28:=NB382_381.out;have hcz29_0:=ck BK381 0;have hcz29_1:=ck BK381 1;have hfz29_0:=blk_frozen BK381.out 0;have hfz29_1:=blk_frozen BK381.out 1;have hnb30:=NB382_377.out;have hnc30:=NB377_382.out;have hnb31:=NB382_378.out;have hnc31:=NB378_382.out;have hcz32_0:=ck BK382 0;have hcz32_1:=ck BK382 1;have hfz32_0:=blk_frozen BK382.out 0;have hfz32_1:=blk_frozen BK382.out 1))
       go_roundg k1
       case measure => have:=HK1.out;omega
       case rel => exact ⟨(wrap64 (x16_1 + 1)),(ji16),(ji17),(ji18),(ji19),(by first | rfl | (simp;done) | (simp [*];done)),H',⟨by have:=HK1.out;omega⟩,⟨by refine bF NB377_382.out ?_;refine bF NB377_382.out ?_;refine bF NB377_381.out ?_;refine bF NB377_381.out ?_;refine bF NB377_384.out ?_;refine bF NB377_384.out ?_;exact bk BK377⟩,⟨by refine bF NB378_382.out ?_;refine bF NB378_382.out ?_;refine bF NB378_381.out ?_;refine bF NB378_381.out ?_;refine bF NB378_384.out ?_;refine bF NB378_384.out ?_;exact bk BK378⟩,⟨by refine bF NB381_382.out ?_;refine bF NB381_382.out ?_;refine bP (cs:=#[.int .i64 ji16,.int .i64 x382001_1]) 1 ?_;refine bP (cs:=#[.int .i64 x382000_1,.int .i64 x382001_1]) 0 ?_;refine bF NB381_384.out ?_;refine bF NB381_384.out ?_;exact bk BK381⟩,⟨by refine bP (cs:=#[.int .i64 ji18,.int .i64 x383001_1]) 1 ?_;refine bP (cs:=#[.int .i64 x383000_1,.int .i64 x383001_1]) 0 ?_;refine bF NB382_381.out ?_;refine bF NB382_381.out ?_;refine bF NB382_384.out ?_;refine bF NB382_384.out ?_;exact bk BK382⟩,⟨ib⟩⟩
      ·first | (exfalso;have z_:=of_decide_eq_true c13b0;omega) | (rw [if_neg c15] at H;exact absurd H (by simp))
     ·rw [if_neg c14] at H
      exact absurd H (by simp)
    ·rw [if_neg c13] at H
     have c13b0 : decide (x16_1 < (l0.length : Int)) = false:=decide_eq_false c13
     clear c13
     simp only [Option.some.injEq,Prod.mk.injEq] at H
     obtain ⟨rfl,rfl,rfl,rfl⟩:=H
     try go_wp2
     replace BK377:=Aside0.mk (blk_drew BK377.out)
     replace BK378:=Aside0.mk (blk_drew BK378.out)
     replace BK381:=Aside0.mk (blk_drew BK381.out)
     replace BK382:=Aside0.mk (blk_drew BK382.out)
     replace HB:=Aside0.mk (below_drew1 HB.out)
     refine start_ (n:=4) (S:=fun w' => w'.cell? ⟨gb381,0,none⟩ = some (.int .i64 x382000_1) ∧ w'.cell? ⟨gb381,1,none⟩ = some (.int .i64 x382001_1) ∧ w'.cell? ⟨gb382,0,none⟩ = some (.int .i64 x383000_1) ∧ w'.cell? ⟨gb382,1,none⟩ = some (.int .i64 x383001_1)) (ds:=[]) #[fF,fF,fF,fF] (by kernel_rfl) rfl rfl ⟨(blk_cell BK381.out 0).trans rfl,(blk_cell BK381.out 1).trans rfl,(blk_cell BK382.out 0).trans rfl,(blk_cell BK382.out 1).trans rfl⟩ (fun hHeld => ?_)
     generalize wr.drew = w33 at BK377 BK378 BK381 BK382 HB hHeld ⊢
     refine take_ (i:=0) (N:=some 43) (v:=?_) (a':=?_) #[tT,fF,fF,fF] rfl rfl (by kernel_rfl) (fun _ _ _ h => h) (Or.inl ⟨by rfl,?_⟩) hHeld ?_ ?_
     rotate_left
     ·rintro w' ⟨s0,s1,s2,s3⟩
      go_simp
      with_reducible rfl
     rotate_left
     ·exact pa
     refine take_ (i:=1) (N:=some 44) (v:=?_) (a':=?_) #[tT,tT,fF,fF] rfl rfl (by kernel_rfl) (fun _ _ _ h => h) (Or.inl ⟨by rfl,?_⟩) hHeld ?_ ?_
     rotate_left
     ·rintro w' ⟨s0,s1,s2,s3⟩
      go_simp
      with_reducible rfl
     rotate_left
     ·exact pa
     refine one_ (i:=2) (N:=none) #[tT,tT,tT,fF] rfl rfl (by kernel_rfl) (by decide) (fun K hK => ?_)
     have hs34 : w33.cell? ⟨gb377,0,none⟩ = some (.int .i64 0):=(blk_cell BK377.out 0).trans rfl
     have hfs34:=blk_frozen BK377.out 0
     have hns34_1:=NB378_377.out
     have hns34_2:=NB381_377.out
     have hns34_3:=NB382_377.out
     have hms34_1:=NB377_378.out
     have hms34_2:=NB377_381.out
     have hms34_3:=NB377_382.out
     have hs35 : w33.cell? ⟨gb377,1,none⟩ = some (.int .i64 0):=(blk_cell BK377.out 1).trans rfl
     have hfs35:=blk_frozen BK377.out 1
     have hns35_1:=NB378_377.out
     have hns35_2:=NB381_377.out
     have hns35_3:=NB382_377.out
     have hms35_1:=NB377_378.out
     have hms35_2:=NB377_381.out
     have hms35_3:=NB377_382.out
     refine skip_ (w1:=?_) (by rfl) rfl ?_ ?_
     rotate_left
     ·go_simp
      rfl
     refine hK.out _ _ ⟨((cell_far (p:=⟨gb377,_,none⟩) NB381_377.out _).trans (((cell_far (p:=⟨gb377,_,none⟩) NB381_377.out _).trans (hHeld.1)))),((cell_far (p:=⟨gb377,_,none⟩) NB381_377.out _).trans (((cell_far (p:=⟨gb377,_,none⟩) NB381_377.out _).trans (hHeld.2.1)))),((cell_far (p:=⟨gb377,_,none⟩) NB382_377.out _).trans (((cell_far (p:=⟨gb377,_,none⟩) NB382_377.out _).trans (hHeld.2.2.1)))),((cell_far (p:=⟨gb377,_,none⟩) NB382_377.out _).trans (((cell_far (p:=⟨gb377,_,none⟩) NB382_377.out _).trans (hHeld.2.2.2))))⟩ (fun hHeld => ?_)
     clear hK K
     refine one_ (i:=3) (N:=none) #[tT,tT,tT,tT] rfl rfl (by kernel_rfl) (by decide) (fun K hK => ?_)
     have hs36 : w33.cell? ⟨gb378,0,none⟩ = some (.int .i64 0):=(blk_cell BK378.out 0).trans rfl
     have hfs36:=blk_frozen BK378.out 0
     have hns36_0:=NB377_378.out
     have hns36_2:=NB381_378.out
     have hns36_3:=NB382_378.out
     have hms36_0:=NB378_377.out
     have hms36_2:=NB378_381.out
     have hms36_3:=NB378_382.out
     have hs37 : w33.cell? ⟨gb378,1,none⟩ = some (.int .i64 0):=(blk_cell BK378.out 1).trans rfl
     have hfs37:=blk_frozen BK378.out 1
     have hns37_0:=NB377_378.out
     have hns37_2:=NB381_378.out
     have hns37_3:=NB382_378.out
     have hms37_0:=NB378_377.out
     have hms37_2:=NB378_381.out
     have hms37_3:=NB378_382.out
     refine skip_ (w1:=?_) (by rfl) rfl ?_ ?_
     rotate_left
     ·go_simp
      rfl
     refine hK.out _ _ ⟨((cell_far (p:=⟨gb378,_,none⟩) NB381_378.out _).trans (((cell_far (p:=⟨gb378,_,none⟩) NB381_378.out _).trans (hHeld.1)))),((cell_far (p:=⟨gb378,_,none⟩) NB381_378.out _).trans (((cell_far (p:=⟨gb378,_,none⟩) NB381_378.out _).trans (hHeld.2.1)))),((cell_far (p:=⟨gb378,_,none⟩) NB382_378.out _).trans (((cell_far (p:=⟨gb378,_,none⟩) NB382_378.out _).trans (hHeld.2.2.1)))),((cell_far (p:=⟨gb378,_,none⟩) NB382_378.out _).trans (((cell_far (p:=⟨gb378,_,none⟩) NB382_378.out _).trans (hHeld.2.2.2))))⟩ (fun hHeld => ?_)
     clear hK K
     refine done_ (by kernel_rfl) ?_
     try go_wp2
     refine bodyPost_ret (results_cc rfl _ _ gb377 gb378 73 73 #[.int .i64 x382000_1,.int .i64 x382001_1] #[.int .i64 x383000_1,.int .i64 x383001_1] (0,0) (0,0) _ _ rfl (by refine bF NB377_378.out ?_;refine bF NB377_378.out ?_;refine bP (cs:=#[.int .i64 x382000_1,.int .i64 0]) 1 ?_;refine bP (cs:=#[.int .i64 0,.int .i64 0]) 0 ?_;exact bk BK377) Try.underlying73 rfl (by kernel_rfl) rfl (by refine bP (cs:=#[.int .i64 x383000_1,.int .i64 0]) 1 ?_;refine bP (cs:=#[.int .i64 0,.int .i64 0]) 0 ?_;refine bF NB378_377.out ?_;refine bF NB378_377.out ?_;exact bk BK378) Try.underlying73 rfl (by kernel_rfl)) rfl ?_
     exact ⟨by first | rfl | (simp [errW_none,errW_some] <;> rfl) | (simp [*,errW_none,errW_some] <;> rfl),ib⟩
 ·rw [if_neg c2] at H
  exact absurd H (by simp)
end Go.Proofs.Ytnnchaggdnlfmaa.PFnExactDisjoint
