/- Contracts of functions that FnExactNeighboursOf reaches, out of the lines of the kit's print. -/
import Derived.Test.YtpeebobdbaemiaaQFnExactNeighboursOfx0
import Derived.Test.YtpeebobdbaemiaaQFnExactNeighboursOfx15
namespace Go.Proofs.Ytpeebobdbaemiaa.PFnExactNeighboursOf
open Go.RowKit Go.Proofs.YtpeebobdbaemiaaW.PrintWords Go.Proofs.YtpeebobdbaemiaaW.PrintLast Go.Proofs.YtpeebobdbaemiaaW.PrintMore
open Bool renaming true → tT, false → fF
open Go.World renaming block_lt_of_cell? → bL
open List renaming setIfInBounds_toArray → iT, set_cons_zero → sZ, set_cons_succ → sC
attribute [local go_sem] max2_int min2_int max_two min_two max_three min_three max_four min_four
set_option linter.unusedVariables false
set_option linter.unusedSimpArgs false
mutual
def impl_neighbours.l0 : Nat → List (S64) → Int → Int → List (List (S67)) → Option ((List (List Int)))
 | 0,_,_,_,_ => none
 | k + 1,x11,x12,x13,x368000 => if x13 < x12 then (if 0 ≤ x13 then (if x13 < (x11.length : Int) then ((impl_ringEdges.f k ((rd_T64 x11 x13).f1)).bind fun t370 => (if x368000.length < 5864062014805 then (impl_neighbours.l0 k x11 x12 (wrap64 (x13 + 1)) (x368000 ++ [t370])) else (none))) else (none)) else (none)) else (if 0 ≤ (x368000.length : Int) then (if ((x368000.length : Int) : Int).toNat ≤ 11728124029610 then (impl_neighbours.l1 k (List.replicate ((x368000.length : Int) : Int).toNat []) (x368000.length : Int) 0 x368000) else (none)) else (none))
def impl_neighbours.l1 : Nat → List (List Int) → Int → Int → List (List (S67)) → Option ((List (List Int)))
 | 0,_,_,_,_ => none
 | k + 1,x6,x28,x29,x368000 => if x29 < x28 then (impl_neighbours.l2 k x6 x29 x28 x29 (x368000.length : Int) 0 x368000) else (some x6)
def impl_neighbours.l2 : Nat → List (List Int) → Int → Int → Int → Int → Int → List (List (S67)) → Option ((List (List Int)))
 | 0,_,_,_,_,_,_,_ => none
 | k + 1,x6,x7,x28,x29,x33,x34,x368000 => if x34 < x33 then (if x7 = x34 then (impl_neighbours.l2 k x6 x7 x28 x29 x33 (wrap64 (x34 + 1)) x368000) else (if 0 ≤ x7 then (if x7 < (x368000.length : Int) then ((slices_ContainsFunc_2_int64_2_int64.f k (rd_L8 x368000 x7) (x368000,x34)).bind fun t381 => (if t381 = true then (if x7 < (x6.length : Int) then (if (rd_L3 x6 x7).length < 17592186044416 then (impl_neighbours.l2 k (x6.set (x7 : Int).toNat ((rd_L3 x6 x7) ++ [x34])) x7 x28 x29 x33 (wrap64 (x34 + 1)) x368000) else (none)) else (none)) else (impl_neighbours.l2 k x6 x7 x28 x29 x33 (wrap64 (x34 + 1)) x368000))) else (none)) else (none))) else (impl_neighbours.l1 k x6 x28 (wrap64 (x29 + 1)) x368000)
end
def impl_neighbours.f (k : Nat) (a0_0 : Int) (a0_1 : Int) (l0_2 : List (S78)) (l0_3 : List (S64)) : Option ((List (List Int))):=impl_neighbours.l0 k l0_3 (l0_3.length : Int) 0 (([] : List (List (S67))))
def impl_neighbours.T15 : Bool × List (List Nat × List Nat):=(true,[([],[]),([],[]),([],[]),([],[]),([2,3],[2,3]),([4],[4]),([],[]),([6],[6]),([5,7],[5,7]),([0,1,0,1,2,3,4,5,6,7,8],[0,1]),([9,8,8,0,1,2,3,4,5,6,7,8],[8,9])])
def impl_neighbours.B15 : List Nat:=[0,0,0,0,12,28,0,64,252,511,1023]
theorem impl_neighbours.tab15 : rtab .any (opsOf Try.f27 15) = impl_neighbours.T15:=by kernel_rfl
theorem impl_neighbours.bits15 : waitsOk impl_neighbours.T15.2 impl_neighbours.B15 = true:=by kernel_rfl
set_option maxHeartbeats 8000000 in
set_option maxRecDepth 100000 in
theorem impl_neighbours.calls (k : Nat) (a0_0 : Int) (a0_1 : Int) (A0_2 : Option Addr) (c0_2 : Nat) (l0_2 : List (S78)) (A0_3 : Option Addr) (c0_3 : Nat) (l0_3 : List (S64)) (r : List (List Int)) (w : World) (hr0_2 : Kd.C k78 w A0_2 l0_2.length l0_2) (hc0_2 : l0_2.length ≤ c0_2) (hr0_3 : Kd.C k64 w A0_3 l0_3.length l0_3) (hc0_3 : l0_3.length ≤ c0_3) (h : impl_neighbours.f k a0_0 a0_1 l0_2 l0_3 = some r) :
  Calls Try.prog 27 #[.agg #[.int .i64 a0_0,.int .i64 a0_1,.slice A0_2 l0_2.length c0_2,.slice A0_3 l0_3.length c0_3]] w fun e w' => ∃ v0_ : Value,e = .returned (v0_) ∧ Kd.S (Kd.slice 2 (Kd.int .i64)) 27 w' w.heap.size (fun _ => True) v0_ r ∧ Below w.heap.size w w':=by
 have hu33:=Try.underlying33
 have hu64:=Try.underlying64
 have HR0_2:=Aside0.mk hr0_2
 have HC0_2:=Aside0.mk hc0_2
 clear hr0_2 hc0_2
 have HR0_3:=Aside0.mk hr0_3
 have HC0_3:=Aside0.mk hc0_3
 clear hr0_3 hc0_3
 have HB:=Aside0.mk (Below.refl w.heap.size w)
 have H : (impl_neighbours.l0 k l0_3 (l0_3.length : Int) 0 (([] : List (List (S67))))) = some r:=h
 clear h
 obtain ⟨y364,hy364⟩ : ∃ y_ : List (List (S67)),y_ = (([] : List (List (S67)))):=⟨_,rfl⟩
 replace H : (impl_neighbours.l0 k l0_3 (l0_3.length : Int) 0 y364) = some r:=by first | (rw [hy364];with_reducible exact H) | (have H2_:=(Option.bind_some _ _).symm.trans H;rw [hy364];with_reducible exact H2_) | (have H2_:=(Option.bind_some _ _).symm.trans H;with_reducible exact H2_) | with_reducible exact H | (rw [hy364];exact H) | exact H
 have Ny364:=Aside0.mk hy364
 clear hy364
 have H':=Aside0.mk H
 clear H
 go_enter Try.func27,Try.ntmps27
 go_wp2_with (first | ((with_reducible refine gate_dst (N:=1) rfl ?_);refine bx (cs:=#[.int .i64 a0_0,.int .i64 a0_1,.slice A0_2 l0_2.length c0_2,.slice A0_3 l0_3.length c0_3]) (t:=33) ?_;intro gb363 hg w2 hbox hb;have BK363:=Aside0.mk (hbox);have GW363:=zb hg;have GE363:=zb hg;replace HB:=sb hb;clear hb hbox hg) | ((with_reducible refine gate_dst (N:=9) rfl ?_);refine Kd.S_lit (Kd.slice 67 k67) _ 62 ?hg (N:=9) ?hd (xs:=([] : List (List (S67)))) (inner:=[]) (ok:=fun _ => True) (okp:=fun _ => True) ?hr ?hp (fun _ hk => hk) trivial (Below.refl _ _) (Nat.le_refl _) (by simp) ?_;(case hd => rfl);(case hg => rfl);(case hr => first | (go_simp;done) | (go_simp;rfl));(case hp => exact (Reps.none _ _));intro v365 w3 ho4 hb hg_ hnew_;clear hg_ hnew_;(first | rw [← Ny364.out] at ho4 | (simp only [Int.reduceToNat] at ho4;rw [← Ny364.out] at ho4));have HO366:=Aside0.mk (Kd.S_lower ho4 (below_size ib));replace BK363:=kb BK363 hb;replace HB:=sb hb;clear hb ho4) | ((with_reducible refine gate_dst (N:=3) rfl ?_);refine bx (cs:=#[.slice none 0 0]) (t:=82) ?_;intro gb367 hg w5 hbox hb;replace HO366:=Aside0.mk (Kd.S_below (sO HO366.out) hb);have BK367:=Aside0.mk (hbox);have GW367:=zb hg;have GE367:=zb hg;replace HB:=sb hb;have NB363_367:=nl BK363 hg;have NB367_363:=ng BK363 hg;replace BK363:=kb BK363 hb;clear hb hbox hg;obtain ⟨Ao6,co6,eo6⟩:=Kd.S_slice HO366.out;subst eo6;have hnb7:=NB367_363.out;have hnc7:=NB363_367.out;have hcz8_0:=ck BK367 0;have hfz8_0:=blk_frozen BK367.out 0;have hcz9_0:=ck BK363 0;have hcz9_1:=ck BK363 1;have hcz9_2:=ck BK363 2;have hcz9_3:=ck BK363 3;have hfz9_0:=blk_frozen BK363.out 0;have hfz9_1:=blk_frozen BK363.out 1;have hfz9_2:=blk_frozen BK363.out 2;have hfz9_3:=blk_frozen BK363.out 3))
 go_loopg [13] k (fun kq v13 w' => ∃ (x13_1 : Int) (x368000_1 : List (List (S67))) (u368000 : Value),v13 = .int .i64 x13_1 ∧ Aside0 (impl_neighbours.l0 kq l0_3 (l0_3.length : Int) x13_1 x368000_1 = some r) ∧ Aside0 (kq ≤ k) ∧ Aside0 (Kd.S (Kd.slice 67 k67) 62 w' w.heap.size (fun _ => True) u368000 x368000_1) ∧ Aside0 (w'.heap[gb363]? = some (.cells #[.int .i64 a0_0,.int .i64 a0_1,(.slice A0_2 l0_2.length c0_2),(.slice A0_3 l0_3.length c0_3)] 33 (0,0))) ∧ Aside0 (w'.heap[gb367]? = some (.cells #[u368000] 82 (0,0))) ∧ Aside0 (Below w.heap.size w w'))
 case atStart => exact ⟨(0),(y364),(.slice Ao6 y364.length co6),(by first | rfl | (simp;done) | (simp [*];done)),H',⟨Nat.le_refl _⟩,⟨sO (Kd.S_mono (Kd.S_far (p:=⟨gb367,0,none⟩) (Kd.S_types HO366.out BK367.out (by decide)) (fun _ hk => hk.2) (.slice Ao6 y364.length co6)) (fun _ hk => trivial))⟩,⟨by refine bF NB363_367.out ?_;exact bk BK363⟩,⟨by refine bP (cs:=#[.slice none 0 0]) 0 ?_;exact bk BK367⟩,⟨ib⟩⟩
 case round =>
  clear H'
  try clear c2
  try clear p2
  try clear c7
  try clear hcz8_0
  try clear hcz9_0
  try clear hcz9_1
  try clear hcz9_2
  try clear hcz9_3
  try clear hfz8_0
  try clear hfz9_0
  try clear hfz9_1
  try clear hfz9_2
  try clear hfz9_3
  obtain ⟨x13_1,x368000_1,u368000,rfl,HA,HK1,HO_368000,BK363,BK367,HB⟩:=hrel
  cases gk with
  | zero => exact absurd HA.out (by simp [impl_neighbours.l0])
  | succ k1 =>
   have H:=HA.out
   clear HA
   simp only [impl_neighbours.l0] at H
   by_cases c10 : x13_1 < (l0_3.length : Int)
   ·rw [if_pos c10] at H
    have c10b0 : decide (x13_1 < (l0_3.length : Int)) = true:=decide_eq_true c10
    clear c10
    by_cases c11 : 0 ≤ x13_1
    ·rw [if_pos c11] at H
     have c11b0 : decide (0 ≤ x13_1) = true:=decide_eq_true c11
     clear c11
     by_cases c12 : x13_1 < (l0_3.length : Int)
     ·rw [if_pos c12] at H
      have c12b0 : decide (x13_1 < (l0_3.length : Int)) = true:=decide_eq_true c12
      clear c12
      replace H:=Option.bind_eq_some_iff.mp H
      obtain ⟨t370,A130,H⟩:=H
      replace H : (if x368000_1.length < 5864062014805 then (impl_neighbours.l0 k1 l0_3 (l0_3.length : Int) (wrap64 (x13_1 + 1)) (x368000_1 ++ [t370])) else (none)) = some r:=H
      have A13:=Aside0.mk A130
      clear A130
      by_cases c14 : x368000_1.length < 5864062014805
      ·rw [if_pos c14] at H
       have LMc14:=Aside0.mk c14
       clear c14
       obtain ⟨y373,hy373⟩ : ∃ y_ : List (List (S67)),y_ = (x368000_1 ++ [t370]):=⟨_,rfl⟩
       replace H : (impl_neighbours.l0 k1 l0_3 (l0_3.length : Int) (wrap64 (x13_1 + 1)) y373) = some r:=by first | (rw [hy373];with_reducible exact H) | (have H2_:=(Option.bind_some _ _).symm.trans H;rw [hy373];with_reducible exact H2_) | (have H2_:=(Option.bind_some _ _).symm.trans H;with_reducible exact H2_) | with_reducible exact H | (rw [hy373];exact H) | exact H
       have Ny373:=Aside0.mk hy373
       clear hy373
       have H':=Aside0.mk H
       clear H
       have p368 : 0 ≤ (x13_1 : Int):=da
       have q368 : x13_1 < (l0_3.length : Int):=da
       obtain ⟨ad368,A368_1,c368_1,e368,hx368_0,hx368_1,hl368_1,hi368_1⟩:=at_T64 HR0_3.out x13_1 p368 q368
       cases e368
       replace hx368_0:=cq HB.out hx368_0
       replace hx368_1:=cq HB.out hx368_1
       have HR368_1:=Aside0.mk hi368_1
       have HC368_1:=Aside0.mk hl368_1
       clear hi368_1 hl368_1
       replace p368:=eq_true p368
       replace q368:=eq_true q368
       try go_wp2_with (first | ((with_reducible refine gate_dst (N:=5) rfl ?_);refine bx (cs:=#[.string (⟨#[]⟩ : ByteArray),.slice none 0 0]) (t:=64) ?_;intro gb369 hg w15 hbox hb;replace HO_368000:=Aside0.mk (Kd.S_below (sO HO_368000.out) hb);have BK369:=Aside0.mk (hbox);have GW369:=zb hg;have GE369:=zb hg;replace HB:=sb hb;have NB363_369:=nl BK363 hg;have NB369_363:=ng BK363 hg;replace BK363:=kb BK363 hb;have NB367_369:=nl BK367 hg;have NB369_367:=ng BK367 hg;replace BK367:=kb BK367 hb;clear hb hbox hg;have hnb16:=NB369_363.out;have hnc16:=NB363_369.out;have hnb17:=NB369_367.out;have hnc17:=NB367_369.out;have hcz18_0:=ck BK369 0;have hcz18_1:=ck BK369 1;have hfz18_0:=blk_frozen BK369.out 0;have hfz18_1:=blk_frozen BK369.out 1))
       have n0_ : Aside0 (Kd.S (Kd.slice 67 k67) 62 ((w15.setCell ⟨gb369,0,none⟩ (.string ((rd_T64 l0_3 x13_1).f0))).setCell ⟨gb369,1,none⟩ (.slice A368_1 ((rd_T64 l0_3 x13_1).f1).length c368_1)) w.heap.size (fun _ => True) u368000 x368000_1):=⟨sO (Kd.S_mono (Kd.S_far (p:=⟨gb369,1,none⟩) (Kd.S_far (p:=⟨gb369,0,none⟩) (Kd.S_types HO_368000.out BK369.out (by decide)) (fun _ hk => hk.2) (.string ((rd_T64 l0_3 x13_1).f0))) (fun _ hk => hk.2) (.slice A368_1 ((rd_T64 l0_3 x13_1).f1).length c368_1)) (fun _ hk => trivial))⟩
       have n1_ : Aside0 (((w15.setCell ⟨gb369,0,none⟩ (.string ((rd_T64 l0_3 x13_1).f0))).setCell ⟨gb369,1,none⟩ (.slice A368_1 ((rd_T64 l0_3 x13_1).f1).length c368_1)).heap[gb363]? = some (.cells #[.int .i64 a0_0,.int .i64 a0_1,.slice A0_2 l0_2.length c0_2,.slice (some ad368) l0_3.length c0_3] 33 (0,0))):=⟨by refine bF NB363_369.out ?_;refine bF NB363_369.out ?_;exact bk BK363⟩
       have n2_ : Aside0 (((w15.setCell ⟨gb369,0,none⟩ (.string ((rd_T64 l0_3 x13_1).f0))).setCell ⟨gb369,1,none⟩ (.slice A368_1 ((rd_T64 l0_3 x13_1).f1).length c368_1)).heap[gb367]? = some (.cells #[u368000] 82 (0,0))):=⟨by refine bF NB367_369.out ?_;refine bF NB367_369.out ?_;exact bk BK367⟩
       have n3_ : Aside0 (((w15.setCell ⟨gb369,0,none⟩ (.string ((rd_T64 l0_3 x13_1).f0))).setCell ⟨gb369,1,none⟩ (.slice A368_1 ((rd_T64 l0_3 x13_1).f1).length c368_1)).heap[gb369]? = some (.cells #[.string ((rd_T64 l0_3 x13_1).f0),.slice A368_1 ((rd_T64 l0_3 x13_1).f1).length c368_1] 64 (0,0))):=⟨by refine bP (cs:=#[.string ((rd_T64 l0_3 x13_1).f0),.slice none 0 0]) 1 ?_;refine bP (cs:=#[.string (⟨#[]⟩ : ByteArray),.slice none 0 0]) 0 ?_;exact bk BK369⟩
       have n4_ : Aside0 (Below w.heap.size w ((w15.setCell ⟨gb369,0,none⟩ (.string ((rd_T64 l0_3 x13_1).f0))).setCell ⟨gb369,1,none⟩ (.slice A368_1 ((rd_T64 l0_3 x13_1).f1).length c368_1))):=⟨ib⟩
       (try clear HO_368000)
       (try clear BK363)
       (try clear BK367)
       (try clear BK369)
       (try clear HB)
       generalize ((w15.setCell ⟨gb369,0,none⟩ (.string ((rd_T64 l0_3 x13_1).f0))).setCell ⟨gb369,1,none⟩ (.slice A368_1 ((rd_T64 l0_3 x13_1).f1).length c368_1)) = w19 at n0_ n1_ n2_ n3_ n4_ ⊢
       have HO_368000:=n0_
       have BK363:=n1_
       have BK367:=n2_
       have BK369:=n3_
       have HB:=n4_
       clear n0_ n1_ n2_ n3_ n4_
       replace HO_368000:=Aside0.mk (Kd.S_drew HO_368000.out)
       replace BK363:=Aside0.mk (blk_drew BK363.out)
       replace BK367:=Aside0.mk (blk_drew BK367.out)
       replace BK369:=Aside0.mk (blk_drew BK369.out)
       replace HB:=Aside0.mk (below_drew1 HB.out)
       refine start_ (n:=7) (S:=fun w' => w'.cell? ⟨gb367,0,none⟩ = some (u368000) ∧ w'.cell? ⟨gb369,0,none⟩ = some (.string ((rd_T64 l0_3 x13_1).f0)) ∧ w'.cell? ⟨gb369,1,none⟩ = some (.slice A368_1 ((rd_T64 l0_3 x13_1).f1).length c368_1)) (ds:=[6]) #[fF,fF,fF,fF,fF,fF,fF] (by kernel_rfl) rfl rfl ⟨(blk_cell BK367.out 0).trans rfl,(blk_cell BK369.out 0).trans rfl,(blk_cell BK369.out 1).trans rfl⟩ (fun hHeld => ?_)
       generalize w19.drew = w20 at HO_368000 BK363 BK367 BK369 HB hHeld ⊢
       refine pure_ (i:=1) (N:=some 18) (v:=?_) (a':=?_) #[fF,tT,fF,fF,fF,fF,fF] rfl rfl (by kernel_rfl) (fun _ _ _ h => h) (Or.inl ⟨by rfl,?_⟩) ?_ ?_
       rotate_left
       ·intro w'
        go_simp
        with_reducible rfl
       rotate_left
       ·exact pa
       refine take_ (i:=0) (N:=some 17) (v:=?_) (a':=?_) #[tT,tT,fF,fF,fF,fF,fF] rfl rfl (by kernel_rfl) (fun _ _ _ h => h) (Or.inl ⟨by rfl,?_⟩) hHeld ?_ ?_
       rotate_left
       ·rintro w' ⟨s0,s1,s2⟩
        go_simp
        with_reducible rfl
       rotate_left
       ·exact pa
       refine take_ (i:=2) (N:=some 19) (v:=?_) (a':=?_) #[tT,tT,tT,fF,fF,fF,fF] rfl rfl (by kernel_rfl) (fun _ _ _ h => h) (Or.inl ⟨by rfl,?_⟩) hHeld ?_ ?_
       rotate_left
       ·rintro w' ⟨s0,s1,s2⟩
        go_simp
        with_reducible rfl
       rotate_left
       ·exact pa
       refine one_ (i:=3) (N:=some 20) #[tT,tT,tT,tT,fF,fF,fF] rfl rfl (by kernel_rfl) (by decide) (fun K hK => ?_)
       refine goes_ Try.func34 (by kernel_rfl) rfl #[.slice A368_1 ((rd_T64 l0_3 x13_1).f1).length c368_1] (by rfl) rfl rfl (by (try simp only [List.map_toArray,List.map_cons,List.map_nil]);first | done | rfl | (simp only [List.length_drop,List.length_take];rfl)) ?_
       with_reducible refine (impl_ringEdges.calls k1 _ _ ((rd_T64 l0_3 x13_1).f1) t370 _ ?side1 ?side2 A13.out).mono ?_
       (case side1 => repeat (first | exact (Kd.C_below HR368_1.out HB.out) | exact HR368_1.out | (with_reducible refine Kd.C_alloc ?_ _) | (with_reducible refine Kd.C_drewN ?_ _) | (with_reducible refine Kd.C_drew ?_)))
       (case side2 => exact HC368_1.out)
       rintro e w21 ⟨v371,rfl,ho0,hb⟩
       refine ⟨_,rfl,?_⟩
       replace HO_368000:=Aside0.mk (Kd.S_elder' (sO HO_368000.out) (Kd.R_base ho0) hb)
       have HO372:=Aside0.mk (Kd.R_lower ho0 (below_size ib))
       replace BK363:=kb BK363 hb
       replace BK367:=kb BK367 hb
       replace BK369:=kb BK369 hb
       replace HB:=sb hb
       (try clear hb)
       (try clear hb2)
       (try clear hk)
       (try clear hi)
       (try clear ho0)
       obtain ⟨Ao23,co23,eo23⟩:=Kd.R_slice HO372.out
       (first | subst eo23 | (injection eo23 with f1_ f2_ f3_;have f4_:=f1_.symm;have f5_:=f3_.symm;clear f1_ f2_ f3_;subst f4_;subst f5_))
       refine hK.out _ _ ⟨(blk_cell BK367.out 0).trans rfl,(blk_cell BK369.out 0).trans rfl,(blk_cell BK369.out 1).trans rfl⟩ (fun hHeld => ?_)
       clear hK K
       refine norm_ (a':=?_) ?_ ?_
       rotate_left
       ·show Act.put _ (some 20) _ = _
        simp only [Act.put,iT,sZ,sC,i64_w,i32_w]
        rfl
       refine one_ (i:=4) (N:=some 21) #[tT,tT,tT,tT,tT,fF,fF] rfl rfl (by kernel_rfl) (by decide) (fun K hK => ?_)
       refine value_ (w1:=?_) (v:=?_) (by rfl) rfl ?_ ?_
       rotate_left 2
       ·go_simp
        constructor
        ·rfl
        ·rfl
       refine hK.out _ _ ⟨(blk_cell (blk_alloc BK367.out _) 0).trans rfl,(blk_cell (blk_alloc BK369.out _) 0).trans rfl,(blk_cell (blk_alloc BK369.out _) 1).trans rfl⟩ (fun hHeld => ?_)
       clear hK K
       refine norm_ (a':=?_) ?_ ?_
       rotate_left
       ·show Act.put _ (some 21) _ = _
        simp only [Act.put,iT,sZ,sC,i64_w,i32_w]
        rfl
       refine one_ (i:=5) (N:=some 22) #[tT,tT,tT,tT,tT,tT,fF] rfl rfl (by kernel_rfl) (by decide) (fun K hK => ?_)
       refine Kd.S_append_step (Kd.slice 67 k67) (w0:=w) w.heap.size (by rfl) (.tmp 17) (.tmp 21) 82 62 (.slice none 0 0) 24 rfl Try.underlying82 info62 rfl (by decide) (by omega) u368000 x368000_1 t370 [.slice Ao23 t370.length co23] (fun _ => True) (fun k_ => some k_ = (.slice Ao23 t370.length co23 : Value).ownBlock) rfl rfl ?aP (fun k_ hk_ => ((Kd.R_mono (ok':=fun k_ => ((fun _ => True)) k_ ∧ some k_ ≠ (u368000 : Value).ownBlock) (Kd.R_apart' (HO372.out) (Kd.S_typed HO_368000.out) (by decide)) (fun k_ hk => ⟨trivial,hk.2⟩))).1 k_ hk_.symm) ?aF ?aO ?aB ?aS ?aL ?_
       (case aP => exact Kd.M_row (Kd.R_mono (Kd.R_tight rfl (Kd.R_mono (ok':=fun k_ => ((fun _ => True)) k_ ∧ some k_ ≠ (u368000 : Value).ownBlock) (Kd.R_apart' (HO372.out) (Kd.S_typed HO_368000.out) (by decide)) (fun k_ hk => ⟨trivial,hk.2⟩))) (fun _ h_ => h_)))
       (case aB => exact ib)
       (case aF => exact (fun _ _ => trivial))
       (case aO => exact (sO (Kd.S_mono HO_368000.out (fun k_ hk => ⟨trivial,fun e_ => hk.2 e_⟩))))
       (case aS => exact (below_size ib))
       (case aL => have:=LMc14.out;omega)
       intro v374 w22 ho hb hg hat
       rw [← Ny373.out] at ho
       replace BK363:=Aside0.mk (blk_grown (g:=gb363) (o:=.cells #[.int .i64 a0_0,.int .i64 a0_1,.slice A0_2 l0_2.length c0_2,.slice (some ad368) l0_3.length c0_3] 33 (0,0)) (bk BK363) hg (Kd.S_ne HO_368000.out BK363.out (by decide)))
       replace BK367:=Aside0.mk (blk_grown (g:=gb367) (o:=.cells #[u368000] 82 (0,0)) (bk BK367) hg (Kd.S_ne HO_368000.out BK367.out (by decide)))
       replace BK369:=Aside0.mk (blk_grown (g:=gb369) (o:=.cells #[.string ((rd_T64 l0_3 x13_1).f0),.slice A368_1 ((rd_T64 l0_3 x13_1).f1).length c368_1] 64 (0,0)) (bk BK369) hg (Kd.S_ne HO_368000.out BK369.out (by decide)))
       replace HB:=Aside0.mk (hb)
       have HO375:=Aside0.mk (ho)
       clear HO_368000 HO372
       clear ho hb hg hat
       obtain ⟨Ao24,co24,eo24⟩:=Kd.S_slice HO375.out
       (first | subst eo24 | (injection eo24 with f1_ f2_ f3_;have f4_:=f1_.symm;have f5_:=f3_.symm;clear f1_ f2_ f3_;subst f4_;subst f5_))
       refine hK.out _ _ ⟨(blk_cell BK367.out 0).trans rfl,(blk_cell BK369.out 0).trans rfl,(blk_cell BK369.out 1).trans rfl⟩ (fun hHeld => ?_)
       clear hK K
       refine norm_ (a':=?_) ?_ ?_
       rotate_left
       ·show Act.put _ (some 22) _ = _
        simp only [Act.put,iT,sZ,sC,i64_w,i32_w]
        rfl
       refine last_ (i:=6) (N:=none) #[tT,tT,tT,tT,tT,tT,tT] rfl rfl (by kernel_rfl) (by decide) (fun K hK => ?_)
       have hs25 : w22.cell? ⟨gb367,0,none⟩ = some (u368000):=(blk_cell BK367.out 0).trans rfl
       have hfs25:=blk_frozen BK367.out 0
       have hns25_0:=NB363_367.out
       have hns25_2:=NB369_367.out
       have hms25_0:=NB367_363.out
       have hms25_2:=NB367_369.out
       refine skip_ (w1:=?_) (by rfl) rfl ?_ ?_
       rotate_left
       ·go_simp
        rfl
       refine hK.out _ _ ?_
       clear hK K
       refine done_ (by kernel_rfl) ?_
       try go_wp2
       go_roundg k1
       case measure => have:=HK1.out;omega
       case rel => exact ⟨(wrap64 (x13_1 + 1)),(y373),(.slice Ao24 y373.length co24),(by first | rfl | (simp;done) | (simp [*];done)),H',⟨by have:=HK1.out;omega⟩,⟨sO (Kd.S_mono (Kd.S_far (p:=⟨gb367,0,none⟩) (Kd.S_types HO375.out BK367.out (by decide)) (fun _ hk => hk.2) (.slice Ao24 y373.length co24)) (fun _ hk => trivial))⟩,⟨by refine bF NB363_367.out ?_;exact bk BK363⟩,⟨by refine bP (cs:=#[u368000]) 0 ?_;exact bk BK367⟩,⟨ib⟩⟩
      ·rw [if_neg c14] at H
       exact absurd H (by simp)
     ·first | (exfalso;have z_:=of_decide_eq_true c10b0;omega) | (rw [if_neg c12] at H;exact absurd H (by simp))
    ·rw [if_neg c11] at H
     exact absurd H (by simp)
   ·rw [if_neg c10] at H
    have c10b0 : decide (x13_1 < (l0_3.length : Int)) = false:=decide_eq_false c10
    clear c10
    by_cases c26 : 0 ≤ (x368000_1.length : Int)
    ·rw [if_pos c26] at H
     have c26b0:=eq_true c26
     have c26b1 : decide (0 ≤ (x368000_1.length : Int)) = true:=decide_eq_true c26
     clear c26
     by_cases c27 : ((x368000_1.length : Int) : Int).toNat ≤ 11728124029610
     ·rw [if_pos c27] at H
      have c27b0:=eq_true c27
      have c27b1 : decide (((x368000_1.length : Int) : Int).toNat ≤ 11728124029610) = true:=decide_eq_true c27
      clear c27
      obtain ⟨y376,hy376⟩ : ∃ y_ : List (List Int),y_ = (List.replicate ((x368000_1.length : Int) : Int).toNat []):=⟨_,rfl⟩
      replace H : (impl_neighbours.l1 k1 y376 (x368000_1.length : Int) 0 x368000_1) = some r:=by first | (rw [hy376];with_reducible exact H) | (have H2_:=(Option.bind_some _ _).symm.trans H;rw [hy376];with_reducible exact H2_) | (have H2_:=(Option.bind_some _ _).symm.trans H;with_reducible exact H2_) | with_reducible exact H | (rw [hy376];exact H) | exact H
      have Ny376:=Aside0.mk hy376
      clear hy376
      have H':=Aside0.mk H
      clear H
      have hnb28:=NB367_363.out
      have hnc28:=NB363_367.out
      have hcz29_0 : wr.cell? ⟨gb367,0,none⟩ = some (u368000):=(blk_cell BK367.out 0).trans rfl
      have hfz29_0:=blk_frozen BK367.out 0
      obtain ⟨Ao30,co30,eo30⟩:=Kd.S_slice HO_368000.out
      subst eo30
      go_wp2_with (first | ((with_reducible refine gate_dst (N:=26) rfl ?_);refine Kd.S_make (Kd.slice 2 (Kd.int .i64)) _ 27 rfl (N:=26) rfl 40 _ _ rfl (x368000_1.length : Int) rfl rfl Try.underlying40 (.slice none 0 0) 24 info27 rfl (by decide) (by omega) [] (ok:=fun _ => True) (okp:=fun _ => True) ⟨_,rfl,Kd.R_nil _ _ _ _ _⟩ (fun _ hk => hk) trivial (da) (Nat.le_trans (Nat.mul_le_mul_right _ (da : (x368000_1.length : Int).toNat ≤ 11728124029610)) (by omega)) (Below.refl _ _) (Nat.le_refl _) ?_;intro v377 w31 ho32 hb hg_ hnew_;clear hg_ hnew_;(first | rw [← Ny376.out] at ho32 | (simp only [Int.reduceToNat] at ho32;rw [← Ny376.out] at ho32));replace HO_368000:=Aside0.mk (Kd.S_below (sO HO_368000.out) hb);have HO378:=Aside0.mk (Kd.S_lower ho32 (below_size ib));replace BK363:=kb BK363 hb;replace BK367:=kb BK367 hb;replace HB:=sb hb;clear hb ho32;have hcz33_0:=ck BK367 0;have hfz33_0:=blk_frozen BK367.out 0))
      go_loopg [29] k1 (fun kq v29 w' => ∃ (x6_2 : List (List Int)) (x29_2 : Int),v29 = .int .i64 x29_2 ∧ Aside0 (impl_neighbours.l1 kq x6_2 (x368000_1.length : Int) x29_2 x368000_1 = some r) ∧ Aside0 (kq ≤ k1) ∧ Aside0 (Kd.S (Kd.slice 2 (Kd.int .i64)) 27 w' w.heap.size (fun _ => True) v377 x6_2) ∧ Aside0 (Kd.S (Kd.slice 67 k67) 62 w' w.heap.size (fun _ => True) (.slice Ao30 x368000_1.length co30) x368000_1) ∧ Aside0 (w'.heap[gb363]? = some (.cells #[.int .i64 a0_0,.int .i64 a0_1,(.slice A0_2 l0_2.length c0_2),(.slice A0_3 l0_3.length c0_3)] 33 (0,0))) ∧ Aside0 (w'.heap[gb367]? = some (.cells #[(.slice Ao30 x368000_1.length co30)] 82 (0,0))) ∧ Aside0 (Below w.heap.size w w'))
      case atStart => exact ⟨(y376),(0),(by first | rfl | (simp;done) | (simp [*];done)),H',⟨Nat.le_refl _⟩,⟨sO HO378.out⟩,⟨sO HO_368000.out⟩,⟨by exact bk BK363⟩,⟨by exact bk BK367⟩,⟨ib⟩⟩
      case round =>
       clear H'
       try clear c1
       try clear c2
       try clear p2
       try clear c3
       try clear p3
       try clear q3
       try clear hx3
       try clear p6
       try clear c7
       try clear c10
       try clear c10b0
       try clear c11
       try clear c11b0
       try clear c12
       try clear c12b0
       try clear c14
       try clear c16
       try clear c17
       try clear c26
       try clear c26b0
       try clear c26b1
       try clear c27
       try clear c27b0
       try clear c27b1
       try clear c28
       try clear hcz18_0
       try clear hcz18_1
       try clear hcz29_0
       try clear hcz33_0
       try clear hcz8_0
       try clear hcz9_0
       try clear hcz9_1
       try clear hcz9_2
       try clear hcz9_3
       try clear hfz18_0
       try clear hfz18_1
       try clear hfz29_0
       try clear hfz33_0
       try clear hfz8_0
       try clear hfz9_0
       try clear hfz9_1
       try clear hfz9_2
       try clear hfz9_3
       try clear hx368_0
       try clear hx368_1
       try clear p2
       try clear p368
       try clear q368
       obtain ⟨x6_2,x29_2,rfl,HA,HK2,HO_6,HO_368000,BK363,BK367,HB⟩:=hrel
       cases gk with
       | zero => exact absurd HA.out (by simp [impl_neighbours.l1])
       | succ k2 =>
        have H:=HA.out
        clear HA
        simp only [impl_neighbours.l1] at H
        by_cases c34 : x29_2 < (x368000_1.length : Int)
        ·rw [if_pos c34] at H
         have c34b0 : decide (x29_2 < (x368000_1.length : Int)) = true:=decide_eq_true c34
         clear c34
         have H':=Aside0.mk H
         clear H
         have hnb35:=NB367_363.out
         have hnc35:=NB363_367.out
         have hcz36_0 : wr.cell? ⟨gb367,0,none⟩ = some (.slice Ao30 x368000_1.length co30):=(blk_cell BK367.out 0).trans rfl
         have hfz36_0:=blk_frozen BK367.out 0
         go_wp2
         go_loopg [34] k2 (fun kq v34 w' => ∃ (x6_3 : List (List Int)) (x34_3 : Int),v34 = .int .i64 x34_3 ∧ Aside0 (impl_neighbours.l2 kq x6_3 x29_2 (x368000_1.length : Int) x29_2 (x368000_1.length : Int) x34_3 x368000_1 = some r) ∧ Aside0 (kq ≤ k2) ∧ Aside0 (Kd.S (Kd.slice 2 (Kd.int .i64)) 27 w' w.heap.size (fun _ => True) v377 x6_3) ∧ Aside0 (Kd.S (Kd.slice 67 k67) 62 w' w.heap.size (fun _ => True) (.slice Ao30 x368000_1.length co30) x368000_1) ∧ Aside0 (w'.heap[gb363]? = some (.cells #[.int .i64 a0_0,.int .i64 a0_1,(.slice A0_2 l0_2.length c0_2),(.slice A0_3 l0_3.length c0_3)] 33 (0,0))) ∧ Aside0 (w'.heap[gb367]? = some (.cells #[(.slice Ao30 x368000_1.length co30)] 82 (0,0))) ∧ Aside0 (Below w.heap.size w w'))
         case atStart => exact ⟨(x6_2),(0),(by first | rfl | (simp;done) | (simp [*];done)),H',⟨Nat.le_refl _⟩,⟨sO HO_6.out⟩,⟨sO HO_368000.out⟩,⟨by exact bk BK363⟩,⟨by exact bk BK367⟩,⟨ib⟩⟩
         case round =>
          clear H'
          try clear c1
          try clear c2
          try clear p2
          try clear c3
          try clear p3
          try clear q3
          try clear hx3
          try clear p6
          try clear c7
          try clear c10
          try clear c10b0
          try clear c11
          try clear c11b0
          try clear c12
          try clear c12b0
          try clear c14
          try clear c16
          try clear c17
          try clear c26
          try clear c26b0
          try clear c26b1
          try clear c27
          try clear c27b0
          try clear c27b1
          try clear c28
          try clear c34
          try clear c34b0
          try clear c35
          try clear c36
          try clear p36
          try clear q36
          try clear hx36
          try clear hcz18_0
          try clear hcz18_1
          try clear hcz29_0
          try clear hcz33_0
          try clear hcz36_0
          try clear hcz8_0
          try clear hcz9_0
          try clear hcz9_1
          try clear hcz9_2
          try clear hcz9_3
          try clear hfz18_0
          try clear hfz18_1
          try clear hfz29_0
          try clear hfz33_0
          try clear hfz36_0
          try clear hfz8_0
          try clear hfz9_0
          try clear hfz9_1
          try clear hfz9_2
          try clear hfz9_3
          try clear hx368_0
          try clear hx368_1
          try clear p2
          try clear p3
          try clear p368
          try clear p6
          try clear q3
          try clear q368
          obtain ⟨x6_3,x34_3,rfl,HA,HK3,HO_6,HO_368000,BK363,BK367,HB⟩:=hrel
          cases gk with
          | zero => exact absurd HA.out (by simp [impl_neighbours.l2])
          | succ k3 =>
           have H:=HA.out
           clear HA
           simp only [impl_neighbours.l2] at H
           by_cases c37 : x34_3 < (x368000_1.length : Int)
           ·rw [if_pos c37] at H
            have c37b0 : decide (x34_3 < (x368000_1.length : Int)) = true:=decide_eq_true c37
            clear c37
            by_cases c38 : x29_2 = x34_3
            ·rw [if_pos c38] at H
             have c38b0 : (x29_2 == x34_3) = true:=beq_iff_eq.mpr c38
             have c38b1 : (x29_2 != x34_3) = false:=bne_eq_false_iff_eq.mpr c38
             clear c38
             have H':=Aside0.mk H
             clear H
             go_wp2_with (first | ((with_reducible refine gate_dst (N:=8) rfl ?_);refine bx (cs:=#[.int .i64 0]) (t:=3) ?_;intro gb379 hg w39 hbox hb;replace HO_6:=Aside0.mk (Kd.S_below (sO HO_6.out) hb);replace HO_368000:=Aside0.mk (Kd.S_below (sO HO_368000.out) hb);have BK379:=Aside0.mk (hbox);have GW379:=zb hg;have GE379:=zb hg;replace HB:=sb hb;have NB363_379:=nl BK363 hg;have NB379_363:=ng BK363 hg;replace BK363:=kb BK363 hb;have NB367_379:=nl BK367 hg;have NB379_367:=ng BK367 hg;replace BK367:=kb BK367 hb;clear hb hbox hg;have hnb40:=NB379_363.out;have hnc40:=NB363_379.out;have hnb41:=NB379_367.out;have hnc41:=NB367_379.out;have hcz42_0:=ck BK379 0;have hfz42_0:=blk_frozen BK379.out 0))
             go_roundg k3
             case measure => have:=HK1.out;have:=HK2.out;have:=HK3.out;omega
             case rel => exact ⟨(x6_3),(wrap64 (x34_3 + 1)),(by first | rfl | (simp;done) | (simp [*];done)),H',⟨by have:=HK1.out;have:=HK2.out;have:=HK3.out;omega⟩,⟨sO (Kd.S_mono (Kd.S_far (p:=⟨gb379,0,none⟩) (Kd.S_types HO_6.out BK379.out (by decide)) (fun _ hk => hk.2) (.int .i64 x34_3)) (fun _ hk => trivial))⟩,⟨sO (Kd.S_mono (Kd.S_far (p:=⟨gb379,0,none⟩) (Kd.S_types HO_368000.out BK379.out (by decide)) (fun _ hk => hk.2) (.int .i64 x34_3)) (fun _ hk => trivial))⟩,⟨by refine bF NB363_379.out ?_;exact bk BK363⟩,⟨by refine bF NB367_379.out ?_;exact bk BK367⟩,⟨ib⟩⟩
            ·rw [if_neg c38] at H
             have c38b0 : (x29_2 == x34_3) = false:=beq_eq_false_iff_ne.mpr c38
             have c38b1 : (x29_2 != x34_3) = true:=bne_iff_ne.mpr c38
             by_cases c43 : 0 ≤ x29_2
             ·rw [if_pos c43] at H
              have c43b0 : decide (0 ≤ x29_2) = true:=decide_eq_true c43
              clear c43
              by_cases c44 : x29_2 < (x368000_1.length : Int)
              ·rw [if_pos c44] at H
               have c44b0 : decide (x29_2 < (x368000_1.length : Int)) = true:=decide_eq_true c44
               clear c44
               replace H:=Option.bind_eq_some_iff.mp H
               obtain ⟨t381,A450,H⟩:=H
               replace H : (if t381 = true then (if x29_2 < (x6_3.length : Int) then (if (rd_L3 x6_3 x29_2).length < 17592186044416 then (impl_neighbours.l2 k3 (x6_3.set (x29_2 : Int).toNat ((rd_L3 x6_3 x29_2) ++ [x34_3])) x29_2 (x368000_1.length : Int) x29_2 (x368000_1.length : Int) (wrap64 (x34_3 + 1)) x368000_1) else (none)) else (none)) else (impl_neighbours.l2 k3 x6_3 x29_2 (x368000_1.length : Int) x29_2 (x368000_1.length : Int) (wrap64 (x34_3 + 1)) x368000_1)) = some r:=H
               have A45:=Aside0.mk A450
               clear A450
               by_cases c46 : t381 = true
               ·subst c46
                have H1 : (if x29_2 < (x6_3.length : Int) then (if (rd_L3 x6_3 x29_2).length < 17592186044416 then (impl_neighbours.l2 k3 (x6_3.set (x29_2 : Int).toNat ((rd_L3 x6_3 x29_2) ++ [x34_3])) x29_2 (x368000_1.length : Int) x29_2 (x368000_1.length : Int) (wrap64 (x34_3 + 1)) x368000_1) else (none)) else (none)) = some r:=by rw [if_pos rfl] at H;exact H
                clear H
                have H:=H1
                clear H1
                by_cases c47 : x29_2 < (x6_3.length : Int)
                ·rw [if_pos c47] at H
                 have c47b0 : decide (x29_2 < (x6_3.length : Int)) = true:=decide_eq_true c47
                 clear c47
                 by_cases c48 : (rd_L3 x6_3 x29_2).length < 17592186044416
                 ·rw [if_pos c48] at H
                  have LMc48:=Aside0.mk c48
                  clear c48
                  obtain ⟨y383,hy383⟩ : ∃ y_ : List Int,y_ = ((rd_L3 x6_3 x29_2) ++ [x34_3]):=⟨_,rfl⟩
                  replace H : (impl_neighbours.l2 k3 (x6_3.set (x29_2 : Int).toNat y383) x29_2 (x368000_1.length : Int) x29_2 (x368000_1.length : Int) (wrap64 (x34_3 + 1)) x368000_1) = some r:=by first | (rw [hy383];with_reducible exact H) | (have H2_:=(Option.bind_some _ _).symm.trans H;rw [hy383];with_reducible exact H2_) | (have H2_:=(Option.bind_some _ _).symm.trans H;with_reducible exact H2_) | with_reducible exact H | (rw [hy383];exact H) | exact H
                  have Ny383:=Aside0.mk hy383
                  clear hy383
                  obtain ⟨y386,hy386⟩ : ∃ y_ : List (List Int),y_ = (x6_3.set (x29_2 : Int).toNat y383):=⟨_,rfl⟩
                  replace H : (impl_neighbours.l2 k3 y386 x29_2 (x368000_1.length : Int) x29_2 (x368000_1.length : Int) (wrap64 (x34_3 + 1)) x368000_1) = some r:=by first | (rw [hy386];with_reducible exact H) | (have H2_:=(Option.bind_some _ _).symm.trans H;rw [hy386];with_reducible exact H2_) | (have H2_:=(Option.bind_some _ _).symm.trans H;with_reducible exact H2_) | with_reducible exact H | (rw [hy386];exact H) | exact H
                  have Ny386:=Aside0.mk hy386
                  clear hy386
                  have H':=Aside0.mk H
                  clear H
                  try go_wp2_with (first | ((with_reducible refine gate_dst (N:=8) rfl ?_);refine bx (cs:=#[.int .i64 0]) (t:=3) ?_;intro gb379 hg w50 hbox hb;replace HO_6:=Aside0.mk (Kd.S_below (sO HO_6.out) hb);replace HO_368000:=Aside0.mk (Kd.S_below (sO HO_368000.out) hb);have BK379:=Aside0.mk (hbox);have GW379:=zb hg;have GE379:=zb hg;replace HB:=sb hb;have NB363_379:=nl BK363 hg;have NB379_363:=ng BK363 hg;replace BK363:=kb BK363 hb;have NB367_379:=nl BK367 hg;have NB379_367:=ng BK367 hg;replace BK367:=kb BK367 hb;clear hb hbox hg;have hnb51:=NB379_363.out;have hnc51:=NB363_379.out;have hnb52:=NB379_367.out;have hnc52:=NB367_379.out;have hcz53_0:=ck BK379 0;have hfz53_0:=blk_frozen BK379.out 0) | ((with_reducible refine gate_store (t:=3) (p:=8) rfl ?_);refine store_event (t:=3) (p:=8) (v:=?vo_w54) (w1:=(w50.setCell ⟨gb379,0,none⟩ (.int .i64 x34_3))) ?hg ?ho ?hn ?hr ?_;(case ho => rfl);(case hg => rfl);(case hn => rfl);(case hr => first | (go_simp;done) | (go_simp;rfl));intro w54 hw;have n0_ : Aside0 (Kd.S (Kd.slice 2 (Kd.int .i64)) 27 w54 w.heap.size (fun _ => True) v377 x6_3):=⟨(by rw [hw];exact (sO (Kd.S_mono (Kd.S_far (p:=⟨gb379,0,none⟩) (Kd.S_types HO_6.out BK379.out (by decide)) (fun _ hk => hk.2) (.int .i64 x34_3)) (fun _ hk => trivial))))⟩;have n1_ : Aside0 (Kd.S (Kd.slice 67 k67) 62 w54 w.heap.size (fun _ => True) (.slice Ao30 x368000_1.length co30) x368000_1):=⟨(by rw [hw];exact (sO (Kd.S_mono (Kd.S_far (p:=⟨gb379,0,none⟩) (Kd.S_types HO_368000.out BK379.out (by decide)) (fun _ hk => hk.2) (.int .i64 x34_3)) (fun _ hk => trivial))))⟩;have n2_ : Aside0 (w54.heap[gb363]? = some (.cells #[.int .i64 a0_0,.int .i64 a0_1,.slice A0_2 l0_2.length c0_2,.slice A0_3 l0_3.length c0_3] 33 (0,0))):=⟨(by rw [hw];exact (by refine bF NB363_379.out ?_;exact bk BK363))⟩;have n3_ : Aside0 (w54.heap[gb367]? = some (.cells #[.slice Ao30 x368000_1.length co30] 82 (0,0))):=⟨(by rw [hw];exact (by refine bF NB367_379.out ?_;exact bk BK367))⟩;have n4_ : Aside0 (w54.heap[gb379]? = some (.cells #[.int .i64 x34_3] 3 (0,0))):=⟨(by rw [hw];exact (by refine bP (cs:=#[.int .i64 0]) 0 ?_;exact bk BK379))⟩;have n5_ : Aside0 (Below w.heap.size w w54):=⟨(by rw [hw];exact ib)⟩;clear hw;clear HO_6;clear HO_368000;clear BK363;clear BK367;clear BK379;clear HB;have HO_6:=n0_;have HO_368000:=n1_;have BK363:=n2_;have BK367:=n3_;have BK379:=n4_;have HB:=n5_;clear n0_ n1_ n2_ n3_ n4_ n5_;have hcz55_0:=ck BK379 0;have hfz55_0:=blk_frozen BK379.out 0;have hnb56:=NB367_363.out;have hnc56:=NB363_367.out;have hcz57_0:=ck BK367 0;have hfz57_0:=blk_frozen BK367.out 0;have p380 : 0 ≤ (x29_2 : Int):=da;have q380 : x29_2 < (x368000_1.length : Int):=da;obtain ⟨ad380,A380_0,c380_0,e380,hx380_0,hl380_0,hi380_0⟩:=at_L8 (Kd.S_reads' HO_368000.out).2.2 x29_2 p380 q380;cases e380;obtain ⟨ce380,hce380,hMe380,hcc380⟩:=Kd.S_get HO_368000.out [] x29_2 p380 (by first | exact q380 | exact da | (have e_:=(Kd.S_reads' HO_368000.out).1;omega));obtain ⟨ve380_0,rfl,ge380_0⟩:=hMe380;have hv380_0:=hcc380 0 _ rfl;rw [Nat.add_zero,show ((Kd.slice 67 k67)).sz = 1 from rfl,Nat.mul_one] at hv380_0;replace hv380_0:=Option.some.inj (hv380_0.symm.trans hx380_0);rw [hv380_0] at ge380_0;have HL380_0:=Aside0.mk (show Kd.R k67 67 _ _ _ _ (rd_L8 x368000_1 x29_2) from ge380_0);clear hv380_0 ge380_0;have HX380_0:=Aside0.mk hx380_0;clear hcc380 hce380;have HR380_0:=Aside0.mk hi380_0;have HC380_0:=Aside0.mk hl380_0;clear hi380_0 hl380_0;replace p380:=eq_true p380;replace q380:=eq_true q380) | (go_at_call 47;(with_reducible refine (slices_ContainsFunc_2_int64_2_int64.calls k3 _ _ (rd_L8 x368000_1 x29_2) (x368000_1,x34_3) true _ ?side1 ?side2 ?side3 ?side4 A45.out).mono ?_);(case side1 => repeat (first | exact (by repeat (first | (with_reducible exact HR380_0.out) | (with_reducible refine Kd.C_alloc ?_ _) | (with_reducible refine Kd.C_drewN ?_ _) | (with_reducible refine Kd.C_drew ?_) | exact HR380_0.out)) | (with_reducible refine Kd.C_alloc ?_ _) | (with_reducible refine Kd.C_drewN ?_ _) | (with_reducible refine Kd.C_drew ?_)));(case side2 => exact HC380_0.out);(case side3 => refine ⟨_,_,(blk_cell (bk BK367) 0).trans rfl,?_⟩;exact cO ((Kd.S_reads' HO_368000.out).2.2));(case side4 => exact (blk_cell (bk BK379) 0).trans rfl);rintro e w58 ⟨rfl,hb⟩;replace HO_6:=Aside0.mk (Kd.S_below (sO HO_6.out) hb);replace HO_368000:=Aside0.mk (Kd.S_below (sO HO_368000.out) hb);replace HL380_0:=Aside0.mk (Kd.R_below (rO HL380_0.out) hb);replace BK363:=kb BK363 hb;replace BK367:=kb BK367 hb;replace BK379:=kb BK379 hb;replace HR380_0:=Aside0.mk (Kd.C_below (by repeat (first | (with_reducible exact HR380_0.out) | (with_reducible refine Kd.C_alloc ?_ _) | (with_reducible refine Kd.C_drewN ?_ _) | (with_reducible refine Kd.C_drew ?_) | exact HR380_0.out)) hb);replace HX380_0:=Aside0.mk (pw_cell_below hb HX380_0.out);replace HB:=sb hb;(try clear hb);(try clear hb2);(try clear hk);(try clear hi)))
                  replace HO_6:=Aside0.mk (Kd.S_drew HO_6.out)
                  replace HO_368000:=Aside0.mk (Kd.S_drew HO_368000.out)
                  replace HL380_0:=Aside0.mk (Kd.R_drew HL380_0.out)
                  replace BK363:=Aside0.mk (blk_drew BK363.out)
                  replace BK367:=Aside0.mk (blk_drew BK367.out)
                  replace BK379:=Aside0.mk (blk_drew BK379.out)
                  replace HR380_0:=Aside0.mk (Kd.C_drew HR380_0.out)
                  replace HB:=Aside0.mk (below_drew1 HB.out)
                  obtain ⟨Ao60,co60,eo60⟩:=Kd.S_slice HO_6.out
                  (first | subst eo60 | (injection eo60 with f1_ f2_ f3_;have f4_:=f1_.symm;have f5_:=f3_.symm;clear f1_ f2_ f3_;subst f4_;subst f5_))
                  have p382 : 0 ≤ (x29_2 : Int):=da
                  have q382 : x29_2 < (x6_3.length : Int):=da
                  obtain ⟨ad382,A382_0,c382_0,e382,hx382_0,hl382_0,hi382_0⟩:=at_L3 (Kd.S_reads' HO_6.out).2.2 x29_2 p382 q382
                  cases e382
                  obtain ⟨ce382,hce382,hMe382,hcc382⟩:=Kd.S_get HO_6.out [] x29_2 p382 (by first | exact q382 | exact da | (have e_:=(Kd.S_reads' HO_6.out).1;omega))
                  obtain ⟨ve382_0,rfl,ge382_0⟩:=hMe382
                  have hv382_0:=hcc382 0 _ rfl
                  rw [Nat.add_zero,show ((Kd.slice 2 (Kd.int .i64))).sz = 1 from rfl,Nat.mul_one] at hv382_0
                  replace hv382_0:=Option.some.inj (hv382_0.symm.trans hx382_0)
                  rw [hv382_0] at ge382_0
                  have HL382_0:=Aside0.mk (show Kd.R (Kd.int .i64) 2 _ _ _ _ (rd_L3 x6_3 x29_2) from ge382_0)
                  clear hv382_0 ge382_0
                  have HX382_0:=Aside0.mk hx382_0
                  clear hcc382 hce382
                  have HR382_0:=Aside0.mk hi382_0
                  have HC382_0:=Aside0.mk hl382_0
                  clear hi382_0 hl382_0
                  replace p382:=eq_true p382
                  replace q382:=eq_true q382
                  obtain ⟨go61,co61,eo61,gb61,gl61,cl61,HG61⟩:=Kd.S_form HO_6.out (by have h_ : (x29_2 : Int) < ((x6_3.length : Int) : Int):=da;have h2_ : 0 ≤ (x29_2 : Int):=(da);omega)
                  (first | cases eo61 | (injection eo61 with ea_ en_ ec_;(first | subst ea_ | (injection ea_ with ea_;subst ea_));subst ec_;clear en_))
                  have GB61:=Aside0.mk gb61
                  have GG61:=Aside0.mk HG61
                  clear gb61 gl61 HG61
                  (first | simp only [add_plain] at hx382_0 | skip)
                  obtain ⟨oki61,ce61,hcl61,hM61,hcc61,_,_,hH61⟩:=Kd.S_elem HO_6.out [] (x29_2 : Int) (da) (by have h_ : (x29_2 : Int) < ((x6_3.length : Int) : Int):=da;first | exact h_ | (have e_:=(Kd.S_reads' HO_6.out).1;omega) | simpa using h_)
                  obtain ⟨ve61_0,rfl,ge61_0⟩:=hM61
                  have hv61:=hcc61 0 _ rfl
                  have hX61:=HX382_0.out
                  (try simp only [add_plain] at hX61)
                  (try simp only [Nat.add_zero] at hv61)
                  (try rw [show ((Kd.slice 2 (Kd.int .i64))).sz = 1 from rfl,Nat.mul_one] at hv61)
                  replace hv61:=Option.some.inj (hv61.symm.trans hX61)
                  subst hv61
                  clear hX61 hcc61 hcl61
                  have UU61:=Aside0.mk (show Kd.R (Kd.int .i64) 2 _ w.heap.size oki61 (.slice A382_0 (rd_L3 x6_3 x29_2).length c382_0) (rd_L3 x6_3 x29_2) from ge61_0)
                  have HH61:=Aside0.mk hH61
                  have HN61:=Aside0.mk (Kd.S_reads' HO_6.out).1
                  clear hH61 ge61_0
                  refine start_ (n:=11) (S:=fun w' => w'.cell? ⟨gb379,0,none⟩ = some (.int .i64 x34_3) ∧ w'.cell? ⟨go61,(x29_2).toNat,none⟩ = some (.slice A382_0 (rd_L3 x6_3 x29_2).length c382_0)) (ds:=[10]) #[fF,fF,fF,fF,fF,fF,fF,fF,fF,fF,fF] (by kernel_rfl) rfl rfl ⟨(blk_cell BK379.out 0).trans rfl,hx382_0⟩ (fun hHeld => ?_);refine with_tabW impl_neighbours.tab15 impl_neighbours.bits15 (fun HT_ HW_ => ?_)
                  generalize w58.drew = w59 at HO_6 HO_368000 HL380_0 BK363 BK367 BK379 HR380_0 HB GG61 HH61 HL382_0 HR382_0 HX382_0 UU61 hx382_0 hHeld ⊢
                  refine pu 0 48 HT_ ?_
                  refine pu 1 49 HT_ ?_
                  refine pu 2 50 HT_ ?_
                  refine pu 3 51 HT_ ?_
                  refine pu 4 52 HT_ ?_
                  refine tk 5 53 HT_ HW_ hHeld ?_
                  refine tk 6 54 HT_ HW_ hHeld ?_
                  refine on 7 55 HT_ (fun K hK => ?_)
                  refine value_ (w1:=?_) (v:=?_) (by rfl) rfl ?_ ?_
                  rotate_left 2
                  ·go_simp
                   constructor
                   ·rfl
                   ·rfl
                  refine hK.out _ _ ⟨(blk_cell (blk_alloc BK379.out _) 0).trans rfl,(World.cell?_alloc_lt _ _ _ (bL _ _ (hHeld.2))).trans (hHeld.2)⟩ (fun hHeld => ?_)
                  clear hK K
                  refine norm_ (a':=?_) ?_ ?_
                  rotate_left
                  ·show Act.put _ (some 55) _ = _
                   simp only [Act.put,iT,sZ,sC,i64_w,i32_w]
                   rfl
                  refine on 8 56 HT_ (fun K hK => ?_)
                  refine Kd.R_append_step (Kd.int .i64) (w0:=w) w.heap.size (by rfl) (.tmp 53) (.tmp 55) 27 2 (.int .i64 0) 8 rfl Try.underlying27 info2 rfl (by decide) (by omega) (.slice A382_0 (rd_L3 x6_3 x29_2).length c382_0) (rd_L3 x6_3 x29_2) x34_3 [.int .i64 x34_3] (fun k_ => oki61 k_ ∨ ((fun _ => True)) k_ ∧ w59.heap.size ≤ k_) (fun _ => False) rfl rfl ?aP (fun _ hk => hk.elim) ?aF ?aO ?aB ?aS ?aL ?_
                  (case aP => exact rfl)
                  (case aB => exact ib)
                  (case aF => exact (fun k_ hk => .inr ⟨trivial,hk⟩))
                  (case aO => exact (rO (Kd.R_mono UU61.out (fun _ hk => .inl hk))))
                  (case aS => exact (below_size ib))
                  (case aL => have:=LMc48.out;omega)
                  intro v384 w62 ho hb hg hat
                  (first | have HS1_:=cell_grown hg (hHeld.2) (by first | (rw [add_block];exact (fun e_ => ((HL382_0.out.1 _ e_.symm).2) rfl)) | (show some (Addr.add _ _).block ≠ _;rw [add_block];exact (fun e_ => ((HL382_0.out.1 _ e_.symm).2) rfl)) | exact (fun e_ => ((HL382_0.out.1 _ e_.symm).2) rfl)) | have HS1_:=cell_grown hg (cell_unalloc (hHeld.2) (by first | (rw [add_block];exact Kd.S_lt HO_6.out _ rfl) | (show (Addr.add _ _).block < _;rw [add_block];exact Kd.S_lt HO_6.out _ rfl) | exact Kd.S_lt HO_6.out _ rfl)) (by first | (rw [add_block];exact (fun e_ => ((HL382_0.out.1 _ e_.symm).2) rfl)) | (show some (Addr.add _ _).block ≠ _;rw [add_block];exact (fun e_ => ((HL382_0.out.1 _ e_.symm).2) rfl)) | exact (fun e_ => ((HL382_0.out.1 _ e_.symm).2) rfl)))
                  rw [← Ny383.out] at ho
                  replace HO_368000:=Aside0.mk (Kd.S_over' (v:=(.slice A382_0 (rd_L3 x6_3 x29_2).length c382_0)) (sO HO_368000.out) (Kd.R_typed HL382_0.out) (by decide) hg)
                  replace BK363:=Aside0.mk (blk_grown (g:=gb363) (o:=.cells #[.int .i64 a0_0,.int .i64 a0_1,.slice A0_2 l0_2.length c0_2,.slice A0_3 l0_3.length c0_3] 33 (0,0)) (bk BK363) hg (Kd.R_ne HL382_0.out BK363.out (by decide)))
                  replace BK367:=Aside0.mk (blk_grown (g:=gb367) (o:=.cells #[.slice (some ad380) x368000_1.length co30] 82 (0,0)) (bk BK367) hg (Kd.R_ne HL382_0.out BK367.out (by decide)))
                  replace BK379:=Aside0.mk (blk_grown (g:=gb379) (o:=.cells #[.int .i64 x34_3] 3 (0,0)) (bk BK379) hg (Kd.R_ne HL382_0.out BK379.out (by decide)))
                  replace HB:=Aside0.mk (hb)
                  replace HH61:=Aside0.mk (Kd.H_grown (Kd.H_widen (by repeat (first | exact HH61.out | refine Kd.H_alloc ?_ _ | refine Kd.H_drewN ?_ _ | refine Kd.H_drew ?_))) hg (fun k_ e_ => .inl (UU61.out.1 k_ e_)))
                  have HO385:=Aside0.mk (ho)
                  clear HO_6 UU61 HL380_0 HL382_0
                  clear ho hb hg hat
                  have p49 : 0 ≤ (x29_2 : Int):=da
                  have q49 : (x29_2 : Int) < ((x6_3.length : Int) : Int):=da
                  replace p49:=eq_true p49
                  replace q49:=eq_true q49
                  obtain ⟨Ao65,co65,eo65⟩:=Kd.R_slice HO385.out
                  (first | subst eo65 | (injection eo65 with f1_ f2_ f3_;have f4_:=f1_.symm;have f5_:=f3_.symm;clear f1_ f2_ f3_;subst f4_;subst f5_))
                  obtain ⟨_,_,hraw63,_,_,hcc63,_⟩:=Kd.H_raw HH61.out (da) (by have h_ : (x29_2 : Int) < ((x6_3.length : Int) : Int):=da;first | exact h_ | (have e_:=(HN61.out);omega) | simpa using h_)
                  obtain ⟨_,hfr63⟩:=Kd.H_at HH61.out (da) (by have h_ : (x29_2 : Int) < ((x6_3.length : Int) : Int):=da;first | exact h_ | (have e_:=(HN61.out);omega) | simpa using h_)
                  have hx63_0:=hcc63 0 _ rfl
                  have hf63_0:=hfr63 0
                  (try simp only [Nat.add_zero] at hx63_0 hf63_0)
                  (try rw [show ((Kd.slice 2 (Kd.int .i64))).sz = 1 from rfl,Nat.mul_one] at hx63_0)
                  (try rw [show ((Kd.slice 2 (Kd.int .i64))).sz = 1 from rfl,Nat.mul_one] at hf63_0)
                  have HP63:=Kd.S_seg0 HH61.out (da) (by have h_ : (x29_2 : Int) < ((x6_3.length : Int) : Int):=da;first | exact h_ | (have e_:=(HN61.out);omega) | simpa using h_) (seg:=[.slice Ao65 y383.length co65]) (j:=0) (show 1 ≤ 1 from by decide) (x':=y383) (Kd.M_row HO385.out) (fun _ hk => hk)
                  (try simp only [show ((Kd.slice 2 (Kd.int .i64))).sz = 1 from rfl,Nat.mul_one,Nat.add_zero] at HP63)
                  clear hcc63 hfr63
                  have HNB363_go61:=Aside0.mk (show gb363 ≠ go61 from by have h_:=Kd.R_ne hraw63 BK363.out (by decide);intro e_;exact h_ (by rw [e_];rfl))
                  have HNB367_go61:=Aside0.mk (show gb367 ≠ go61 from by have h_:=Kd.R_ne hraw63 BK367.out (by decide);intro e_;exact h_ (by rw [e_];rfl))
                  have HNB379_go61:=Aside0.mk (show gb379 ≠ go61 from by have h_:=Kd.R_ne hraw63 BK379.out (by decide);intro e_;exact h_ (by rw [e_];rfl))
                  have HS63:=HP63.1
                  rw [← Ny386.out] at HS63
                  have HQ63:=Aside0.mk HS63
                  obtain ⟨_,hgg63⟩:=Kd.R_typed hraw63 go61 rfl
                  have GG63_:=Aside0.mk hgg63
                  clear HP63 HS63 hgg63
                  refine hK.out _ _ ⟨(blk_cell BK379.out 0).trans rfl,HS1_⟩ (fun hHeld => ?_)
                  clear hK K
                  refine norm_ (a':=?_) ?_ ?_
                  rotate_left
                  ·show Act.put _ (some 56) _ = _
                   simp only [Act.put,iT,sZ,sC,i64_w,i32_w]
                   rfl
                  refine pu 9 57 HT_ ?_
                  refine last_ (i:=10) (N:=none) #[tT,tT,tT,tT,tT,tT,tT,tT,tT,tT,tT] rfl rfl (one_of HT_.out (by kernel_rfl)) (by decide) (fun K hK => ?_)
                  refine skip_ (w1:=?_) (by rfl) rfl ?_ ?_
                  rotate_left
                  ·go_simp
                   rfl
                  refine hK.out _ _ ?_
                  clear hK K
                  refine done_ (done_of HT_.out (by kernel_rfl)) ?_
                  try go_wp2
                  go_roundg k3
                  case measure => have:=HK1.out;have:=HK2.out;have:=HK3.out;omega
                  case rel => exact ⟨(y386),(wrap64 (x34_3 + 1)),(by first | rfl | (simp;done) | (simp [*];done)),H',⟨by have:=HK1.out;have:=HK2.out;have:=HK3.out;omega⟩,⟨sO HQ63.out⟩,⟨sO (Kd.S_mono (Kd.S_far (p:=⟨go61,(x29_2 : Int).toNat,none⟩) (Kd.S_types HO_368000.out GG63_.out (by decide)) (fun _ hk => hk.2) (.slice Ao65 y383.length co65)) (fun _ hk => trivial))⟩,⟨by refine bF HNB363_go61.out ?_;exact bk BK363⟩,⟨by refine bF HNB367_go61.out ?_;exact bk BK367⟩,⟨by repeat (first | (with_reducible first | exact HB.out | apply below_alloc | apply pw_below_drewN | apply below_drew1 | refine below_set ?_ GB61.out | refine below_set ?_ GE363.out | refine below_set ?_ GE367.out | refine below_set ?_ GE379.out) | exact HB.out)⟩⟩
                 ·rw [if_neg c48] at H
                  exact absurd H (by simp)
                ·rw [if_neg c47] at H
                 exact absurd H (by simp)
               ·replace c46:=Bool.eq_false_iff.mpr c46
                subst c46
                have H1 : (impl_neighbours.l2 k3 x6_3 x29_2 (x368000_1.length : Int) x29_2 (x368000_1.length : Int) (wrap64 (x34_3 + 1)) x368000_1) = some r:=by rw [if_neg (show ¬ (false = true) by decide)] at H;exact H
                clear H
                have H:=H1
                clear H1
                have H':=Aside0.mk H
                clear H
                go_wp2_with (first | ((with_reducible refine gate_dst (N:=8) rfl ?_);refine bx (cs:=#[.int .i64 0]) (t:=3) ?_;intro gb379 hg w66 hbox hb;replace HO_6:=Aside0.mk (Kd.S_below (sO HO_6.out) hb);replace HO_368000:=Aside0.mk (Kd.S_below (sO HO_368000.out) hb);have BK379:=Aside0.mk (hbox);have GW379:=zb hg;have GE379:=zb hg;replace HB:=sb hb;have NB363_379:=nl BK363 hg;have NB379_363:=ng BK363 hg;replace BK363:=kb BK363 hb;have NB367_379:=nl BK367 hg;have NB379_367:=ng BK367 hg;replace BK367:=kb BK367 hb;clear hb hbox hg;have hnb67:=NB379_363.out;have hnc67:=NB363_379.out;have hnb68:=NB379_367.out;have hnc68:=NB367_379.out;have hcz69_0:=ck BK379 0;have hfz69_0:=blk_frozen BK379.out 0) | ((with_reducible refine gate_store (t:=3) (p:=8) rfl ?_);refine store_event (t:=3) (p:=8) (v:=?vo_w70) (w1:=(w66.setCell ⟨gb379,0,none⟩ (.int .i64 x34_3))) ?hg ?ho ?hn ?hr ?_;(case ho => rfl);(case hg => rfl);(case hn => rfl);(case hr => first | (go_simp;done) | (go_simp;rfl));intro w70 hw;have n0_ : Aside0 (Kd.S (Kd.slice 2 (Kd.int .i64)) 27 w70 w.heap.size (fun _ => True) v377 x6_3):=⟨(by rw [hw];exact (sO (Kd.S_mono (Kd.S_far (p:=⟨gb379,0,none⟩) (Kd.S_types HO_6.out BK379.out (by decide)) (fun _ hk => hk.2) (.int .i64 x34_3)) (fun _ hk => trivial))))⟩;have n1_ : Aside0 (Kd.S (Kd.slice 67 k67) 62 w70 w.heap.size (fun _ => True) (.slice Ao30 x368000_1.length co30) x368000_1):=⟨(by rw [hw];exact (sO (Kd.S_mono (Kd.S_far (p:=⟨gb379,0,none⟩) (Kd.S_types HO_368000.out BK379.out (by decide)) (fun _ hk => hk.2) (.int .i64 x34_3)) (fun _ hk => trivial))))⟩;have n2_ : Aside0 (w70.heap[gb363]? = some (.cells #[.int .i64 a0_0,.int .i64 a0_1,.slice A0_2 l0_2.length c0_2,.slice A0_3 l0_3.length c0_3] 33 (0,0))):=⟨(by rw [hw];exact (by refine bF NB363_379.out ?_;exact bk BK363))⟩;have n3_ : Aside0 (w70.heap[gb367]? = some (.cells #[.slice Ao30 x368000_1.length co30] 82 (0,0))):=⟨(by rw [hw];exact (by refine bF NB367_379.out ?_;exact bk BK367))⟩;have n4_ : Aside0 (w70.heap[gb379]? = some (.cells #[.int .i64 x34_3] 3 (0,0))):=⟨(by rw [hw];exact (by refine bP (cs:=#[.int .i64 0]) 0 ?_;exact bk BK379))⟩;have n5_ : Aside0 (Below w.heap.size w w70):=⟨(by rw [hw];exact ib)⟩;clear hw;clear HO_6;clear HO_368000;clear BK363;clear BK367;clear BK379;clear HB;have HO_6:=n0_;have HO_368000:=n1_;have BK363:=n2_;have BK367:=n3_;have BK379:=n4_;have HB:=n5_;clear n0_ n1_ n2_ n3_ n4_ n5_;have hcz71_0:=ck BK379 0;have hfz71_0:=blk_frozen BK379.out 0;have hnb72:=NB367_363.out;have hnc72:=NB363_367.out;have hcz73_0:=ck BK367 0;have hfz73_0:=blk_frozen BK367.out 0;have p380 : 0 ≤ (x29_2 : Int):=da;have q380 : x29_2 < (x368000_1.length : Int):=da;obtain ⟨ad380,A380_0,c380_0,e380,hx380_0,hl380_0,hi380_0⟩:=at_L8 (Kd.S_reads' HO_368000.out).2.2 x29_2 p380 q380;cases e380;obtain ⟨ce380,hce380,hMe380,hcc380⟩:=Kd.S_get HO_368000.out [] x29_2 p380 (by first | exact q380 | exact da | (have e_:=(Kd.S_reads' HO_368000.out).1;omega));obtain ⟨ve380_0,rfl,ge380_0⟩:=hMe380;have hv380_0:=hcc380 0 _ rfl;rw [Nat.add_zero,show ((Kd.slice 67 k67)).sz = 1 from rfl,Nat.mul_one] at hv380_0;replace hv380_0:=Option.some.inj (hv380_0.symm.trans hx380_0);rw [hv380_0] at ge380_0;have HL380_0:=Aside0.mk (show Kd.R k67 67 _ _ _ _ (rd_L8 x368000_1 x29_2) from ge380_0);clear hv380_0 ge380_0;have HX380_0:=Aside0.mk hx380_0;clear hcc380 hce380;have HR380_0:=Aside0.mk hi380_0;have HC380_0:=Aside0.mk hl380_0;clear hi380_0 hl380_0;replace p380:=eq_true p380;replace q380:=eq_true q380) | (go_at_call 47;(with_reducible refine (slices_ContainsFunc_2_int64_2_int64.calls k3 _ _ (rd_L8 x368000_1 x29_2) (x368000_1,x34_3) false _ ?side1 ?side2 ?side3 ?side4 A45.out).mono ?_);(case side1 => repeat (first | exact (by repeat (first | (with_reducible exact HR380_0.out) | (with_reducible refine Kd.C_alloc ?_ _) | (with_reducible refine Kd.C_drewN ?_ _) | (with_reducible refine Kd.C_drew ?_) | exact HR380_0.out)) | (with_reducible refine Kd.C_alloc ?_ _) | (with_reducible refine Kd.C_drewN ?_ _) | (with_reducible refine Kd.C_drew ?_)));(case side2 => exact HC380_0.out);(case side3 => refine ⟨_,_,(blk_cell (bk BK367) 0).trans rfl,?_⟩;exact cO ((Kd.S_reads' HO_368000.out).2.2));(case side4 => exact (blk_cell (bk BK379) 0).trans rfl);rintro e w74 ⟨rfl,hb⟩;replace HO_6:=Aside0.mk (Kd.S_below (sO HO_6.out) hb);replace HO_368000:=Aside0.mk (Kd.S_below (sO HO_368000.out) hb);replace HL380_0:=Aside0.mk (Kd.R_below (rO HL380_0.out) hb);replace BK363:=kb BK363 hb;replace BK367:=kb BK367 hb;replace BK379:=kb BK379 hb;replace HR380_0:=Aside0.mk (Kd.C_below (by repeat (first | (with_reducible exact HR380_0.out) | (with_reducible refine Kd.C_alloc ?_ _) | (with_reducible refine Kd.C_drewN ?_ _) | (with_reducible refine Kd.C_drew ?_) | exact HR380_0.out)) hb);replace HX380_0:=Aside0.mk (pw_cell_below hb HX380_0.out);replace HB:=sb hb;(try clear hb);(try clear hb2);(try clear hk);(try clear hi)))
                go_roundg k3
                case measure => have:=HK1.out;have:=HK2.out;have:=HK3.out;omega
                case rel => exact ⟨(x6_3),(wrap64 (x34_3 + 1)),(by first | rfl | (simp;done) | (simp [*];done)),H',⟨by have:=HK1.out;have:=HK2.out;have:=HK3.out;omega⟩,⟨sO HO_6.out⟩,⟨sO HO_368000.out⟩,⟨by exact bk BK363⟩,⟨by exact bk BK367⟩,⟨ib⟩⟩
              ·first | (exfalso;have z_:=of_decide_eq_true c34b0;omega) | (rw [if_neg c44] at H;exact absurd H (by simp))
             ·rw [if_neg c43] at H
              exact absurd H (by simp)
           ·rw [if_neg c37] at H
            have c37b0 : decide (x34_3 < (x368000_1.length : Int)) = false:=decide_eq_false c37
            clear c37
            have H':=Aside0.mk H
            clear H
            go_wp2
            go_roundg k3
            case measure => have:=HK1.out;have:=HK2.out;have:=HK3.out;omega
            case rel => exact ⟨(x6_3),(wrap64 (x29_2 + 1)),(by first | rfl | (simp;done) | (simp [*];done)),H',⟨by have:=HK1.out;have:=HK2.out;have:=HK3.out;omega⟩,⟨sO HO_6.out⟩,⟨sO HO_368000.out⟩,⟨by exact bk BK363⟩,⟨by exact bk BK367⟩,⟨ib⟩⟩
        ·rw [if_neg c34] at H
         have c34b0 : decide (x29_2 < (x368000_1.length : Int)) = false:=decide_eq_false c34
         clear c34
         obtain rfl:=Option.some.inj H
         go_wp2
         go_ret
         exact ⟨_,by first | rfl | (simp [errW_none,errW_some] <;> rfl) | (simp [*,errW_none,errW_some] <;> rfl),sO HO_6.out,ib⟩
     ·rw [if_neg c27] at H
      exact absurd H (by simp)
    ·rw [if_neg c26] at H
     exact absurd H (by simp)
end Go.Proofs.Ytpeebobdbaemiaa.PFnExactNeighboursOf
