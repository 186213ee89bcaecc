/- Contracts of functions that FnExactDisjoint reaches, out of the lines of the kit's print. -/
import Derived.Test.YtnnchaggdnlfmaaQFnExactDisjointx0
import Derived.Test.YtnnchaggdnlfmaaQFnExactDisjointx7
namespace Go.Proofs.Ytnnchaggdnlfmaa.PFnExactDisjoint
open Go.RowKit Go.Proofs.YtnnchaggdnlfmaaW.PrintWords Go.Proofs.YtnnchaggdnlfmaaW.PrintLast Go.Proofs.YtnnchaggdnlfmaaW.PrintMore
open Bool renaming true → tT, false → fF
open Go.World renaming block_lt_of_cell? → bL
open List renaming setIfInBounds_toArray → iT, set_cons_zero → sZ, set_cons_succ → sC
attribute [local go_sem] max2_int min2_int max_two min_two max_three min_three max_four min_four
set_option linter.unusedVariables false
set_option linter.unusedSimpArgs false
mutual
def spec_l04Triangles.l0 : Nat → List (S73) → List (List (S73)) → Option ((List (List (S73))))
 | 0,_,_ => none
 | k + 1,x3,x4 => if (x3.length : Int) > 3 then (spec_l04Triangles.l1 k x3 x4 (x3.length : Int) 0) else ((some (([] : List (S73)) : List (S73))).bind fun y196 => (if y196.length + x3.length < 8796093022208 then (if x4.length < 5864062014805 then (some (x4 ++ [(y196 ++ x3)])) else (none)) else (none)))
def spec_l04Triangles.l1 : Nat → List (S73) → List (List (S73)) → Int → Int → Option ((List (List (S73))))
 | 0,_,_,_,_ => none
 | k + 1,x3,x4,x5,x6 => if x6 < (wrap64 (x5 - 1)) then ((spec_l04Ear.f k x3 x6).bind fun t205 => (if t205 = true then (if x5 = 0 then (none) else (if 0 ≤ (Int.tmod (wrap64 ((wrap64 (x6 + x5)) - 1)) x5) then (if (Int.tmod (wrap64 ((wrap64 (x6 + x5)) - 1)) x5) < (x3.length : Int) then (if 0 ≤ x6 then (if x6 < (x3.length : Int) then (if 0 ≤ (Int.tmod (wrap64 (x6 + 1)) x5) then (if (Int.tmod (wrap64 (x6 + 1)) x5) < (x3.length : Int) then (if x4.length < 5864062014805 then ((some (([] : List (S73)) : List (S73))).bind fun y215 => (if x6 ≤ (x3.length : Int) then ((some (x3.take (x6 : Int).toNat : List (S73))).bind fun y218 => (if y215.length + y218.length < 8796093022208 then ((some (y215 ++ y218 : List (S73))).bind fun y222 => (if 0 ≤ (wrap64 (x6 + 1)) then (if (wrap64 (x6 + 1)) ≤ (x3.length : Int) then ((some (x3.drop ((wrap64 (x6 + 1)) : Int).toNat : List (S73))).bind fun y225 => (if y222.length + y225.length < 8796093022208 then (spec_l04Triangles.l0 k (y222 ++ y225) (x4 ++ [(([(⟨(rd_T73 x3 (Int.tmod (wrap64 ((wrap64 (x6 + x5)) - 1)) x5)).f0,(rd_T73 x3 (Int.tmod (wrap64 ((wrap64 (x6 + x5)) - 1)) x5)).f1⟩ : S73),(⟨(rd_T73 x3 x6).f0,(rd_T73 x3 x6).f1⟩ : S73),(⟨(rd_T73 x3 (Int.tmod (wrap64 (x6 + 1)) x5)).f0,(rd_T73 x3 (Int.tmod (wrap64 (x6 + 1)) x5)).f1⟩ : S73)] : List (S73)))])) else (none))) else (none)) else (none))) else (none))) else (none))) else (none)) else (none)) else (none)) else (none)) else (none)) else (none)) else (none))) else (spec_l04Triangles.l1 k x3 x4 x5 (wrap64 (x6 + 1))))) else (if x5 = 0 then (none) else (if 0 ≤ (Int.tmod (wrap64 ((wrap64 (x6 + x5)) - 1)) x5) then (if (Int.tmod (wrap64 ((wrap64 (x6 + x5)) - 1)) x5) < (x3.length : Int) then (if 0 ≤ x6 then (if x6 < (x3.length : Int) then (if 0 ≤ (Int.tmod (wrap64 (x6 + 1)) x5) then (if (Int.tmod (wrap64 (x6 + 1)) x5) < (x3.length : Int) then (if x4.length < 5864062014805 then ((some (([] : List (S73)) : List (S73))).bind fun y241 => (if x6 ≤ (x3.length : Int) then ((some (x3.take (x6 : Int).toNat : List (S73))).bind fun y244 => (if y241.length + y244.length < 8796093022208 then ((some (y241 ++ y244 : List (S73))).bind fun y248 => (if 0 ≤ (wrap64 (x6 + 1)) then (if (wrap64 (x6 + 1)) ≤ (x3.length : Int) then ((some (x3.drop ((wrap64 (x6 + 1)) : Int).toNat : List (S73))).bind fun y251 => (if y248.length + y251.length < 8796093022208 then (spec_l04Triangles.l0 k (y248 ++ y251) (x4 ++ [(([(⟨(rd_T73 x3 (Int.tmod (wrap64 ((wrap64 (x6 + x5)) - 1)) x5)).f0,(rd_T73 x3 (Int.tmod (wrap64 ((wrap64 (x6 + x5)) - 1)) x5)).f1⟩ : S73),(⟨(rd_T73 x3 x6).f0,(rd_T73 x3 x6).f1⟩ : S73),(⟨(rd_T73 x3 (Int.tmod (wrap64 (x6 + 1)) x5)).f0,(rd_T73 x3 (Int.tmod (wrap64 (x6 + 1)) x5)).f1⟩ : S73)] : List (S73)))])) else (none))) else (none)) else (none))) else (none))) else (none))) else (none)) else (none)) else (none)) else (none)) else (none)) else (none)) else (none)))
end
def spec_l04Triangles.f (k : Nat) (l0 : List (S73)) : Option ((List (List (S73)))):=(some (([] : List (S73)) : List (S73))).bind fun y187 => (if y187.length + l0.length < 8796093022208 then (spec_l04Triangles.l0 k (y187 ++ l0) (([] : List (List (S73))))) else (none))
def spec_l04Triangles.T8 : Bool × List (List Nat × List Nat):=(true,[([],[]),([],[]),([],[]),([],[]),([2,3],[2,3]),([4],[4]),([],[]),([5,6],[5,6]),([1,7],[1,7]),([8],[8]),([],[]),([],[]),([10,11],[10,11]),([12],[12]),([],[]),([],[]),([15],[15]),([],[]),([16,17],[16,17]),([14,18],[14,18]),([19],[19]),([9,13,20],[9,13,20]),([21],[21]),([0,22],[0,22]),([23,23,0,1,2,3,4,5,6,7,8,9,10,11,12,13,14,15,16,17,18,19,20,21,22,23],[0,23])])
def spec_l04Triangles.B8 : List Nat:=[0,0,0,0,12,28,0,124,254,510,0,0,3072,7168,0,0,32768,0,229376,507904,1032192,2097150,4194302,8388607,16777215]
theorem spec_l04Triangles.tab8 : rtab .any (opsOf Try.f65 8) = spec_l04Triangles.T8:=by kernel_rfl
theorem spec_l04Triangles.bits8 : waitsOk spec_l04Triangles.T8.2 spec_l04Triangles.B8 = true:=by kernel_rfl
set_option maxHeartbeats 8000000 in
set_option maxRecDepth 100000 in
theorem spec_l04Triangles.calls (k : Nat) (A0 : Option Addr) (c0 : Nat) (l0 : List (S73)) (r : List (List (S73))) (w : World) (hr0 : Kd.C k73 w A0 l0.length l0) (hc0 : l0.length ≤ c0) (h : spec_l04Triangles.f k l0 = some r) :
  Calls Try.prog 65 #[.slice A0 l0.length c0] w fun e w' => ∃ v0_ : Value,e = .returned (v0_) ∧ Kd.S (Kd.slice 73 k73) 25 w' w.heap.size (fun _ => True) v0_ r ∧ Below w.heap.size w w':=by
 have hu73:=Try.underlying73
 have HR0:=Aside0.mk hr0
 have HC0:=Aside0.mk hc0
 clear hr0 hc0
 have HB:=Aside0.mk (Below.refl w.heap.size w)
 have H : ((some (([] : List (S73)) : List (S73))).bind fun y187 => (if y187.length + l0.length < 8796093022208 then (spec_l04Triangles.l0 k (y187 ++ l0) (([] : List (List (S73))))) else (none))) = some r:=h
 clear h
 obtain ⟨y187,hy187⟩ : ∃ y_ : List (S73),y_ = (([] : List (S73))):=⟨_,rfl⟩
 replace H : (if y187.length + l0.length < 8796093022208 then (spec_l04Triangles.l0 k (y187 ++ l0) (([] : List (List (S73))))) else (none)) = some r:=by first | (rw [hy187];with_reducible exact H) | (have H2_:=(Option.bind_some _ _).symm.trans H;rw [hy187];with_reducible exact H2_) | (have H2_:=(Option.bind_some _ _).symm.trans H;with_reducible exact H2_) | with_reducible exact H | (rw [hy187];exact H) | exact H
 have Ny187:=Aside0.mk hy187
 clear hy187
 by_cases c2 : y187.length + l0.length < 8796093022208
 ·rw [if_pos c2] at H
  have LMc2:=Aside0.mk c2
  clear c2
  obtain ⟨y190,hy190⟩ : ∃ y_ : List (S73),y_ = (y187 ++ l0):=⟨_,rfl⟩
  replace H : (spec_l04Triangles.l0 k y190 (([] : List (List (S73))))) = some r:=by first | (rw [hy190];with_reducible exact H) | (have H2_:=(Option.bind_some _ _).symm.trans H;rw [hy190];with_reducible exact H2_) | (have H2_:=(Option.bind_some _ _).symm.trans H;with_reducible exact H2_) | with_reducible exact H | (rw [hy190];exact H) | exact H
  have Ny190:=Aside0.mk hy190
  clear hy190
  obtain ⟨y193,hy193⟩ : ∃ y_ : List (List (S73)),y_ = (([] : List (List (S73)))):=⟨_,rfl⟩
  replace H : (spec_l04Triangles.l0 k y190 y193) = some r:=by first | (rw [hy193];with_reducible exact H) | (have H2_:=(Option.bind_some _ _).symm.trans H;rw [hy193];with_reducible exact H2_) | (have H2_:=(Option.bind_some _ _).symm.trans H;with_reducible exact H2_) | with_reducible exact H | (rw [hy193];exact H) | exact H
  have Ny193:=Aside0.mk hy193
  clear hy193
  have H':=Aside0.mk H
  clear H
  go_enter Try.func65,Try.ntmps65
  go_wp2_with (first | ((with_reducible refine gate_dst (N:=8) rfl ?_);refine Kd.R_lit k73 _ 73 ?hg (N:=8) ?hd (xs:=([] : List (S73))) (inner:=[]) (ok:=fun _ => True) (okp:=fun _ => True) ?hr ?hp (fun _ hk => hk) trivial (Below.refl _ _) (Nat.le_refl _) (by simp) ?_;(case hd => rfl);(case hg => rfl);(case hr => first | (go_simp;done) | (go_simp;rfl));(case hp => exact (Reps.none _ _));intro v188 w3 ho4 hb hg_ hnew_;clear hg_ hnew_;(first | rw [← Ny187.out] at ho4 | (simp only [Int.reduceToNat] at ho4;rw [← Ny187.out] at ho4));have HO189:=Aside0.mk (Kd.R_lower ho4 (below_size ib));replace HB:=sb hb;clear hb ho4) | ((with_reducible refine gate_builtin (b:=.append) (xs:=#[.tmp 8,.tmp 9]) rfl ?_);at_builtin;refine Kd.R_append_rows k73 (w0:=w) w.heap.size rfl (.tmp 8) (.tmp 9) 25 73 (.agg #[(.int .i64 0),(.int .i64 0)]) 16 rfl Try.underlying25 info73 rfl (by decide) (by omega) v188 y187 l0 _ _ _ (fun _ => True) (fun _ => False) rfl rfl ?aO ?aR (fun _ _ h => h) (fun _ h => h.elim) ?aF ?aB ?aS ?aL ?_;(case aR => exact cO ((Kd.C_below HR0.out HB.out)));(case aB => exact ib);(case aF => exact (fun _ _ => trivial));(case aO => exact (rO HO189.out));(case aS => exact (below_size ib));(case aL => have:=LMc2.out;omega);intro v191 w5 ho hb hg hat;rw [← Ny190.out] at ho;replace HB:=Aside0.mk (hb);have HO192:=Aside0.mk (ho);clear HO189;clear ho hb hg hat) | ((with_reducible refine gate_dst (N:=11) rfl ?_);refine Kd.S_lit (Kd.slice 73 k73) _ 25 ?hg (N:=11) ?hd (xs:=([] : List (List (S73)))) (inner:=[]) (ok:=fun _ => True) (okp:=fun _ => True) ?hr ?hp (fun _ hk => hk) trivial (Below.refl _ _) (Nat.le_refl _) (by simp) ?_;(case hd => rfl);(case hg => rfl);(case hr => first | (go_simp;done) | (go_simp;rfl));(case hp => exact (Reps.none _ _));intro v194 w6 ho7 hb hg_ hnew_;clear hg_ hnew_;(first | rw [← Ny193.out] at ho7 | (simp only [Int.reduceToNat] at ho7;rw [← Ny193.out] at ho7));have HO195:=Aside0.mk (Kd.S_lower (Kd.S_new' ho7 (Kd.R_lt (rO HO192.out))) (below_size ib));replace HO192:=Aside0.mk (Kd.R_below (rO HO192.out) hb);replace HB:=sb hb;clear hb ho7))
  go_loopg [3,4] k (fun kq v3 v4 w' => ∃ (x3_1 : List (S73)) (x4_1 : List (List (S73))),Aside0 (spec_l04Triangles.l0 kq x3_1 x4_1 = some r) ∧ Aside0 (kq ≤ k) ∧ Aside0 (Kd.R k73 73 w' w.heap.size (fun _ => True) v3 x3_1) ∧ Aside0 (Kd.S (Kd.slice 73 k73) 25 w' w.heap.size (fun k_ => some k_ ≠ (v3 : Value).ownBlock) v4 x4_1) ∧ Aside0 (Below w.heap.size w w'))
  case atStart => exact ⟨(y190),(y193),H',⟨Nat.le_refl _⟩,⟨rO HO192.out⟩,⟨sO (Kd.S_mono HO195.out (fun _ hk => hk.2))⟩,⟨ib⟩⟩
  case round =>
   clear H'
   try clear c2
   try clear p2
   try clear c6
   obtain ⟨x3_1,x4_1,HA,HK1,HO_3,HO_4,HB⟩:=hrel
   cases gk with
   | zero => exact absurd HA.out (by simp [spec_l04Triangles.l0])
   | succ k1 =>
    have H:=HA.out
    clear HA
    simp only [spec_l04Triangles.l0] at H
    by_cases c8 : (x3_1.length : Int) > 3
    ·rw [if_pos c8] at H
     have c8b0 : decide (3 < (x3_1.length : Int)) = true:=decide_eq_true c8
     have c8b1 : decide (3 < x3_1.length) = true:=decide_eq_true (by omega)
     clear c8
     have H':=Aside0.mk H
     clear H
     obtain ⟨Ao9,co9,eo9⟩:=Kd.R_slice HO_3.out
     subst eo9
     go_wp2
     go_loopg [6] k1 (fun kq v6 w' => ∃ (x6_2 : Int),v6 = .int .i64 x6_2 ∧ Aside0 (spec_l04Triangles.l1 kq x3_1 x4_1 (x3_1.length : Int) x6_2 = some r) ∧ Aside0 (kq ≤ k1) ∧ Aside0 (Kd.R k73 73 w' w.heap.size (fun _ => True) (.slice Ao9 x3_1.length co9) x3_1) ∧ Aside0 (Kd.S (Kd.slice 73 k73) 25 w' w.heap.size (fun k_ => some k_ ≠ ((.slice Ao9 x3_1.length co9) : Value).ownBlock) u4 x4_1) ∧ Aside0 (Below w.heap.size w w'))
     case atStart => exact ⟨(0),(by first | rfl | (simp;done) | (simp [*];done)),H',⟨Nat.le_refl _⟩,⟨rO HO_3.out⟩,⟨sO HO_4.out⟩,⟨ib⟩⟩
     case round =>
      clear H'
      try clear c2
      try clear p2
      try clear c6
      try clear c8
      try clear c8b0
      try clear c8b1
      try clear p2
      obtain ⟨x6_2,rfl,HA,HK2,HO_3,HO_4,HB⟩:=hrel
      cases gk with
      | zero => exact absurd HA.out (by simp [spec_l04Triangles.l1])
      | succ k2 =>
       have H:=HA.out
       clear HA
       simp only [spec_l04Triangles.l1] at H
       by_cases c10 : x6_2 < (wrap64 ((x3_1.length : Int) - 1))
       ·rw [if_pos c10] at H
        have c10b0 : decide (x6_2 < (wrap64 ((x3_1.length : Int) - 1))) = true:=decide_eq_true c10
        clear c10
        replace H:=Option.bind_eq_some_iff.mp H
        obtain ⟨t205,A110,H⟩:=H
        replace H : (if t205 = true then (if (x3_1.length : Int) = 0 then (none) else (if 0 ≤ (Int.tmod (wrap64 ((wrap64 (x6_2 + (x3_1.length : Int))) - 1)) (x3_1.length : Int)) then (if (Int.tmod (wrap64 ((wrap64 (x6_2 + (x3_1.length : Int))) - 1)) (x3_1.length : Int)) < (x3_1.length : Int) then (if 0 ≤ x6_2 then (if x6_2 < (x3_1.length : Int) then (if 0 ≤ (Int.tmod (wrap64 (x6_2 + 1)) (x3_1.length : Int)) then (if (Int.tmod (wrap64 (x6_2 + 1)) (x3_1.length : Int)) < (x3_1.length : Int) then (if x4_1.length < 5864062014805 then ((some (([] : List (S73)) : List (S73))).bind fun y215 => (if x6_2 ≤ (x3_1.length : Int) then ((some (x3_1.take (x6_2 : Int).toNat : List (S73))).bind fun y218 => (if y215.length + y218.length < 8796093022208 then ((some (y215 ++ y218 : List (S73))).bind fun y222 => (if 0 ≤ (wrap64 (x6_2 + 1)) then (if (wrap64 (x6_2 + 1)) ≤ (x3_1.length : Int) then ((some (x3_1.drop ((wrap64 (x6_2 + 1)) : Int).toNat : List (S73))).bind fun y225 => (if y222.length + y225.length < 8796093022208 then (spec_l04Triangles.l0 k2 (y222 ++ y225) (x4_1 ++ [(([(⟨(rd_T73 x3_1 (Int.tmod (wrap64 ((wrap64 (x6_2 + (x3_1.length : Int))) - 1)) (x3_1.length : Int))).f0,(rd_T73 x3_1 (Int.tmod (wrap64 ((wrap64 (x6_2 + (x3_1.length : Int))) - 1)) (x3_1.length : Int))).f1⟩ : S73),(⟨(rd_T73 x3_1 x6_2).f0,(rd_T73 x3_1 x6_2).f1⟩ : S73),(⟨(rd_T73 x3_1 (Int.tmod (wrap64 (x6_2 + 1)) (x3_1.length : Int))).f0,(rd_T73 x3_1 (Int.tmod (wrap64 (x6_2 + 1)) (x3_1.length : Int))).f1⟩ : S73)] : List (S73)))])) else (none))) else (none)) else (none))) else (none))) else (none))) else (none)) else (none)) else (none)) else (none)) else (none)) else (none)) else (none))) else (spec_l04Triangles.l1 k2 x3_1 x4_1 (x3_1.length : Int) (wrap64 (x6_2 + 1)))) = some r:=H
        have A11:=Aside0.mk A110
        clear A110
        by_cases c12 : t205 = true
        ·subst c12
         have H1 : (if (x3_1.length : Int) = 0 then (none) else (if 0 ≤ (Int.tmod (wrap64 ((wrap64 (x6_2 + (x3_1.length : Int))) - 1)) (x3_1.length : Int)) then (if (Int.tmod (wrap64 ((wrap64 (x6_2 + (x3_1.length : Int))) - 1)) (x3_1.length : Int)) < (x3_1.length : Int) then (if 0 ≤ x6_2 then (if x6_2 < (x3_1.length : Int) then (if 0 ≤ (Int.tmod (wrap64 (x6_2 + 1)) (x3_1.length : Int)) then (if (Int.tmod (wrap64 (x6_2 + 1)) (x3_1.length : Int)) < (x3_1.length : Int) then (if x4_1.length < 5864062014805 then ((some (([] : List (S73)) : List (S73))).bind fun y215 => (if x6_2 ≤ (x3_1.length : Int) then ((some (x3_1.take (x6_2 : Int).toNat : List (S73))).bind fun y218 => (if y215.length + y218.length < 8796093022208 then ((some (y215 ++ y218 : List (S73))).bind fun y222 => (if 0 ≤ (wrap64 (x6_2 + 1)) then (if (wrap64 (x6_2 + 1)) ≤ (x3_1.length : Int) then ((some (x3_1.drop ((wrap64 (x6_2 + 1)) : Int).toNat : List (S73))).bind fun y225 => (if y222.length + y225.length < 8796093022208 then (spec_l04Triangles.l0 k2 (y222 ++ y225) (x4_1 ++ [(([(⟨(rd_T73 x3_1 (Int.tmod (wrap64 ((wrap64 (x6_2 + (x3_1.length : Int))) - 1)) (x3_1.length : Int))).f0,(rd_T73 x3_1 (Int.tmod (wrap64 ((wrap64 (x6_2 + (x3_1.length : Int))) - 1)) (x3_1.length : Int))).f1⟩ : S73),(⟨(rd_T73 x3_1 x6_2).f0,(rd_T73 x3_1 x6_2).f1⟩ : S73),(⟨(rd_T73 x3_1 (Int.tmod (wrap64 (x6_2 + 1)) (x3_1.length : Int))).f0,(rd_T73 x3_1 (Int.tmod (wrap64 (x6_2 + 1)) (x3_1.length : Int))).f1⟩ : S73)] : List (S73)))])) else (none))) else (none)) else (none))) else (none))) else (none))) else (none)) else (none)) else (none)) else (none)) else (none)) else (none)) else (none))) = some r:=by rw [if_pos rfl] at H;exact H
         clear H
         have H:=H1
         clear H1
         by_cases c13 : (x3_1.length : Int) = 0
         ·rw [if_pos c13] at H
          exact absurd H (by simp)
         ·rw [if_neg c13] at H
          have c13b0 : ((x3_1.length : Int) == 0) = false:=beq_eq_false_iff_ne.mpr c13
          have c13b1 : ((x3_1.length : Int) != 0) = true:=bne_iff_ne.mpr c13
          have c13b2 : ¬ (x3_1 = []):=fun h_ => c13 (by rw [h_];rfl)
          obtain ⟨ji14,hji14⟩ : ∃ j_ : Int,(Int.tmod (wrap64 ((wrap64 (x6_2 + (x3_1.length : Int))) - 1)) (x3_1.length : Int)) = j_:=⟨_,rfl⟩
          replace H : (if 0 ≤ (ji14) then (if (ji14) < (x3_1.length : Int) then (if 0 ≤ x6_2 then (if x6_2 < (x3_1.length : Int) then (if 0 ≤ (Int.tmod (wrap64 (x6_2 + 1)) (x3_1.length : Int)) then (if (Int.tmod (wrap64 (x6_2 + 1)) (x3_1.length : Int)) < (x3_1.length : Int) then (if x4_1.length < 5864062014805 then ((some (([] : List (S73)) : List (S73))).bind fun y215 => (if x6_2 ≤ (x3_1.length : Int) then ((some (x3_1.take (x6_2 : Int).toNat : List (S73))).bind fun y218 => (if y215.length + y218.length < 8796093022208 then ((some (y215 ++ y218 : List (S73))).bind fun y222 => (if 0 ≤ (wrap64 (x6_2 + 1)) then (if (wrap64 (x6_2 + 1)) ≤ (x3_1.length : Int) then ((some (x3_1.drop ((wrap64 (x6_2 + 1)) : Int).toNat : List (S73))).bind fun y225 => (if y222.length + y225.length < 8796093022208 then (spec_l04Triangles.l0 k2 (y222 ++ y225) (x4_1 ++ [(([(⟨(rd_T73 x3_1 (ji14)).f0,(rd_T73 x3_1 (ji14)).f1⟩ : S73),(⟨(rd_T73 x3_1 x6_2).f0,(rd_T73 x3_1 x6_2).f1⟩ : S73),(⟨(rd_T73 x3_1 (Int.tmod (wrap64 (x6_2 + 1)) (x3_1.length : Int))).f0,(rd_T73 x3_1 (Int.tmod (wrap64 (x6_2 + 1)) (x3_1.length : Int))).f1⟩ : S73)] : List (S73)))])) else (none))) else (none)) else (none))) else (none))) else (none))) else (none)) else (none)) else (none)) else (none)) else (none)) else (none)) else (none)) = some r:=by first | (rw [hji14] at H;exact H) | (simp only [hji14] at H ⊢;exact H)
          (try rw [hji14] at A11)
          by_cases c15 : 0 ≤ (ji14)
          ·rw [if_pos c15] at H
           have c15b0 : decide (0 ≤ (ji14)) = true:=decide_eq_true c15
           clear c15
           by_cases c16 : (ji14) < (x3_1.length : Int)
           ·rw [if_pos c16] at H
            have c16b0 : decide ((ji14) < (x3_1.length : Int)) = true:=decide_eq_true c16
            clear c16
            by_cases c17 : 0 ≤ x6_2
            ·rw [if_pos c17] at H
             have c17b0 : decide (0 ≤ x6_2) = true:=decide_eq_true c17
             clear c17
             by_cases c18 : x6_2 < (x3_1.length : Int)
             ·rw [if_pos c18] at H
              have c18b0 : decide (x6_2 < (x3_1.length : Int)) = true:=decide_eq_true c18
              clear c18
              obtain ⟨ji19,hji19⟩ : ∃ j_ : Int,(Int.tmod (wrap64 (x6_2 + 1)) (x3_1.length : Int)) = j_:=⟨_,rfl⟩
              replace H : (if 0 ≤ (ji19) then (if (ji19) < (x3_1.length : Int) then (if x4_1.length < 5864062014805 then ((some (([] : List (S73)) : List (S73))).bind fun y215 => (if x6_2 ≤ (x3_1.length : Int) then ((some (x3_1.take (x6_2 : Int).toNat : List (S73))).bind fun y218 => (if y215.length + y218.length < 8796093022208 then ((some (y215 ++ y218 : List (S73))).bind fun y222 => (if 0 ≤ (wrap64 (x6_2 + 1)) then (if (wrap64 (x6_2 + 1)) ≤ (x3_1.length : Int) then ((some (x3_1.drop ((wrap64 (x6_2 + 1)) : Int).toNat : List (S73))).bind fun y225 => (if y222.length + y225.length < 8796093022208 then (spec_l04Triangles.l0 k2 (y222 ++ y225) (x4_1 ++ [(([(⟨(rd_T73 x3_1 (ji14)).f0,(rd_T73 x3_1 (ji14)).f1⟩ : S73),(⟨(rd_T73 x3_1 x6_2).f0,(rd_T73 x3_1 x6_2).f1⟩ : S73),(⟨(rd_T73 x3_1 (ji19)).f0,(rd_T73 x3_1 (ji19)).f1⟩ : S73)] : List (S73)))])) else (none))) else (none)) else (none))) else (none))) else (none))) else (none)) else (none)) else (none)) = some r:=by first | (rw [hji19] at H;exact H) | (simp only [hji19] at H ⊢;exact H)
              (try rw [hji19] at A11)
              by_cases c20 : 0 ≤ (ji19)
              ·rw [if_pos c20] at H
               have c20b0 : decide (0 ≤ (ji19)) = true:=decide_eq_true c20
               clear c20
               by_cases c21 : (ji19) < (x3_1.length : Int)
               ·rw [if_pos c21] at H
                have c21b0 : decide ((ji19) < (x3_1.length : Int)) = true:=decide_eq_true c21
                clear c21
                obtain ⟨y209,hy209⟩ : ∃ y_ : List (S73),y_ = (([(⟨(rd_T73 x3_1 (ji14)).f0,(rd_T73 x3_1 (ji14)).f1⟩ : S73),(⟨(rd_T73 x3_1 x6_2).f0,(rd_T73 x3_1 x6_2).f1⟩ : S73),(⟨(rd_T73 x3_1 (ji19)).f0,(rd_T73 x3_1 (ji19)).f1⟩ : S73)] : List (S73))):=⟨_,rfl⟩
                replace H : (if x4_1.length < 5864062014805 then ((some (([] : List (S73)) : List (S73))).bind fun y215 => (if x6_2 ≤ (x3_1.length : Int) then ((some (x3_1.take (x6_2 : Int).toNat : List (S73))).bind fun y218 => (if y215.length + y218.length < 8796093022208 then ((some (y215 ++ y218 : List (S73))).bind fun y222 => (if 0 ≤ (wrap64 (x6_2 + 1)) then (if (wrap64 (x6_2 + 1)) ≤ (x3_1.length : Int) then ((some (x3_1.drop ((wrap64 (x6_2 + 1)) : Int).toNat : List (S73))).bind fun y225 => (if y222.length + y225.length < 8796093022208 then (spec_l04Triangles.l0 k2 (y222 ++ y225) (x4_1 ++ [y209])) else (none))) else (none)) else (none))) else (none))) else (none))) else (none)) = some r:=by first | (rw [hy209];with_reducible exact H) | (have H2_:=(Option.bind_some _ _).symm.trans H;rw [hy209];with_reducible exact H2_) | (have H2_:=(Option.bind_some _ _).symm.trans H;with_reducible exact H2_) | with_reducible exact H | (rw [hy209];exact H) | exact H
                have Ny209:=Aside0.mk hy209
                clear hy209
                by_cases c22 : x4_1.length < 5864062014805
                ·rw [if_pos c22] at H
                 have LMc22:=Aside0.mk c22
                 clear c22
                 obtain ⟨y212,hy212⟩ : ∃ y_ : List (List (S73)),y_ = (x4_1 ++ [y209]):=⟨_,rfl⟩
                 replace H : ((some (([] : List (S73)) : List (S73))).bind fun y215 => (if x6_2 ≤ (x3_1.length : Int) then ((some (x3_1.take (x6_2 : Int).toNat : List (S73))).bind fun y218 => (if y215.length + y218.length < 8796093022208 then ((some (y215 ++ y218 : List (S73))).bind fun y222 => (if 0 ≤ (wrap64 (x6_2 + 1)) then (if (wrap64 (x6_2 + 1)) ≤ (x3_1.length : Int) then ((some (x3_1.drop ((wrap64 (x6_2 + 1)) : Int).toNat : List (S73))).bind fun y225 => (if y222.length + y225.length < 8796093022208 then (spec_l04Triangles.l0 k2 (y222 ++ y225) y212) else (none))) else (none)) else (none))) else (none))) else (none))) = some r:=by first | (rw [hy212];with_reducible exact H) | (have H2_:=(Option.bind_some _ _).symm.trans H;rw [hy212];with_reducible exact H2_) | (have H2_:=(Option.bind_some _ _).symm.trans H;with_reducible exact H2_) | with_reducible exact H | (rw [hy212];exact H) | exact H
                 have Ny212:=Aside0.mk hy212
                 clear hy212
                 obtain ⟨y215,hy215⟩ : ∃ y_ : List (S73),y_ = (([] : List (S73))):=⟨_,rfl⟩
                 replace H : (if x6_2 ≤ (x3_1.length : Int) then ((some (x3_1.take (x6_2 : Int).toNat : List (S73))).bind fun y218 => (if y215.length + y218.length < 8796093022208 then ((some (y215 ++ y218 : List (S73))).bind fun y222 => (if 0 ≤ (wrap64 (x6_2 + 1)) then (if (wrap64 (x6_2 + 1)) ≤ (x3_1.length : Int) then ((some (x3_1.drop ((wrap64 (x6_2 + 1)) : Int).toNat : List (S73))).bind fun y225 => (if y222.length + y225.length < 8796093022208 then (spec_l04Triangles.l0 k2 (y222 ++ y225) y212) else (none))) else (none)) else (none))) else (none))) else (none)) = some r:=by first | (rw [hy215];with_reducible exact H) | (have H2_:=(Option.bind_some _ _).symm.trans H;rw [hy215];with_reducible exact H2_) | (have H2_:=(Option.bind_some _ _).symm.trans H;with_reducible exact H2_) | with_reducible exact H | (rw [hy215];exact H) | exact H
                 have Ny215:=Aside0.mk hy215
                 clear hy215
                 have c23b0:=eq_true (da : 0 ≤ x6_2)
                 by_cases c24 : x6_2 ≤ (x3_1.length : Int)
                 ·rw [if_pos c24] at H
                  have c24b0:=eq_true c24
                  have c24b1 : decide (x6_2 ≤ (x3_1.length : Int)) = true:=decide_eq_true c24
                  clear c24
                  obtain ⟨y218,hy218⟩ : ∃ y_ : List (S73),y_ = (x3_1.take (x6_2 : Int).toNat):=⟨_,rfl⟩
                  replace H : (if y215.length + y218.length < 8796093022208 then ((some (y215 ++ y218 : List (S73))).bind fun y222 => (if 0 ≤ (wrap64 (x6_2 + 1)) then (if (wrap64 (x6_2 + 1)) ≤ (x3_1.length : Int) then ((some (x3_1.drop ((wrap64 (x6_2 + 1)) : Int).toNat : List (S73))).bind fun y225 => (if y222.length + y225.length < 8796093022208 then (spec_l04Triangles.l0 k2 (y222 ++ y225) y212) else (none))) else (none)) else (none))) else (none)) = some r:=by first | (rw [hy218];with_reducible exact H) | (have H2_:=(Option.bind_some _ _).symm.trans H;rw [hy218];with_reducible exact H2_) | (have H2_:=(Option.bind_some _ _).symm.trans H;with_reducible exact H2_) | with_reducible exact H | (rw [hy218];exact H) | exact H
                  have Ny218:=Aside0.mk hy218
                  clear hy218
                  by_cases c25 : y215.length + y218.length < 8796093022208
                  ·rw [if_pos c25] at H
                   have LMc25:=Aside0.mk c25
                   clear c25
                   obtain ⟨y222,hy222⟩ : ∃ y_ : List (S73),y_ = (y215 ++ y218):=⟨_,rfl⟩
                   replace H : (if 0 ≤ (wrap64 (x6_2 + 1)) then (if (wrap64 (x6_2 + 1)) ≤ (x3_1.length : Int) then ((some (x3_1.drop ((wrap64 (x6_2 + 1)) : Int).toNat : List (S73))).bind fun y225 => (if y222.length + y225.length < 8796093022208 then (spec_l04Triangles.l0 k2 (y222 ++ y225) y212) else (none))) else (none)) else (none)) = some r:=by first | (rw [hy222];with_reducible exact H) | (have H2_:=(Option.bind_some _ _).symm.trans H;rw [hy222];with_reducible exact H2_) | (have H2_:=(Option.bind_some _ _).symm.trans H;with_reducible exact H2_) | with_reducible exact H | (rw [hy222];exact H) | exact H
                   have Ny222:=Aside0.mk hy222
                   clear hy222
                   obtain ⟨ji26,hji26⟩ : ∃ j_ : Int,(wrap64 (x6_2 + 1)) = j_:=⟨_,rfl⟩
                   have hji19vji26 : (Int.tmod ji26 (x3_1.length : Int)) = ji19:=by first | (rw [← hji26];exact hji19) | exact hji19
                   replace H : (if 0 ≤ (ji26) then (if (ji26) ≤ (x3_1.length : Int) then ((some (x3_1.drop ((ji26) : Int).toNat : List (S73))).bind fun y225 => (if y222.length + y225.length < 8796093022208 then (spec_l04Triangles.l0 k2 (y222 ++ y225) y212) else (none))) else (none)) else (none)) = some r:=by first | (rw [hji26] at H;exact H) | (simp only [hji26] at H ⊢;exact H)
                   (try rw [hji26] at A11)
                   have hji26w : (IntKind.i64.wrap (x6_2 + 1)) = ji26:=(i64_w _).trans hji26
                   by_cases c27 : 0 ≤ (ji26)
                   ·rw [if_pos c27] at H
                    have c27b0:=eq_true c27
                    have c27b1 : decide (0 ≤ (ji26)) = true:=decide_eq_true c27
                    clear c27
                    by_cases c28 : (ji26) ≤ (x3_1.length : Int)
                    ·rw [if_pos c28] at H
                     have c28b0:=eq_true c28
                     have c28b1 : decide ((ji26) ≤ (x3_1.length : Int)) = true:=decide_eq_true c28
                     clear c28
                     obtain ⟨y225,hy225⟩ : ∃ y_ : List (S73),y_ = (x3_1.drop ((ji26) : Int).toNat):=⟨_,rfl⟩
                     replace H : (if y222.length + y225.length < 8796093022208 then (spec_l04Triangles.l0 k2 (y222 ++ y225) y212) else (none)) = some r:=by first | (rw [hy225];with_reducible exact H) | (have H2_:=(Option.bind_some _ _).symm.trans H;rw [hy225];with_reducible exact H2_) | (have H2_:=(Option.bind_some _ _).symm.trans H;with_reducible exact H2_) | with_reducible exact H | (rw [hy225];exact H) | exact H
                     have Ny225:=Aside0.mk hy225
                     clear hy225
                     by_cases c29 : y222.length + y225.length < 8796093022208
                     ·rw [if_pos c29] at H
                      have LMc29:=Aside0.mk c29
                      clear c29
                      obtain ⟨y229,hy229⟩ : ∃ y_ : List (S73),y_ = (y222 ++ y225):=⟨_,rfl⟩
                      replace H : (spec_l04Triangles.l0 k2 y229 y212) = some r:=by first | (rw [hy229];with_reducible exact H) | (have H2_:=(Option.bind_some _ _).symm.trans H;rw [hy229];with_reducible exact H2_) | (have H2_:=(Option.bind_some _ _).symm.trans H;with_reducible exact H2_) | with_reducible exact H | (rw [hy229];exact H) | exact H
                      have Ny229:=Aside0.mk hy229
                      clear hy229
                      have H':=Aside0.mk H
                      clear H
                      try go_wp2_with (first | (go_at_call 109;(with_reducible refine (spec_l04Ear.calls k2 _ _ x3_1 x6_2 true _ ?side1 ?side2 A11.out).mono ?_);(case side1 => exact cO ((Kd.R_reads' HO_3.out).2.2));(case side2 => exact (Kd.R_reads' HO_3.out).2.1);rintro e w30 ⟨rfl,hb⟩;replace HO_3:=Aside0.mk (Kd.R_below (rO HO_3.out) hb);replace HO_4:=Aside0.mk (Kd.S_below (sO HO_4.out) hb);replace HB:=sb hb;(try clear hb);(try clear hb2);(try clear hk);(try clear hi)))
                      replace HO_3:=Aside0.mk (Kd.R_drew HO_3.out)
                      replace HO_4:=Aside0.mk (Kd.S_drew HO_4.out)
                      replace HB:=Aside0.mk (below_drew1 HB.out)
                      have p206 : 0 ≤ ((ji14) : Int):=da
                      have q206 : (ji14) < (x3_1.length : Int):=da
                      obtain ⟨ad206,e206,hx206_0,hx206_1⟩:=at_T73 (Kd.R_reads' HO_3.out).2.2 (ji14) p206 q206
                      cases e206
                      replace p206:=eq_true p206
                      replace q206:=eq_true q206
                      have p207 : 0 ≤ (x6_2 : Int):=da
                      have q207 : x6_2 < (x3_1.length : Int):=da
                      obtain ⟨ad207,e207,hx207_0,hx207_1⟩:=at_T73 (Kd.R_reads' HO_3.out).2.2 x6_2 p207 q207
                      obtain rfl : ad206 = ad207:=(by injection e207)
                      replace p207:=eq_true p207
                      replace q207:=eq_true q207
                      have p208 : 0 ≤ ((ji19) : Int):=da
                      have q208 : (ji19) < (x3_1.length : Int):=da
                      obtain ⟨ad208,e208,hx208_0,hx208_1⟩:=at_T73 (Kd.R_reads' HO_3.out).2.2 (ji19) p208 q208
                      obtain rfl : ad206 = ad208:=(by injection e208)
                      replace p208:=eq_true p208
                      replace q208:=eq_true q208
                      refine start_ (n:=25) (S:=fun w' => w'.cell? (ad206.add (((ji14)).toNat * 2)) = some (.int .i64 ((rd_T73 x3_1 (ji14)).f0)) ∧ w'.cell? ⟨(ad206.add (((ji14)).toNat * 2)).block,(ad206.add (((ji14)).toNat * 2)).off + 1,none⟩ = some (.int .i64 ((rd_T73 x3_1 (ji14)).f1)) ∧ w'.cell? (ad206.add ((x6_2).toNat * 2)) = some (.int .i64 ((rd_T73 x3_1 x6_2).f0)) ∧ w'.cell? ⟨(ad206.add ((x6_2).toNat * 2)).block,(ad206.add ((x6_2).toNat * 2)).off + 1,none⟩ = some (.int .i64 ((rd_T73 x3_1 x6_2).f1)) ∧ w'.cell? (ad206.add (((ji19)).toNat * 2)) = some (.int .i64 ((rd_T73 x3_1 (ji19)).f0)) ∧ w'.cell? ⟨(ad206.add (((ji19)).toNat * 2)).block,(ad206.add (((ji19)).toNat * 2)).off + 1,none⟩ = some (.int .i64 ((rd_T73 x3_1 (ji19)).f1))) (ds:=[22,23]) #[fF,fF,fF,fF,fF,fF,fF,fF,fF,fF,fF,fF,fF,fF,fF,fF,fF,fF,fF,fF,fF,fF,fF,fF,fF] (by kernel_rfl) rfl rfl ⟨hx206_0,hx206_1,hx207_0,hx207_1,hx208_0,hx208_1⟩ (fun hHeld => ?_);refine with_tabW spec_l04Triangles.tab8 spec_l04Triangles.bits8 (fun HT_ HW_ => ?_)
                      generalize w30.drew = w31 at HO_3 HO_4 HB hx206_0 hx206_1 hx207_0 hx207_1 hx208_0 hx208_1 hHeld ⊢
                      refine pu 0 29 HT_ ?_
                      refine pu 1 30 HT_ ?_
                      refine pu 2 31 HT_ ?_
                      refine pu 3 32 HT_ ?_
                      refine pu 4 33 HT_ ?_
                      refine pu 5 34 HT_ ?_
                      refine pu 6 35 HT_ ?_
                      refine pu 7 36 HT_ ?_
                      refine pu 8 37 HT_ ?_
                      refine pu 10 39 HT_ ?_
                      refine pu 11 40 HT_ ?_
                      refine pu 12 41 HT_ ?_
                      refine pu 14 43 HT_ ?_
                      refine pu 15 44 HT_ ?_
                      refine pu 16 45 HT_ ?_
                      refine pu 17 46 HT_ ?_
                      refine pu 18 47 HT_ ?_
                      refine pu 19 48 HT_ ?_
                      refine tk 9 38 HT_ HW_ hHeld ?_
                      refine tk 13 42 HT_ HW_ hHeld ?_
                      refine tk 20 49 HT_ HW_ hHeld ?_
                      refine on 21 50 HT_ (fun K hK => ?_)
                      refine Kd.R_lit_step k73 _ 73 ?hg (N:=50) ?hd (xs:=([(⟨(rd_T73 x3_1 (ji14)).f0,(rd_T73 x3_1 (ji14)).f1⟩ : S73),(⟨(rd_T73 x3_1 x6_2).f0,(rd_T73 x3_1 x6_2).f1⟩ : S73),(⟨(rd_T73 x3_1 (ji19)).f0,(rd_T73 x3_1 (ji19)).f1⟩ : S73)] : List (S73))) (inner:=[.int .i64 ((rd_T73 x3_1 (ji14)).f0),.int .i64 ((rd_T73 x3_1 (ji14)).f1),.int .i64 ((rd_T73 x3_1 x6_2).f0),.int .i64 ((rd_T73 x3_1 x6_2).f1),.int .i64 ((rd_T73 x3_1 (ji19)).f0),.int .i64 ((rd_T73 x3_1 (ji19)).f1)]) (ok:=fun _ => True) (okp:=fun _ => True) ?hr ?hp (fun _ hk => hk) trivial (Below.refl _ _) (Nat.le_refl _) (by simp) ?_;(case hd => rfl);(case hg => rfl);(case hr => first | (go_simp;done) | (go_simp;rfl));(case hp => exact (Reps.c2 (show Kd.M k73 _ _ _ (⟨(rd_T73 x3_1 (ji14)).f0,(rd_T73 x3_1 (ji14)).f1⟩ : S73) [.int .i64 ((rd_T73 x3_1 (ji14)).f0),.int .i64 ((rd_T73 x3_1 (ji14)).f1)] from (k73_mkM _ _ _ (⟨(rd_T73 x3_1 (ji14)).f0,(rd_T73 x3_1 (ji14)).f1⟩ : S73) )) (Reps.c2 (show Kd.M k73 _ _ _ (⟨(rd_T73 x3_1 x6_2).f0,(rd_T73 x3_1 x6_2).f1⟩ : S73) [.int .i64 ((rd_T73 x3_1 x6_2).f0),.int .i64 ((rd_T73 x3_1 x6_2).f1)] from (k73_mkM _ _ _ (⟨(rd_T73 x3_1 x6_2).f0,(rd_T73 x3_1 x6_2).f1⟩ : S73) )) (Reps.c2 (show Kd.M k73 _ _ _ (⟨(rd_T73 x3_1 (ji19)).f0,(rd_T73 x3_1 (ji19)).f1⟩ : S73) [.int .i64 ((rd_T73 x3_1 (ji19)).f0),.int .i64 ((rd_T73 x3_1 (ji19)).f1)] from (k73_mkM _ _ _ (⟨(rd_T73 x3_1 (ji19)).f0,(rd_T73 x3_1 (ji19)).f1⟩ : S73) )) (Reps.none _ _)))))
                      intro v210 w32 ho33 hb hg_ hnew_
                      have HS0_:=(hb.cell (bL _ _ (hHeld.1))).trans (hHeld.1)
                      have HS1_:=(hb.cell (bL _ _ (hHeld.2.1))).trans (hHeld.2.1)
                      have HS2_:=(hb.cell (bL _ _ (hHeld.2.2.1))).trans (hHeld.2.2.1)
                      have HS3_:=(hb.cell (bL _ _ (hHeld.2.2.2.1))).trans (hHeld.2.2.2.1)
                      have HS4_:=(hb.cell (bL _ _ (hHeld.2.2.2.2.1))).trans (hHeld.2.2.2.2.1)
                      have HS5_:=(hb.cell (bL _ _ (hHeld.2.2.2.2.2))).trans (hHeld.2.2.2.2.2)
                      clear hg_ hnew_
                      (first | rw [← Ny209.out] at ho33 | (simp only [Int.reduceToNat] at ho33;rw [← Ny209.out] at ho33))
                      replace HO_4:=Aside0.mk (Kd.S_elder' (sO HO_4.out) (Kd.R_base ho33) hb)
                      have HO211:=Aside0.mk (Kd.R_lower (Kd.R_new' ho33 (Kd.R_lt (rO HO_3.out))) (below_size ib))
                      replace HO_3:=Aside0.mk (Kd.R_elder' (rO HO_3.out) (Kd.R_base ho33) hb)
                      replace HB:=sb hb
                      clear hb ho33
                      obtain ⟨Ao35,co35,eo35⟩:=Kd.R_slice HO211.out
                      (first | subst eo35 | (injection eo35 with f1_ f2_ f3_;have f4_:=f1_.symm;have f5_:=f3_.symm;clear f1_ f2_ f3_;subst f4_;subst f5_))
                      refine hK.out _ _ ⟨HS0_,HS1_,HS2_,HS3_,HS4_,HS5_⟩ (fun hHeld => ?_)
                      clear hK K
                      refine norm_ (a':=?_) ?_ ?_
                      rotate_left
                      ·show Act.put _ (some 50) _ = _
                       simp only [Act.put,iT,sZ,sC,i64_w,i32_w]
                       rfl
                      refine last_ (i:=22) (N:=some 51) #[tT,tT,tT,tT,tT,tT,tT,tT,tT,tT,tT,tT,tT,tT,tT,tT,tT,tT,tT,tT,tT,tT,tT,fF,fF] rfl rfl (one_of HT_.out (by kernel_rfl)) (by decide) (fun K hK => ?_)
                      refine value_ (w1:=?_) (v:=?_) (by rfl) rfl ?_ ?_
                      rotate_left 2
                      ·go_simp
                       constructor
                       ·rfl
                       ·rfl
                      refine hK.out _ _ ?_
                      clear hK K
                      refine norm_ (a':=?_) ?_ ?_
                      rotate_left
                      ·show Act.put _ (some 51) _ = _
                       simp only [Act.put,iT,sZ,sC,i64_w,i32_w]
                       rfl
                      refine last_ (i:=23) (N:=some 52) #[tT,tT,tT,tT,tT,tT,tT,tT,tT,tT,tT,tT,tT,tT,tT,tT,tT,tT,tT,tT,tT,tT,tT,tT,fF] rfl rfl (one_of HT_.out (by kernel_rfl)) (by decide) (fun K hK => ?_)
                      refine Kd.S_append_step (Kd.slice 73 k73) (w0:=w) w.heap.size (by rfl) (.tmp 29) (.tmp 51) 36 25 (.slice none 0 0) 24 rfl Try.underlying36 info25 rfl (by decide) (by omega) u4 x4_1 y209 [.slice Ao35 y209.length co35] (fun k_ => some k_ ≠ (.slice (some ad206) x3_1.length co9 : Value).ownBlock) (fun k_ => some k_ = (.slice Ao35 y209.length co35 : Value).ownBlock) rfl rfl ?aP (fun k_ hk_ => ((Kd.R_mono (ok':=fun k_ => ((fun k_ => some k_ ≠ (.slice (some ad206) x3_1.length co9 : Value).ownBlock)) k_ ∧ some k_ ≠ (u4 : Value).ownBlock) (Kd.R_apart' (HO211.out) (Kd.S_typed HO_4.out) (by decide)) (fun k_ hk => ⟨hk.1.2,hk.2⟩))).1 k_ hk_.symm) ?aF ?aO ?aB ?aS ?aL ?_
                      (case aP => exact Kd.M_row (Kd.R_mono (Kd.R_tight rfl (Kd.R_mono (ok':=fun k_ => ((fun k_ => some k_ ≠ (.slice (some ad206) x3_1.length co9 : Value).ownBlock)) k_ ∧ some k_ ≠ (u4 : Value).ownBlock) (Kd.R_apart' (HO211.out) (Kd.S_typed HO_4.out) (by decide)) (fun k_ hk => ⟨hk.1.2,hk.2⟩))) (fun _ h_ => h_)))
                      (case aB => exact ib)
                      (case aF => exact (fun k_ hk => Kd.fresh' (Kd.R_lt (rO HO_3.out)) k_ hk))
                      (case aO => exact (sO (Kd.S_mono HO_4.out (fun k_ hk => ⟨hk.1,fun e_ => hk.2 e_⟩))))
                      (case aS => exact (below_size ib))
                      (case aL => have:=LMc22.out;omega)
                      intro v213 w34 ho hb hg hat
                      rw [← Ny212.out] at ho
                      replace HO_3:=Aside0.mk (Kd.R_over' (rO HO_3.out) (Kd.S_typed (sO HO_4.out)) (by decide) hg)
                      replace HB:=Aside0.mk (hb)
                      have HO214:=Aside0.mk (ho)
                      clear HO_4 HO211
                      clear ho hb hg hat
                      refine hK.out _ _ ?_
                      clear hK K
                      refine norm_ (a':=?_) ?_ ?_
                      rotate_left
                      ·show Act.put _ (some 52) _ = _
                       simp only [Act.put,iT,sZ,sC,i64_w,i32_w]
                       rfl
                      refine pu 24 4 HT_ ?_
                      refine done_ (done_of HT_.out (by kernel_rfl)) ?_
                      try go_wp2_with (first | ((with_reducible refine gate_dst (N:=53) rfl ?_);refine Kd.R_lit k73 _ 73 ?hg (N:=53) ?hd (xs:=([] : List (S73))) (inner:=[]) (ok:=fun _ => True) (okp:=fun _ => True) ?hr ?hp (fun _ hk => hk) trivial (Below.refl _ _) (Nat.le_refl _) (by simp) ?_;(case hd => rfl);(case hg => rfl);(case hr => first | (go_simp;done) | (go_simp;rfl));(case hp => exact (Reps.none _ _));intro v216 w36 ho37 hb hg_ hnew_;clear hg_ hnew_;(first | rw [← Ny215.out] at ho37 | (simp only [Int.reduceToNat] at ho37;rw [← Ny215.out] at ho37));replace HO214:=Aside0.mk (Kd.S_elder' (sO HO214.out) (Kd.R_base ho37) hb);have HO217:=Aside0.mk (Kd.R_lower (Kd.R_new' ho37 (Kd.R_lt (rO HO_3.out))) (below_size ib));replace HO_3:=Aside0.mk (Kd.R_elder' (rO HO_3.out) (Kd.R_base ho37) hb);replace HB:=sb hb;clear hb ho37;have q38 : (x6_2 : Int) ≤ ((x3_1.length : Int) : Int):=da;obtain ⟨i038,hi038,_,hsz38,_⟩:=info_parts info73;have hroom38 : x3_1.length ≤ co9:=(Kd.R_reads' HO_3.out).2.1;have hC38 : Kd.C k73 _ (some ad206) x3_1.length x3_1:=(Kd.R_reads' HO_3.out).2.2;have hcut38:=cut_to (P:=Try.prog) 25 73 .i64 Try.underlying25 hi038 (some ad206) x3_1.length co9 x6_2 (da) q38 hroom38;have hr38:=Kd.C_take (m:=(x6_2 : Int).toNat) hC38 (by omega);have hy38 : y218.length = (x6_2 : Int).toNat:=(by rw [Ny218.out,List.length_take];omega);rw [← Ny218.out] at hr38;rw [← hy38] at hcut38;have HR221:=Aside0.mk hr38;have HC221:=Aside0.mk (show y218.length ≤ co9 from by omega);clear hr38 hC38 hroom38 hi038 hsz38;have KY38:=Aside0.mk hy38;clear hy38;have KL38:=Aside0.mk (show (x6_2 : Int).toNat ≤ x3_1.length from by omega);replace q38:=eq_true q38) | ((with_reducible refine gate_builtin (b:=.append) (xs:=#[.tmp 53,.tmp 56]) rfl ?_);at_builtin;refine Kd.R_append_rows k73 (w0:=w) w.heap.size rfl (.tmp 53) (.tmp 56) 25 73 (.agg #[(.int .i64 0),(.int .i64 0)]) 16 rfl Try.underlying25 info73 rfl (by decide) (by omega) v216 y215 y218 _ _ _ (fun k_ => some k_ ≠ (.slice (some ad206) x3_1.length co9 : Value).ownBlock) (fun _ => False) rfl rfl ?aO ?aR (fun _ _ h => h) (fun _ h => h.elim) ?aF ?aB ?aS ?aL ?_;(case aR => repeat (first | exact (by repeat (first | (with_reducible exact HR221.out) | (with_reducible refine Kd.C_alloc ?_ _) | (with_reducible refine Kd.C_drewN ?_ _) | (with_reducible refine Kd.C_drew ?_) | exact HR221.out)) | (with_reducible refine Kd.C_alloc ?_ _) | (with_reducible refine Kd.C_drewN ?_ _) | (with_reducible refine Kd.C_drew ?_)));(case aB => exact ib);(case aF => exact (fun k_ hk => Kd.fresh' (Kd.R_lt (rO HO_3.out)) k_ hk));(case aO => exact (rO (Kd.R_mono HO217.out (fun _ hk => hk.2))));(case aS => exact (below_size ib));(case aL => have:=LMc25.out;omega);intro v223 w39 ho hb hg hat;rw [← Ny222.out] at ho;replace HO214:=Aside0.mk (Kd.S_after (ok:=(fun k_ => some k_ ≠ (.slice (some ad206) x3_1.length co9 : Value).ownBlock)) (sO HO214.out) hg hat);replace HB:=Aside0.mk (hb);replace HR221:=Aside0.mk ((show Kd.C k73 w39 (some ad206) y218.length y218 from by rw [Ny218.out];exact Kd.C_take (m:=(x6_2 : Int).toNat) ((Kd.R_reads' (Kd.R_after (ok:=(fun _ => True)) (rO (Kd.R_mono HO_3.out (fun _ hk => ⟨trivial,hk.2⟩))) hg hat)).2.2) KL38.out));replace HO_3:=Aside0.mk (Kd.R_after (ok:=(fun _ => True)) (rO (Kd.R_mono HO_3.out (fun _ hk => ⟨trivial,hk.2⟩))) hg hat);have HO224:=Aside0.mk (ho);clear HO217;clear ho hb hg hat;have q40 : ((ji26) : Int) ≤ ((x3_1.length : Int) : Int):=da;obtain ⟨i040,hi040,_,hsz40,_⟩:=info_parts info73;have hroom40 : x3_1.length ≤ co9:=(Kd.R_reads' HO_3.out).2.1;have hC40 : Kd.C k73 _ (some ad206) x3_1.length x3_1:=(Kd.R_reads' HO_3.out).2.2;have q040 : (0 : Int) ≤ ((ji26) : Int):=da;have hcut40:=cut_from (P:=Try.prog) 25 73 .i64 Try.underlying25 hi040 2 hsz40 (some ad206) x3_1.length co9 (ji26) q040 q40;have hr40:=Kd.C_drop (m:=((ji26) : Int).toNat) (c:=co9) hC40 (by omega) hroom40;obtain ⟨A40,hA40⟩ : ∃ A1,A1 = (if co9 = ((ji26) : Int).toNat then (some ad206) else ((some ad206) : Option Addr).map (·.add (((ji26) : Int).toNat * 2))):=⟨_,rfl⟩;obtain ⟨c40,hc40⟩ : ∃ c1,c1 = co9 - ((ji26) : Int).toNat:=⟨_,rfl⟩;have hy40 : y225.length = x3_1.length - ((ji26) : Int).toNat:=(by rw [Ny225.out,List.length_drop] <;> omega);rw [show (x3_1).drop ((ji26) : Int).toNat = y225 from Ny225.out.symm] at hr40;replace hr40 : Kd.C k73 _ A40 y225.length y225:=(by rw [hA40];exact hr40);rw [← hy40,← hA40,← hc40] at hcut40;have HR228:=Aside0.mk hr40;have HC228:=Aside0.mk (show y225.length ≤ c40 from by rw [hy40,hc40];exact Nat.sub_le_sub_right hroom40 _);clear hr40 hC40 hroom40 hi040 hsz40 hc40;have KY40:=Aside0.mk hy40;have KA40:=Aside0.mk hA40;clear hy40 hA40;have KL40:=Aside0.mk (show ((ji26) : Int).toNat ≤ x3_1.length from by omega);replace q40:=eq_true q40) | ((with_reducible refine gate_builtin (b:=.append) (xs:=#[.tmp 58,.tmp 62]) rfl ?_);at_builtin;refine Kd.R_append_rows k73 (w0:=w) w.heap.size rfl (.tmp 58) (.tmp 62) 25 73 (.agg #[(.int .i64 0),(.int .i64 0)]) 16 rfl Try.underlying25 info73 rfl (by decide) (by omega) v223 y222 y225 _ _ _ (fun k_ => some k_ ≠ (.slice (some ad206) x3_1.length co9 : Value).ownBlock) (fun _ => False) rfl rfl ?aO ?aR (fun _ _ h => h) (fun _ h => h.elim) ?aF ?aB ?aS ?aL ?_;(case aR => repeat (first | exact (by repeat (first | (with_reducible exact HR228.out) | (with_reducible refine Kd.C_alloc ?_ _) | (with_reducible refine Kd.C_drewN ?_ _) | (with_reducible refine Kd.C_drew ?_) | exact HR228.out)) | (with_reducible refine Kd.C_alloc ?_ _) | (with_reducible refine Kd.C_drewN ?_ _) | (with_reducible refine Kd.C_drew ?_)));(case aB => exact ib);(case aF => exact (fun k_ hk => Kd.fresh' (Kd.R_lt (rO HO_3.out)) k_ hk));(case aO => exact (rO HO224.out));(case aS => exact (below_size ib));(case aL => have:=LMc29.out;omega);intro v230 w41 ho hb hg hat;rw [← Ny229.out] at ho;replace HO214:=Aside0.mk (Kd.S_after (ok:=(fun k_ => some k_ ≠ (.slice (some ad206) x3_1.length co9 : Value).ownBlock)) (sO HO214.out) hg hat);replace HB:=Aside0.mk (hb);replace HR221:=Aside0.mk ((show Kd.C k73 w41 (some ad206) y218.length y218 from by rw [Ny218.out];exact Kd.C_take (m:=(x6_2 : Int).toNat) ((Kd.R_reads' (Kd.R_after (ok:=(fun _ => True)) (rO HO_3.out) hg hat)).2.2) KL38.out));replace HR228:=Aside0.mk ((show Kd.C k73 w41 A40 y225.length y225 from by rw [Ny225.out,KA40.out];exact Kd.C_drop (m:=((ji26) : Int).toNat) (c:=co9) ((Kd.R_reads' (Kd.R_after (ok:=(fun _ => True)) (rO HO_3.out) hg hat)).2.2) KL40.out ((Kd.R_reads' (Kd.R_after (ok:=(fun _ => True)) (rO HO_3.out) hg hat)).2.1)));replace HO_3:=Aside0.mk (Kd.R_after (ok:=(fun _ => True)) (rO HO_3.out) hg hat);have HO231:=Aside0.mk (ho);clear HO224;clear ho hb hg hat))
                      go_roundg k2
                      case measure => have:=HK1.out;have:=HK2.out;omega
                      case rel => exact ⟨(y229),(y212),H',⟨by have:=HK1.out;have:=HK2.out;omega⟩,⟨rO (Kd.R_mono HO231.out (fun _ hk => trivial))⟩,⟨sO (Kd.S_mono HO214.out (fun _ hk => hk.2))⟩,⟨ib⟩⟩
                     ·rw [if_neg c29] at H
                      exact absurd H (by simp)
                    ·rw [if_neg c28] at H
                     exact absurd H (by simp)
                   ·rw [if_neg c27] at H
                    exact absurd H (by simp)
                  ·rw [if_neg c25] at H
                   exact absurd H (by simp)
                 ·rw [if_neg c24] at H
                  exact absurd H (by simp)
                ·rw [if_neg c22] at H
                 exact absurd H (by simp)
               ·rw [if_neg c21] at H
                exact absurd H (by simp)
              ·rw [if_neg c20] at H
               exact absurd H (by simp)
             ·rw [if_neg c18] at H
              exact absurd H (by simp)
            ·rw [if_neg c17] at H
             exact absurd H (by simp)
           ·rw [if_neg c16] at H
            exact absurd H (by simp)
          ·rw [if_neg c15] at H
           exact absurd H (by simp)
        ·replace c12:=Bool.eq_false_iff.mpr c12
         subst c12
         have H1 : (spec_l04Triangles.l1 k2 x3_1 x4_1 (x3_1.length : Int) (wrap64 (x6_2 + 1))) = some r:=by rw [if_neg (show ¬ (false = true) by decide)] at H;exact H
         clear H
         have H:=H1
         clear H1
         have H':=Aside0.mk H
         clear H
         go_wp2_with (first | (go_at_call 109;(with_reducible refine (spec_l04Ear.calls k2 _ _ x3_1 x6_2 false _ ?side1 ?side2 A11.out).mono ?_);(case side1 => exact cO ((Kd.R_reads' HO_3.out).2.2));(case side2 => exact (Kd.R_reads' HO_3.out).2.1);rintro e w42 ⟨rfl,hb⟩;replace HO_3:=Aside0.mk (Kd.R_below (rO HO_3.out) hb);replace HO_4:=Aside0.mk (Kd.S_below (sO HO_4.out) hb);replace HB:=sb hb;(try clear hb);(try clear hb2);(try clear hk);(try clear hi)))
         go_roundg k2
         case measure => have:=HK1.out;have:=HK2.out;omega
         case rel => exact ⟨(wrap64 (x6_2 + 1)),(by first | rfl | (simp;done) | (simp [*];done)),H',⟨by have:=HK1.out;have:=HK2.out;omega⟩,⟨rO HO_3.out⟩,⟨sO HO_4.out⟩,⟨ib⟩⟩
       ·rw [if_neg c10] at H
        have c10b0 : decide (x6_2 < (wrap64 ((x3_1.length : Int) - 1))) = false:=decide_eq_false c10
        clear c10
        by_cases c43 : (x3_1.length : Int) = 0
        ·rw [if_pos c43] at H
         exact absurd H (by simp)
        ·rw [if_neg c43] at H
         have c43b0 : ((x3_1.length : Int) == 0) = false:=beq_eq_false_iff_ne.mpr c43
         have c43b1 : ((x3_1.length : Int) != 0) = true:=bne_iff_ne.mpr c43
         have c43b2 : ¬ (x3_1 = []):=fun h_ => c43 (by rw [h_];rfl)
         obtain ⟨ji44,hji44⟩ : ∃ j_ : Int,(Int.tmod (wrap64 ((wrap64 (x6_2 + (x3_1.length : Int))) - 1)) (x3_1.length : Int)) = j_:=⟨_,rfl⟩
         replace H : (if 0 ≤ (ji44) then (if (ji44) < (x3_1.length : Int) then (if 0 ≤ x6_2 then (if x6_2 < (x3_1.length : Int) then (if 0 ≤ (Int.tmod (wrap64 (x6_2 + 1)) (x3_1.length : Int)) then (if (Int.tmod (wrap64 (x6_2 + 1)) (x3_1.length : Int)) < (x3_1.length : Int) then (if x4_1.length < 5864062014805 then ((some (([] : List (S73)) : List (S73))).bind fun y241 => (if x6_2 ≤ (x3_1.length : Int) then ((some (x3_1.take (x6_2 : Int).toNat : List (S73))).bind fun y244 => (if y241.length + y244.length < 8796093022208 then ((some (y241 ++ y244 : List (S73))).bind fun y248 => (if 0 ≤ (wrap64 (x6_2 + 1)) then (if (wrap64 (x6_2 + 1)) ≤ (x3_1.length : Int) then ((some (x3_1.drop ((wrap64 (x6_2 + 1)) : Int).toNat : List (S73))).bind fun y251 => (if y248.length + y251.length < 8796093022208 then (spec_l04Triangles.l0 k2 (y248 ++ y251) (x4_1 ++ [(([(⟨(rd_T73 x3_1 (ji44)).f0,(rd_T73 x3_1 (ji44)).f1⟩ : S73),(⟨(rd_T73 x3_1 x6_2).f0,(rd_T73 x3_1 x6_2).f1⟩ : S73),(⟨(rd_T73 x3_1 (Int.tmod (wrap64 (x6_2 + 1)) (x3_1.length : Int))).f0,(rd_T73 x3_1 (Int.tmod (wrap64 (x6_2 + 1)) (x3_1.length : Int))).f1⟩ : S73)] : List (S73)))])) else (none))) else (none)) else (none))) else (none))) else (none))) else (none)) else (none)) else (none)) else (none)) else (none)) else (none)) else (none)) = some r:=by first | (rw [hji44] at H;exact H) | (simp only [hji44] at H ⊢;exact H)
         by_cases c45 : 0 ≤ (ji44)
         ·rw [if_pos c45] at H
          have c45b0 : decide (0 ≤ (ji44)) = true:=decide_eq_true c45
          clear c45
          by_cases c46 : (ji44) < (x3_1.length : Int)
          ·rw [if_pos c46] at H
           have c46b0 : decide ((ji44) < (x3_1.length : Int)) = true:=decide_eq_true c46
           clear c46
           by_cases c47 : 0 ≤ x6_2
           ·rw [if_pos c47] at H
            have c47b0 : decide (0 ≤ x6_2) = true:=decide_eq_true c47
            clear c47
            by_cases c48 : x6_2 < (x3_1.length : Int)
            ·rw [if_pos c48] at H
             have c48b0 : decide (x6_2 < (x3_1.length : Int)) = true:=decide_eq_true c48
             clear c48
             obtain ⟨ji49,hji49⟩ : ∃ j_ : Int,(Int.tmod (wrap64 (x6_2 + 1)) (x3_1.length : Int)) = j_:=⟨_,rfl⟩
             replace H : (if 0 ≤ (ji49) then (if (ji49) < (x3_1.length : Int) then (if x4_1.length < 5864062014805 then ((some (([] : List (S73)) : List (S73))).bind fun y241 => (if x6_2 ≤ (x3_1.length : Int) then ((some (x3_1.take (x6_2 : Int).toNat : List (S73))).bind fun y244 => (if y241.length + y244.length < 8796093022208 then ((some (y241 ++ y244 : List (S73))).bind fun y248 => (if 0 ≤ (wrap64 (x6_2 + 1)) then (if (wrap64 (x6_2 + 1)) ≤ (x3_1.length : Int) then ((some (x3_1.drop ((wrap64 (x6_2 + 1)) : Int).toNat : List (S73))).bind fun y251 => (if y248.length + y251.length < 8796093022208 then (spec_l04Triangles.l0 k2 (y248 ++ y251) (x4_1 ++ [(([(⟨(rd_T73 x3_1 (ji44)).f0,(rd_T73 x3_1 (ji44)).f1⟩ : S73),(⟨(rd_T73 x3_1 x6_2).f0,(rd_T73 x3_1 x6_2).f1⟩ : S73),(⟨(rd_T73 x3_1 (ji49)).f0,(rd_T73 x3_1 (ji49)).f1⟩ : S73)] : List (S73)))])) else (none))) else (none)) else (none))) else (none))) else (none))) else (none)) else (none)) else (none)) = some r:=by first | (rw [hji49] at H;exact H) | (simp only [hji49] at H ⊢;exact H)
             by_cases c50 : 0 ≤ (ji49)
             ·rw [if_pos c50] at H
              have c50b0 : decide (0 ≤ (ji49)) = true:=decide_eq_true c50
              clear c50
              by_cases c51 : (ji49) < (x3_1.length : Int)
              ·rw [if_pos c51] at H
               have c51b0 : decide ((ji49) < (x3_1.length : Int)) = true:=decide_eq_true c51
               clear c51
               obtain ⟨y235,hy235⟩ : ∃ y_ : List (S73),y_ = (([(⟨(rd_T73 x3_1 (ji44)).f0,(rd_T73 x3_1 (ji44)).f1⟩ : S73),(⟨(rd_T73 x3_1 x6_2).f0,(rd_T73 x3_1 x6_2).f1⟩ : S73),(⟨(rd_T73 x3_1 (ji49)).f0,(rd_T73 x3_1 (ji49)).f1⟩ : S73)] : List (S73))):=⟨_,rfl⟩
               replace H : (if x4_1.length < 5864062014805 then ((some (([] : List (S73)) : List (S73))).bind fun y241 => (if x6_2 ≤ (x3_1.length : Int) then ((some (x3_1.take (x6_2 : Int).toNat : List (S73))).bind fun y244 => (if y241.length + y244.length < 8796093022208 then ((some (y241 ++ y244 : List (S73))).bind fun y248 => (if 0 ≤ (wrap64 (x6_2 + 1)) then (if (wrap64 (x6_2 + 1)) ≤ (x3_1.length : Int) then ((some (x3_1.drop ((wrap64 (x6_2 + 1)) : Int).toNat : List (S73))).bind fun y251 => (if y248.length + y251.length < 8796093022208 then (spec_l04Triangles.l0 k2 (y248 ++ y251) (x4_1 ++ [y235])) else (none))) else (none)) else (none))) else (none))) else (none))) else (none)) = some r:=by first | (rw [hy235];with_reducible exact H) | (have H2_:=(Option.bind_some _ _).symm.trans H;rw [hy235];with_reducible exact H2_) | (have H2_:=(Option.bind_some _ _).symm.trans H;with_reducible exact H2_) | with_reducible exact H | (rw [hy235];exact H) | exact H
               have Ny235:=Aside0.mk hy235
               clear hy235
               by_cases c52 : x4_1.length < 5864062014805
               ·rw [if_pos c52] at H
                have LMc52:=Aside0.mk c52
                clear c52
                obtain ⟨y238,hy238⟩ : ∃ y_ : List (List (S73)),y_ = (x4_1 ++ [y235]):=⟨_,rfl⟩
                replace H : ((some (([] : List (S73)) : List (S73))).bind fun y241 => (if x6_2 ≤ (x3_1.length : Int) then ((some (x3_1.take (x6_2 : Int).toNat : List (S73))).bind fun y244 => (if y241.length + y244.length < 8796093022208 then ((some (y241 ++ y244 : List (S73))).bind fun y248 => (if 0 ≤ (wrap64 (x6_2 + 1)) then (if (wrap64 (x6_2 + 1)) ≤ (x3_1.length : Int) then ((some (x3_1.drop ((wrap64 (x6_2 + 1)) : Int).toNat : List (S73))).bind fun y251 => (if y248.length + y251.length < 8796093022208 then (spec_l04Triangles.l0 k2 (y248 ++ y251) y238) else (none))) else (none)) else (none))) else (none))) else (none))) = some r:=by first | (rw [hy238];with_reducible exact H) | (have H2_:=(Option.bind_some _ _).symm.trans H;rw [hy238];with_reducible exact H2_) | (have H2_:=(Option.bind_some _ _).symm.trans H;with_reducible exact H2_) | with_reducible exact H | (rw [hy238];exact H) | exact H
                have Ny238:=Aside0.mk hy238
                clear hy238
                obtain ⟨y241,hy241⟩ : ∃ y_ : List (S73),y_ = (([] : List (S73))):=⟨_,rfl⟩
                replace H : (if x6_2 ≤ (x3_1.length : Int) then ((some (x3_1.take (x6_2 : Int).toNat : List (S73))).bind fun y244 => (if y241.length + y244.length < 8796093022208 then ((some (y241 ++ y244 : List (S73))).bind fun y248 => (if 0 ≤ (wrap64 (x6_2 + 1)) then (if (wrap64 (x6_2 + 1)) ≤ (x3_1.length : Int) then ((some (x3_1.drop ((wrap64 (x6_2 + 1)) : Int).toNat : List (S73))).bind fun y251 => (if y248.length + y251.length < 8796093022208 then (spec_l04Triangles.l0 k2 (y248 ++ y251) y238) else (none))) else (none)) else (none))) else (none))) else (none)) = some r:=by first | (rw [hy241];with_reducible exact H) | (have H2_:=(Option.bind_some _ _).symm.trans H;rw [hy241];with_reducible exact H2_) | (have H2_:=(Option.bind_some _ _).symm.trans H;with_reducible exact H2_) | with_reducible exact H | (rw [hy241];exact H) | exact H
                have Ny241:=Aside0.mk hy241
                clear hy241
                have c53b0:=eq_true (da : 0 ≤ x6_2)
                by_cases c54 : x6_2 ≤ (x3_1.length : Int)
                ·rw [if_pos c54] at H
                 have c54b0:=eq_true c54
                 have c54b1 : decide (x6_2 ≤ (x3_1.length : Int)) = true:=decide_eq_true c54
                 clear c54
                 obtain ⟨y244,hy244⟩ : ∃ y_ : List (S73),y_ = (x3_1.take (x6_2 : Int).toNat):=⟨_,rfl⟩
                 replace H : (if y241.length + y244.length < 8796093022208 then ((some (y241 ++ y244 : List (S73))).bind fun y248 => (if 0 ≤ (wrap64 (x6_2 + 1)) then (if (wrap64 (x6_2 + 1)) ≤ (x3_1.length : Int) then ((some (x3_1.drop ((wrap64 (x6_2 + 1)) : Int).toNat : List (S73))).bind fun y251 => (if y248.length + y251.length < 8796093022208 then (spec_l04Triangles.l0 k2 (y248 ++ y251) y238) else (none))) else (none)) else (none))) else (none)) = some r:=by first | (rw [hy244];with_reducible exact H) | (have H2_:=(Option.bind_some _ _).symm.trans H;rw [hy244];with_reducible exact H2_) | (have H2_:=(Option.bind_some _ _).symm.trans H;with_reducible exact H2_) | with_reducible exact H | (rw [hy244];exact H) | exact H
                 have Ny244:=Aside0.mk hy244
                 clear hy244
                 by_cases c55 : y241.length + y244.length < 8796093022208
                 ·rw [if_pos c55] at H
                  have LMc55:=Aside0.mk c55
                  clear c55
                  obtain ⟨y248,hy248⟩ : ∃ y_ : List (S73),y_ = (y241 ++ y244):=⟨_,rfl⟩
                  replace H : (if 0 ≤ (wrap64 (x6_2 + 1)) then (if (wrap64 (x6_2 + 1)) ≤ (x3_1.length : Int) then ((some (x3_1.drop ((wrap64 (x6_2 + 1)) : Int).toNat : List (S73))).bind fun y251 => (if y248.length + y251.length < 8796093022208 then (spec_l04Triangles.l0 k2 (y248 ++ y251) y238) else (none))) else (none)) else (none)) = some r:=by first | (rw [hy248];with_reducible exact H) | (have H2_:=(Option.bind_some _ _).symm.trans H;rw [hy248];with_reducible exact H2_) | (have H2_:=(Option.bind_some _ _).symm.trans H;with_reducible exact H2_) | with_reducible exact H | (rw [hy248];exact H) | exact H
                  have Ny248:=Aside0.mk hy248
                  clear hy248
                  obtain ⟨ji56,hji56⟩ : ∃ j_ : Int,(wrap64 (x6_2 + 1)) = j_:=⟨_,rfl⟩
                  have hji49vji56 : (Int.tmod ji56 (x3_1.length : Int)) = ji49:=by first | (rw [← hji56];exact hji49) | exact hji49
                  replace H : (if 0 ≤ (ji56) then (if (ji56) ≤ (x3_1.length : Int) then ((some (x3_1.drop ((ji56) : Int).toNat : List (S73))).bind fun y251 => (if y248.length + y251.length < 8796093022208 then (spec_l04Triangles.l0 k2 (y248 ++ y251) y238) else (none))) else (none)) else (none)) = some r:=by first | (rw [hji56] at H;exact H) | (simp only [hji56] at H ⊢;exact H)
                  have hji56w : (IntKind.i64.wrap (x6_2 + 1)) = ji56:=(i64_w _).trans hji56
                  by_cases c57 : 0 ≤ (ji56)
                  ·rw [if_pos c57] at H
                   have c57b0:=eq_true c57
                   have c57b1 : decide (0 ≤ (ji56)) = true:=decide_eq_true c57
                   clear c57
                   by_cases c58 : (ji56) ≤ (x3_1.length : Int)
                   ·rw [if_pos c58] at H
                    have c58b0:=eq_true c58
                    have c58b1 : decide ((ji56) ≤ (x3_1.length : Int)) = true:=decide_eq_true c58
                    clear c58
                    obtain ⟨y251,hy251⟩ : ∃ y_ : List (S73),y_ = (x3_1.drop ((ji56) : Int).toNat):=⟨_,rfl⟩
                    replace H : (if y248.length + y251.length < 8796093022208 then (spec_l04Triangles.l0 k2 (y248 ++ y251) y238) else (none)) = some r:=by first | (rw [hy251];with_reducible exact H) | (have H2_:=(Option.bind_some _ _).symm.trans H;rw [hy251];with_reducible exact H2_) | (have H2_:=(Option.bind_some _ _).symm.trans H;with_reducible exact H2_) | with_reducible exact H | (rw [hy251];exact H) | exact H
                    have Ny251:=Aside0.mk hy251
                    clear hy251
                    by_cases c59 : y248.length + y251.length < 8796093022208
                    ·rw [if_pos c59] at H
                     have LMc59:=Aside0.mk c59
                     clear c59
                     obtain ⟨y255,hy255⟩ : ∃ y_ : List (S73),y_ = (y248 ++ y251):=⟨_,rfl⟩
                     replace H : (spec_l04Triangles.l0 k2 y255 y238) = some r:=by first | (rw [hy255];with_reducible exact H) | (have H2_:=(Option.bind_some _ _).symm.trans H;rw [hy255];with_reducible exact H2_) | (have H2_:=(Option.bind_some _ _).symm.trans H;with_reducible exact H2_) | with_reducible exact H | (rw [hy255];exact H) | exact H
                     have Ny255:=Aside0.mk hy255
                     clear hy255
                     have H':=Aside0.mk H
                     clear H
                     try go_wp2
                     replace HO_3:=Aside0.mk (Kd.R_drew HO_3.out)
                     replace HO_4:=Aside0.mk (Kd.S_drew HO_4.out)
                     replace HB:=Aside0.mk (below_drew1 HB.out)
                     have p232 : 0 ≤ ((ji44) : Int):=da
                     have q232 : (ji44) < (x3_1.length : Int):=da
                     obtain ⟨ad232,e232,hx232_0,hx232_1⟩:=at_T73 (Kd.R_reads' HO_3.out).2.2 (ji44) p232 q232
                     cases e232
                     replace p232:=eq_true p232
                     replace q232:=eq_true q232
                     have p233 : 0 ≤ (x6_2 : Int):=da
                     have q233 : x6_2 < (x3_1.length : Int):=da
                     obtain ⟨ad233,e233,hx233_0,hx233_1⟩:=at_T73 (Kd.R_reads' HO_3.out).2.2 x6_2 p233 q233
                     obtain rfl : ad232 = ad233:=(by injection e233)
                     replace p233:=eq_true p233
                     replace q233:=eq_true q233
                     have p234 : 0 ≤ ((ji49) : Int):=da
                     have q234 : (ji49) < (x3_1.length : Int):=da
                     obtain ⟨ad234,e234,hx234_0,hx234_1⟩:=at_T73 (Kd.R_reads' HO_3.out).2.2 (ji49) p234 q234
                     obtain rfl : ad232 = ad234:=(by injection e234)
                     replace p234:=eq_true p234
                     replace q234:=eq_true q234
                     refine start_ (n:=25) (S:=fun w' => w'.cell? (ad232.add (((ji44)).toNat * 2)) = some (.int .i64 ((rd_T73 x3_1 (ji44)).f0)) ∧ w'.cell? ⟨(ad232.add (((ji44)).toNat * 2)).block,(ad232.add (((ji44)).toNat * 2)).off + 1,none⟩ = some (.int .i64 ((rd_T73 x3_1 (ji44)).f1)) ∧ w'.cell? (ad232.add ((x6_2).toNat * 2)) = some (.int .i64 ((rd_T73 x3_1 x6_2).f0)) ∧ w'.cell? ⟨(ad232.add ((x6_2).toNat * 2)).block,(ad232.add ((x6_2).toNat * 2)).off + 1,none⟩ = some (.int .i64 ((rd_T73 x3_1 x6_2).f1)) ∧ w'.cell? (ad232.add (((ji49)).toNat * 2)) = some (.int .i64 ((rd_T73 x3_1 (ji49)).f0)) ∧ w'.cell? ⟨(ad232.add (((ji49)).toNat * 2)).block,(ad232.add (((ji49)).toNat * 2)).off + 1,none⟩ = some (.int .i64 ((rd_T73 x3_1 (ji49)).f1))) (ds:=[22,23]) #[fF,fF,fF,fF,fF,fF,fF,fF,fF,fF,fF,fF,fF,fF,fF,fF,fF,fF,fF,fF,fF,fF,fF,fF,fF] (by kernel_rfl) rfl rfl ⟨hx232_0,hx232_1,hx233_0,hx233_1,hx234_0,hx234_1⟩ (fun hHeld => ?_);refine with_tabW spec_l04Triangles.tab8 spec_l04Triangles.bits8 (fun HT_ HW_ => ?_)
                     generalize wr.drew = w60 at HO_3 HO_4 HB hx232_0 hx232_1 hx233_0 hx233_1 hx234_0 hx234_1 hHeld ⊢
                     refine pu 0 29 HT_ ?_
                     refine pu 1 30 HT_ ?_
                     refine pu 2 31 HT_ ?_
                     refine pu 3 32 HT_ ?_
                     refine pu 4 33 HT_ ?_
                     refine pu 5 34 HT_ ?_
                     refine pu 6 35 HT_ ?_
                     refine pu 7 36 HT_ ?_
                     refine pu 8 37 HT_ ?_
                     refine pu 10 39 HT_ ?_
                     refine pu 11 40 HT_ ?_
                     refine pu 12 41 HT_ ?_
                     refine pu 14 43 HT_ ?_
                     refine pu 15 44 HT_ ?_
                     refine pu 16 45 HT_ ?_
                     refine pu 17 46 HT_ ?_
                     refine pu 18 47 HT_ ?_
                     refine pu 19 48 HT_ ?_
                     refine tk 9 38 HT_ HW_ hHeld ?_
                     refine tk 13 42 HT_ HW_ hHeld ?_
                     refine tk 20 49 HT_ HW_ hHeld ?_
                     refine on 21 50 HT_ (fun K hK => ?_)
                     refine Kd.R_lit_step k73 _ 73 ?hg (N:=50) ?hd (xs:=([(⟨(rd_T73 x3_1 (ji44)).f0,(rd_T73 x3_1 (ji44)).f1⟩ : S73),(⟨(rd_T73 x3_1 x6_2).f0,(rd_T73 x3_1 x6_2).f1⟩ : S73),(⟨(rd_T73 x3_1 (ji49)).f0,(rd_T73 x3_1 (ji49)).f1⟩ : S73)] : List (S73))) (inner:=[.int .i64 ((rd_T73 x3_1 (ji44)).f0),.int .i64 ((rd_T73 x3_1 (ji44)).f1),.int .i64 ((rd_T73 x3_1 x6_2).f0),.int .i64 ((rd_T73 x3_1 x6_2).f1),.int .i64 ((rd_T73 x3_1 (ji49)).f0),.int .i64 ((rd_T73 x3_1 (ji49)).f1)]) (ok:=fun _ => True) (okp:=fun _ => True) ?hr ?hp (fun _ hk => hk) trivial (Below.refl _ _) (Nat.le_refl _) (by simp) ?_;(case hd => rfl);(case hg => rfl);(case hr => first | (go_simp;done) | (go_simp;rfl));(case hp => exact (Reps.c2 (show Kd.M k73 _ _ _ (⟨(rd_T73 x3_1 (ji44)).f0,(rd_T73 x3_1 (ji44)).f1⟩ : S73) [.int .i64 ((rd_T73 x3_1 (ji44)).f0),.int .i64 ((rd_T73 x3_1 (ji44)).f1)] from (k73_mkM _ _ _ (⟨(rd_T73 x3_1 (ji44)).f0,(rd_T73 x3_1 (ji44)).f1⟩ : S73) )) (Reps.c2 (show Kd.M k73 _ _ _ (⟨(rd_T73 x3_1 x6_2).f0,(rd_T73 x3_1 x6_2).f1⟩ : S73) [.int .i64 ((rd_T73 x3_1 x6_2).f0),.int .i64 ((rd_T73 x3_1 x6_2).f1)] from (k73_mkM _ _ _ (⟨(rd_T73 x3_1 x6_2).f0,(rd_T73 x3_1 x6_2).f1⟩ : S73) )) (Reps.c2 (show Kd.M k73 _ _ _ (⟨(rd_T73 x3_1 (ji49)).f0,(rd_T73 x3_1 (ji49)).f1⟩ : S73) [.int .i64 ((rd_T73 x3_1 (ji49)).f0),.int .i64 ((rd_T73 x3_1 (ji49)).f1)] from (k73_mkM _ _ _ (⟨(rd_T73 x3_1 (ji49)).f0,(rd_T73 x3_1 (ji49)).f1⟩ : S73) )) (Reps.none _ _)))))
                     intro v236 w61 ho62 hb hg_ hnew_
                     have HS0_:=(hb.cell (bL _ _ (hHeld.1))).trans (hHeld.1)
                     have HS1_:=(hb.cell (bL _ _ (hHeld.2.1))).trans (hHeld.2.1)
                     have HS2_:=(hb.cell (bL _ _ (hHeld.2.2.1))).trans (hHeld.2.2.1)
                     have HS3_:=(hb.cell (bL _ _ (hHeld.2.2.2.1))).trans (hHeld.2.2.2.1)
                     have HS4_:=(hb.cell (bL _ _ (hHeld.2.2.2.2.1))).trans (hHeld.2.2.2.2.1)
                     have HS5_:=(hb.cell (bL _ _ (hHeld.2.2.2.2.2))).trans (hHeld.2.2.2.2.2)
                     clear hg_ hnew_
                     (first | rw [← Ny235.out] at ho62 | (simp only [Int.reduceToNat] at ho62;rw [← Ny235.out] at ho62))
                     replace HO_4:=Aside0.mk (Kd.S_elder' (sO HO_4.out) (Kd.R_base ho62) hb)
                     have HO237:=Aside0.mk (Kd.R_lower (Kd.R_new' ho62 (Kd.R_lt (rO HO_3.out))) (below_size ib))
                     replace HO_3:=Aside0.mk (Kd.R_elder' (rO HO_3.out) (Kd.R_base ho62) hb)
                     replace HB:=sb hb
                     clear hb ho62
                     obtain ⟨Ao64,co64,eo64⟩:=Kd.R_slice HO237.out
                     (first | subst eo64 | (injection eo64 with f1_ f2_ f3_;have f4_:=f1_.symm;have f5_:=f3_.symm;clear f1_ f2_ f3_;subst f4_;subst f5_))
                     refine hK.out _ _ ⟨HS0_,HS1_,HS2_,HS3_,HS4_,HS5_⟩ (fun hHeld => ?_)
                     clear hK K
                     refine norm_ (a':=?_) ?_ ?_
                     rotate_left
                     ·show Act.put _ (some 50) _ = _
                      simp only [Act.put,iT,sZ,sC,i64_w,i32_w]
                      rfl
                     refine last_ (i:=22) (N:=some 51) #[tT,tT,tT,tT,tT,tT,tT,tT,tT,tT,tT,tT,tT,tT,tT,tT,tT,tT,tT,tT,tT,tT,tT,fF,fF] rfl rfl (one_of HT_.out (by kernel_rfl)) (by decide) (fun K hK => ?_)
                     refine value_ (w1:=?_) (v:=?_) (by rfl) rfl ?_ ?_
                     rotate_left 2
                     ·go_simp
                      constructor
                      ·rfl
                      ·rfl
                     refine hK.out _ _ ?_
                     clear hK K
                     refine norm_ (a':=?_) ?_ ?_
                     rotate_left
                     ·show Act.put _ (some 51) _ = _
                      simp only [Act.put,iT,sZ,sC,i64_w,i32_w]
                      rfl
                     refine last_ (i:=23) (N:=some 52) #[tT,tT,tT,tT,tT,tT,tT,tT,tT,tT,tT,tT,tT,tT,tT,tT,tT,tT,tT,tT,tT,tT,tT,tT,fF] rfl rfl (one_of HT_.out (by kernel_rfl)) (by decide) (fun K hK => ?_)
                     refine Kd.S_append_step (Kd.slice 73 k73) (w0:=w) w.heap.size (by rfl) (.tmp 29) (.tmp 51) 36 25 (.slice none 0 0) 24 rfl Try.underlying36 info25 rfl (by decide) (by omega) u4 x4_1 y235 [.slice Ao64 y235.length co64] (fun k_ => some k_ ≠ (.slice (some ad232) x3_1.length co9 : Value).ownBlock) (fun k_ => some k_ = (.slice Ao64 y235.length co64 : Value).ownBlock) rfl rfl ?aP (fun k_ hk_ => ((Kd.R_mono (ok':=fun k_ => ((fun k_ => some k_ ≠ (.slice (some ad232) x3_1.length co9 : Value).ownBlock)) k_ ∧ some k_ ≠ (u4 : Value).ownBlock) (Kd.R_apart' (HO237.out) (Kd.S_typed HO_4.out) (by decide)) (fun k_ hk => ⟨hk.1.2,hk.2⟩))).1 k_ hk_.symm) ?aF ?aO ?aB ?aS ?aL ?_
                     (case aP => exact Kd.M_row (Kd.R_mono (Kd.R_tight rfl (Kd.R_mono (ok':=fun k_ => ((fun k_ => some k_ ≠ (.slice (some ad232) x3_1.length co9 : Value).ownBlock)) k_ ∧ some k_ ≠ (u4 : Value).ownBlock) (Kd.R_apart' (HO237.out) (Kd.S_typed HO_4.out) (by decide)) (fun k_ hk => ⟨hk.1.2,hk.2⟩))) (fun _ h_ => h_)))
                     (case aB => exact ib)
                     (case aF => exact (fun k_ hk => Kd.fresh' (Kd.R_lt (rO HO_3.out)) k_ hk))
                     (case aO => exact (sO (Kd.S_mono HO_4.out (fun k_ hk => ⟨hk.1,fun e_ => hk.2 e_⟩))))
                     (case aS => exact (below_size ib))
                     (case aL => have:=LMc52.out;omega)
                     intro v239 w63 ho hb hg hat
                     rw [← Ny238.out] at ho
                     replace HO_3:=Aside0.mk (Kd.R_over' (rO HO_3.out) (Kd.S_typed (sO HO_4.out)) (by decide) hg)
                     replace HB:=Aside0.mk (hb)
                     have HO240:=Aside0.mk (ho)
                     clear HO_4 HO237
                     clear ho hb hg hat
                     refine hK.out _ _ ?_
                     clear hK K
                     refine norm_ (a':=?_) ?_ ?_
                     rotate_left
                     ·show Act.put _ (some 52) _ = _
                      simp only [Act.put,iT,sZ,sC,i64_w,i32_w]
                      rfl
                     refine pu 24 4 HT_ ?_
                     refine done_ (done_of HT_.out (by kernel_rfl)) ?_
                     try go_wp2_with (first | ((with_reducible refine gate_dst (N:=53) rfl ?_);refine Kd.R_lit k73 _ 73 ?hg (N:=53) ?hd (xs:=([] : List (S73))) (inner:=[]) (ok:=fun _ => True) (okp:=fun _ => True) ?hr ?hp (fun _ hk => hk) trivial (Below.refl _ _) (Nat.le_refl _) (by simp) ?_;(case hd => rfl);(case hg => rfl);(case hr => first | (go_simp;done) | (go_simp;rfl));(case hp => exact (Reps.none _ _));intro v242 w65 ho66 hb hg_ hnew_;clear hg_ hnew_;(first | rw [← Ny241.out] at ho66 | (simp only [Int.reduceToNat] at ho66;rw [← Ny241.out] at ho66));replace HO240:=Aside0.mk (Kd.S_elder' (sO HO240.out) (Kd.R_base ho66) hb);have HO243:=Aside0.mk (Kd.R_lower (Kd.R_new' ho66 (Kd.R_lt (rO HO_3.out))) (below_size ib));replace HO_3:=Aside0.mk (Kd.R_elder' (rO HO_3.out) (Kd.R_base ho66) hb);replace HB:=sb hb;clear hb ho66;have q67 : (x6_2 : Int) ≤ ((x3_1.length : Int) : Int):=da;obtain ⟨i067,hi067,_,hsz67,_⟩:=info_parts info73;have hroom67 : x3_1.length ≤ co9:=(Kd.R_reads' HO_3.out).2.1;have hC67 : Kd.C k73 _ (some ad232) x3_1.length x3_1:=(Kd.R_reads' HO_3.out).2.2;have hcut67:=cut_to (P:=Try.prog) 25 73 .i64 Try.underlying25 hi067 (some ad232) x3_1.length co9 x6_2 (da) q67 hroom67;have hr67:=Kd.C_take (m:=(x6_2 : Int).toNat) hC67 (by omega);have hy67 : y244.length = (x6_2 : Int).toNat:=(by rw [Ny244.out,List.length_take];omega);rw [← Ny244.out] at hr67;rw [← hy67] at hcut67;have HR247:=Aside0.mk hr67;have HC247:=Aside0.mk (show y244.length ≤ co9 from by omega);clear hr67 hC67 hroom67 hi067 hsz67;have KY67:=Aside0.mk hy67;clear hy67;have KL67:=Aside0.mk (show (x6_2 : Int).toNat ≤ x3_1.length from by omega);replace q67:=eq_true q67) | ((with_reducible refine gate_builtin (b:=.append) (xs:=#[.tmp 53,.tmp 56]) rfl ?_);at_builtin;refine Kd.R_append_rows k73 (w0:=w) w.heap.size rfl (.tmp 53) (.tmp 56) 25 73 (.agg #[(.int .i64 0),(.int .i64 0)]) 16 rfl Try.underlying25 info73 rfl (by decide) (by omega) v242 y241 y244 _ _ _ (fun k_ => some k_ ≠ (.slice (some ad232) x3_1.length co9 : Value).ownBlock) (fun _ => False) rfl rfl ?aO ?aR (fun _ _ h => h) (fun _ h => h.elim) ?aF ?aB ?aS ?aL ?_;(case aR => repeat (first | exact (by repeat (first | (with_reducible exact HR247.out) | (with_reducible refine Kd.C_alloc ?_ _) | (with_reducible refine Kd.C_drewN ?_ _) | (with_reducible refine Kd.C_drew ?_) | exact HR247.out)) | (with_reducible refine Kd.C_alloc ?_ _) | (with_reducible refine Kd.C_drewN ?_ _) | (with_reducible refine Kd.C_drew ?_)));(case aB => exact ib);(case aF => exact (fun k_ hk => Kd.fresh' (Kd.R_lt (rO HO_3.out)) k_ hk));(case aO => exact (rO (Kd.R_mono HO243.out (fun _ hk => hk.2))));(case aS => exact (below_size ib));(case aL => have:=LMc55.out;omega);intro v249 w68 ho hb hg hat;rw [← Ny248.out] at ho;replace HO240:=Aside0.mk (Kd.S_after (ok:=(fun k_ => some k_ ≠ (.slice (some ad232) x3_1.length co9 : Value).ownBlock)) (sO HO240.out) hg hat);replace HB:=Aside0.mk (hb);replace HR247:=Aside0.mk ((show Kd.C k73 w68 (some ad232) y244.length y244 from by rw [Ny244.out];exact Kd.C_take (m:=(x6_2 : Int).toNat) ((Kd.R_reads' (Kd.R_after (ok:=(fun _ => True)) (rO (Kd.R_mono HO_3.out (fun _ hk => ⟨trivial,hk.2⟩))) hg hat)).2.2) KL67.out));replace HO_3:=Aside0.mk (Kd.R_after (ok:=(fun _ => True)) (rO (Kd.R_mono HO_3.out (fun _ hk => ⟨trivial,hk.2⟩))) hg hat);have HO250:=Aside0.mk (ho);clear HO243;clear ho hb hg hat;have q69 : ((ji56) : Int) ≤ ((x3_1.length : Int) : Int):=da;obtain ⟨i069,hi069,_,hsz69,_⟩:=info_parts info73;have hroom69 : x3_1.length ≤ co9:=(Kd.R_reads' HO_3.out).2.1;have hC69 : Kd.C k73 _ (some ad232) x3_1.length x3_1:=(Kd.R_reads' HO_3.out).2.2;have q069 : (0 : Int) ≤ ((ji56) : Int):=da;have hcut69:=cut_from (P:=Try.prog) 25 73 .i64 Try.underlying25 hi069 2 hsz69 (some ad232) x3_1.length co9 (ji56) q069 q69;have hr69:=Kd.C_drop (m:=((ji56) : Int).toNat) (c:=co9) hC69 (by omega) hroom69;obtain ⟨A69,hA69⟩ : ∃ A1,A1 = (if co9 = ((ji56) : Int).toNat then (some ad232) else ((some ad232) : Option Addr).map (·.add (((ji56) : Int).toNat * 2))):=⟨_,rfl⟩;obtain ⟨c69,hc69⟩ : ∃ c1,c1 = co9 - ((ji56) : Int).toNat:=⟨_,rfl⟩;have hy69 : y251.length = x3_1.length - ((ji56) : Int).toNat:=(by rw [Ny251.out,List.length_drop] <;> omega);rw [show (x3_1).drop ((ji56) : Int).toNat = y251 from Ny251.out.symm] at hr69;replace hr69 : Kd.C k73 _ A69 y251.length y251:=(by rw [hA69];exact hr69);rw [← hy69,← hA69,← hc69] at hcut69;have HR254:=Aside0.mk hr69;have HC254:=Aside0.mk (show y251.length ≤ c69 from by rw [hy69,hc69];exact Nat.sub_le_sub_right hroom69 _);clear hr69 hC69 hroom69 hi069 hsz69 hc69;have KY69:=Aside0.mk hy69;have KA69:=Aside0.mk hA69;clear hy69 hA69;have KL69:=Aside0.mk (show ((ji56) : Int).toNat ≤ x3_1.length from by omega);replace q69:=eq_true q69) | ((with_reducible refine gate_builtin (b:=.append) (xs:=#[.tmp 58,.tmp 62]) rfl ?_);at_builtin;refine Kd.R_append_rows k73 (w0:=w) w.heap.size rfl (.tmp 58) (.tmp 62) 25 73 (.agg #[(.int .i64 0),(.int .i64 0)]) 16 rfl Try.underlying25 info73 rfl (by decide) (by omega) v249 y248 y251 _ _ _ (fun k_ => some k_ ≠ (.slice (some ad232) x3_1.length co9 : Value).ownBlock) (fun _ => False) rfl rfl ?aO ?aR (fun _ _ h => h) (fun _ h => h.elim) ?aF ?aB ?aS ?aL ?_;(case aR => repeat (first | exact (by repeat (first | (with_reducible exact HR254.out) | (with_reducible refine Kd.C_alloc ?_ _) | (with_reducible refine Kd.C_drewN ?_ _) | (with_reducible refine Kd.C_drew ?_) | exact HR254.out)) | (with_reducible refine Kd.C_alloc ?_ _) | (with_reducible refine Kd.C_drewN ?_ _) | (with_reducible refine Kd.C_drew ?_)));(case aB => exact ib);(case aF => exact (fun k_ hk => Kd.fresh' (Kd.R_lt (rO HO_3.out)) k_ hk));(case aO => exact (rO HO250.out));(case aS => exact (below_size ib));(case aL => have:=LMc59.out;omega);intro v256 w70 ho hb hg hat;rw [← Ny255.out] at ho;replace HO240:=Aside0.mk (Kd.S_after (ok:=(fun k_ => some k_ ≠ (.slice (some ad232) x3_1.length co9 : Value).ownBlock)) (sO HO240.out) hg hat);replace HB:=Aside0.mk (hb);replace HR247:=Aside0.mk ((show Kd.C k73 w70 (some ad232) y244.length y244 from by rw [Ny244.out];exact Kd.C_take (m:=(x6_2 : Int).toNat) ((Kd.R_reads' (Kd.R_after (ok:=(fun _ => True)) (rO HO_3.out) hg hat)).2.2) KL67.out));replace HR254:=Aside0.mk ((show Kd.C k73 w70 A69 y251.length y251 from by rw [Ny251.out,KA69.out];exact Kd.C_drop (m:=((ji56) : Int).toNat) (c:=co9) ((Kd.R_reads' (Kd.R_after (ok:=(fun _ => True)) (rO HO_3.out) hg hat)).2.2) KL69.out ((Kd.R_reads' (Kd.R_after (ok:=(fun _ => True)) (rO HO_3.out) hg hat)).2.1)));replace HO_3:=Aside0.mk (Kd.R_after (ok:=(fun _ => True)) (rO HO_3.out) hg hat);have HO257:=Aside0.mk (ho);clear HO250;clear ho hb hg hat))
                     go_roundg k2
                     case measure => have:=HK1.out;have:=HK2.out;omega
                     case rel => exact ⟨(y255),(y238),H',⟨by have:=HK1.out;have:=HK2.out;omega⟩,⟨rO (Kd.R_mono HO257.out (fun _ hk => trivial))⟩,⟨sO (Kd.S_mono HO240.out (fun _ hk => hk.2))⟩,⟨ib⟩⟩
                    ·rw [if_neg c59] at H
                     exact absurd H (by simp)
                   ·rw [if_neg c58] at H
                    exact absurd H (by simp)
                  ·rw [if_neg c57] at H
                   exact absurd H (by simp)
                 ·rw [if_neg c55] at H
                  exact absurd H (by simp)
                ·rw [if_neg c54] at H
                 exact absurd H (by simp)
               ·rw [if_neg c52] at H
                exact absurd H (by simp)
              ·rw [if_neg c51] at H
               exact absurd H (by simp)
             ·rw [if_neg c50] at H
              exact absurd H (by simp)
            ·rw [if_neg c48] at H
             exact absurd H (by simp)
           ·rw [if_neg c47] at H
            exact absurd H (by simp)
          ·rw [if_neg c46] at H
           exact absurd H (by simp)
         ·rw [if_neg c45] at H
          exact absurd H (by simp)
    ·rw [if_neg c8] at H
     have c8b0 : decide (3 < (x3_1.length : Int)) = false:=decide_eq_false c8
     have c8b1 : decide (3 < x3_1.length) = false:=decide_eq_false (by omega)
     clear c8
     obtain ⟨y196,hy196⟩ : ∃ y_ : List (S73),y_ = (([] : List (S73))):=⟨_,rfl⟩
     replace H : (if y196.length + x3_1.length < 8796093022208 then (if x4_1.length < 5864062014805 then (some (x4_1 ++ [(y196 ++ x3_1)])) else (none)) else (none)) = some r:=by first | (rw [hy196];with_reducible exact H) | (have H2_:=(Option.bind_some _ _).symm.trans H;rw [hy196];with_reducible exact H2_) | (have H2_:=(Option.bind_some _ _).symm.trans H;with_reducible exact H2_) | with_reducible exact H | (rw [hy196];exact H) | exact H
     have Ny196:=Aside0.mk hy196
     clear hy196
     by_cases c71 : y196.length + x3_1.length < 8796093022208
     ·rw [if_pos c71] at H
      have LMc71:=Aside0.mk c71
      clear c71
      obtain ⟨y199,hy199⟩ : ∃ y_ : List (S73),y_ = (y196 ++ x3_1):=⟨_,rfl⟩
      replace H : (if x4_1.length < 5864062014805 then (some (x4_1 ++ [y199])) else (none)) = some r:=by first | (rw [hy199];with_reducible exact H) | (have H2_:=(Option.bind_some _ _).symm.trans H;rw [hy199];with_reducible exact H2_) | (have H2_:=(Option.bind_some _ _).symm.trans H;with_reducible exact H2_) | with_reducible exact H | (rw [hy199];exact H) | exact H
      have Ny199:=Aside0.mk hy199
      clear hy199
      by_cases c72 : x4_1.length < 5864062014805
      ·rw [if_pos c72] at H
       have LMc72:=Aside0.mk c72
       clear c72
       obtain ⟨y202,hy202⟩ : ∃ y_ : List (List (S73)),y_ = (x4_1 ++ [y199]):=⟨_,rfl⟩
       replace H : (some y202) = some r:=by first | (rw [hy202];with_reducible exact H) | (have H2_:=(Option.bind_some _ _).symm.trans H;rw [hy202];with_reducible exact H2_) | (have H2_:=(Option.bind_some _ _).symm.trans H;with_reducible exact H2_) | with_reducible exact H | (rw [hy202];exact H) | exact H
       have Ny202:=Aside0.mk hy202
       clear hy202
       obtain rfl:=Option.some.inj H
       obtain ⟨Ao73,co73,eo73⟩:=Kd.R_slice HO_3.out
       subst eo73
       go_wp2_with (first | ((with_reducible refine gate_dst (N:=65) rfl ?_);refine Kd.R_lit k73 _ 73 ?hg (N:=65) ?hd (xs:=([] : List (S73))) (inner:=[]) (ok:=fun _ => True) (okp:=fun _ => True) ?hr ?hp (fun _ hk => hk) trivial (Below.refl _ _) (Nat.le_refl _) (by simp) ?_;(case hd => rfl);(case hg => rfl);(case hr => first | (go_simp;done) | (go_simp;rfl));(case hp => exact (Reps.none _ _));intro v197 w74 ho75 hb hg_ hnew_;clear hg_ hnew_;(first | rw [← Ny196.out] at ho75 | (simp only [Int.reduceToNat] at ho75;rw [← Ny196.out] at ho75));replace HO_4:=Aside0.mk (Kd.S_elder' (sO HO_4.out) (Kd.R_base ho75) hb);have HO198:=Aside0.mk (Kd.R_lower (Kd.R_new' ho75 (Kd.R_lt (rO HO_3.out))) (below_size ib));replace HO_3:=Aside0.mk (Kd.R_elder' (rO HO_3.out) (Kd.R_base ho75) hb);replace HB:=sb hb;clear hb ho75) | ((with_reducible refine gate_builtin (b:=.append) (xs:=#[.tmp 65,.tmp 66]) rfl ?_);at_builtin;refine Kd.R_append_rows k73 (w0:=w) w.heap.size rfl (.tmp 65) (.tmp 66) 25 73 (.agg #[(.int .i64 0),(.int .i64 0)]) 16 rfl Try.underlying25 info73 rfl (by decide) (by omega) v197 y196 x3_1 _ _ _ (fun k_ => some k_ ≠ (.slice Ao73 x3_1.length co73 : Value).ownBlock) (fun _ => False) rfl rfl ?aO ?aR (fun _ _ h => h) (fun _ h => h.elim) ?aF ?aB ?aS ?aL ?_;(case aR => exact cO ((Kd.R_reads' HO_3.out).2.2));(case aB => exact ib);(case aF => exact (fun k_ hk => Kd.fresh' (Kd.R_lt (rO HO_3.out)) k_ hk));(case aO => exact (rO (Kd.R_mono HO198.out (fun _ hk => hk.2))));(case aS => exact (below_size ib));(case aL => have:=LMc71.out;omega);intro v200 w76 ho hb hg hat;rw [← Ny199.out] at ho;replace HO_3:=Aside0.mk (Kd.R_after (ok:=(fun _ => True)) (rO HO_3.out) hg hat);replace HO_4:=Aside0.mk (Kd.S_after (ok:=(fun k_ => some k_ ≠ (.slice Ao73 x3_1.length co73 : Value).ownBlock)) (sO HO_4.out) hg hat);replace HB:=Aside0.mk (hb);have HO201:=Aside0.mk (ho);clear HO198;clear ho hb hg hat;obtain ⟨Ao78,co78,eo78⟩:=Kd.R_slice HO201.out;subst eo78) | ((with_reducible refine gate_builtin (b:=.append) (xs:=#[.tmp 64,.tmp 68]) rfl ?_);at_builtin;refine Kd.S_append (Kd.slice 73 k73) (w0:=w) w.heap.size rfl (.tmp 64) (.tmp 68) 36 25 (.slice none 0 0) 24 rfl Try.underlying36 info25 rfl (by decide) (by omega) u4 x4_1 y199 [.slice Ao78 y199.length co78] (fun k_ => some k_ ≠ (.slice Ao73 x3_1.length co73 : Value).ownBlock) (fun k_ => some k_ = (.slice Ao78 y199.length co78 : Value).ownBlock) rfl rfl ?aP (fun k_ hk_ => ((Kd.R_mono (ok':=fun k_ => ((fun k_ => some k_ ≠ (.slice Ao73 x3_1.length co73 : Value).ownBlock)) k_ ∧ some k_ ≠ (u4 : Value).ownBlock) (Kd.R_apart' (HO201.out) (Kd.S_typed HO_4.out) (by decide)) (fun k_ hk => ⟨hk.1,hk.2⟩))).1 k_ hk_.symm) ?aF ?aO ?aB ?aS ?aL ?_;(case aP => exact Kd.M_row (Kd.R_mono (Kd.R_tight rfl (Kd.R_mono (ok':=fun k_ => ((fun k_ => some k_ ≠ (.slice Ao73 x3_1.length co73 : Value).ownBlock)) k_ ∧ some k_ ≠ (u4 : Value).ownBlock) (Kd.R_apart' (HO201.out) (Kd.S_typed HO_4.out) (by decide)) (fun k_ hk => ⟨hk.1,hk.2⟩))) (fun _ h_ => h_)));(case aB => exact ib);(case aF => exact (fun k_ hk => Kd.fresh' (Kd.R_lt (rO HO_3.out)) k_ hk));(case aO => exact (sO (Kd.S_mono HO_4.out (fun k_ hk => ⟨hk.1,fun e_ => hk.2 e_⟩))));(case aS => exact (below_size ib));(case aL => have:=LMc72.out;omega);intro v203 w77 ho hb hg hat;rw [← Ny202.out] at ho;replace HO_3:=Aside0.mk (Kd.R_over' (rO HO_3.out) (Kd.S_typed (sO HO_4.out)) (by decide) hg);replace HB:=Aside0.mk (hb);have HO204:=Aside0.mk (ho);clear HO_4 HO201;clear ho hb hg hat))
       go_ret
       exact ⟨_,by first | rfl | (simp [errW_none,errW_some] <;> rfl) | (simp [*,errW_none,errW_some] <;> rfl),sO (Kd.S_mono HO204.out (fun _ hk => trivial)),ib⟩
      ·rw [if_neg c72] at H
       exact absurd H (by simp)
     ·rw [if_neg c71] at H
      exact absurd H (by simp)
 ·rw [if_neg c2] at H
  exact absurd H (by simp)
end Go.Proofs.Ytnnchaggdnlfmaa.PFnExactDisjoint
