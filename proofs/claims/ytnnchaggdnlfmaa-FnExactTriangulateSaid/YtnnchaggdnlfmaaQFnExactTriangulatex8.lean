/- Contracts of functions that FnExactTriangulate reaches, out of the lines of the kit's print. -/
import Derived.Test.YtnnchaggdnlfmaaQFnExactTriangulatex0
import Derived.Test.YtnnchaggdnlfmaaQFnExactTriangulatex7
namespace Go.Proofs.Ytnnchaggdnlfmaa.PFnExactTriangulate
open Go.RowKit Go.Proofs.YtnnchaggdnlfmaaW.PrintWords Go.Proofs.YtnnchaggdnlfmaaW.PrintLast Go.Proofs.YtnnchaggdnlfmaaW.PrintMore
open Bool renaming true → tT, false → fF
open Go.World renaming block_lt_of_cell? → bL
open List renaming setIfInBounds_toArray → iT, set_cons_zero → sZ, set_cons_succ → sC
attribute [local go_sem] max2_int min2_int max_two min_two max_three min_three max_four min_four
set_option linter.unusedVariables false
set_option linter.unusedSimpArgs false
mutual
def spec_l04Triangles.l0 : Nat → List (S73) → List (List (S73)) → Option ((List (List (S73))))
 | 0,_,_ => none
 | k + 1,x3,x4 => if (x3.length : Int) > 3 then (spec_l04Triangles.l1 k x3 x4 (x3.length : Int) 0) else ((some (([] : List (S73)) : List (S73))).bind fun y198 => (if y198.length + x3.length < 8796093022208 then (if x4.length < 5864062014805 then (some (x4 ++ [(y198 ++ x3)])) else (none)) else (none)))
def spec_l04Triangles.l1 : Nat → List (S73) → List (List (S73)) → Int → Int → Option ((List (List (S73))))
 | 0,_,_,_,_ => none
 | k + 1,x3,x4,x5,x6 => if x6 < (wrap64 (x5 - 1)) then ((spec_l04Ear.f k x3 x6).bind fun t207 => (if t207 = true then (if x5 = 0 then (none) else (if 0 ≤ (Int.tmod (wrap64 ((wrap64 (x6 + x5)) - 1)) x5) then (if (Int.tmod (wrap64 ((wrap64 (x6 + x5)) - 1)) x5) < (x3.length : Int) then (if 0 ≤ x6 then (if x6 < (x3.length : Int) then (if 0 ≤ (Int.tmod (wrap64 (x6 + 1)) x5) then (if (Int.tmod (wrap64 (x6 + 1)) x5) < (x3.length : Int) then (if x4.length < 5864062014805 then ((some (([] : List (S73)) : List (S73))).bind fun y217 => (if x6 ≤ (x3.length : Int) then ((some (x3.take (x6 : Int).toNat : List (S73))).bind fun y220 => (if y217.length + y220.length < 8796093022208 then ((some (y217 ++ y220 : List (S73))).bind fun y224 => (if 0 ≤ (wrap64 (x6 + 1)) then (if (wrap64 (x6 + 1)) ≤ (x3.length : Int) then ((some (x3.drop ((wrap64 (x6 + 1)) : Int).toNat : List (S73))).bind fun y227 => (if y224.length + y227.length < 8796093022208 then (spec_l04Triangles.l0 k (y224 ++ y227) (x4 ++ [(([(⟨(rd_T73 x3 (Int.tmod (wrap64 ((wrap64 (x6 + x5)) - 1)) x5)).f0,(rd_T73 x3 (Int.tmod (wrap64 ((wrap64 (x6 + x5)) - 1)) x5)).f1⟩ : S73),(⟨(rd_T73 x3 x6).f0,(rd_T73 x3 x6).f1⟩ : S73),(⟨(rd_T73 x3 (Int.tmod (wrap64 (x6 + 1)) x5)).f0,(rd_T73 x3 (Int.tmod (wrap64 (x6 + 1)) x5)).f1⟩ : S73)] : List (S73)))])) else (none))) else (none)) else (none))) else (none))) else (none))) else (none)) else (none)) else (none)) else (none)) else (none)) else (none)) else (none))) else (spec_l04Triangles.l1 k x3 x4 x5 (wrap64 (x6 + 1))))) else (if x5 = 0 then (none) else (if 0 ≤ (Int.tmod (wrap64 ((wrap64 (x6 + x5)) - 1)) x5) then (if (Int.tmod (wrap64 ((wrap64 (x6 + x5)) - 1)) x5) < (x3.length : Int) then (if 0 ≤ x6 then (if x6 < (x3.length : Int) then (if 0 ≤ (Int.tmod (wrap64 (x6 + 1)) x5) then (if (Int.tmod (wrap64 (x6 + 1)) x5) < (x3.length : Int) then (if x4.length < 5864062014805 then ((some (([] : List (S73)) : List (S73))).bind fun y243 => (if x6 ≤ (x3.length : Int) then ((some (x3.take (x6 : Int).toNat : List (S73))).bind fun y246 => (if y243.length + y246.length < 8796093022208 then ((some (y243 ++ y246 : List (S73))).bind fun y250 => (if 0 ≤ (wrap64 (x6 + 1)) then (if (wrap64 (x6 + 1)) ≤ (x3.length : Int) then ((some (x3.drop ((wrap64 (x6 + 1)) : Int).toNat : List (S73))).bind fun y253 => (if y250.length + y253.length < 8796093022208 then (spec_l04Triangles.l0 k (y250 ++ y253) (x4 ++ [(([(⟨(rd_T73 x3 (Int.tmod (wrap64 ((wrap64 (x6 + x5)) - 1)) x5)).f0,(rd_T73 x3 (Int.tmod (wrap64 ((wrap64 (x6 + x5)) - 1)) x5)).f1⟩ : S73),(⟨(rd_T73 x3 x6).f0,(rd_T73 x3 x6).f1⟩ : S73),(⟨(rd_T73 x3 (Int.tmod (wrap64 (x6 + 1)) x5)).f0,(rd_T73 x3 (Int.tmod (wrap64 (x6 + 1)) x5)).f1⟩ : S73)] : List (S73)))])) else (none))) else (none)) else (none))) else (none))) else (none))) else (none)) else (none)) else (none)) else (none)) else (none)) else (none)) else (none)))
end
def spec_l04Triangles.f (k : Nat) (l0 : List (S73)) : Option ((List (List (S73)))):=(some (([] : List (S73)) : List (S73))).bind fun y189 => (if y189.length + l0.length < 8796093022208 then (spec_l04Triangles.l0 k (y189 ++ l0) (([] : List (List (S73))))) else (none))
def spec_l04Triangles.T8 : Bool × List (List Nat × List Nat):=(true,[([],[]),([],[]),([],[]),([],[]),([2,3],[2,3]),([4],[4]),([],[]),([5,6],[5,6]),([1,7],[1,7]),([8],[8]),([],[]),([],[]),([10,11],[10,11]),([12],[12]),([],[]),([],[]),([15],[15]),([],[]),([16,17],[16,17]),([14,18],[14,18]),([19],[19]),([9,13,20],[9,13,20]),([21],[21]),([0,22],[0,22]),([23,23,0,1,2,3,4,5,6,7,8,9,10,11,12,13,14,15,16,17,18,19,20,21,22,23],[0,23])])
def spec_l04Triangles.B8 : List Nat:=[0,0,0,0,12,28,0,124,254,510,0,0,3072,7168,0,0,32768,0,229376,507904,1032192,2097150,4194302,8388607,16777215]
theorem spec_l04Triangles.tab8 : rtab .any (opsOf Try.f65 8) = spec_l04Triangles.T8:=by kernel_rfl
theorem spec_l04Triangles.bits8 : waitsOk spec_l04Triangles.T8.2 spec_l04Triangles.B8 = true:=by kernel_rfl
set_option maxHeartbeats 8000000 in
set_option maxRecDepth 100000 in
theorem spec_l04Triangles.calls (k : Nat) (A0 : Option Addr) (c0 : Nat) (l0 : List (S73)) (r : List (List (S73))) (w : World) (hr0 : Kd.C k73 w A0 l0.length l0) (hc0 : l0.length ≤ c0) (h : spec_l04Triangles.f k l0 = some r) :
  Calls Try.prog 65 #[.slice A0 l0.length c0] w fun e w' => ∃ v0_ : Value,e = .returned (v0_) ∧ Kd.S (Kd.slice 73 k73) 25 w' w.heap.size (fun _ => True) v0_ r ∧ Below w.heap.size w w':=by
 have hu73:=Try.underlying73
 have HR0:=Aside0.mk hr0
 have HC0:=Aside0.mk hc0
 clear hr0 hc0
 have HB:=Aside0.mk (Below.refl w.heap.size w)
 have H : ((some (([] : List (S73)) : List (S73))).bind fun y189 => (if y189.length + l0.length < 8796093022208 then (spec_l04Triangles.l0 k (y189 ++ l0) (([] : List (List (S73))))) else (none))) = some r:=h
 clear h
 obtain ⟨y189,hy189⟩ : ∃ y_ : List (S73),y_ = (([] : List (S73))):=⟨_,rfl⟩
 replace H : (if y189.length + l0.length < 8796093022208 then (spec_l04Triangles.l0 k (y189 ++ l0) (([] : List (List (S73))))) else (none)) = some r:=by first | (rw [hy189];with_reducible exact H) | (have H2_:=(Option.bind_some _ _).symm.trans H;rw [hy189];with_reducible exact H2_) | (have H2_:=(Option.bind_some _ _).symm.trans H;with_reducible exact H2_) | with_reducible exact H | (rw [hy189];exact H) | exact H
 have Ny189:=Aside0.mk hy189
 clear hy189
 by_cases c2 : y189.length + l0.length < 8796093022208
 ·rw [if_pos c2] at H
  have LMc2:=Aside0.mk c2
  clear c2
  obtain ⟨y192,hy192⟩ : ∃ y_ : List (S73),y_ = (y189 ++ l0):=⟨_,rfl⟩
  replace H : (spec_l04Triangles.l0 k y192 (([] : List (List (S73))))) = some r:=by first | (rw [hy192];with_reducible exact H) | (have H2_:=(Option.bind_some _ _).symm.trans H;rw [hy192];with_reducible exact H2_) | (have H2_:=(Option.bind_some _ _).symm.trans H;with_reducible exact H2_) | with_reducible exact H | (rw [hy192];exact H) | exact H
  have Ny192:=Aside0.mk hy192
  clear hy192
  obtain ⟨y195,hy195⟩ : ∃ y_ : List (List (S73)),y_ = (([] : List (List (S73)))):=⟨_,rfl⟩
  replace H : (spec_l04Triangles.l0 k y192 y195) = some r:=by first | (rw [hy195];with_reducible exact H) | (have H2_:=(Option.bind_some _ _).symm.trans H;rw [hy195];with_reducible exact H2_) | (have H2_:=(Option.bind_some _ _).symm.trans H;with_reducible exact H2_) | with_reducible exact H | (rw [hy195];exact H) | exact H
  have Ny195:=Aside0.mk hy195
  clear hy195
  have H':=Aside0.mk H
  clear H
  go_enter Try.func65,Try.ntmps65
  go_wp2_with (first | ((with_reducible refine gate_dst (N:=8) rfl ?_);refine Kd.R_lit k73 _ 73 ?hg (N:=8) ?hd (xs:=([] : List (S73))) (inner:=[]) (ok:=fun _ => True) (okp:=fun _ => True) ?hr ?hp (fun _ hk => hk) trivial (Below.refl _ _) (Nat.le_refl _) (by simp) ?_;(case hd => rfl);(case hg => rfl);(case hr => first | (go_simp;done) | (go_simp;rfl));(case hp => exact (Reps.none _ _));intro v190 w3 ho4 hb hg_ hnew_;clear hg_ hnew_;(first | rw [← Ny189.out] at ho4 | (simp only [Int.reduceToNat] at ho4;rw [← Ny189.out] at ho4));have HO191:=Aside0.mk (Kd.R_lower ho4 (below_size ib));replace HB:=sb hb;clear hb ho4) | ((with_reducible refine gate_builtin (b:=.append) (xs:=#[.tmp 8,.tmp 9]) rfl ?_);at_builtin;refine Kd.R_append_rows k73 (w0:=w) w.heap.size rfl (.tmp 8) (.tmp 9) 25 73 (.agg #[(.int .i64 0),(.int .i64 0)]) 16 rfl Try.underlying25 info73 rfl (by decide) (by omega) v190 y189 l0 _ _ _ (fun _ => True) (fun _ => False) rfl rfl ?aO ?aR (fun _ _ h => h) (fun _ h => h.elim) ?aF ?aB ?aS ?aL ?_;(case aR => exact cO ((Kd.C_below HR0.out HB.out)));(case aB => exact ib);(case aF => exact (fun _ _ => trivial));(case aO => exact (rO HO191.out));(case aS => exact (below_size ib));(case aL => have:=LMc2.out;omega);intro v193 w5 ho hb hg hat;rw [← Ny192.out] at ho;replace HB:=Aside0.mk (hb);have HO194:=Aside0.mk (ho);clear HO191;clear ho hb hg hat) | ((with_reducible refine gate_dst (N:=11) rfl ?_);refine Kd.S_lit (Kd.slice 73 k73) _ 25 ?hg (N:=11) ?hd (xs:=([] : List (List (S73)))) (inner:=[]) (ok:=fun _ => True) (okp:=fun _ => True) ?hr ?hp (fun _ hk => hk) trivial (Below.refl _ _) (Nat.le_refl _) (by simp) ?_;(case hd => rfl);(case hg => rfl);(case hr => first | (go_simp;done) | (go_simp;rfl));(case hp => exact (Reps.none _ _));intro v196 w6 ho7 hb hg_ hnew_;clear hg_ hnew_;(first | rw [← Ny195.out] at ho7 | (simp only [Int.reduceToNat] at ho7;rw [← Ny195.out] at ho7));have HO197:=Aside0.mk (Kd.S_lower (Kd.S_new' ho7 (Kd.R_lt (rO HO194.out))) (below_size ib));replace HO194:=Aside0.mk (Kd.R_below (rO HO194.out) hb);replace HB:=sb hb;clear hb ho7))
  go_loopg [3,4] k (fun kq v3 v4 w' => ∃ (x3_1 : List (S73)) (x4_1 : List (List (S73))),Aside0 (spec_l04Triangles.l0 kq x3_1 x4_1 = some r) ∧ Aside0 (kq ≤ k) ∧ Aside0 (Kd.R k73 73 w' w.heap.size (fun _ => True) v3 x3_1) ∧ Aside0 (Kd.S (Kd.slice 73 k73) 25 w' w.heap.size (fun k_ => some k_ ≠ (v3 : Value).ownBlock) v4 x4_1) ∧ Aside0 (Below w.heap.size w w'))
  case atStart => exact ⟨(y192),(y195),H',⟨Nat.le_refl _⟩,⟨rO HO194.out⟩,⟨sO (Kd.S_mono HO197.out (fun _ hk => hk.2))⟩,⟨ib⟩⟩
  case round =>
   clear H'
   try clear c2
   try clear p2
   try clear c6
   obtain ⟨x3_1,x4_1,HA,HK1,HO_3,HO_4,HB⟩:=hrel
   cases gk with
   | zero => exact absurd HA.out (by simp [spec_l04Triangles.l0])
   | succ k1 =>
    have H:=HA.out
    clear HA
    simp only [spec_l04Triangles.l0] at H
    by_cases c8 : (x3_1.length : Int) > 3
    ·rw [if_pos c8] at H
     have c8b0 : decide (3 < (x3_1.length : Int)) = true:=decide_eq_true c8
     have c8b1 : decide (3 < x3_1.length) = true:=decide_eq_true (by omega)
     clear c8
     have H':=Aside0.mk H
     clear H
     obtain ⟨Ao9,co9,eo9⟩:=Kd.R_slice HO_3.out
     subst eo9
     go_wp2
     go_loopg [6] k1 (fun kq v6 w' => ∃ (x6_2 : Int),v6 = .int .i64 x6_2 ∧ Aside0 (spec_l04Triangles.l1 kq x3_1 x4_1 (x3_1.length : Int) x6_2 = some r) ∧ Aside0 (kq ≤ k1) ∧ Aside0 (Kd.R k73 73 w' w.heap.size (fun _ => True) (.slice Ao9 x3_1.length co9) x3_1) ∧ Aside0 (Kd.S (Kd.slice 73 k73) 25 w' w.heap.size (fun k_ => some k_ ≠ ((.slice Ao9 x3_1.length co9) : Value).ownBlock) u4 x4_1) ∧ Aside0 (Below w.heap.size w w'))
     case atStart => exact ⟨(0),(by first | rfl | (simp;done) | (simp [*];done)),H',⟨Nat.le_refl _⟩,⟨rO HO_3.out⟩,⟨sO HO_4.out⟩,⟨ib⟩⟩
     case round =>
      clear H'
      try clear c2
      try clear p2
      try clear c6
      try clear c8
      try clear c8b0
      try clear c8b1
      try clear p2
      obtain ⟨x6_2,rfl,HA,HK2,HO_3,HO_4,HB⟩:=hrel
      cases gk with
      | zero => exact absurd HA.out (by simp [spec_l04Triangles.l1])
      | succ k2 =>
       have H:=HA.out
       clear HA
       simp only [spec_l04Triangles.l1] at H
       by_cases c10 : x6_2 < (wrap64 ((x3_1.length : Int) - 1))
       ·rw [if_pos c10] at H
        have c10b0 : decide (x6_2 < (wrap64 ((x3_1.length : Int) - 1))) = true:=decide_eq_true c10
        clear c10
        replace H:=Option.bind_eq_some_iff.mp H
        obtain ⟨t207,A110,H⟩:=H
        replace H : (if t207 = true then (if (x3_1.length : Int) = 0 then (none) else (if 0 ≤ (Int.tmod (wrap64 ((wrap64 (x6_2 + (x3_1.length : Int))) - 1)) (x3_1.length : Int)) then (if (Int.tmod (wrap64 ((wrap64 (x6_2 + (x3_1.length : Int))) - 1)) (x3_1.length : Int)) < (x3_1.length : Int) then (if 0 ≤ x6_2 then (if x6_2 < (x3_1.length : Int) then (if 0 ≤ (Int.tmod (wrap64 (x6_2 + 1)) (x3_1.length : Int)) then (if (Int.tmod (wrap64 (x6_2 + 1)) (x3_1.length : Int)) < (x3_1.length : Int) then (if x4_1.length < 5864062014805 then ((some (([] : List (S73)) : List (S73))).bind fun y217 => (if x6_2 ≤ (x3_1.length : Int) then ((some (x3_1.take (x6_2 : Int).toNat : List (S73))).bind fun y220 => (if y217.length + y220.length < 8796093022208 then ((some (y217 ++ y220 : List (S73))).bind fun y224 => (if 0 ≤ (wrap64 (x6_2 + 1)) then (if (wrap64 (x6_2 + 1)) ≤ (x3_1.length : Int) then ((some (x3_1.drop ((wrap64 (x6_2 + 1)) : Int).toNat : List (S73))).bind fun y227 => (if y224.length + y227.length < 8796093022208 then (spec_l04Triangles.l0 k2 (y224 ++ y227) (x4_1 ++ [(([(⟨(rd_T73 x3_1 (Int.tmod (wrap64 ((wrap64 (x6_2 + (x3_1.length : Int))) - 1)) (x3_1.length : Int))).f0,(rd_T73 x3_1 (Int.tmod (wrap64 ((wrap64 (x6_2 + (x3_1.length : Int))) - 1)) (x3_1.length : Int))).f1⟩ : S73),(⟨(rd_T73 x3_1 x6_2).f0,(rd_T73 x3_1 x6_2).f1⟩ : S73),(⟨(rd_T73 x3_1 (Int.tmod (wrap64 (x6_2 + 1)) (x3_1.length : Int))).f0,(rd_T73 x3_1 (Int.tmod (wrap64 (x6_2 + 1)) (x3_1.length : Int))).f1⟩ : S73)] : List (S73)))])) else (none))) else (none)) else (none))) else (none))) else (none))) else (none)) else (none)) else (none)) else (none)) else (none)) else (none)) else (none))) else (spec_l04Triangles.l1 k2 x3_1 x4_1 (x3_1.length : Int) (wrap64 (x6_2 + 1)))) = some r:=H
        have A11:=Aside0.mk A110
        clear A110
        by_cases c12 : t207 = true
        ·subst c12
         have H1 : (if (x3_1.length : Int) = 0 then (none) else (if 0 ≤ (Int.tmod (wrap64 ((wrap64 (x6_2 + (x3_1.length : Int))) - 1)) (x3_1.length : Int)) then (if (Int.tmod (wrap64 ((wrap64 (x6_2 + (x3_1.length : Int))) - 1)) (x3_1.length : Int)) < (x3_1.length : Int) then (if 0 ≤ x6_2 then (if x6_2 < (x3_1.length : Int) then (if 0 ≤ (Int.tmod (wrap64 (x6_2 + 1)) (x3_1.length : Int)) then (if (Int.tmod (wrap64 (x6_2 + 1)) (x3_1.length : Int)) < (x3_1.length : Int) then (if x4_1.length < 5864062014805 then ((some (([] : List (S73)) : List (S73))).bind fun y217 => (if x6_2 ≤ (x3_1.length : Int) then ((some (x3_1.take (x6_2 : Int).toNat : List (S73))).bind fun y220 => (if y217.length + y220.length < 8796093022208 then ((some (y217 ++ y220 : List (S73))).bind fun y224 => (if 0 ≤ (wrap64 (x6_2 + 1)) then (if (wrap64 (x6_2 + 1)) ≤ (x3_1.length : Int) then ((some (x3_1.drop ((wrap64 (x6_2 + 1)) : Int).toNat : List (S73))).bind fun y227 => (if y224.length + y227.length < 8796093022208 then (spec_l04Triangles.l0 k2 (y224 ++ y227) (x4_1 ++ [(([(⟨(rd_T73 x3_1 (Int.tmod (wrap64 ((wrap64 (x6_2 + (x3_1.length : Int))) - 1)) (x3_1.length : Int))).f0,(rd_T73 x3_1 (Int.tmod (wrap64 ((wrap64 (x6_2 + (x3_1.length : Int))) - 1)) (x3_1.length : Int))).f1⟩ : S73),(⟨(rd_T73 x3_1 x6_2).f0,(rd_T73 x3_1 x6_2).f1⟩ : S73),(⟨(rd_T73 x3_1 (Int.tmod (wrap64 (x6_2 + 1)) (x3_1.length : Int))).f0,(rd_T73 x3_1 (Int.tmod (wrap64 (x6_2 + 1)) (x3_1.length : Int))).f1⟩ : S73)] : List (S73)))])) else (none))) else (none)) else (none))) else (none))) else (none))) else (none)) else (none)) else (none)) else (none)) else (none)) else (none)) else (none))) = some r:=by rw [if_pos rfl] at H;exact H
         clear H
         have H:=H1
         clear H1
         by_cases c13 : (x3_1.length : Int) = 0
         ·rw [if_pos c13] at H
          exact absurd H (by simp)
         ·rw [if_neg c13] at H
          have c13b0 : ((x3_1.length : Int) == 0) = false:=beq_eq_false_iff_ne.mpr c13
          have c13b1 : ((x3_1.length : Int) != 0) = true:=bne_iff_ne.mpr c13
          have c13b2 : ¬ (x3_1 = []):=fun h_ => c13 (by rw [h_];rfl)
          obtain ⟨ji14,hji14⟩ : ∃ j_ : Int,(Int.tmod (wrap64 ((wrap64 (x6_2 + (x3_1.length : Int))) - 1)) (x3_1.length : Int)) = j_:=⟨_,rfl⟩
          replace H : (if 0 ≤ (ji14) then (if (ji14) < (x3_1.length : Int) then (if 0 ≤ x6_2 then (if x6_2 < (x3_1.length : Int) then (if 0 ≤ (Int.tmod (wrap64 (x6_2 + 1)) (x3_1.length : Int)) then (if (Int.tmod (wrap64 (x6_2 + 1)) (x3_1.length : Int)) < (x3_1.length : Int) then (if x4_1.length < 5864062014805 then ((some (([] : List (S73)) : List (S73))).bind fun y217 => (if x6_2 ≤ (x3_1.length : Int) then ((some (x3_1.take (x6_2 : Int).toNat : List (S73))).bind fun y220 => (if y217.length + y220.length < 8796093022208 then ((some (y217 ++ y220 : List (S73))).bind fun y224 => (if 0 ≤ (wrap64 (x6_2 + 1)) then (if (wrap64 (x6_2 + 1)) ≤ (x3_1.length : Int) then ((some (x3_1.drop ((wrap64 (x6_2 + 1)) : Int).toNat : List (S73))).bind fun y227 => (if y224.length + y227.length < 8796093022208 then (spec_l04Triangles.l0 k2 (y224 ++ y227) (x4_1 ++ [(([(⟨(rd_T73 x3_1 (ji14)).f0,(rd_T73 x3_1 (ji14)).f1⟩ : S73),(⟨(rd_T73 x3_1 x6_2).f0,(rd_T73 x3_1 x6_2).f1⟩ : S73),(⟨(rd_T73 x3_1 (Int.tmod (wrap64 (x6_2 + 1)) (x3_1.length : Int))).f0,(rd_T73 x3_1 (Int.tmod (wrap64 (x6_2 + 1)) (x3_1.length : Int))).f1⟩ : S73)] : List (S73)))])) else (none))) else (none)) else (none))) else (none))) else (none))) else (none)) else (none)) else (none)) else (none)) else (none)) else (none)) else (none)) = some r:=by first | (rw [hji14] at H;exact H) | (simp only [hji14] at H ⊢;exact H)
          (try rw [hji14] at A11)
          by_cases c15 : 0 ≤ (ji14)
          ·rw [if_pos c15] at H
           have c15b0 : decide (0 ≤ (ji14)) = true:=decide_eq_true c15
           clear c15
           by_cases c16 : (ji14) < (x3_1.length : Int)
           ·rw [if_pos c16] at H
            have c16b0 : decide ((ji14) < (x3_1.length : Int)) = true:=decide_eq_true c16
            clear c16
            by_cases c17 : 0 ≤ x6_2
            ·rw [if_pos c17] at H
             have c17b0 : decide (0 ≤ x6_2) = true:=decide_eq_true c17
             clear c17
             by_cases c18 : x6_2 < (x3_1.length : Int)
             ·rw [if_pos c18] at H
              have c18b0 : decide (x6_2 < (x3_1.length : Int)) = true:=decide_eq_true c18
              clear c18
              obtain ⟨ji19,hji19⟩ : ∃ j_ : Int,(Int.tmod (wrap64 (x6_2 + 1)) (x3_1.length : Int)) = j_:=⟨_,rfl⟩
              replace H : (if 0 ≤ (ji19) then (if (ji19) < (x3_1.length : Int) then (if x4_1.length < 5864062014805 then ((some (([] : List (S73)) : List (S73))).bind fun y217 => (if x6_2 ≤ (x3_1.length : Int) then ((some (x3_1.take (x6_2 : Int).toNat : List (S73))).bind fun y220 => (if y217.length + y220.length < 8796093022208 then ((some (y217 ++ y220 : List (S73))).bind fun y224 => (if 0 ≤ (wrap64 (x6_2 + 1)) then (if (wrap64 (x6_2 + 1)) ≤ (x3_1.length : Int) then ((some (x3_1.drop ((wrap64 (x6_2 + 1)) : Int).toNat : List (S73))).bind fun y227 => (if y224.length + y227.length < 8796093022208 then (spec_l04Triangles.l0 k2 (y224 ++ y227) (x4_1 ++ [(([(⟨(rd_T73 x3_1 (ji14)).f0,(rd_T73 x3_1 (ji14)).f1⟩ : S73),(⟨(rd_T73 x3_1 x6_2).f0,(rd_T73 x3_1 x6_2).f1⟩ : S73),(⟨(rd_T73 x3_1 (ji19)).f0,(rd_T73 x3_1 (ji19)).f1⟩ : S73)] : List (S73)))])) else (none))) else (none)) else (none))) else (none))) else (none))) else (none)) else (none)) else (none)) = some r:=by first | (rw [hji19] at H;exact H) | (simp only [hji19] at H ⊢;exact H)
              (try rw [hji19] at A11)
              by_cases c20 : 0 ≤ (ji19)
              ·rw [if_pos c20] at H
               have c20b0 : decide (0 ≤ (ji19)) = true:=decide_eq_true c20
               clear c20
               by_cases c21 : (ji19) < (x3_1.length : Int)
               ·rw [if_pos c21] at H
                have c21b0 : decide ((ji19) < (x3_1.length : Int)) = true:=decide_eq_true c21
                clear c21
                obtain ⟨y211,hy211⟩ : ∃ y_ : List (S73),y_ = (([(⟨(rd_T73 x3_1 (ji14)).f0,(rd_T73 x3_1 (ji14)).f1⟩ : S73),(⟨(rd_T73 x3_1 x6_2).f0,(rd_T73 x3_1 x6_2).f1⟩ : S73),(⟨(rd_T73 x3_1 (ji19)).f0,(rd_T73 x3_1 (ji19)).f1⟩ : S73)] : List (S73))):=⟨_,rfl⟩
                replace H : (if x4_1.length < 5864062014805 then ((some (([] : List (S73)) : List (S73))).bind fun y217 => (if x6_2 ≤ (x3_1.length : Int) then ((some (x3_1.take (x6_2 : Int).toNat : List (S73))).bind fun y220 => (if y217.length + y220.length < 8796093022208 then ((some (y217 ++ y220 : List (S73))).bind fun y224 => (if 0 ≤ (wrap64 (x6_2 + 1)) then (if (wrap64 (x6_2 + 1)) ≤ (x3_1.length : Int) then ((some (x3_1.drop ((wrap64 (x6_2 + 1)) : Int).toNat : List (S73))).bind fun y227 => (if y224.length + y227.length < 8796093022208 then (spec_l04Triangles.l0 k2 (y224 ++ y227) (x4_1 ++ [y211])) else (none))) else (none)) else (none))) else (none))) else (none))) else (none)) = some r:=by first | (rw [hy211];with_reducible exact H) | (have H2_:=(Option.bind_some _ _).symm.trans H;rw [hy211];with_reducible exact H2_) | (have H2_:=(Option.bind_some _ _).symm.trans H;with_reducible exact H2_) | with_reducible exact H | (rw [hy211];exact H) | exact H
                have Ny211:=Aside0.mk hy211
                clear hy211
                by_cases c22 : x4_1.length < 5864062014805
                ·rw [if_pos c22] at H
                 have LMc22:=Aside0.mk c22
                 clear c22
                 obtain ⟨y214,hy214⟩ : ∃ y_ : List (List (S73)),y_ = (x4_1 ++ [y211]):=⟨_,rfl⟩
                 replace H : ((some (([] : List (S73)) : List (S73))).bind fun y217 => (if x6_2 ≤ (x3_1.length : Int) then ((some (x3_1.take (x6_2 : Int).toNat : List (S73))).bind fun y220 => (if y217.length + y220.length < 8796093022208 then ((some (y217 ++ y220 : List (S73))).bind fun y224 => (if 0 ≤ (wrap64 (x6_2 + 1)) then (if (wrap64 (x6_2 + 1)) ≤ (x3_1.length : Int) then ((some (x3_1.drop ((wrap64 (x6_2 + 1)) : Int).toNat : List (S73))).bind fun y227 => (if y224.length + y227.length < 8796093022208 then (spec_l04Triangles.l0 k2 (y224 ++ y227) y214) else (none))) else (none)) else (none))) else (none))) else (none))) = some r:=by first | (rw [hy214];with_reducible exact H) | (have H2_:=(Option.bind_some _ _).symm.trans H;rw [hy214];with_reducible exact H2_) | (have H2_:=(Option.bind_some _ _).symm.trans H;with_reducible exact H2_) | with_reducible exact H | (rw [hy214];exact H) | exact H
                 have Ny214:=Aside0.mk hy214
                 clear hy214
                 obtain ⟨y217,hy217⟩ : ∃ y_ : List (S73),y_ = (([] : List (S73))):=⟨_,rfl⟩
                 replace H : (if x6_2 ≤ (x3_1.length : Int) then ((some (x3_1.take (x6_2 : Int).toNat : List (S73))).bind fun y220 => (if y217.length + y220.length < 8796093022208 then ((some (y217 ++ y220 : List (S73))).bind fun y224 => (if 0 ≤ (wrap64 (x6_2 + 1)) then (if (wrap64 (x6_2 + 1)) ≤ (x3_1.length : Int) then ((some (x3_1.drop ((wrap64 (x6_2 + 1)) : Int).toNat : List (S73))).bind fun y227 => (if y224.length + y227.length < 8796093022208 then (spec_l04Triangles.l0 k2 (y224 ++ y227) y214) else (none))) else (none)) else (none))) else (none))) else (none)) = some r:=by first | (rw [hy217];with_reducible exact H) | (have H2_:=(Option.bind_some _ _).symm.trans H;rw [hy217];with_reducible exact H2_) | (have H2_:=(Option.bind_some _ _).symm.trans H;with_reducible exact H2_) | with_reducible exact H | (rw [hy217];exact H) | exact H
                 have Ny217:=Aside0.mk hy217
                 clear hy217
                 have c23b0:=eq_true (da : 0 ≤ x6_2)
                 by_cases c24 : x6_2 ≤ (x3_1.length : Int)
                 ·rw [if_pos c24] at H
                  have c24b0:=eq_true c24
                  have c24b1 : decide (x6_2 ≤ (x3_1.length : Int)) = true:=decide_eq_true c24
                  clear c24
                  obtain ⟨y220,hy220⟩ : ∃ y_ : List (S73),y_ = (x3_1.take (x6_2 : Int).toNat):=⟨_,rfl⟩
                  replace H : (if y217.length + y220.length < 8796093022208 then ((some (y217 ++ y220 : List (S73))).bind fun y224 => (if 0 ≤ (wrap64 (x6_2 + 1)) then (if (wrap64 (x6_2 + 1)) ≤ (x3_1.length : Int) then ((some (x3_1.drop ((wrap64 (x6_2 + 1)) : Int).toNat : List (S73))).bind fun y227 => (if y224.length + y227.length < 8796093022208 then (spec_l04Triangles.l0 k2 (y224 ++ y227) y214) else (none))) else (none)) else (none))) else (none)) = some r:=by first | (rw [hy220];with_reducible exact H) | (have H2_:=(Option.bind_some _ _).symm.trans H;rw [hy220];with_reducible exact H2_) | (have H2_:=(Option.bind_some _ _).symm.trans H;with_reducible exact H2_) | with_reducible exact H | (rw [hy220];exact H) | exact H
                  have Ny220:=Aside0.mk hy220
                  clear hy220
                  by_cases c25 : y217.length + y220.length < 8796093022208
                  ·rw [if_pos c25] at H
                   have LMc25:=Aside0.mk c25
                   clear c25
                   obtain ⟨y224,hy224⟩ : ∃ y_ : List (S73),y_ = (y217 ++ y220):=⟨_,rfl⟩
                   replace H : (if 0 ≤ (wrap64 (x6_2 + 1)) then (if (wrap64 (x6_2 + 1)) ≤ (x3_1.length : Int) then ((some (x3_1.drop ((wrap64 (x6_2 + 1)) : Int).toNat : List (S73))).bind fun y227 => (if y224.length + y227.length < 8796093022208 then (spec_l04Triangles.l0 k2 (y224 ++ y227) y214) else (none))) else (none)) else (none)) = some r:=by first | (rw [hy224];with_reducible exact H) | (have H2_:=(Option.bind_some _ _).symm.trans H;rw [hy224];with_reducible exact H2_) | (have H2_:=(Option.bind_some _ _).symm.trans H;with_reducible exact H2_) | with_reducible exact H | (rw [hy224];exact H) | exact H
                   have Ny224:=Aside0.mk hy224
                   clear hy224
                   obtain ⟨ji26,hji26⟩ : ∃ j_ : Int,(wrap64 (x6_2 + 1)) = j_:=⟨_,rfl⟩
                   have hji19vji26 : (Int.tmod ji26 (x3_1.length : Int)) = ji19:=by first | (rw [← hji26];exact hji19) | exact hji19
                   replace H : (if 0 ≤ (ji26) then (if (ji26) ≤ (x3_1.length : Int) then ((some (x3_1.drop ((ji26) : Int).toNat : List (S73))).bind fun y227 => (if y224.length + y227.length < 8796093022208 then (spec_l04Triangles.l0 k2 (y224 ++ y227) y214) else (none))) else (none)) else (none)) = some r:=by first | (rw [hji26] at H;exact H) | (simp only [hji26] at H ⊢;exact H)
                   (try rw [hji26] at A11)
                   have hji26w : (IntKind.i64.wrap (x6_2 + 1)) = ji26:=(i64_w _).trans hji26
                   by_cases c27 : 0 ≤ (ji26)
                   ·rw [if_pos c27] at H
                    have c27b0:=eq_true c27
                    have c27b1 : decide (0 ≤ (ji26)) = true:=decide_eq_true c27
                    clear c27
                    by_cases c28 : (ji26) ≤ (x3_1.length : Int)
                    ·rw [if_pos c28] at H
                     have c28b0:=eq_true c28
                     have c28b1 : decide ((ji26) ≤ (x3_1.length : Int)) = true:=decide_eq_true c28
                     clear c28
                     obtain ⟨y227,hy227⟩ : ∃ y_ : List (S73),y_ = (x3_1.drop ((ji26) : Int).toNat):=⟨_,rfl⟩
                     replace H : (if y224.length + y227.length < 8796093022208 then (spec_l04Triangles.l0 k2 (y224 ++ y227) y214) else (none)) = some r:=by first | (rw [hy227];with_reducible exact H) | (have H2_:=(Option.bind_some _ _).symm.trans H;rw [hy227];with_reducible exact H2_) | (have H2_:=(Option.bind_some _ _).symm.trans H;with_reducible exact H2_) | with_reducible exact H | (rw [hy227];exact H) | exact H
                     have Ny227:=Aside0.mk hy227
                     clear hy227
                     by_cases c29 : y224.length + y227.length < 8796093022208
                     ·rw [if_pos c29] at H
                      have LMc29:=Aside0.mk c29
                      clear c29
                      obtain ⟨y231,hy231⟩ : ∃ y_ : List (S73),y_ = (y224 ++ y227):=⟨_,rfl⟩
                      replace H : (spec_l04Triangles.l0 k2 y231 y214) = some r:=by first | (rw [hy231];with_reducible exact H) | (have H2_:=(Option.bind_some _ _).symm.trans H;rw [hy231];with_reducible exact H2_) | (have H2_:=(Option.bind_some _ _).symm.trans H;with_reducible exact H2_) | with_reducible exact H | (rw [hy231];exact H) | exact H
                      have Ny231:=Aside0.mk hy231
                      clear hy231
                      have H':=Aside0.mk H
                      clear H
                      try go_wp2_with (first | (go_at_call 109;(with_reducible refine (spec_l04Ear.calls k2 _ _ x3_1 x6_2 true _ ?side1 ?side2 A11.out).mono ?_);(case side1 => exact cO ((Kd.R_reads' HO_3.out).2.2));(case side2 => exact (Kd.R_reads' HO_3.out).2.1);rintro e w30 ⟨rfl,hb⟩;replace HO_3:=Aside0.mk (Kd.R_below (rO HO_3.out) hb);replace HO_4:=Aside0.mk (Kd.S_below (sO HO_4.out) hb);replace HB:=sb hb;(try clear hb);(try clear hb2);(try clear hk);(try clear hi)))
                      replace HO_3:=Aside0.mk (Kd.R_drew HO_3.out)
                      replace HO_4:=Aside0.mk (Kd.S_drew HO_4.out)
                      replace HB:=Aside0.mk (below_drew1 HB.out)
                      have p208 : 0 ≤ ((ji14) : Int):=da
                      have q208 : (ji14) < (x3_1.length : Int):=da
                      obtain ⟨ad208,e208,hx208_0,hx208_1⟩:=at_T73 (Kd.R_reads' HO_3.out).2.2 (ji14) p208 q208
                      cases e208
                      replace p208:=eq_true p208
                      replace q208:=eq_true q208
                      have p209 : 0 ≤ (x6_2 : Int):=da
                      have q209 : x6_2 < (x3_1.length : Int):=da
                      obtain ⟨ad209,e209,hx209_0,hx209_1⟩:=at_T73 (Kd.R_reads' HO_3.out).2.2 x6_2 p209 q209
                      obtain rfl : ad208 = ad209:=(by injection e209)
                      replace p209:=eq_true p209
                      replace q209:=eq_true q209
                      have p210 : 0 ≤ ((ji19) : Int):=da
                      have q210 : (ji19) < (x3_1.length : Int):=da
                      obtain ⟨ad210,e210,hx210_0,hx210_1⟩:=at_T73 (Kd.R_reads' HO_3.out).2.2 (ji19) p210 q210
                      obtain rfl : ad208 = ad210:=(by injection e210)
                      replace p210:=eq_true p210
                      replace q210:=eq_true q210
                      refine start_ (n:=25) (S:=fun w' => w'.cell? (ad208.add (((ji14)).toNat * 2)) = some (.int .i64 ((rd_T73 x3_1 (ji14)).f0)) ∧ w'.cell? ⟨(ad208.add (((ji14)).toNat * 2)).block,(ad208.add (((ji14)).toNat * 2)).off + 1,none⟩ = some (.int .i64 ((rd_T73 x3_1 (ji14)).f1)) ∧ w'.cell? (ad208.add ((x6_2).toNat * 2)) = some (.int .i64 ((rd_T73 x3_1 x6_2).f0)) ∧ w'.cell? ⟨(ad208.add ((x6_2).toNat * 2)).block,(ad208.add ((x6_2).toNat * 2)).off + 1,none⟩ = some (.int .i64 ((rd_T73 x3_1 x6_2).f1)) ∧ w'.cell? (ad208.add (((ji19)).toNat * 2)) = some (.int .i64 ((rd_T73 x3_1 (ji19)).f0)) ∧ w'.cell? ⟨(ad208.add (((ji19)).toNat * 2)).block,(ad208.add (((ji19)).toNat * 2)).off + 1,none⟩ = some (.int .i64 ((rd_T73 x3_1 (ji19)).f1))) (ds:=[22,23]) #[fF,fF,fF,fF,fF,fF,fF,fF,fF,fF,fF,fF,fF,fF,fF,fF,fF,fF,fF,fF,fF,fF,fF,fF,fF] (by kernel_rfl) rfl rfl ⟨hx208_0,hx208_1,hx209_0,hx209_1,hx210_0,hx210_1⟩ (fun hHeld => ?_);refine with_tabW spec_l04Triangles.tab8 spec_l04Triangles.bits8 (fun HT_ HW_ => ?_)
                      generalize w30.drew = w31 at HO_3 HO_4 HB hx208_0 hx208_1 hx209_0 hx209_1 hx210_0 hx210_1 hHeld ⊢
                      refine pu 0 29 HT_ ?_
                      refine pu 1 30 HT_ ?_
                      refine pu 2 31 HT_ ?_
                      refine pu 3 32 HT_ ?_
                      refine pu 4 33 HT_ ?_
                      refine pu 5 34 HT_ ?_
                      refine pu 6 35 HT_ ?_
                      refine pu 7 36 HT_ ?_
                      refine pu 8 37 HT_ ?_
                      refine pu 10 39 HT_ ?_
                      refine pu 11 40 HT_ ?_
                      refine pu 12 41 HT_ ?_
                      refine pu 14 43 HT_ ?_
                      refine pu 15 44 HT_ ?_
                      refine pu 16 45 HT_ ?_
                      refine pu 17 46 HT_ ?_
                      refine pu 18 47 HT_ ?_
                      refine pu 19 48 HT_ ?_
                      refine tk 9 38 HT_ HW_ hHeld ?_
                      refine tk 13 42 HT_ HW_ hHeld ?_
                      refine tk 20 49 HT_ HW_ hHeld ?_
                      refine on 21 50 HT_ (fun K hK => ?_)
                      refine Kd.R_lit_step k73 _ 73 ?hg (N:=50) ?hd (xs:=([(⟨(rd_T73 x3_1 (ji14)).f0,(rd_T73 x3_1 (ji14)).f1⟩ : S73),(⟨(rd_T73 x3_1 x6_2).f0,(rd_T73 x3_1 x6_2).f1⟩ : S73),(⟨(rd_T73 x3_1 (ji19)).f0,(rd_T73 x3_1 (ji19)).f1⟩ : S73)] : List (S73))) (inner:=[.int .i64 ((rd_T73 x3_1 (ji14)).f0),.int .i64 ((rd_T73 x3_1 (ji14)).f1),.int .i64 ((rd_T73 x3_1 x6_2).f0),.int .i64 ((rd_T73 x3_1 x6_2).f1),.int .i64 ((rd_T73 x3_1 (ji19)).f0),.int .i64 ((rd_T73 x3_1 (ji19)).f1)]) (ok:=fun _ => True) (okp:=fun _ => True) ?hr ?hp (fun _ hk => hk) trivial (Below.refl _ _) (Nat.le_refl _) (by simp) ?_;(case hd => rfl);(case hg => rfl);(case hr => first | (go_simp;done) | (go_simp;rfl));(case hp => exact (Reps.c2 (show Kd.M k73 _ _ _ (⟨(rd_T73 x3_1 (ji14)).f0,(rd_T73 x3_1 (ji14)).f1⟩ : S73) [.int .i64 ((rd_T73 x3_1 (ji14)).f0),.int .i64 ((rd_T73 x3_1 (ji14)).f1)] from (k73_mkM _ _ _ (⟨(rd_T73 x3_1 (ji14)).f0,(rd_T73 x3_1 (ji14)).f1⟩ : S73) )) (Reps.c2 (show Kd.M k73 _ _ _ (⟨(rd_T73 x3_1 x6_2).f0,(rd_T73 x3_1 x6_2).f1⟩ : S73) [.int .i64 ((rd_T73 x3_1 x6_2).f0),.int .i64 ((rd_T73 x3_1 x6_2).f1)] from (k73_mkM _ _ _ (⟨(rd_T73 x3_1 x6_2).f0,(rd_T73 x3_1 x6_2).f1⟩ : S73) )) (Reps.c2 (show Kd.M k73 _ _ _ (⟨(rd_T73 x3_1 (ji19)).f0,(rd_T73 x3_1 (ji19)).f1⟩ : S73) [.int .i64 ((rd_T73 x3_1 (ji19)).f0),.int .i64 ((rd_T73 x3_1 (ji19)).f1)] from (k73_mkM _ _ _ (⟨(rd_T73 x3_1 (ji19)).f0,(rd_T73 x3_1 (ji19)).f1⟩ : S73) )) (Reps.none _ _)))))
                      intro v212 w32 ho33 hb hg_ hnew_
                      have HS0_:=(hb.cell (bL _ _ (hHeld.1))).trans (hHeld.1)
                      have HS1_:=(hb.cell (bL _ _ (hHeld.2.1))).trans (hHeld.2.1)
                      have HS2_:=(hb.cell (bL _ _ (hHeld.2.2.1))).trans (hHeld.2.2.1)
                      have HS3_:=(hb.cell (bL _ _ (hHeld.2.2.2.1))).trans (hHeld.2.2.2.1)
                      have HS4_:=(hb.cell (bL _ _ (hHeld.2.2.2.2.1))).trans (hHeld.2.2.2.2.1)
                      have HS5_:=(hb.cell (bL _ _ (hHeld.2.2.2.2.2))).trans (hHeld.2.2.2.2.2)
                      clear hg_ hnew_
                      (first | rw [← Ny211.out] at ho33 | (simp only [Int.reduceToNat] at ho33;rw [← Ny211.out] at ho33))
                      replace HO_4:=Aside0.mk (Kd.S_elder' (sO HO_4.out) (Kd.R_base ho33) hb)
                      have HO213:=Aside0.mk (Kd.R_lower (Kd.R_new' ho33 (Kd.R_lt (rO HO_3.out))) (below_size ib))
                      replace HO_3:=Aside0.mk (Kd.R_elder' (rO HO_3.out) (Kd.R_base ho33) hb)
                      replace HB:=sb hb
                      clear hb ho33
                      obtain ⟨Ao35,co35,eo35⟩:=Kd.R_slice HO213.out
                      (first | subst eo35 | (injection eo35 with f1_ f2_ f3_;have f4_:=f1_.symm;have f5_:=f3_.symm;clear f1_ f2_ f3_;subst f4_;subst f5_))
                      refine hK.out _ _ ⟨HS0_,HS1_,HS2_,HS3_,HS4_,HS5_⟩ (fun hHeld => ?_)
                      clear hK K
                      refine norm_ (a':=?_) ?_ ?_
                      rotate_left
                      ·show Act.put _ (some 50) _ = _
                       simp only [Act.put,iT,sZ,sC,i64_w,i32_w]
                       rfl
                      refine last_ (i:=22) (N:=some 51) #[tT,tT,tT,tT,tT,tT,tT,tT,tT,tT,tT,tT,tT,tT,tT,tT,tT,tT,tT,tT,tT,tT,tT,fF,fF] rfl rfl (one_of HT_.out (by kernel_rfl)) (by decide) (fun K hK => ?_)
                      refine value_ (w1:=?_) (v:=?_) (by rfl) rfl ?_ ?_
                      rotate_left 2
                      ·go_simp
                       constructor
                       ·rfl
                       ·rfl
                      refine hK.out _ _ ?_
                      clear hK K
                      refine norm_ (a':=?_) ?_ ?_
                      rotate_left
                      ·show Act.put _ (some 51) _ = _
                       simp only [Act.put,iT,sZ,sC,i64_w,i32_w]
                       rfl
                      refine last_ (i:=23) (N:=some 52) #[tT,tT,tT,tT,tT,tT,tT,tT,tT,tT,tT,tT,tT,tT,tT,tT,tT,tT,tT,tT,tT,tT,tT,tT,fF] rfl rfl (one_of HT_.out (by kernel_rfl)) (by decide) (fun K hK => ?_)
                      refine Kd.S_append_step (Kd.slice 73 k73) (w0:=w) w.heap.size (by rfl) (.tmp 29) (.tmp 51) 36 25 (.slice none 0 0) 24 rfl Try.underlying36 info25 rfl (by decide) (by omega) u4 x4_1 y211 [.slice Ao35 y211.length co35] (fun k_ => some k_ ≠ (.slice (some ad208) x3_1.length co9 : Value).ownBlock) (fun k_ => some k_ = (.slice Ao35 y211.length co35 : Value).ownBlock) rfl rfl ?aP (fun k_ hk_ => ((Kd.R_mono (ok':=fun k_ => ((fun k_ => some k_ ≠ (.slice (some ad208) x3_1.length co9 : Value).ownBlock)) k_ ∧ some k_ ≠ (u4 : Value).ownBlock) (Kd.R_apart' (HO213.out) (Kd.S_typed HO_4.out) (by decide)) (fun k_ hk => ⟨hk.1.2,hk.2⟩))).1 k_ hk_.symm) ?aF ?aO ?aB ?aS ?aL ?_
                      (case aP => exact Kd.M_row (Kd.R_mono (Kd.R_tight rfl (Kd.R_mono (ok':=fun k_ => ((fun k_ => some k_ ≠ (.slice (some ad208) x3_1.length co9 : Value).ownBlock)) k_ ∧ some k_ ≠ (u4 : Value).ownBlock) (Kd.R_apart' (HO213.out) (Kd.S_typed HO_4.out) (by decide)) (fun k_ hk => ⟨hk.1.2,hk.2⟩))) (fun _ h_ => h_)))
                      (case aB => exact ib)
                      (case aF => exact (fun k_ hk => Kd.fresh' (Kd.R_lt (rO HO_3.out)) k_ hk))
                      (case aO => exact (sO (Kd.S_mono HO_4.out (fun k_ hk => ⟨hk.1,fun e_ => hk.2 e_⟩))))
                      (case aS => exact (below_size ib))
                      (case aL => have:=LMc22.out;omega)
                      intro v215 w34 ho hb hg hat
                      rw [← Ny214.out] at ho
                      replace HO_3:=Aside0.mk (Kd.R_over' (rO HO_3.out) (Kd.S_typed (sO HO_4.out)) (by decide) hg)
                      replace HB:=Aside0.mk (hb)
                      have HO216:=Aside0.mk (ho)
                      clear HO_4 HO213
                      clear ho hb hg hat
                      refine hK.out _ _ ?_
                      clear hK K
                      refine norm_ (a':=?_) ?_ ?_
                      rotate_left
                      ·show Act.put _ (some 52) _ = _
                       simp only [Act.put,iT,sZ,sC,i64_w,i32_w]
                       rfl
                      refine pu 24 4 HT_ ?_
                      refine done_ (done_of HT_.out (by kernel_rfl)) ?_
                      try go_wp2_with (first | ((with_reducible refine gate_dst (N:=53) rfl ?_);refine Kd.R_lit k73 _ 73 ?hg (N:=53) ?hd (xs:=([] : List (S73))) (inner:=[]) (ok:=fun _ => True) (okp:=fun _ => True) ?hr ?hp (fun _ hk => hk) trivial (Below.refl _ _) (Nat.le_refl _) (by simp) ?_;(case hd => rfl);(case hg => rfl);(case hr => first | (go_simp;done) | (go_simp;rfl));(case hp => exact (Reps.none _ _));intro v218 w36 ho37 hb hg_ hnew_;clear hg_ hnew_;(first | rw [← Ny217.out] at ho37 | (simp only [Int.reduceToNat] at ho37;rw [← Ny217.out] at ho37));replace HO216:=Aside0.mk (Kd.S_elder' (sO HO216.out) (Kd.R_base ho37) hb);have HO219:=Aside0.mk (Kd.R_lower (Kd.R_new' ho37 (Kd.R_lt (rO HO_3.out))) (below_size ib));replace HO_3:=Aside0.mk (Kd.R_elder' (rO HO_3.out) (Kd.R_base ho37) hb);replace HB:=sb hb;clear hb ho37;have q38 : (x6_2 : Int) ≤ ((x3_1.length : Int) : Int):=da;obtain ⟨i038,hi038,_,hsz38,_⟩:=info_parts info73;have hroom38 : x3_1.length ≤ co9:=(Kd.R_reads' HO_3.out).2.1;have hC38 : Kd.C k73 _ (some ad208) x3_1.length x3_1:=(Kd.R_reads' HO_3.out).2.2;have hcut38:=cut_to (P:=Try.prog) 25 73 .i64 Try.underlying25 hi038 (some ad208) x3_1.length co9 x6_2 (da) q38 hroom38;have hr38:=Kd.C_take (m:=(x6_2 : Int).toNat) hC38 (by omega);have hy38 : y220.length = (x6_2 : Int).toNat:=(by rw [Ny220.out,List.length_take];omega);rw [← Ny220.out] at hr38;rw [← hy38] at hcut38;have HR223:=Aside0.mk hr38;have HC223:=Aside0.mk (show y220.length ≤ co9 from by omega);clear hr38 hC38 hroom38 hi038 hsz38;have KY38:=Aside0.mk hy38;clear hy38;have KL38:=Aside0.mk (show (x6_2 : Int).toNat ≤ x3_1.length from by omega);replace q38:=eq_true q38) | ((with_reducible refine gate_builtin (b:=.append) (xs:=#[.tmp 53,.tmp 56]) rfl ?_);at_builtin;refine Kd.R_append_rows k73 (w0:=w) w.heap.size rfl (.tmp 53) (.tmp 56) 25 73 (.agg #[(.int .i64 0),(.int .i64 0)]) 16 rfl Try.underlying25 info73 rfl (by decide) (by omega) v218 y217 y220 _ _ _ (fun k_ => some k_ ≠ (.slice (some ad208) x3_1.length co9 : Value).ownBlock) (fun _ => False) rfl rfl ?aO ?aR (fun _ _ h => h) (fun _ h => h.elim) ?aF ?aB ?aS ?aL ?_;(case aR => repeat (first | exact (by repeat (first | (with_reducible exact HR223.out) | (with_reducible refine Kd.C_alloc ?_ _) | (with_reducible refine Kd.C_drewN ?_ _) | (with_reducible refine Kd.C_drew ?_) | exact HR223.out)) | (with_reducible refine Kd.C_alloc ?_ _) | (with_reducible refine Kd.C_drewN ?_ _) | (with_reducible refine Kd.C_drew ?_)));(case aB => exact ib);(case aF => exact (fun k_ hk => Kd.fresh' (Kd.R_lt (rO HO_3.out)) k_ hk));(case aO => exact (rO (Kd.R_mono HO219.out (fun _ hk => hk.2))));(case aS => exact (below_size ib));(case aL => have:=LMc25.out;omega);intro v225 w39 ho hb hg hat;rw [← Ny224.out] at ho;replace HO216:=Aside0.mk (Kd.S_after (ok:=(fun k_ => some k_ ≠ (.slice (some ad208) x3_1.length co9 : Value).ownBlock)) (sO HO216.out) hg hat);replace HB:=Aside0.mk (hb);replace HR223:=Aside0.mk ((show Kd.C k73 w39 (some ad208) y220.length y220 from by rw [Ny220.out];exact Kd.C_take (m:=(x6_2 : Int).toNat) ((Kd.R_reads' (Kd.R_after (ok:=(fun _ => True)) (rO (Kd.R_mono HO_3.out (fun _ hk => ⟨trivial,hk.2⟩))) hg hat)).2.2) KL38.out));replace HO_3:=Aside0.mk (Kd.R_after (ok:=(fun _ => True)) (rO (Kd.R_mono HO_3.out (fun _ hk => ⟨trivial,hk.2⟩))) hg hat);have HO226:=Aside0.mk (ho);clear HO219;clear ho hb hg hat;have q40 : ((ji26) : Int) ≤ ((x3_1.length : Int) : Int):=da;obtain ⟨i040,hi040,_,hsz40,_⟩:=info_parts info73;have hroom40 : x3_1.length ≤ co9:=(Kd.R_reads' HO_3.out).2.1;have hC40 : Kd.C k73 _ (some ad208) x3_1.length x3_1:=(Kd.R_reads' HO_3.out).2.2;have q040 : (0 : Int) ≤ ((ji26) : Int):=da;have hcut40:=cut_from (P:=Try.prog) 25 73 .i64 Try.underlying25 hi040 2 hsz40 (some ad208) x3_1.length co9 (ji26) q040 q40;have hr40:=Kd.C_drop (m:=((ji26) : Int).toNat) (c:=co9) hC40 (by omega) hroom40;obtain ⟨A40,hA40⟩ : ∃ A1,A1 = (if co9 = ((ji26) : Int).toNat then (some ad208) else ((some ad208) : Option Addr).map (·.add (((ji26) : Int).toNat * 2))):=⟨_,rfl⟩;obtain ⟨c40,hc40⟩ : ∃ c1,c1 = co9 - ((ji26) : Int).toNat:=⟨_,rfl⟩;have hy40 : y227.length = x3_1.length - ((ji26) : Int).toNat:=(by rw [Ny227.out,List.length_drop] <;> omega);rw [show (x3_1).drop ((ji26) : Int).toNat = y227 from Ny227.out.symm] at hr40;replace hr40 : Kd.C k73 _ A40 y227.length y227:=(by rw [hA40];exact hr40);rw [← hy40,← hA40,← hc40] at hcut40;have HR230:=Aside0.mk hr40;have HC230:=Aside0.mk (show y227.length ≤ c40 from by rw [hy40,hc40];exact Nat.sub_le_sub_right hroom40 _);clear hr40 hC40 hroom40 hi040 hsz40 hc40;have KY40:=Aside0.mk hy40;have KA40:=Aside0.mk hA40;clear hy40 hA40;have KL40:=Aside0.mk (show ((ji26) : Int).toNat ≤ x3_1.length from by omega);replace q40:=eq_true q40) | ((with_reducible refine gate_builtin (b:=.append) (xs:=#[.tmp 58,.tmp 62]) rfl ?_);at_builtin;refine Kd.R_append_rows k73 (w0:=w) w.heap.size rfl (.tmp 58) (.tmp 62) 25 73 (.agg #[(.int .i64 0),(.int .i64 0)]) 16 rfl Try.underlying25 info73 rfl (by decide) (by omega) v225 y224 y227 _ _ _ (fun k_ => some k_ ≠ (.slice (some ad208) x3_1.length co9 : Value).ownBlock) (fun _ => False) rfl rfl ?aO ?aR (fun _ _ h => h) (fun _ h => h.elim) ?aF ?aB ?aS ?aL ?_;(case aR => repeat (first | exact (by repeat (first | (with_reducible exact HR230.out) | (with_reducible refine Kd.C_alloc ?_ _) | (with_reducible refine Kd.C_drewN ?_ _) | (with_reducible refine Kd.C_drew ?_) | exact HR230.out)) | (with_reducible refine Kd.C_alloc ?_ _) | (with_reducible refine Kd.C_drewN ?_ _) | (with_reducible refine Kd.C_drew ?_)));(case aB => exact ib);(case aF => exact (fun k_ hk => Kd.fresh' (Kd.R_lt (rO HO_3.out)) k_ hk));(case aO => exact (rO HO226.out));(case aS => exact (below_size ib));(case aL => have:=LMc29.out;omega);intro v232 w41 ho hb hg hat;rw [← Ny231.out] at ho;replace HO216:=Aside0.mk (Kd.S_after (ok:=(fun k_ => some k_ ≠ (.slice (some ad208) x3_1.length co9 : Value).ownBlock)) (sO HO216.out) hg hat);replace HB:=Aside0.mk (hb);replace HR223:=Aside0.mk ((show Kd.C k73 w41 (some ad208) y220.length y220 from by rw [Ny220.out];exact Kd.C_take (m:=(x6_2 : Int).toNat) ((Kd.R_reads' (Kd.R_after (ok:=(fun _ => True)) (rO HO_3.out) hg hat)).2.2) KL38.out));replace HR230:=Aside0.mk ((show Kd.C k73 w41 A40 y227.length y227 from by rw [Ny227.out,KA40.out];exact Kd.C_drop (m:=((ji26) : Int).toNat) (c:=co9) ((Kd.R_reads' (Kd.R_after (ok:=(fun _ => True)) (rO HO_3.out) hg hat)).2.2) KL40.out ((Kd.R_reads' (Kd.R_after (ok:=(fun _ => True)) (rO HO_3.out) hg hat)).2.1)));replace HO_3:=Aside0.mk (Kd.R_after (ok:=(fun _ => True)) (rO HO_3.out) hg hat);have HO233:=Aside0.mk (ho);clear HO226;clear ho hb hg hat))
                      go_roundg k2
                      case measure => have:=HK1.out;have:=HK2.out;omega
                      case rel => exact ⟨(y231),(y214),H',⟨by have:=HK1.out;have:=HK2.out;omega⟩,⟨rO (Kd.R_mono HO233.out (fun _ hk => trivial))⟩,⟨sO (Kd.S_mono HO216.out (fun _ hk => hk.2))⟩,⟨ib⟩⟩
                     ·rw [if_neg c29] at H
                      exact absurd H (by simp)
                    ·rw [if_neg c28] at H
                     exact absurd H (by simp)
                   ·rw [if_neg c27] at H
                    exact absurd H (by simp)
                  ·rw [if_neg c25] at H
                   exact absurd H (by simp)
                 ·rw [if_neg c24] at H
                  exact absurd H (by simp)
                ·rw [if_neg c22] at H
                 exact absurd H (by simp)
               ·rw [if_neg c21] at H
                exact absurd H (by simp)
              ·rw [if_neg c20] at H
               exact absurd H (by simp)
             ·rw [if_neg c18] at H
              exact absurd H (by simp)
            ·rw [if_neg c17] at H
             exact absurd H (by simp)
           ·rw [if_neg c16] at H
            exact absurd H (by simp)
          ·rw [if_neg c15] at H
           exact absurd H (by simp)
        ·replace c12:=Bool.eq_false_iff.mpr c12
         subst c12
         have H1 : (spec_l04Triangles.l1 k2 x3_1 x4_1 (x3_1.length : Int) (wrap64 (x6_2 + 1))) = some r:=by rw [if_neg (show ¬ (false = true) by decide)] at H;exact H
         clear H
         have H:=H1
         clear H1
         have H':=Aside0.mk H
         clear H
         go_wp2_with (first | (go_at_call 109;(with_reducible refine (spec_l04Ear.calls k2 _ _ x3_1 x6_2 false _ ?side1 ?side2 A11.out).mono ?_);(case side1 => exact cO ((Kd.R_reads' HO_3.out).2.2));(case side2 => exact (Kd.R_reads' HO_3.out).2.1);rintro e w42 ⟨rfl,hb⟩;replace HO_3:=Aside0.mk (Kd.R_below (rO HO_3.out) hb);replace HO_4:=Aside0.mk (Kd.S_below (sO HO_4.out) hb);replace HB:=sb hb;(try clear hb);(try clear hb2);(try clear hk);(try clear hi)))
         go_roundg k2
         case measure => have:=HK1.out;have:=HK2.out;omega
         case rel => exact ⟨(wrap64 (x6_2 + 1)),(by first | rfl | (simp;done) | (simp [*];done)),H',⟨by have:=HK1.out;have:=HK2.out;omega⟩,⟨rO HO_3.out⟩,⟨sO HO_4.out⟩,⟨ib⟩⟩
       ·rw [if_neg c10] at H
        have c10b0 : decide (x6_2 < (wrap64 ((x3_1.length : Int) - 1))) = false:=decide_eq_false c10
        clear c10
        by_cases c43 : (x3_1.length : Int) = 0
        ·rw [if_pos c43] at H
         exact absurd H (by simp)
        ·rw [if_neg c43] at H
         have c43b0 : ((x3_1.length : Int) == 0) = false:=beq_eq_false_iff_ne.mpr c43
         have c43b1 : ((x3_1.length : Int) != 0) = true:=bne_iff_ne.mpr c43
         have c43b2 : ¬ (x3_1 = []):=fun h_ => c43 (by rw [h_];rfl)
         obtain ⟨ji44,hji44⟩ : ∃ j_ : Int,(Int.tmod (wrap64 ((wrap64 (x6_2 + (x3_1.length : Int))) - 1)) (x3_1.length : Int)) = j_:=⟨_,rfl⟩
         replace H : (if 0 ≤ (ji44) then (if (ji44) < (x3_1.length : Int) then (if 0 ≤ x6_2 then (if x6_2 < (x3_1.length : Int) then (if 0 ≤ (Int.tmod (wrap64 (x6_2 + 1)) (x3_1.length : Int)) then (if (Int.tmod (wrap64 (x6_2 + 1)) (x3_1.length : Int)) < (x3_1.length : Int) then (if x4_1.length < 5864062014805 then ((some (([] : List (S73)) : List (S73))).bind fun y243 => (if x6_2 ≤ (x3_1.length : Int) then ((some (x3_1.take (x6_2 : Int).toNat : List (S73))).bind fun y246 => (if y243.length + y246.length < 8796093022208 then ((some (y243 ++ y246 : List (S73))).bind fun y250 => (if 0 ≤ (wrap64 (x6_2 + 1)) then (if (wrap64 (x6_2 + 1)) ≤ (x3_1.length : Int) then ((some (x3_1.drop ((wrap64 (x6_2 + 1)) : Int).toNat : List (S73))).bind fun y253 => (if y250.length + y253.length < 8796093022208 then (spec_l04Triangles.l0 k2 (y250 ++ y253) (x4_1 ++ [(([(⟨(rd_T73 x3_1 (ji44)).f0,(rd_T73 x3_1 (ji44)).f1⟩ : S73),(⟨(rd_T73 x3_1 x6_2).f0,(rd_T73 x3_1 x6_2).f1⟩ : S73),(⟨(rd_T73 x3_1 (Int.tmod (wrap64 (x6_2 + 1)) (x3_1.length : Int))).f0,(rd_T73 x3_1 (Int.tmod (wrap64 (x6_2 + 1)) (x3_1.length : Int))).f1⟩ : S73)] : List (S73)))])) else (none))) else (none)) else (none))) else (none))) else (none))) else (none)) else (none)) else (none)) else (none)) else (none)) else (none)) else (none)) = some r:=by first | (rw [hji44] at H;exact H) | (simp only [hji44] at H ⊢;exact H)
         by_cases c45 : 0 ≤ (ji44)
         ·rw [if_pos c45] at H
          have c45b0 : decide (0 ≤ (ji44)) = true:=decide_eq_true c45
          clear c45
          by_cases c46 : (ji44) < (x3_1.length : Int)
          ·rw [if_pos c46] at H
           have c46b0 : decide ((ji44) < (x3_1.length : Int)) = true:=decide_eq_true c46
           clear c46
           by_cases c47 : 0 ≤ x6_2
           ·rw [if_pos c47] at H
            have c47b0 : decide (0 ≤ x6_2) = true:=decide_eq_true c47
            clear c47
            by_cases c48 : x6_2 < (x3_1.length : Int)
            ·rw [if_pos c48] at H
             have c48b0 : decide (x6_2 < (x3_1.length : Int)) = true:=decide_eq_true c48
             clear c48
             obtain ⟨ji49,hji49⟩ : ∃ j_ : Int,(Int.tmod (wrap64 (x6_2 + 1)) (x3_1.length : Int)) = j_:=⟨_,rfl⟩
             replace H : (if 0 ≤ (ji49) then (if (ji49) < (x3_1.length : Int) then (if x4_1.length < 5864062014805 then ((some (([] : List (S73)) : List (S73))).bind fun y243 => (if x6_2 ≤ (x3_1.length : Int) then ((some (x3_1.take (x6_2 : Int).toNat : List (S73))).bind fun y246 => (if y243.length + y246.length < 8796093022208 then ((some (y243 ++ y246 : List (S73))).bind fun y250 => (if 0 ≤ (wrap64 (x6_2 + 1)) then (if (wrap64 (x6_2 + 1)) ≤ (x3_1.length : Int) then ((some (x3_1.drop ((wrap64 (x6_2 + 1)) : Int).toNat : List (S73))).bind fun y253 => (if y250.length + y253.length < 8796093022208 then (spec_l04Triangles.l0 k2 (y250 ++ y253) (x4_1 ++ [(([(⟨(rd_T73 x3_1 (ji44)).f0,(rd_T73 x3_1 (ji44)).f1⟩ : S73),(⟨(rd_T73 x3_1 x6_2).f0,(rd_T73 x3_1 x6_2).f1⟩ : S73),(⟨(rd_T73 x3_1 (ji49)).f0,(rd_T73 x3_1 (ji49)).f1⟩ : S73)] : List (S73)))])) else (none))) else (none)) else (none))) else (none))) else (none))) else (none)) else (none)) else (none)) = some r:=by first | (rw [hji49] at H;exact H) | (simp only [hji49] at H ⊢;exact H)
             by_cases c50 : 0 ≤ (ji49)
             ·rw [if_pos c50] at H
              have c50b0 : decide (0 ≤ (ji49)) = true:=decide_eq_true c50
              clear c50
              by_cases c51 : (ji49) < (x3_1.length : Int)
              ·rw [if_pos c51] at H
               have c51b0 : decide ((ji49) < (x3_1.length : Int)) = true:=decide_eq_true c51
               clear c51
               obtain ⟨y237,hy237⟩ : ∃ y_ : List (S73),y_ = (([(⟨(rd_T73 x3_1 (ji44)).f0,(rd_T73 x3_1 (ji44)).f1⟩ : S73),(⟨(rd_T73 x3_1 x6_2).f0,(rd_T73 x3_1 x6_2).f1⟩ : S73),(⟨(rd_T73 x3_1 (ji49)).f0,(rd_T73 x3_1 (ji49)).f1⟩ : S73)] : List (S73))):=⟨_,rfl⟩
               replace H : (if x4_1.length < 5864062014805 then ((some (([] : List (S73)) : List (S73))).bind fun y243 => (if x6_2 ≤ (x3_1.length : Int) then ((some (x3_1.take (x6_2 : Int).toNat : List (S73))).bind fun y246 => (if y243.length + y246.length < 8796093022208 then ((some (y243 ++ y246 : List (S73))).bind fun y250 => (if 0 ≤ (wrap64 (x6_2 + 1)) then (if (wrap64 (x6_2 + 1)) ≤ (x3_1.length : Int) then ((some (x3_1.drop ((wrap64 (x6_2 + 1)) : Int).toNat : List (S73))).bind fun y253 => (if y250.length + y253.length < 8796093022208 then (spec_l04Triangles.l0 k2 (y250 ++ y253) (x4_1 ++ [y237])) else (none))) else (none)) else (none))) else (none))) else (none))) else (none)) = some r:=by first | (rw [hy237];with_reducible exact H) | (have H2_:=(Option.bind_some _ _).symm.trans H;rw [hy237];with_reducible exact H2_) | (have H2_:=(Option.bind_some _ _).symm.trans H;with_reducible exact H2_) | with_reducible exact H | (rw [hy237];exact H) | exact H
               have Ny237:=Aside0.mk hy237
               clear hy237
               by_cases c52 : x4_1.length < 5864062014805
               ·rw [if_pos c52] at H
                have LMc52:=Aside0.mk c52
                clear c52
                obtain ⟨y240,hy240⟩ : ∃ y_ : List (List (S73)),y_ = (x4_1 ++ [y237]):=⟨_,rfl⟩
                replace H : ((some (([] : List (S73)) : List (S73))).bind fun y243 => (if x6_2 ≤ (x3_1.length : Int) then ((some (x3_1.take (x6_2 : Int).toNat : List (S73))).bind fun y246 => (if y243.length + y246.length < 8796093022208 then ((some (y243 ++ y246 : List (S73))).bind fun y250 => (if 0 ≤ (wrap64 (x6_2 + 1)) then (if (wrap64 (x6_2 + 1)) ≤ (x3_1.length : Int) then ((some (x3_1.drop ((wrap64 (x6_2 + 1)) : Int).toNat : List (S73))).bind fun y253 => (if y250.length + y253.length < 8796093022208 then (spec_l04Triangles.l0 k2 (y250 ++ y253) y240) else (none))) else (none)) else (none))) else (none))) else (none))) = some r:=by first | (rw [hy240];with_reducible exact H) | (have H2_:=(Option.bind_some _ _).symm.trans H;rw [hy240];with_reducible exact H2_) | (have H2_:=(Option.bind_some _ _).symm.trans H;with_reducible exact H2_) | with_reducible exact H | (rw [hy240];exact H) | exact H
                have Ny240:=Aside0.mk hy240
                clear hy240
                obtain ⟨y243,hy243⟩ : ∃ y_ : List (S73),y_ = (([] : List (S73))):=⟨_,rfl⟩
                replace H : (if x6_2 ≤ (x3_1.length : Int) then ((some (x3_1.take (x6_2 : Int).toNat : List (S73))).bind fun y246 => (if y243.length + y246.length < 8796093022208 then ((some (y243 ++ y246 : List (S73))).bind fun y250 => (if 0 ≤ (wrap64 (x6_2 + 1)) then (if (wrap64 (x6_2 + 1)) ≤ (x3_1.length : Int) then ((some (x3_1.drop ((wrap64 (x6_2 + 1)) : Int).toNat : List (S73))).bind fun y253 => (if y250.length + y253.length < 8796093022208 then (spec_l04Triangles.l0 k2 (y250 ++ y253) y240) else (none))) else (none)) else (none))) else (none))) else (none)) = some r:=by first | (rw [hy243];with_reducible exact H) | (have H2_:=(Option.bind_some _ _).symm.trans H;rw [hy243];with_reducible exact H2_) | (have H2_:=(Option.bind_some _ _).symm.trans H;with_reducible exact H2_) | with_reducible exact H | (rw [hy243];exact H) | exact H
                have Ny243:=Aside0.mk hy243
                clear hy243
                have c53b0:=eq_true (da : 0 ≤ x6_2)
                by_cases c54 : x6_2 ≤ (x3_1.length : Int)
                ·rw [if_pos c54] at H
                 have c54b0:=eq_true c54
                 have c54b1 : decide (x6_2 ≤ (x3_1.length : Int)) = true:=decide_eq_true c54
                 clear c54
                 obtain ⟨y246,hy246⟩ : ∃ y_ : List (S73),y_ = (x3_1.take (x6_2 : Int).toNat):=⟨_,rfl⟩
                 replace H : (if y243.length + y246.length < 8796093022208 then ((some (y243 ++ y246 : List (S73))).bind fun y250 => (if 0 ≤ (wrap64 (x6_2 + 1)) then (if (wrap64 (x6_2 + 1)) ≤ (x3_1.length : Int) then ((some (x3_1.drop ((wrap64 (x6_2 + 1)) : Int).toNat : List (S73))).bind fun y253 => (if y250.length + y253.length < 8796093022208 then (spec_l04Triangles.l0 k2 (y250 ++ y253) y240) else (none))) else (none)) else (none))) else (none)) = some r:=by first | (rw [hy246];with_reducible exact H) | (have H2_:=(Option.bind_some _ _).symm.trans H;rw [hy246];with_reducible exact H2_) | (have H2_:=(Option.bind_some _ _).symm.trans H;with_reducible exact H2_) | with_reducible exact H | (rw [hy246];exact H) | exact H
                 have Ny246:=Aside0.mk hy246
                 clear hy246
                 by_cases c55 : y243.length + y246.length < 8796093022208
                 ·rw [if_pos c55] at H
                  have LMc55:=Aside0.mk c55
                  clear c55
                  obtain ⟨y250,hy250⟩ : ∃ y_ : List (S73),y_ = (y243 ++ y246):=⟨_,rfl⟩
                  replace H : (if 0 ≤ (wrap64 (x6_2 + 1)) then (if (wrap64 (x6_2 + 1)) ≤ (x3_1.length : Int) then ((some (x3_1.drop ((wrap64 (x6_2 + 1)) : Int).toNat : List (S73))).bind fun y253 => (if y250.length + y253.length < 8796093022208 then (spec_l04Triangles.l0 k2 (y250 ++ y253) y240) else (none))) else (none)) else (none)) = some r:=by first | (rw [hy250];with_reducible exact H) | (have H2_:=(Option.bind_some _ _).symm.trans H;rw [hy250];with_reducible exact H2_) | (have H2_:=(Option.bind_some _ _).symm.trans H;with_reducible exact H2_) | with_reducible exact H | (rw [hy250];exact H) | exact H
                  have Ny250:=Aside0.mk hy250
                  clear hy250
                  obtain ⟨ji56,hji56⟩ : ∃ j_ : Int,(wrap64 (x6_2 + 1)) = j_:=⟨_,rfl⟩
                  have hji49vji56 : (Int.tmod ji56 (x3_1.length : Int)) = ji49:=by first | (rw [← hji56];exact hji49) | exact hji49
                  replace H : (if 0 ≤ (ji56) then (if (ji56) ≤ (x3_1.length : Int) then ((some (x3_1.drop ((ji56) : Int).toNat : List (S73))).bind fun y253 => (if y250.length + y253.length < 8796093022208 then (spec_l04Triangles.l0 k2 (y250 ++ y253) y240) else (none))) else (none)) else (none)) = some r:=by first | (rw [hji56] at H;exact H) | (simp only [hji56] at H ⊢;exact H)
                  have hji56w : (IntKind.i64.wrap (x6_2 + 1)) = ji56:=(i64_w _).trans hji56
                  by_cases c57 : 0 ≤ (ji56)
                  ·rw [if_pos c57] at H
                   have c57b0:=eq_true c57
                   have c57b1 : decide (0 ≤ (ji56)) = true:=decide_eq_true c57
                   clear c57
                   by_cases c58 : (ji56) ≤ (x3_1.length : Int)
                   ·rw [if_pos c58] at H
                    have c58b0:=eq_true c58
                    have c58b1 : decide ((ji56) ≤ (x3_1.length : Int)) = true:=decide_eq_true c58
                    clear c58
                    obtain ⟨y253,hy253⟩ : ∃ y_ : List (S73),y_ = (x3_1.drop ((ji56) : Int).toNat):=⟨_,rfl⟩
                    replace H : (if y250.length + y253.length < 8796093022208 then (spec_l04Triangles.l0 k2 (y250 ++ y253) y240) else (none)) = some r:=by first | (rw [hy253];with_reducible exact H) | (have H2_:=(Option.bind_some _ _).symm.trans H;rw [hy253];with_reducible exact H2_) | (have H2_:=(Option.bind_some _ _).symm.trans H;with_reducible exact H2_) | with_reducible exact H | (rw [hy253];exact H) | exact H
                    have Ny253:=Aside0.mk hy253
                    clear hy253
                    by_cases c59 : y250.length + y253.length < 8796093022208
                    ·rw [if_pos c59] at H
                     have LMc59:=Aside0.mk c59
                     clear c59
                     obtain ⟨y257,hy257⟩ : ∃ y_ : List (S73),y_ = (y250 ++ y253):=⟨_,rfl⟩
                     replace H : (spec_l04Triangles.l0 k2 y257 y240) = some r:=by first | (rw [hy257];with_reducible exact H) | (have H2_:=(Option.bind_some _ _).symm.trans H;rw [hy257];with_reducible exact H2_) | (have H2_:=(Option.bind_some _ _).symm.trans H;with_reducible exact H2_) | with_reducible exact H | (rw [hy257];exact H) | exact H
                     have Ny257:=Aside0.mk hy257
                     clear hy257
                     have H':=Aside0.mk H
                     clear H
                     try go_wp2
                     replace HO_3:=Aside0.mk (Kd.R_drew HO_3.out)
                     replace HO_4:=Aside0.mk (Kd.S_drew HO_4.out)
                     replace HB:=Aside0.mk (below_drew1 HB.out)
                     have p234 : 0 ≤ ((ji44) : Int):=da
                     have q234 : (ji44) < (x3_1.length : Int):=da
                     obtain ⟨ad234,e234,hx234_0,hx234_1⟩:=at_T73 (Kd.R_reads' HO_3.out).2.2 (ji44) p234 q234
                     cases e234
                     replace p234:=eq_true p234
                     replace q234:=eq_true q234
                     have p235 : 0 ≤ (x6_2 : Int):=da
                     have q235 : x6_2 < (x3_1.length : Int):=da
                     obtain ⟨ad235,e235,hx235_0,hx235_1⟩:=at_T73 (Kd.R_reads' HO_3.out).2.2 x6_2 p235 q235
                     obtain rfl : ad234 = ad235:=(by injection e235)
                     replace p235:=eq_true p235
                     replace q235:=eq_true q235
                     have p236 : 0 ≤ ((ji49) : Int):=da
                     have q236 : (ji49) < (x3_1.length : Int):=da
                     obtain ⟨ad236,e236,hx236_0,hx236_1⟩:=at_T73 (Kd.R_reads' HO_3.out).2.2 (ji49) p236 q236
                     obtain rfl : ad234 = ad236:=(by injection e236)
                     replace p236:=eq_true p236
                     replace q236:=eq_true q236
                     refine start_ (n:=25) (S:=fun w' => w'.cell? (ad234.add (((ji44)).toNat * 2)) = some (.int .i64 ((rd_T73 x3_1 (ji44)).f0)) ∧ w'.cell? ⟨(ad234.add (((ji44)).toNat * 2)).block,(ad234.add (((ji44)).toNat * 2)).off + 1,none⟩ = some (.int .i64 ((rd_T73 x3_1 (ji44)).f1)) ∧ w'.cell? (ad234.add ((x6_2).toNat * 2)) = some (.int .i64 ((rd_T73 x3_1 x6_2).f0)) ∧ w'.cell? ⟨(ad234.add ((x6_2).toNat * 2)).block,(ad234.add ((x6_2).toNat * 2)).off + 1,none⟩ = some (.int .i64 ((rd_T73 x3_1 x6_2).f1)) ∧ w'.cell? (ad234.add (((ji49)).toNat * 2)) = some (.int .i64 ((rd_T73 x3_1 (ji49)).f0)) ∧ w'.cell? ⟨(ad234.add (((ji49)).toNat * 2)).block,(ad234.add (((ji49)).toNat * 2)).off + 1,none⟩ = some (.int .i64 ((rd_T73 x3_1 (ji49)).f1))) (ds:=[22,23]) #[fF,fF,fF,fF,fF,fF,fF,fF,fF,fF,fF,fF,fF,fF,fF,fF,fF,fF,fF,fF,fF,fF,fF,fF,fF] (by kernel_rfl) rfl rfl ⟨hx234_0,hx234_1,hx235_0,hx235_1,hx236_0,hx236_1⟩ (fun hHeld => ?_);refine with_tabW spec_l04Triangles.tab8 spec_l04Triangles.bits8 (fun HT_ HW_ => ?_)
                     generalize wr.drew = w60 at HO_3 HO_4 HB hx234_0 hx234_1 hx235_0 hx235_1 hx236_0 hx236_1 hHeld ⊢
                     refine pu 0 29 HT_ ?_
                     refine pu 1 30 HT_ ?_
                     refine pu 2 31 HT_ ?_
                     refine pu 3 32 HT_ ?_
                     refine pu 4 33 HT_ ?_
                     refine pu 5 34 HT_ ?_
                     refine pu 6 35 HT_ ?_
                     refine pu 7 36 HT_ ?_
                     refine pu 8 37 HT_ ?_
                     refine pu 10 39 HT_ ?_
                     refine pu 11 40 HT_ ?_
                     refine pu 12 41 HT_ ?_
                     refine pu 14 43 HT_ ?_
                     refine pu 15 44 HT_ ?_
                     refine pu 16 45 HT_ ?_
                     refine pu 17 46 HT_ ?_
                     refine pu 18 47 HT_ ?_
                     refine pu 19 48 HT_ ?_
                     refine tk 9 38 HT_ HW_ hHeld ?_
                     refine tk 13 42 HT_ HW_ hHeld ?_
                     refine tk 20 49 HT_ HW_ hHeld ?_
                     refine on 21 50 HT_ (fun K hK => ?_)
                     refine Kd.R_lit_step k73 _ 73 ?hg (N:=50) ?hd (xs:=([(⟨(rd_T73 x3_1 (ji44)).f0,(rd_T73 x3_1 (ji44)).f1⟩ : S73),(⟨(rd_T73 x3_1 x6_2).f0,(rd_T73 x3_1 x6_2).f1⟩ : S73),(⟨(rd_T73 x3_1 (ji49)).f0,(rd_T73 x3_1 (ji49)).f1⟩ : S73)] : List (S73))) (inner:=[.int .i64 ((rd_T73 x3_1 (ji44)).f0),.int .i64 ((rd_T73 x3_1 (ji44)).f1),.int .i64 ((rd_T73 x3_1 x6_2).f0),.int .i64 ((rd_T73 x3_1 x6_2).f1),.int .i64 ((rd_T73 x3_1 (ji49)).f0),.int .i64 ((rd_T73 x3_1 (ji49)).f1)]) (ok:=fun _ => True) (okp:=fun _ => True) ?hr ?hp (fun _ hk => hk) trivial (Below.refl _ _) (Nat.le_refl _) (by simp) ?_;(case hd => rfl);(case hg => rfl);(case hr => first | (go_simp;done) | (go_simp;rfl));(case hp => exact (Reps.c2 (show Kd.M k73 _ _ _ (⟨(rd_T73 x3_1 (ji44)).f0,(rd_T73 x3_1 (ji44)).f1⟩ : S73) [.int .i64 ((rd_T73 x3_1 (ji44)).f0),.int .i64 ((rd_T73 x3_1 (ji44)).f1)] from (k73_mkM _ _ _ (⟨(rd_T73 x3_1 (ji44)).f0,(rd_T73 x3_1 (ji44)).f1⟩ : S73) )) (Reps.c2 (show Kd.M k73 _ _ _ (⟨(rd_T73 x3_1 x6_2).f0,(rd_T73 x3_1 x6_2).f1⟩ : S73) [.int .i64 ((rd_T73 x3_1 x6_2).f0),.int .i64 ((rd_T73 x3_1 x6_2).f1)] from (k73_mkM _ _ _ (⟨(rd_T73 x3_1 x6_2).f0,(rd_T73 x3_1 x6_2).f1⟩ : S73) )) (Reps.c2 (show Kd.M k73 _ _ _ (⟨(rd_T73 x3_1 (ji49)).f0,(rd_T73 x3_1 (ji49)).f1⟩ : S73) [.int .i64 ((rd_T73 x3_1 (ji49)).f0),.int .i64 ((rd_T73 x3_1 (ji49)).f1)] from (k73_mkM _ _ _ (⟨(rd_T73 x3_1 (ji49)).f0,(rd_T73 x3_1 (ji49)).f1⟩ : S73) )) (Reps.none _ _)))))
                     intro v238 w61 ho62 hb hg_ hnew_
                     have HS0_:=(hb.cell (bL _ _ (hHeld.1))).trans (hHeld.1)
                     have HS1_:=(hb.cell (bL _ _ (hHeld.2.1))).trans (hHeld.2.1)
                     have HS2_:=(hb.cell (bL _ _ (hHeld.2.2.1))).trans (hHeld.2.2.1)
                     have HS3_:=(hb.cell (bL _ _ (hHeld.2.2.2.1))).trans (hHeld.2.2.2.1)
                     have HS4_:=(hb.cell (bL _ _ (hHeld.2.2.2.2.1))).trans (hHeld.2.2.2.2.1)
                     have HS5_:=(hb.cell (bL _ _ (hHeld.2.2.2.2.2))).trans (hHeld.2.2.2.2.2)
                     clear hg_ hnew_
                     (first | rw [← Ny237.out] at ho62 | (simp only [Int.reduceToNat] at ho62;rw [← Ny237.out] at ho62))
                     replace HO_4:=Aside0.mk (Kd.S_elder' (sO HO_4.out) (Kd.R_base ho62) hb)
                     have HO239:=Aside0.mk (Kd.R_lower (Kd.R_new' ho62 (Kd.R_lt (rO HO_3.out))) (below_size ib))
                     replace HO_3:=Aside0.mk (Kd.R_elder' (rO HO_3.out) (Kd.R_base ho62) hb)
                     replace HB:=sb hb
                     clear hb ho62
                     obtain ⟨Ao64,co64,eo64⟩:=Kd.R_slice HO239.out
                     (first | subst eo64 | (injection eo64 with f1_ f2_ f3_;have f4_:=f1_.symm;have f5_:=f3_.symm;clear f1_ f2_ f3_;subst f4_;subst f5_))
                     refine hK.out _ _ ⟨HS0_,HS1_,HS2_,HS3_,HS4_,HS5_⟩ (fun hHeld => ?_)
                     clear hK K
                     refine norm_ (a':=?_) ?_ ?_
                     rotate_left
                     ·show Act.put _ (some 50) _ = _
                      simp only [Act.put,iT,sZ,sC,i64_w,i32_w]
                      rfl
                     refine last_ (i:=22) (N:=some 51) #[tT,tT,tT,tT,tT,tT,tT,tT,tT,tT,tT,tT,tT,tT,tT,tT,tT,tT,tT,tT,tT,tT,tT,fF,fF] rfl rfl (one_of HT_.out (by kernel_rfl)) (by decide) (fun K hK => ?_)
                     refine value_ (w1:=?_) (v:=?_) (by rfl) rfl ?_ ?_
                     rotate_left 2
                     ·go_simp
                      constructor
                      ·rfl
                      ·rfl
                     refine hK.out _ _ ?_
                     clear hK K
                     refine norm_ (a':=?_) ?_ ?_
                     rotate_left
                     ·show Act.put _ (some 51) _ = _
                      simp only [Act.put,iT,sZ,sC,i64_w,i32_w]
                      rfl
                     refine last_ (i:=23) (N:=some 52) #[tT,tT,tT,tT,tT,tT,tT,tT,tT,tT,tT,tT,tT,tT,tT,tT,tT,tT,tT,tT,tT,tT,tT,tT,fF] rfl rfl (one_of HT_.out (by kernel_rfl)) (by decide) (fun K hK => ?_)
                     refine Kd.S_append_step (Kd.slice 73 k73) (w0:=w) w.heap.size (by rfl) (.tmp 29) (.tmp 51) 36 25 (.slice none 0 0) 24 rfl Try.underlying36 info25 rfl (by decide) (by omega) u4 x4_1 y237 [.slice Ao64 y237.length co64] (fun k_ => some k_ ≠ (.slice (some ad234) x3_1.length co9 : Value).ownBlock) (fun k_ => some k_ = (.slice Ao64 y237.length co64 : Value).ownBlock) rfl rfl ?aP (fun k_ hk_ => ((Kd.R_mono (ok':=fun k_ => ((fun k_ => some k_ ≠ (.slice (some ad234) x3_1.length co9 : Value).ownBlock)) k_ ∧ some k_ ≠ (u4 : Value).ownBlock) (Kd.R_apart' (HO239.out) (Kd.S_typed HO_4.out) (by decide)) (fun k_ hk => ⟨hk.1.2,hk.2⟩))).1 k_ hk_.symm) ?aF ?aO ?aB ?aS ?aL ?_
                     (case aP => exact Kd.M_row (Kd.R_mono (Kd.R_tight rfl (Kd.R_mono (ok':=fun k_ => ((fun k_ => some k_ ≠ (.slice (some ad234) x3_1.length co9 : Value).ownBlock)) k_ ∧ some k_ ≠ (u4 : Value).ownBlock) (Kd.R_apart' (HO239.out) (Kd.S_typed HO_4.out) (by decide)) (fun k_ hk => ⟨hk.1.2,hk.2⟩))) (fun _ h_ => h_)))
                     (case aB => exact ib)
                     (case aF => exact (fun k_ hk => Kd.fresh' (Kd.R_lt (rO HO_3.out)) k_ hk))
                     (case aO => exact (sO (Kd.S_mono HO_4.out (fun k_ hk => ⟨hk.1,fun e_ => hk.2 e_⟩))))
                     (case aS => exact (below_size ib))
                     (case aL => have:=LMc52.out;omega)
                     intro v241 w63 ho hb hg hat
                     rw [← Ny240.out] at ho
                     replace HO_3:=Aside0.mk (Kd.R_over' (rO HO_3.out) (Kd.S_typed (sO HO_4.out)) (by decide) hg)
                     replace HB:=Aside0.mk (hb)
                     have HO242:=Aside0.mk (ho)
                     clear HO_4 HO239
                     clear ho hb hg hat
                     refine hK.out _ _ ?_
                     clear hK K
                     refine norm_ (a':=?_) ?_ ?_
                     rotate_left
                     ·show Act.put _ (some 52) _ = _
                      simp only [Act.put,iT,sZ,sC,i64_w,i32_w]
                      rfl
                     refine pu 24 4 HT_ ?_
                     refine done_ (done_of HT_.out (by kernel_rfl)) ?_
                     try go_wp2_with (first | ((with_reducible refine gate_dst (N:=53) rfl ?_);refine Kd.R_lit k73 _ 73 ?hg (N:=53) ?hd (xs:=([] : List (S73))) (inner:=[]) (ok:=fun _ => True) (okp:=fun _ => True) ?hr ?hp (fun _ hk => hk) trivial (Below.refl _ _) (Nat.le_refl _) (by simp) ?_;(case hd => rfl);(case hg => rfl);(case hr => first | (go_simp;done) | (go_simp;rfl));(case hp => exact (Reps.none _ _));intro v244 w65 ho66 hb hg_ hnew_;clear hg_ hnew_;(first | rw [← Ny243.out] at ho66 | (simp only [Int.reduceToNat] at ho66;rw [← Ny243.out] at ho66));replace HO242:=Aside0.mk (Kd.S_elder' (sO HO242.out) (Kd.R_base ho66) hb);have HO245:=Aside0.mk (Kd.R_lower (Kd.R_new' ho66 (Kd.R_lt (rO HO_3.out))) (below_size ib));replace HO_3:=Aside0.mk (Kd.R_elder' (rO HO_3.out) (Kd.R_base ho66) hb);replace HB:=sb hb;clear hb ho66;have q67 : (x6_2 : Int) ≤ ((x3_1.length : Int) : Int):=da;obtain ⟨i067,hi067,_,hsz67,_⟩:=info_parts info73;have hroom67 : x3_1.length ≤ co9:=(Kd.R_reads' HO_3.out).2.1;have hC67 : Kd.C k73 _ (some ad234) x3_1.length x3_1:=(Kd.R_reads' HO_3.out).2.2;have hcut67:=cut_to (P:=Try.prog) 25 73 .i64 Try.underlying25 hi067 (some ad234) x3_1.length co9 x6_2 (da) q67 hroom67;have hr67:=Kd.C_take (m:=(x6_2 : Int).toNat) hC67 (by omega);have hy67 : y246.length = (x6_2 : Int).toNat:=(by rw [Ny246.out,List.length_take];omega);rw [← Ny246.out] at hr67;rw [← hy67] at hcut67;have HR249:=Aside0.mk hr67;have HC249:=Aside0.mk (show y246.length ≤ co9 from by omega);clear hr67 hC67 hroom67 hi067 hsz67;have KY67:=Aside0.mk hy67;clear hy67;have KL67:=Aside0.mk (show (x6_2 : Int).toNat ≤ x3_1.length from by omega);replace q67:=eq_true q67) | ((with_reducible refine gate_builtin (b:=.append) (xs:=#[.tmp 53,.tmp 56]) rfl ?_);at_builtin;refine Kd.R_append_rows k73 (w0:=w) w.heap.size rfl (.tmp 53) (.tmp 56) 25 73 (.agg #[(.int .i64 0),(.int .i64 0)]) 16 rfl Try.underlying25 info73 rfl (by decide) (by omega) v244 y243 y246 _ _ _ (fun k_ => some k_ ≠ (.slice (some ad234) x3_1.length co9 : Value).ownBlock) (fun _ => False) rfl rfl ?aO ?aR (fun _ _ h => h) (fun _ h => h.elim) ?aF ?aB ?aS ?aL ?_;(case aR => repeat (first | exact (by repeat (first | (with_reducible exact HR249.out) | (with_reducible refine Kd.C_alloc ?_ _) | (with_reducible refine Kd.C_drewN ?_ _) | (with_reducible refine Kd.C_drew ?_) | exact HR249.out)) | (with_reducible refine Kd.C_alloc ?_ _) | (with_reducible refine Kd.C_drewN ?_ _) | (with_reducible refine Kd.C_drew ?_)));(case aB => exact ib);(case aF => exact (fun k_ hk => Kd.fresh' (Kd.R_lt (rO HO_3.out)) k_ hk));(case aO => exact (rO (Kd.R_mono HO245.out (fun _ hk => hk.2))));(case aS => exact (below_size ib));(case aL => have:=LMc55.out;omega);intro v251 w68 ho hb hg hat;rw [← Ny250.out] at ho;replace HO242:=Aside0.mk (Kd.S_after (ok:=(fun k_ => some k_ ≠ (.slice (some ad234) x3_1.length co9 : Value).ownBlock)) (sO HO242.out) hg hat);replace HB:=Aside0.mk (hb);replace HR249:=Aside0.mk ((show Kd.C k73 w68 (some ad234) y246.length y246 from by rw [Ny246.out];exact Kd.C_take (m:=(x6_2 : Int).toNat) ((Kd.R_reads' (Kd.R_after (ok:=(fun _ => True)) (rO (Kd.R_mono HO_3.out (fun _ hk => ⟨trivial,hk.2⟩))) hg hat)).2.2) KL67.out));replace HO_3:=Aside0.mk (Kd.R_after (ok:=(fun _ => True)) (rO (Kd.R_mono HO_3.out (fun _ hk => ⟨trivial,hk.2⟩))) hg hat);have HO252:=Aside0.mk (ho);clear HO245;clear ho hb hg hat;have q69 : ((ji56) : Int) ≤ ((x3_1.length : Int) : Int):=da;obtain ⟨i069,hi069,_,hsz69,_⟩:=info_parts info73;have hroom69 : x3_1.length ≤ co9:=(Kd.R_reads' HO_3.out).2.1;have hC69 : Kd.C k73 _ (some ad234) x3_1.length x3_1:=(Kd.R_reads' HO_3.out).2.2;have q069 : (0 : Int) ≤ ((ji56) : Int):=da;have hcut69:=cut_from (P:=Try.prog) 25 73 .i64 Try.underlying25 hi069 2 hsz69 (some ad234) x3_1.length co9 (ji56) q069 q69;have hr69:=Kd.C_drop (m:=((ji56) : Int).toNat) (c:=co9) hC69 (by omega) hroom69;obtain ⟨A69,hA69⟩ : ∃ A1,A1 = (if co9 = ((ji56) : Int).toNat then (some ad234) else ((some ad234) : Option Addr).map (·.add (((ji56) : Int).toNat * 2))):=⟨_,rfl⟩;obtain ⟨c69,hc69⟩ : ∃ c1,c1 = co9 - ((ji56) : Int).toNat:=⟨_,rfl⟩;have hy69 : y253.length = x3_1.length - ((ji56) : Int).toNat:=(by rw [Ny253.out,List.length_drop] <;> omega);rw [show (x3_1).drop ((ji56) : Int).toNat = y253 from Ny253.out.symm] at hr69;replace hr69 : Kd.C k73 _ A69 y253.length y253:=(by rw [hA69];exact hr69);rw [← hy69,← hA69,← hc69] at hcut69;have HR256:=Aside0.mk hr69;have HC256:=Aside0.mk (show y253.length ≤ c69 from by rw [hy69,hc69];exact Nat.sub_le_sub_right hroom69 _);clear hr69 hC69 hroom69 hi069 hsz69 hc69;have KY69:=Aside0.mk hy69;have KA69:=Aside0.mk hA69;clear hy69 hA69;have KL69:=Aside0.mk (show ((ji56) : Int).toNat ≤ x3_1.length from by omega);replace q69:=eq_true q69) | ((with_reducible refine gate_builtin (b:=.append) (xs:=#[.tmp 58,.tmp 62]) rfl ?_);at_builtin;refine Kd.R_append_rows k73 (w0:=w) w.heap.size rfl (.tmp 58) (.tmp 62) 25 73 (.agg #[(.int .i64 0),(.int .i64 0)]) 16 rfl Try.underlying25 info73 rfl (by decide) (by omega) v251 y250 y253 _ _ _ (fun k_ => some k_ ≠ (.slice (some ad234) x3_1.length co9 : Value).ownBlock) (fun _ => False) rfl rfl ?aO ?aR (fun _ _ h => h) (fun _ h => h.elim) ?aF ?aB ?aS ?aL ?_;(case aR => repeat (first | exact (by repeat (first | (with_reducible exact HR256.out) | (with_reducible refine Kd.C_alloc ?_ _) | (with_reducible refine Kd.C_drewN ?_ _) | (with_reducible refine Kd.C_drew ?_) | exact HR256.out)) | (with_reducible refine Kd.C_alloc ?_ _) | (with_reducible refine Kd.C_drewN ?_ _) | (with_reducible refine Kd.C_drew ?_)));(case aB => exact ib);(case aF => exact (fun k_ hk => Kd.fresh' (Kd.R_lt (rO HO_3.out)) k_ hk));(case aO => exact (rO HO252.out));(case aS => exact (below_size ib));(case aL => have:=LMc59.out;omega);intro v258 w70 ho hb hg hat;rw [← Ny257.out] at ho;replace HO242:=Aside0.mk (Kd.S_after (ok:=(fun k_ => some k_ ≠ (.slice (some ad234) x3_1.length co9 : Value).ownBlock)) (sO HO242.out) hg hat);replace HB:=Aside0.mk (hb);replace HR249:=Aside0.mk ((show Kd.C k73 w70 (some ad234) y246.length y246 from by rw [Ny246.out];exact Kd.C_take (m:=(x6_2 : Int).toNat) ((Kd.R_reads' (Kd.R_after (ok:=(fun _ => True)) (rO HO_3.out) hg hat)).2.2) KL67.out));replace HR256:=Aside0.mk ((show Kd.C k73 w70 A69 y253.length y253 from by rw [Ny253.out,KA69.out];exact Kd.C_drop (m:=((ji56) : Int).toNat) (c:=co9) ((Kd.R_reads' (Kd.R_after (ok:=(fun _ => True)) (rO HO_3.out) hg hat)).2.2) KL69.out ((Kd.R_reads' (Kd.R_after (ok:=(fun _ => True)) (rO HO_3.out) hg hat)).2.1)));replace HO_3:=Aside0.mk (Kd.R_after (ok:=(fun _ => True)) (rO HO_3.out) hg hat);have HO259:=Aside0.mk (ho);clear HO252;clear ho hb hg hat))
                     go_roundg k2
                     case measure => have:=HK1.out;have:=HK2.out;omega
                     case rel => exact ⟨(y257),(y240),H',⟨by have:=HK1.out;have:=HK2.out;omega⟩,⟨rO (Kd.R_mono HO259.out (fun _ hk => trivial))⟩,⟨sO (Kd.S_mono HO242.out (fun _ hk => hk.2))⟩,⟨ib⟩⟩
                    ·rw [if_neg c59] at H
                     exact absurd H (by simp)
                   ·rw [if_neg c58] at H
                    exact absurd H (by simp)
                  ·rw [if_neg c57] at H
                   exact absurd H (by simp)
                 ·rw [if_neg c55] at H
                  exact absurd H (by simp)
                ·rw [if_neg c54] at H
                 exact absurd H (by simp)
               ·rw [if_neg c52] at H
                exact absurd H (by simp)
              ·rw [if_neg c51] at H
               exact absurd H (by simp)
             ·rw [if_neg c50] at H
              exact absurd H (by simp)
            ·rw [if_neg c48] at H
             exact absurd H (by simp)
           ·rw [if_neg c47] at H
            exact absurd H (by simp)
          ·rw [if_neg c46] at H
           exact absurd H (by simp)
         ·rw [if_neg c45] at H
          exact absurd H (by simp)
    ·rw [if_neg c8] at H
     have c8b0 : decide (3 < (x3_1.length : Int)) = false:=decide_eq_false c8
     have c8b1 : decide (3 < x3_1.length) = false:=decide_eq_false (by omega)
     clear c8
     obtain ⟨y198,hy198⟩ : ∃ y_ : List (S73),y_ = (([] : List (S73))):=⟨_,rfl⟩
     replace H : (if y198.length + x3_1.length < 8796093022208 then (if x4_1.length < 5864062014805 then (some (x4_1 ++ [(y198 ++ x3_1)])) else (none)) else (none)) = some r:=by first | (rw [hy198];with_reducible exact H) | (have H2_:=(Option.bind_some _ _).symm.trans H;rw [hy198];with_reducible exact H2_) | (have H2_:=(Option.bind_some _ _).symm.trans H;with_reducible exact H2_) | with_reducible exact H | (rw [hy198];exact H) | exact H
     have Ny198:=Aside0.mk hy198
     clear hy198
     by_cases c71 : y198.length + x3_1.length < 8796093022208
     ·rw [if_pos c71] at H
      have LMc71:=Aside0.mk c71
      clear c71
      obtain ⟨y201,hy201⟩ : ∃ y_ : List (S73),y_ = (y198 ++ x3_1):=⟨_,rfl⟩
      replace H : (if x4_1.length < 5864062014805 then (some (x4_1 ++ [y201])) else (none)) = some r:=by first | (rw [hy201];with_reducible exact H) | (have H2_:=(Option.bind_some _ _).symm.trans H;rw [hy201];with_reducible exact H2_) | (have H2_:=(Option.bind_some _ _).symm.trans H;with_reducible exact H2_) | with_reducible exact H | (rw [hy201];exact H) | exact H
      have Ny201:=Aside0.mk hy201
      clear hy201
      by_cases c72 : x4_1.length < 5864062014805
      ·rw [if_pos c72] at H
       have LMc72:=Aside0.mk c72
       clear c72
       obtain ⟨y204,hy204⟩ : ∃ y_ : List (List (S73)),y_ = (x4_1 ++ [y201]):=⟨_,rfl⟩
       replace H : (some y204) = some r:=by first | (rw [hy204];with_reducible exact H) | (have H2_:=(Option.bind_some _ _).symm.trans H;rw [hy204];with_reducible exact H2_) | (have H2_:=(Option.bind_some _ _).symm.trans H;with_reducible exact H2_) | with_reducible exact H | (rw [hy204];exact H) | exact H
       have Ny204:=Aside0.mk hy204
       clear hy204
       obtain rfl:=Option.some.inj H
       obtain ⟨Ao73,co73,eo73⟩:=Kd.R_slice HO_3.out
       subst eo73
       go_wp2_with (first | ((with_reducible refine gate_dst (N:=65) rfl ?_);refine Kd.R_lit k73 _ 73 ?hg (N:=65) ?hd (xs:=([] : List (S73))) (inner:=[]) (ok:=fun _ => True) (okp:=fun _ => True) ?hr ?hp (fun _ hk => hk) trivial (Below.refl _ _) (Nat.le_refl _) (by simp) ?_;(case hd => rfl);(case hg => rfl);(case hr => first | (go_simp;done) | (go_simp;rfl));(case hp => exact (Reps.none _ _));intro v199 w74 ho75 hb hg_ hnew_;clear hg_ hnew_;(first | rw [← Ny198.out] at ho75 | (simp only [Int.reduceToNat] at ho75;rw [← Ny198.out] at ho75));replace HO_4:=Aside0.mk (Kd.S_elder' (sO HO_4.out) (Kd.R_base ho75) hb);have HO200:=Aside0.mk (Kd.R_lower (Kd.R_new' ho75 (Kd.R_lt (rO HO_3.out))) (below_size ib));replace HO_3:=Aside0.mk (Kd.R_elder' (rO HO_3.out) (Kd.R_base ho75) hb);replace HB:=sb hb;clear hb ho75) | ((with_reducible refine gate_builtin (b:=.append) (xs:=#[.tmp 65,.tmp 66]) rfl ?_);at_builtin;refine Kd.R_append_rows k73 (w0:=w) w.heap.size rfl (.tmp 65) (.tmp 66) 25 73 (.agg #[(.int .i64 0),(.int .i64 0)]) 16 rfl Try.underlying25 info73 rfl (by decide) (by omega) v199 y198 x3_1 _ _ _ (fun k_ => some k_ ≠ (.slice Ao73 x3_1.length co73 : Value).ownBlock) (fun _ => False) rfl rfl ?aO ?aR (fun _ _ h => h) (fun _ h => h.elim) ?aF ?aB ?aS ?aL ?_;(case aR => exact cO ((Kd.R_reads' HO_3.out).2.2));(case aB => exact ib);(case aF => exact (fun k_ hk => Kd.fresh' (Kd.R_lt (rO HO_3.out)) k_ hk));(case aO => exact (rO (Kd.R_mono HO200.out (fun _ hk => hk.2))));(case aS => exact (below_size ib));(case aL => have:=LMc71.out;omega);intro v202 w76 ho hb hg hat;rw [← Ny201.out] at ho;replace HO_3:=Aside0.mk (Kd.R_after (ok:=(fun _ => True)) (rO HO_3.out) hg hat);replace HO_4:=Aside0.mk (Kd.S_after (ok:=(fun k_ => some k_ ≠ (.slice Ao73 x3_1.length co73 : Value).ownBlock)) (sO HO_4.out) hg hat);replace HB:=Aside0.mk (hb);have HO203:=Aside0.mk (ho);clear HO200;clear ho hb hg hat;obtain ⟨Ao78,co78,eo78⟩:=Kd.R_slice HO203.out;subst eo78) | ((with_reducible refine gate_builtin (b:=.append) (xs:=#[.tmp 64,.tmp 68]) rfl ?_);at_builtin;refine Kd.S_append (Kd.slice 73 k73) (w0:=w) w.heap.size rfl (.tmp 64) (.tmp 68) 36 25 (.slice none 0 0) 24 rfl Try.underlying36 info25 rfl (by decide) (by omega) u4 x4_1 y201 [.slice Ao78 y201.length co78] (fun k_ => some k_ ≠ (.slice Ao73 x3_1.length co73 : Value).ownBlock) (fun k_ => some k_ = (.slice Ao78 y201.length co78 : Value).ownBlock) rfl rfl ?aP (fun k_ hk_ => ((Kd.R_mono (ok':=fun k_ => ((fun k_ => some k_ ≠ (.slice Ao73 x3_1.length co73 : Value).ownBlock)) k_ ∧ some k_ ≠ (u4 : Value).ownBlock) (Kd.R_apart' (HO203.out) (Kd.S_typed HO_4.out) (by decide)) (fun k_ hk => ⟨hk.1,hk.2⟩))).1 k_ hk_.symm) ?aF ?aO ?aB ?aS ?aL ?_;(case aP => exact Kd.M_row (Kd.R_mono (Kd.R_tight rfl (Kd.R_mono (ok':=fun k_ => ((fun k_ => some k_ ≠ (.slice Ao73 x3_1.length co73 : Value).ownBlock)) k_ ∧ some k_ ≠ (u4 : Value).ownBlock) (Kd.R_apart' (HO203.out) (Kd.S_typed HO_4.out) (by decide)) (fun k_ hk => ⟨hk.1,hk.2⟩))) (fun _ h_ => h_)));(case aB => exact ib);(case aF => exact (fun k_ hk => Kd.fresh' (Kd.R_lt (rO HO_3.out)) k_ hk));(case aO => exact (sO (Kd.S_mono HO_4.out (fun k_ hk => ⟨hk.1,fun e_ => hk.2 e_⟩))));(case aS => exact (below_size ib));(case aL => have:=LMc72.out;omega);intro v205 w77 ho hb hg hat;rw [← Ny204.out] at ho;replace HO_3:=Aside0.mk (Kd.R_over' (rO HO_3.out) (Kd.S_typed (sO HO_4.out)) (by decide) hg);replace HB:=Aside0.mk (hb);have HO206:=Aside0.mk (ho);clear HO_4 HO203;clear ho hb hg hat))
       go_ret
       exact ⟨_,by first | rfl | (simp [errW_none,errW_some] <;> rfl) | (simp [*,errW_none,errW_some] <;> rfl),sO (Kd.S_mono HO206.out (fun _ hk => trivial)),ib⟩
      ·rw [if_neg c72] at H
       exact absurd H (by simp)
     ·rw [if_neg c71] at H
      exact absurd H (by simp)
 ·rw [if_neg c2] at H
  exact absurd H (by simp)
end Go.Proofs.Ytnnchaggdnlfmaa.PFnExactTriangulate
