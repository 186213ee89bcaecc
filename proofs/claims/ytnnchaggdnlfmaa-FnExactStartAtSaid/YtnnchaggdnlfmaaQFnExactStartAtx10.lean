/- Contracts of functions that FnExactStartAt reaches, out of the lines of the kit's print. -/
import Derived.Test.YtnnchaggdnlfmaaQFnExactStartAtx0
import Derived.Test.YtnnchaggdnlfmaaQFnExactStartAtx7
import Derived.Test.YtnnchaggdnlfmaaQFnExactStartAtx9
namespace Go.Proofs.Ytnnchaggdnlfmaa.PFnExactStartAt
set_option maxHeartbeats 8000000
set_option maxRecDepth 100000
open Go.RowKit Go.Proofs.YtnnchaggdnlfmaaW.PrintWords Go.Proofs.YtnnchaggdnlfmaaW.PrintLast Go.Proofs.YtnnchaggdnlfmaaW.PrintMore
open Bool renaming true → tT, false → fF
open Go.World renaming block_lt_of_cell? → bL
open List renaming length_take → lT, length_drop → lD, map_toArray → mT, map_cons → mC, map_nil → mN
attribute [local go_sem] max2_int min2_int max_two min_two max_three min_three max_four min_four
set_option linter.unusedVariables false
set_option linter.unusedSimpArgs false
mutual
def impl_Point_88.l0 : Nat → List (List (S73)) → Int → Int → Option (List (S73))
 | 0,_,_,_ => none
 | k + 1,x0,x3,x11 => if x11 < (x0.length : Int) then (if 0 ≤ x11 then (if (wrap64 (x3 + ((x0.getD x11.toNat ([] : List (S73))).length : Int))) < 0 then (none) else (impl_Point_88.l0 k x0 (wrap64 (x3 + ((x0.getD x11.toNat ([] : List (S73))).length : Int))) (wrap64 (x11 + 1)))) else (none)) else (if 0 ≤ x3 then (if x3 < 8796093022208 then (impl_Point_88.l1 k x0 ([] : List (S73)) 0) else (none)) else (none))
def impl_Point_88.l1 : Nat → List (List (S73)) → List (S73) → Int → Option (List (S73))
 | 0,_,_,_ => none
 | k + 1,x0,x6,x27 => if x27 < (x0.length : Int) then (if 0 ≤ x27 then (if x6.length + (x0.getD x27.toNat ([] : List (S73))).length < 8796093022208 then (impl_Point_88.l1 k x0 (x6 ++ x0.getD x27.toNat ([] : List (S73))) (wrap64 (x27 + 1))) else (none)) else (none)) else (some x6)
end
def impl_Point_88.f (k : Nat) (l0 : List (List (S73))) : Option (List (S73)):=impl_Point_88.l0 k l0 0 0
theorem impl_Point_88.grow (x : Int) (h0 : 0 ≤ x) (h1 : x < 8796093022208) (w : World) :
  Calls Try.prog 137 #[.slice none 0 0,.int .i64 x] w fun e w' => ∃ v0_ : Value,e = .returned (v0_) ∧ Kd.R k73 73 w' w.heap.size (fun _ => True) v0_ ([] : List (S73)) ∧ Below w.heap.size w w':=by
 have hu73:=Try.underlying73
 obtain ⟨i0,hi,hz,hsz,hby⟩:=info_parts info73
 have q20 : ∀ W : World,(Instr.slice 25 (.slice none 0 0) none (some (.int .i64 0)) none).run Try.prog W = .ok (.slice none 0 0) W:=cut_to 25 73 .i64 Try.underlying25 hi none 0 0 0 (by omega) (by omega) (by omega)
 have HQ:=Aside0.mk (fun (A : Option Addr) (n c : Nat) (hc : n ≤ c) => cut_to 25 73 .i64 Try.underlying25 hi A n c 0 (by omega) (by omega) hc)
 have c0b : decide (x < 0) = false:=decide_eq_false (by omega)
 have hw : wrap64 x = x:=by unfold wrap64;omega
 have hw2 : IntKind.i64.wrap x = x:=(i64_w _).trans hw
 have HB:=Aside0.mk (Below.refl w.heap.size w)
 by_cases c1 : 0 < x
 ·have c1b : decide (0 < x) = true:=decide_eq_true c1
  have HL:=Aside0.mk h1
  clear hi hz hsz hby h1 c1
  go_enter Try.func137,Try.ntmps137
  go_wp2_with (first | (at_builtin;refine Kd.R_append_zeros k73 (w0:=w) w.heap.size rfl (.tmp 20) (.tmp 21) 25 3 73 (.agg #[(.int .i64 0),(.int .i64 0)]) 16 rfl Try.underlying25 Try.underlying3 info73 rfl (by decide) (by omega) (.slice none 0 0) ([] : List (S73)) z73 x (fun _ => True) rfl rfl (k73_mkM _ _ _ z73) ?aF ?aO h0 ?aB ?aS ?aL ?_;(case aF => exact (fun _ _ => trivial));(case aO => exact Kd.R_nil _ _ _ _ _);(case aB => exact ib);(case aS => exact (below_size ib));(case aL => (have:=HL.out;simp only [List.length_nil];omega));intro v1 w5 ho hb hg hat;obtain ⟨A1,c1,e1⟩:=Kd.R_slice ho;subst e1;have qSL:=HQ.out A1 _ c1 (Kd.R_reads' ho).2.1;have HO:=Aside0.mk (Kd.R_take ho (Nat.zero_le _));have n1_:=Aside0.mk hb;clear HB ho hb hg hat;have HB:=n1_;clear n1_))
  go_ret
  exact ⟨_,rfl,HO.out,ib⟩
 ·have c1b : decide (0 < x) = false:=decide_eq_false c1
  clear hi hz hsz hby h1 c1
  go_enter Try.func137,Try.ntmps137
  go_wp2
  go_ret
  exact ⟨_,rfl,Kd.R_nil _ _ _ _ _,ib⟩
theorem impl_Point_88.calls (k : Nat) (A0 : Option Addr) (c0 : Nat) (l0 : List (List (S73))) (r : List (S73)) (w : World) (hr0 : Kd.C (Kd.slice 73 k73) w A0 l0.length l0) (hc0 : l0.length ≤ c0) (h : impl_Point_88.f k l0 = some r) :
  Calls Try.prog 88 #[.slice A0 l0.length c0] w fun e w' => ∃ v0_ : Value,e = .returned (v0_) ∧ Kd.R k73 73 w' w.heap.size (fun _ => True) v0_ r ∧ Below w.heap.size w w':=by
 have hu73:=Try.underlying73
 have HR0:=Aside0.mk hr0
 have HC0:=Aside0.mk hc0
 clear hr0 hc0
 have HB:=Aside0.mk (Below.refl w.heap.size w)
 have H':=Aside0.mk (show impl_Point_88.l0 k l0 0 0 = some r from h)
 clear h
 go_enter Try.func88,Try.ntmps88
 go_wp2
 go_loopg [3,11] k (fun kq v3 v11 w' => ∃ (x3_1 : Int) (x11_1 : Int),v3 = .int .i64 x3_1 ∧ v11 = .int .i64 x11_1 ∧ Aside0 (impl_Point_88.l0 kq l0 x3_1 x11_1 = some r) ∧ Aside0 (kq ≤ k) ∧ Aside0 (Below w.heap.size w w'))
 case atStart => exact ⟨0,0,(by first | rfl | (simp;done) | (simp [*];done)),(by first | rfl | (simp;done) | (simp [*];done)),H',⟨Nat.le_refl _⟩,⟨ib⟩⟩
 case round =>
  clear H' HB
  obtain ⟨x3_1,x11_1,rfl,rfl,HA,HK1,HB⟩:=hrel
  cases gk with
  | zero => exact absurd HA.out (by simp [impl_Point_88.l0])
  | succ k1 =>
   have H:=HA.out
   clear HA
   simp only [impl_Point_88.l0] at H
   by_cases c3 : x11_1 < (l0.length : Int)
   ·rw [if_pos c3] at H
    have c3b0 : decide (x11_1 < (l0.length : Int)) = true:=decide_eq_true c3
    by_cases c4 : 0 ≤ x11_1
    ·rw [if_pos c4] at H
     obtain ⟨ad,cs,rfl,hcl,hK,hcell⟩:=Kd.C_get (Kd.C_below HR0.out HB.out) ([] : List (S73)) x11_1 c4 c3
     obtain ⟨A5,c5,rfl,hl5,hC5⟩:=hK
     obtain ⟨y5,hy5⟩ : ∃ y_ : List (S73),l0.getD x11_1.toNat ([] : List (S73)) = y_:=⟨_,rfl⟩
     rw [hy5] at H hcell hl5 hC5
     have hx5:=hcell 0 _ rfl
     rw [show x11_1.toNat * (Kd.slice 73 k73).sz + 0 = x11_1.toNat from (Nat.add_zero _).trans (Nat.mul_one _)] at hx5
     clear hcl hcell hl5 hC5 hy5
     by_cases c5b : wrap64 (x3_1 + (y5.length : Int)) < 0
     ·rw [if_pos c5b] at H
      cases H
     ·rw [if_neg c5b] at H
      have c5b0 : decide (wrap64 (x3_1 + (y5.length : Int)) < 0) = false:=decide_eq_false c5b
      have H':=Aside0.mk H
      clear H c5b
      replace c3:=eq_true c3
      replace c4:=eq_true c4
      go_wp2
      go_roundg k1
      case measure => have:=HK1.out;omega
      case rel => exact ⟨_,_,(by first | rfl | (simp;done) | (simp [*];done)),(by first | rfl | (simp;done) | (simp [*];done)),H',⟨by have:=HK1.out;omega⟩,⟨ib⟩⟩
    ·rw [if_neg c4] at H
     cases H
   ·rw [if_neg c3] at H
    have c3b0 : decide (x11_1 < (l0.length : Int)) = false:=decide_eq_false c3
    clear c3
    by_cases c6 : 0 ≤ x3_1
    case neg => rw [if_neg c6] at H;cases H
    rw [if_pos c6] at H
    by_cases c7 : x3_1 < 8796093022208
    case neg => rw [if_neg c7] at H;cases H
    rw [if_pos c7] at H
    have H':=Aside0.mk H
    have HG:=Aside0.mk (And.intro c6 c7)
    clear H c6 c7
    go_wp2_with (first | ((with_reducible refine gate_callee (f:=137) rfl ?_);refine goesL_ (some 24) rfl rfl Try.func137 (by kernel_rfl) rfl #[.slice none 0 0,.int .i64 x3_1] rfl (by (try simp only [mT,mC,mN]);first | done | rfl | (simp only [lD,lT];rfl)) ?_;(with_reducible refine (impl_Point_88.grow x3_1 HG.out.1 HG.out.2 _).mono ?_);rintro e w5 ⟨v5,rfl,ho,hb⟩;refine ⟨_,rfl,?_⟩;have HO:=Aside0.mk (Kd.R_lower ho (below_size ib));replace HB:=sb hb;clear ho hb))
    go_loopg [6,27] k1 (fun kq v6 v27 w' => ∃ (x6_2 : List (S73)) (x27_2 : Int),v27 = .int .i64 x27_2 ∧ Aside0 (impl_Point_88.l1 kq l0 x6_2 x27_2 = some r) ∧ Aside0 (kq ≤ k1) ∧ Aside0 (Kd.R k73 73 w' w.heap.size (fun _ => True) v6 x6_2) ∧ Aside0 (Below w.heap.size w w'))
    case atStart => exact ⟨[],0,(by first | rfl | (simp;done) | (simp [*];done)),H',⟨Nat.le_refl _⟩,⟨rO HO.out⟩,⟨ib⟩⟩
    case round =>
     clear H' HB HO
     obtain ⟨x6_2,x27_2,rfl,HA,HK2,HO,HB⟩:=hrel
     cases gk with
     | zero => exact absurd HA.out (by simp [impl_Point_88.l1])
     | succ k2 =>
      have H:=HA.out
      clear HA
      simp only [impl_Point_88.l1] at H
      by_cases c8 : x27_2 < (l0.length : Int)
      ·rw [if_pos c8] at H
       have c8b0 : decide (x27_2 < (l0.length : Int)) = true:=decide_eq_true c8
       by_cases c9 : 0 ≤ x27_2
       ·rw [if_pos c9] at H
        obtain ⟨ad,cs,rfl,hcl,hK,hcell⟩:=Kd.C_get (Kd.C_below HR0.out HB.out) ([] : List (S73)) x27_2 c9 c8
        obtain ⟨A8,c8_,rfl,hl8,hC8⟩:=hK
        obtain ⟨y8,hy8⟩ : ∃ y_ : List (S73),l0.getD x27_2.toNat ([] : List (S73)) = y_:=⟨_,rfl⟩
        rw [hy8] at H hcell hl8 hC8
        have hx8:=hcell 0 _ rfl
        rw [show x27_2.toNat * (Kd.slice 73 k73).sz + 0 = x27_2.toNat from (Nat.add_zero _).trans (Nat.mul_one _)] at hx8
        by_cases c10 : x6_2.length + y8.length < 8796093022208
        ·rw [if_pos c10] at H
         have LM:=Aside0.mk c10
         have H':=Aside0.mk H
         have HC8:=Aside0.mk hC8
         clear H c10 hcl hcell hl8 hC8 hy8
         replace c8:=eq_true c8
         replace c9:=eq_true c9
         go_wp2_with (first | ((with_reducible refine gate_builtin (b:=.append) (xs:=#[.tmp 31,.tmp 32]) rfl ?_);at_builtin;refine Kd.R_append_rows k73 (w0:=w) w.heap.size rfl (.tmp 31) (.tmp 32) 25 73 (.agg #[(.int .i64 0),(.int .i64 0)]) 16 rfl Try.underlying25 info73 rfl (by decide) (by omega) _ x6_2 y8 _ _ _ (fun _ => True) (fun _ => False) rfl rfl ?aO ?aR (fun _ _ h => h) (fun _ h => h.elim) ?aF ?aB ?aS ?aL ?_;(case aR => exact cO HC8.out);(case aB => exact ib);(case aF => exact (fun _ _ => trivial));(case aO => exact (rO HO.out));(case aS => exact (below_size ib));(case aL => have:=LM.out;omega);intro v191 w9 ho hb hg hat;replace HO:=Aside0.mk ho;replace HB:=Aside0.mk hb;clear HC8 hx8 ho hb hg hat))
         go_roundg k2
         case measure => have:=HK1.out;have:=HK2.out;omega
         case rel => exact ⟨_,_,(by first | rfl | (simp;done) | (simp [*];done)),H',⟨by have:=HK2.out;omega⟩,⟨rO HO.out⟩,⟨ib⟩⟩
        ·rw [if_neg c10] at H
         cases H
       ·rw [if_neg c9] at H
        cases H
      ·rw [if_neg c8] at H
       have c8b0 : decide (x27_2 < (l0.length : Int)) = false:=decide_eq_false c8
       clear c8
       obtain rfl:=Option.some.inj H
       go_wp2
       go_ret
       exact ⟨_,rfl,rO HO.out,ib⟩
def impl_StartAt.f (k : Nat) (l0 : List (S73)) (a1 : Int) : Option ((List (S73)) × Int):=(impl_ValidPolygon.f k l0).bind fun t246 => (if t246 = true then ((impl_within.f a1 0 (wrap64 ((l0.length : Int) - 1))).bind fun t247 => (if t247 = true then (if 0 ≤ a1 then (if a1 ≤ (l0.length : Int) then ((impl_Point_88.f k (([(l0.drop (a1 : Int).toNat),(l0.take (a1 : Int).toNat)] : List (List (S73))))).bind fun t261 => (some (t261,0))) else (none)) else (none)) else (some (([] : List (S73)),2)))) else (some (([] : List (S73)),1)))
def impl_StartAt.T5 : Bool × List (List Nat × List Nat):=(true,[([],[]),([],[]),([0,1],[0,1]),([],[]),([],[]),([3,4],[3,4]),([2,5],[2,5]),([6],[6]),([7,7,0,1,2,3,4,5,6,7],[7]),([8,0,1,2,3,4,5,6,7,8],[])])
def impl_StartAt.B5 : List Nat:=[0,0,3,0,0,24,63,127,255,511]
theorem impl_StartAt.tab5 : rtab .any (opsOf Try.f50 5) = impl_StartAt.T5:=by kernel_rfl
theorem impl_StartAt.bits5 : waitsOk impl_StartAt.T5.2 impl_StartAt.B5 = true:=by kernel_rfl
theorem impl_StartAt.calls (k : Nat) (P0_ : Nat → Prop) (A0 : Option Addr) (c0 : Nat) (l0 : List (S73)) (a1 : Int) (r1 : List (S73)) (r2 : Int) (w : World) (hs0 : Kd.V k73 73 w w.heap.size (fun k_ => P0_ k_) (.slice A0 l0.length c0) l0) (h : impl_StartAt.f k l0 a1 = some (r1,r2)) :
  Calls Try.prog 50 #[.slice A0 l0.length c0,.int .i64 a1] w fun e w' => ∃ v0_ : Value,e = .returned (.tuple #[v0_,.int .i64 r2]) ∧ Kd.R k73 73 w' w.heap.size (fun k_ => (w.heap.size ≤ k_)) v0_ r1 ∧ Below w.heap.size w w':=by
 have HO0:=Aside0.mk (show Kd.V k73 73 w w.heap.size (fun k_ => (P0_ k_ ∨ w.heap.size ≤ k_)) (.slice A0 l0.length c0) l0 from Kd.V_mono hs0 (fun k_ hk => .inl hk))
 have HB:=Aside0.mk (Below.refl w.heap.size w)
 have H : ((impl_ValidPolygon.f k l0).bind fun t246 => (if t246 = true then ((impl_within.f a1 0 (wrap64 ((l0.length : Int) - 1))).bind fun t247 => (if t247 = true then (if 0 ≤ a1 then (if a1 ≤ (l0.length : Int) then ((impl_Point_88.f k (([(l0.drop (a1 : Int).toNat),(l0.take (a1 : Int).toNat)] : List (List (S73))))).bind fun t261 => (some (t261,0))) else (none)) else (none)) else (some (([] : List (S73)),2)))) else (some (([] : List (S73)),1)))) = some (r1,r2):=h
 clear h
 replace H:=Option.bind_eq_some_iff.mp H
 obtain ⟨t246,A30,H⟩:=H
 replace H : (if t246 = true then ((impl_within.f a1 0 (wrap64 ((l0.length : Int) - 1))).bind fun t247 => (if t247 = true then (if 0 ≤ a1 then (if a1 ≤ (l0.length : Int) then ((impl_Point_88.f k (([(l0.drop (a1 : Int).toNat),(l0.take (a1 : Int).toNat)] : List (List (S73))))).bind fun t261 => (some (t261,0))) else (none)) else (none)) else (some (([] : List (S73)),2)))) else (some (([] : List (S73)),1))) = some (r1,r2):=H
 have A3:=Aside0.mk A30
 clear A30
 by_cases c4 : t246 = true
 ·subst c4
  have H1 : ((impl_within.f a1 0 (wrap64 ((l0.length : Int) - 1))).bind fun t247 => (if t247 = true then (if 0 ≤ a1 then (if a1 ≤ (l0.length : Int) then ((impl_Point_88.f k (([(l0.drop (a1 : Int).toNat),(l0.take (a1 : Int).toNat)] : List (List (S73))))).bind fun t261 => (some (t261,0))) else (none)) else (none)) else (some (([] : List (S73)),2)))) = some (r1,r2):=by rw [if_pos rfl] at H;exact H
  clear H
  have H:=H1
  clear H1
  replace H:=Option.bind_eq_some_iff.mp H
  obtain ⟨t247,A50,H⟩:=H
  replace H : (if t247 = true then (if 0 ≤ a1 then (if a1 ≤ (l0.length : Int) then ((impl_Point_88.f k (([(l0.drop (a1 : Int).toNat),(l0.take (a1 : Int).toNat)] : List (List (S73))))).bind fun t261 => (some (t261,0))) else (none)) else (none)) else (some (([] : List (S73)),2))) = some (r1,r2):=H
  have A5:=Aside0.mk A50
  clear A50
  by_cases c6 : t247 = true
  ·subst c6
   have H1 : (if 0 ≤ a1 then (if a1 ≤ (l0.length : Int) then ((impl_Point_88.f k (([(l0.drop (a1 : Int).toNat),(l0.take (a1 : Int).toNat)] : List (List (S73))))).bind fun t261 => (some (t261,0))) else (none)) else (none)) = some (r1,r2):=by rw [if_pos rfl] at H;exact H
   clear H
   have H:=H1
   clear H1
   by_cases c7 : 0 ≤ a1
   ·rw [if_pos c7] at H
    have c7b0:=eq_true c7
    have c7b1 : decide (0 ≤ a1) = true:=decide_eq_true c7
    clear c7
    by_cases c8 : a1 ≤ (l0.length : Int)
    ·rw [if_pos c8] at H
     have c8b0:=eq_true c8
     have c8b1 : decide (a1 ≤ (l0.length : Int)) = true:=decide_eq_true c8
     clear c8
     obtain ⟨y248,hy248⟩ : ∃ y_ : List (S73),y_ = (l0.drop (a1 : Int).toNat):=⟨_,rfl⟩
     replace H : ((impl_Point_88.f k (([y248,(l0.take (a1 : Int).toNat)] : List (List (S73))))).bind fun t261 => (some (t261,0))) = some (r1,r2):=by first | (rw [hy248];with_reducible exact H) | (have H2_:=(Option.bind_some _ _).symm.trans H;rw [hy248];with_reducible exact H2_) | (have H2_:=(Option.bind_some _ _).symm.trans H;with_reducible exact H2_) | with_reducible exact H | (rw [hy248];exact H) | exact H
     have Ny248:=Aside0.mk hy248
     clear hy248
     have c9b0:=eq_true (da : 0 ≤ a1)
     have c10b0:=eq_true (da : a1 ≤ (l0.length : Int))
     obtain ⟨y253,hy253⟩ : ∃ y_ : List (S73),y_ = (l0.take (a1 : Int).toNat):=⟨_,rfl⟩
     replace H : ((impl_Point_88.f k (([y248,y253] : List (List (S73))))).bind fun t261 => (some (t261,0))) = some (r1,r2):=by first | (rw [hy253];with_reducible exact H) | (have H2_:=(Option.bind_some _ _).symm.trans H;rw [hy253];with_reducible exact H2_) | (have H2_:=(Option.bind_some _ _).symm.trans H;with_reducible exact H2_) | with_reducible exact H | (rw [hy253];exact H) | exact H
     have Ny253:=Aside0.mk hy253
     clear hy253
     obtain ⟨y258,hy258⟩ : ∃ y_ : List (List (S73)),y_ = (([y248,y253] : List (List (S73)))):=⟨_,rfl⟩
     replace H : ((impl_Point_88.f k y258).bind fun t261 => (some (t261,0))) = some (r1,r2):=by first | (rw [hy258];with_reducible exact H) | (have H2_:=(Option.bind_some _ _).symm.trans H;rw [hy258];with_reducible exact H2_) | (have H2_:=(Option.bind_some _ _).symm.trans H;with_reducible exact H2_) | with_reducible exact H | (rw [hy258];exact H) | exact H
     have Ny258:=Aside0.mk hy258
     clear hy258
     replace H:=Option.bind_eq_some_iff.mp H
     obtain ⟨t261,A110,H⟩:=H
     replace H : (some (t261,0)) = some (r1,r2):=H
     have A11:=Aside0.mk A110
     clear A110
     simp only [Option.some.injEq,Prod.mk.injEq] at H
     obtain ⟨rfl,rfl⟩:=H
     go_enter Try.func50,Try.ntmps50
     try go_wp2_with (first | ((with_reducible refine gate_callee (f:=61) rfl ?_);refine goesL_ (some 8) rfl rfl Try.func61 (by kernel_rfl) rfl #[.slice A0 l0.length c0] rfl (by (try simp only [mT,mC,mN]);first | done | rfl | (simp only [lD,lT];rfl)) ?_;(with_reducible refine (impl_ValidPolygon.calls k _ _ l0 true _ ?side1 ?side2 A3.out).mono ?_);(case side1 => exact cO ((Kd.V_reads' HO0.out).2.2));(case side2 => exact (Kd.V_reads' HO0.out).2.1);rintro e w12 ⟨rfl,hb⟩;refine ⟨_,rfl,?_⟩;replace HO0:=Aside0.mk (Kd.V_below (by (with_reducible repeat (first | apply Kd.V_alloc | apply Kd.V_drewN | apply Kd.V_drew));exact HO0.out) hb);replace HB:=sb hb;(try clear hb);(try clear hb2);(try clear hk);(try clear hi)) | ((with_reducible refine gate_callee (f:=62) rfl ?_);refine goesL_ (some 15) rfl rfl Try.func62 (by kernel_rfl) rfl #[.int .i64 a1,.int .i64 0,.int .i64 (wrap64 ((l0.length : Int) - 1))] rfl (by (try simp only [mT,mC,mN]);first | done | rfl | (simp only [lD,lT];rfl)) ?_;(with_reducible refine (impl_within.calls a1 0 (wrap64 ((l0.length : Int) - 1)) true _ A5.out).mono ?_);rintro e w' ⟨rfl,⟨nd,rfl⟩⟩;refine ⟨_,rfl,?_⟩))
     (try (rw [drewN_self w12];generalize hq_ : World.drewN w12 _ = w12;have n0_ : Aside0 (Kd.V k73 73 w12 w.heap.size (fun k_ => (P0_ k_ ∨ w.heap.size ≤ k_)) (.slice A0 l0.length c0) l0):=⟨by rw [← hq_];exact (by (with_reducible repeat (first | apply Kd.V_alloc | apply Kd.V_drewN | apply Kd.V_drew));exact HO0.out)⟩;have n1_ : Aside0 (Below w.heap.size w w12):=⟨by rw [← hq_];exact ib⟩;clear HO0 HB hq_;have HO0:=n0_;have HB:=n1_;clear n0_ n1_))
     replace HO0:=Aside0.mk (Kd.V_drew HO0.out)
     replace HB:=Aside0.mk (below_drew1 HB.out)
     have q14 : (a1 : Int) ≤ ((l0.length : Int) : Int):=da
     obtain ⟨i014,hi014,_,hsz14,_⟩:=info_parts info73
     have hroom14 : l0.length ≤ c0:=(Kd.V_reads' HO0.out).2.1
     have hC14 : Kd.F k73 _ _ A0 l0.length l0:=(Kd.V_at (base:=w.heap.size) HO0.out).2.2
     have q014 : (0 : Int) ≤ (a1 : Int):=da
     have hcut14:=cut_from (P:=Try.prog) 25 73 .i64 Try.underlying25 hi014 2 hsz14 A0 l0.length c0 a1 q014 q14
     have hr14:=Kd.F_cut (m:=(a1 : Int).toNat) (c:=c0) hC14 (by omega) hroom14
     obtain ⟨A14,hA14⟩ : ∃ A1,A1 = (if c0 = (a1 : Int).toNat then A0 else (A0 : Option Addr).map (·.add ((a1 : Int).toNat * 2))):=⟨_,rfl⟩
     obtain ⟨c14,hc14⟩ : ∃ c1,c1 = c0 - (a1 : Int).toNat:=⟨_,rfl⟩
     have hy14 : y248.length = l0.length - (a1 : Int).toNat:=(by rw [Ny248.out,lD] <;> omega)
     rw [show (l0).drop (a1 : Int).toNat = y248 from Ny248.out.symm] at hr14
     replace hr14 : Kd.F k73 _ _ A14 y248.length y248:=(by rw [hA14];exact hr14)
     rw [← hy14,← hA14,← hc14] at hcut14
     have HO252:=Aside0.mk (show Kd.V k73 73 _ w.heap.size _ (.slice A14 y248.length c14) y248 from Kd.V_mk (by rw [hy14,hc14];exact Nat.sub_le_sub_right hroom14 _) hr14)
     have HC252:=Aside0.mk (show y248.length ≤ c14 from by rw [hy14,hc14];exact Nat.sub_le_sub_right hroom14 _)
     clear hr14 hC14 hroom14 hi014 hsz14 hc14
     have KY14:=Aside0.mk hy14
     have KA14:=Aside0.mk hA14
     clear hy14 hA14
     replace q14:=eq_true q14
     have q15 : (a1 : Int) ≤ ((l0.length : Int) : Int):=da
     obtain ⟨i015,hi015,_,hsz15,_⟩:=info_parts info73
     have hroom15 : l0.length ≤ c0:=(Kd.V_reads' HO0.out).2.1
     have hC15 : Kd.F k73 _ _ A0 l0.length l0:=(Kd.V_at (base:=w.heap.size) HO0.out).2.2
     have hcut15:=cut_to (P:=Try.prog) 25 73 .i64 Try.underlying25 hi015 A0 l0.length c0 a1 (da) q15 hroom15
     have hr15:=Kd.F_take (m:=(a1 : Int).toNat) hC15 (by omega)
     have hy15 : y253.length = (a1 : Int).toNat:=(by rw [Ny253.out,lT];omega)
     rw [← Ny253.out] at hr15
     rw [← hy15] at hcut15
     have HO257:=Aside0.mk (show Kd.V k73 73 _ w.heap.size _ (.slice A0 y253.length c0) y253 from Kd.V_mk (by omega) hr15)
     have HC257:=Aside0.mk (show y253.length ≤ c0 from by omega)
     clear hr15 hC15 hroom15 hi015 hsz15
     have KY15:=Aside0.mk hy15
     clear hy15
     replace q15:=eq_true q15
     refine start_ (n:=10) (S:=fun w' => True) (ds:=[]) #[fF,fF,fF,fF,fF,fF,fF,fF,fF,fF] (by kernel_rfl) rfl rfl trivial (fun hHeld => ?_);refine with_tabW impl_StartAt.tab5 impl_StartAt.bits5 (fun HT_ HW_ => ?_)
     generalize w12.drew = w13 at HO0 HB HO252 HO257 hHeld ⊢
     refine pu 0 17 HT_ ?_
     refine pu 1 18 HT_ ?_
     refine pu 2 19 HT_ ?_
     refine pu 3 20 HT_ ?_
     refine pu 4 21 HT_ ?_
     refine pu 5 22 HT_ ?_
     refine on 6 23 HT_ (fun K hK => ?_)
     refine Kd.N_lit_step (Kd.slice 73 k73) _ 25 ?hg (N':=23) ?hd (xs:=([y248,y253] : List (List (S73)))) (inner:=[.slice A14 y248.length c14,.slice A0 y253.length c0]) (ok:=(fun k_ => (P0_ k_ ∨ w.heap.size ≤ k_))) (okp:=(fun k_ => (P0_ k_ ∨ w.heap.size ≤ k_))) ?hr ?hp (fun _ hk => hk) ((show ∀ k_,w13.heap.size ≤ k_ → (fun k_ => (P0_ k_ ∨ w.heap.size ≤ k_)) k_ from fun k_ hk => (.inr (Nat.le_trans (below_size ib) hk))) _ (Nat.le_refl _)) (Below.refl _ _) (Nat.le_refl _) (by simp) ?_;(case hd => rfl);(case hg => rfl);(case hr => first | (go_simp;done) | (go_simp;rfl));(case hp => exact (Reps.one (show Kd.FK (Kd.slice 73 k73) _ _ y248 [.slice A14 y248.length c14] from (Kd.FK_slice_mk (Kd.V_reads' (Kd.V_mono (ok':=(fun k_ => (P0_ k_ ∨ w.heap.size ≤ k_))) (HO252.out) (fun k_ hk => hk))).2.1 (Kd.V_F (Kd.V_mono (ok':=(fun k_ => (P0_ k_ ∨ w.heap.size ≤ k_))) (HO252.out) (fun k_ hk => hk))))) (Reps.one (show Kd.FK (Kd.slice 73 k73) _ _ y253 [.slice A0 y253.length c0] from (Kd.FK_slice_mk (Kd.V_reads' (Kd.V_mono (ok':=(fun k_ => (P0_ k_ ∨ w.heap.size ≤ k_))) (HO257.out) (fun k_ hk => hk))).2.1 (Kd.V_F (Kd.V_mono (ok':=(fun k_ => (P0_ k_ ∨ w.heap.size ≤ k_))) (HO257.out) (fun k_ hk => hk))))) (Reps.none _ _))))
     intro v259 w16 ho17 hb hg_ hnew_
     clear hg_ hnew_
     (first | rw [← Ny258.out] at ho17 | (simp only [Int.reduceToNat] at ho17;rw [← Ny258.out] at ho17))
     replace HO0:=Aside0.mk (Kd.V_elder' (by (with_reducible repeat (first | apply Kd.V_alloc | apply Kd.V_drewN | apply Kd.V_drew));exact HO0.out) (Kd.N_base ho17) hb)
     replace HO252:=Aside0.mk (Kd.V_elder' (by (with_reducible repeat (first | apply Kd.V_alloc | apply Kd.V_drewN | apply Kd.V_drew));exact HO252.out) (Kd.N_base ho17) hb)
     replace HO257:=Aside0.mk (Kd.V_elder' (by (with_reducible repeat (first | apply Kd.V_alloc | apply Kd.V_drewN | apply Kd.V_drew));exact HO257.out) (Kd.N_base ho17) hb)
     have HO260:=Aside0.mk (Kd.N_lower ho17 (below_size ib))
     replace HB:=sb hb
     clear hb ho17
     obtain ⟨Ao18,co18,eo18⟩:=Kd.N_slice HO260.out
     (first | subst eo18 | (injection eo18 with f1_ f2_ f3_;have f4_:=f1_.symm;have f5_:=f3_.symm;clear f1_ f2_ f3_;subst f4_;subst f5_))
     refine hK.out _ _ trivial (fun hHeld => ?_)
     clear hK K
     refine norm_ (a':=?_) ?_ ?_
     rotate_left
     ·show Act.put _ (some 23) _ = _
      simp only [Act.put,List.setIfInBounds_toArray,List.set_cons_zero,List.set_cons_succ,i64_w,i32_w]
      rfl
     refine on 7 24 HT_ (fun K hK => ?_)
     refine goes_ Try.func88 (by kernel_rfl) rfl #[.slice Ao18 y258.length co18] (by rfl) rfl rfl (by (try simp only [mT,mC,mN]);first | done | rfl | (simp only [lD,lT];rfl)) ?_
     with_reducible refine (impl_Point_88.calls k _ _ y258 t261 _ ?side1 ?side2 A11.out).mono ?_
     (case side1 => exact cO ((Kd.N_reads' HO260.out).2.2))
     (case side2 => exact (Kd.N_reads' HO260.out).2.1)
     rintro e w19 ⟨v262,rfl,ho0,hb⟩
     refine ⟨_,rfl,?_⟩
     replace HO0:=Aside0.mk (Kd.V_elder' (by (with_reducible repeat (first | apply Kd.V_alloc | apply Kd.V_drewN | apply Kd.V_drew));exact HO0.out) (Kd.R_base ho0) hb)
     replace HO252:=Aside0.mk (Kd.V_elder' (by (with_reducible repeat (first | apply Kd.V_alloc | apply Kd.V_drewN | apply Kd.V_drew));exact HO252.out) (Kd.R_base ho0) hb)
     replace HO257:=Aside0.mk (Kd.V_elder' (by (with_reducible repeat (first | apply Kd.V_alloc | apply Kd.V_drewN | apply Kd.V_drew));exact HO257.out) (Kd.R_base ho0) hb)
     replace HO260:=Aside0.mk (Kd.N_elder' (by (with_reducible repeat (first | apply Kd.N_alloc | apply Kd.N_drewN | apply Kd.N_drew));exact HO260.out) (Kd.R_base ho0) hb)
     have HO263:=Aside0.mk (Kd.R_lower (Kd.R_newM (M:=fun k_ => (w.heap.size ≤ k_)) ho0 (below_size ib) (fun k_ h_ => h_)) (below_size ib))
     replace HB:=sb hb
     (try clear hb)
     (try clear hb2)
     (try clear hk)
     (try clear hi)
     (try clear ho0)
     refine hK.out _ _ trivial (fun hHeld => ?_)
     clear hK K
     refine norm_ (a':=?_) ?_ ?_
     rotate_left
     ·show Act.put _ (some 24) _ = _
      simp only [Act.put,List.setIfInBounds_toArray,List.set_cons_zero,List.set_cons_succ,i64_w,i32_w]
      rfl
     refine pu 8 4 HT_ ?_
     refine pu 9 5 HT_ ?_
     refine done_ (done_of HT_.out (by kernel_rfl)) ?_
     try go_wp2
     go_ret2
     exact ⟨_,by first | rfl | (simp [errW_none,errW_some] <;> rfl) | (simp [*,errW_none,errW_some] <;> rfl),rO (Kd.R_mono HO263.out (fun _ hk => hk.1)),ib⟩
    ·rw [if_neg c8] at H
     exact absurd H (by simp)
   ·rw [if_neg c7] at H
    exact absurd H (by simp)
  ·replace c6:=Bool.eq_false_iff.mpr c6
   subst c6
   have H1 : (some (([] : List (S73)),2)) = some (r1,r2):=by rw [if_neg (show ¬ (false = true) by decide)] at H;exact H
   clear H
   have H:=H1
   clear H1
   simp only [Option.some.injEq,Prod.mk.injEq] at H
   obtain ⟨rfl,rfl⟩:=H
   go_enter Try.func50,Try.ntmps50
   go_wp2_with (first | ((with_reducible refine gate_callee (f:=61) rfl ?_);refine goesL_ (some 8) rfl rfl Try.func61 (by kernel_rfl) rfl #[.slice A0 l0.length c0] rfl (by (try simp only [mT,mC,mN]);first | done | rfl | (simp only [lD,lT];rfl)) ?_;(with_reducible refine (impl_ValidPolygon.calls k _ _ l0 true _ ?side1 ?side2 A3.out).mono ?_);(case side1 => exact cO ((Kd.V_reads' HO0.out).2.2));(case side2 => exact (Kd.V_reads' HO0.out).2.1);rintro e w20 ⟨rfl,hb⟩;refine ⟨_,rfl,?_⟩;replace HO0:=Aside0.mk (Kd.V_below (by (with_reducible repeat (first | apply Kd.V_alloc | apply Kd.V_drewN | apply Kd.V_drew));exact HO0.out) hb);replace HB:=sb hb;(try clear hb);(try clear hb2);(try clear hk);(try clear hi)) | ((with_reducible refine gate_callee (f:=62) rfl ?_);refine goesL_ (some 15) rfl rfl Try.func62 (by kernel_rfl) rfl #[.int .i64 a1,.int .i64 0,.int .i64 (wrap64 ((l0.length : Int) - 1))] rfl (by (try simp only [mT,mC,mN]);first | done | rfl | (simp only [lD,lT];rfl)) ?_;(with_reducible refine (impl_within.calls a1 0 (wrap64 ((l0.length : Int) - 1)) false _ A5.out).mono ?_);rintro e w' ⟨rfl,⟨nd,rfl⟩⟩;refine ⟨_,rfl,?_⟩))
   go_ret2
   exact ⟨_,by first | rfl | (simp [errW_none,errW_some] <;> rfl) | (simp [*,errW_none,errW_some] <;> rfl),by first | exact Kd.R_nil _ _ _ _ _ | exact Kd.N_nil _ _ _ _ _ | exact Kd.V_nil _ _ _ _ _ | exact Kd.Q_nil _ _ _ _ _ | exact Kd.S_nil _ _ _ _ _,ib⟩
 ·replace c4:=Bool.eq_false_iff.mpr c4
  subst c4
  have H1 : (some (([] : List (S73)),1)) = some (r1,r2):=by rw [if_neg (show ¬ (false = true) by decide)] at H;exact H
  clear H
  have H:=H1
  clear H1
  simp only [Option.some.injEq,Prod.mk.injEq] at H
  obtain ⟨rfl,rfl⟩:=H
  go_enter Try.func50,Try.ntmps50
  go_wp2_with (first | ((with_reducible refine gate_callee (f:=61) rfl ?_);refine goesL_ (some 8) rfl rfl Try.func61 (by kernel_rfl) rfl #[.slice A0 l0.length c0] rfl (by (try simp only [mT,mC,mN]);first | done | rfl | (simp only [lD,lT];rfl)) ?_;(with_reducible refine (impl_ValidPolygon.calls k _ _ l0 false _ ?side1 ?side2 A3.out).mono ?_);(case side1 => exact cO ((Kd.V_reads' HO0.out).2.2));(case side2 => exact (Kd.V_reads' HO0.out).2.1);rintro e w21 ⟨rfl,hb⟩;refine ⟨_,rfl,?_⟩;replace HO0:=Aside0.mk (Kd.V_below (by (with_reducible repeat (first | apply Kd.V_alloc | apply Kd.V_drewN | apply Kd.V_drew));exact HO0.out) hb);replace HB:=sb hb;(try clear hb);(try clear hb2);(try clear hk);(try clear hi)))
  go_ret2
  exact ⟨_,by first | rfl | (simp [errW_none,errW_some] <;> rfl) | (simp [*,errW_none,errW_some] <;> rfl),by first | exact Kd.R_nil _ _ _ _ _ | exact Kd.N_nil _ _ _ _ _ | exact Kd.V_nil _ _ _ _ _ | exact Kd.Q_nil _ _ _ _ _ | exact Kd.S_nil _ _ _ _ _,ib⟩
end Go.Proofs.Ytnnchaggdnlfmaa.PFnExactStartAt
