/- Contracts of functions that FnExactUnusedPoints reaches, out of the lines of the kit's print. -/
import Derived.Test.YtnnchaggdnlfmaaQFnExactUnusedPointsx0
import Derived.Test.YtnnchaggdnlfmaaQFnExactUnusedPointsx11
import Derived.Test.YtnnchaggdnlfmaaQFnExactUnusedPointsx13
import Derived.Test.YtnnchaggdnlfmaaQFnExactUnusedPointsx14
namespace Go.Proofs.Ytnnchaggdnlfmaa.PFnExactUnusedPoints
open Go.RowKit Go.Proofs.YtnnchaggdnlfmaaW.PrintWords Go.Proofs.YtnnchaggdnlfmaaW.PrintLast Go.Proofs.YtnnchaggdnlfmaaW.PrintMore
open Bool renaming true → tT, false → fF
open Go.World renaming block_lt_of_cell? → bL
open List renaming setIfInBounds_toArray → iT, set_cons_zero → sZ, set_cons_succ → sC, length_take → lT, length_drop → lD, map_toArray → mT, map_cons → mC, map_nil → mN
open Option renaming bind_eq_some_iff → bE
attribute [local go_sem] max2_int min2_int max_two min_two max_three min_three max_four min_four
set_option linter.unusedVariables false
set_option linter.unusedSimpArgs false
mutual
def impl_ValidDrawing.j0 : Nat → Bool → Int → Int → List (S73) → List (S103) → Option (Bool)
 | 0,_,_,_,_,_ => none
 | k + 1,x30,x338000,x338001,x338002,x338003 => if x30 = true then (some false) else (impl_ValidDrawing.l0 k x338002 (x338002.length : Int) 0 x338000 x338001 x338002 x338003)
def impl_ValidDrawing.l0 : Nat → List (S73) → Int → Int → Int → Int → List (S73) → List (S103) → Option (Bool)
 | 0,_,_,_,_,_,_,_ => none
 | k + 1,x32,x33,x34,x338000,x338001,x338002,x338003 => if x34 < x33 then (if 0 ≤ x34 then (if x34 < (x32.length : Int) then ((impl_within.f ((rd_T73 x32 x34).f0) 0 x338000).bind fun t342 => (if t342 = true then ((impl_within.f ((rd_T73 x32 x34).f1) 0 x338001).bind fun t343 => (if t343 = true then (if x34 ≤ (x338002.length : Int) then ((impl_Point_123.f k (x338002.take (x34 : Int).toNat) ((rd_T73 x32 x34).f0) ((rd_T73 x32 x34).f1)).bind fun t348 => (if t348 = true then (some false) else (impl_ValidDrawing.l0 k x32 x33 (wrap64 (x34 + 1)) x338000 x338001 x338002 x338003))) else (none)) else (some false))) else (some false))) else (none)) else (none)) else (impl_ValidDrawing.l1 k x338003 (x338003.length : Int) 0 x338000 x338001 x338002 x338003)
def impl_ValidDrawing.l1 : Nat → List (S103) → Int → Int → Int → Int → List (S73) → List (S103) → Option (Bool)
 | 0,_,_,_,_,_,_,_ => none
 | k + 1,x63,x64,x65,x338000,x338001,x338002,x338003 => if x65 < x64 then (if 0 ≤ x65 then (if x65 < (x63.length : Int) then ((impl_IsName.f k ((rd_T103 x63 x65).f0)).bind fun t351 => (if t351 = true then (if x65 > 0 then (if 0 ≤ (wrap64 (x65 - 1)) then (if (wrap64 (x65 - 1)) < (x338003.length : Int) then (impl_ValidDrawing.j3 k x63 x64 x65 (!(Op.bytesLess (((rd_T103 x338003 (wrap64 (x65 - 1))).f0).toList) (((rd_T103 x63 x65).f0).toList))) x338000 x338001 x338002 x338003 ((rd_T103 x63 x65).f0) ((rd_T103 x63 x65).f1)) else (none)) else (none)) else (impl_ValidDrawing.j3 k x63 x64 x65 false x338000 x338001 x338002 x338003 ((rd_T103 x63 x65).f0) ((rd_T103 x63 x65).f1))) else (impl_ValidDrawing.j3 k x63 x64 x65 true x338000 x338001 x338002 x338003 ((rd_T103 x63 x65).f0) ((rd_T103 x63 x65).f1)))) else (none)) else (none)) else (some true)
def impl_ValidDrawing.j3 : Nat → List (S103) → Int → Int → Bool → Int → Int → List (S73) → List (S103) → ByteArray → List Int → Option (Bool)
 | 0,_,_,_,_,_,_,_,_,_,_ => none
 | k + 1,x63,x64,x65,x89,x338000,x338001,x338002,x338003,x351000,x351001 => if x89 = true then (some false) else ((impl_ringPolygon.f k x338002 x351001).bind fun bt353 => (if bt353.2 = true then ((impl_ValidPolygon.f k bt353.1).bind fun t357 => (if t357 = true then (impl_ValidDrawing.l1 k x63 x64 (wrap64 (x65 + 1)) x338000 x338001 x338002 x338003) else (some false))) else (some false)))
end
def impl_ValidDrawing.f (k : Nat) (a0_0 : Int) (a0_1 : Int) (l0_2 : List (S73)) (l0_3 : List (S103)) : Option (Bool):=(impl_within.f a0_0 10 20000).bind fun t338 => (if t338 = true then ((impl_within.f a0_1 10 20000).bind fun t339 => (if t339 = true then (if (l0_2.length : Int) > 48 then (impl_ValidDrawing.j0 k true a0_0 a0_1 l0_2 l0_3) else (impl_ValidDrawing.j0 k (decide ((l0_3.length : Int) > 24)) a0_0 a0_1 l0_2 l0_3)) else (impl_ValidDrawing.j0 k true a0_0 a0_1 l0_2 l0_3))) else (impl_ValidDrawing.j0 k true a0_0 a0_1 l0_2 l0_3))
def impl_ValidDrawing.T6 : Bool × List (List Nat × List Nat):=(true,[([],[]),([0],[0]),([],[]),([2],[2]),([1,3],[1,3]),([4],[4]),([5,4],[5]),([6],[6]),([7,6],[6,7]),([6],[6]),([9,6],[6,9]),([8,10,6,6],[6,8,10]),([11,6],[6,11]),([6,12],[6,12]),([13,11],[13]),([14],[14]),([15,14],[14,15]),([14],[14]),([16,17,14],[14,16,17]),([14],[14]),([18,19,14,14],[14,18,19]),([14,20],[14,20])])
def impl_ValidDrawing.B6 : List Nat:=[0,1,0,4,15,31,63,127,255,127,639,2047,4095,8191,16383,32767,65535,32767,262143,32767,1048575,2097151]
theorem impl_ValidDrawing.tab6 : rtab .any (opsOf Try.f77 6) = impl_ValidDrawing.T6:=by kernel_rfl
theorem impl_ValidDrawing.bits6 : waitsOk impl_ValidDrawing.T6.2 impl_ValidDrawing.B6 = true:=by kernel_rfl
def impl_ValidDrawing.T12 : Bool × List (List Nat × List Nat):=(true,[([],[]),([0],[0]),([1],[1]),([2],[2]),([3,2],[3]),([4],[4]),([5,4],[4,5]),([6,4,4],[4,6]),([7],[7]),([8,7],[7,8]),([7],[7]),([10,7],[7,10]),([9,11,7],[7,9,11]),([12,7],[7,12]),([13,7],[7,13]),([7],[7]),([15,7],[7,15]),([14,16,7],[7,14,16]),([7,17,4],[4,7,17]),([4,18],[4,18])])
def impl_ValidDrawing.B12 : List Nat:=[0,1,3,7,15,31,63,127,255,511,255,1279,4095,8191,16383,255,33023,131071,262143,524287]
theorem impl_ValidDrawing.tab12 : rtab .any (opsOf Try.f77 12) = impl_ValidDrawing.T12:=by kernel_rfl
theorem impl_ValidDrawing.bits12 : waitsOk impl_ValidDrawing.T12.2 impl_ValidDrawing.B12 = true:=by kernel_rfl
set_option maxHeartbeats 8000000 in
set_option maxRecDepth 100000 in
theorem impl_ValidDrawing.calls (k : Nat) (a0_0 : Int) (a0_1 : Int) (A0_2 : Option Addr) (c0_2 : Nat) (l0_2 : List (S73)) (A0_3 : Option Addr) (c0_3 : Nat) (l0_3 : List (S103)) (r : Bool) (w : World) (hr0_2 : Kd.C k73 w A0_2 l0_2.length l0_2) (hc0_2 : l0_2.length ≤ c0_2) (hr0_3 : Kd.C k103 w A0_3 l0_3.length l0_3) (hc0_3 : l0_3.length ≤ c0_3) (h : impl_ValidDrawing.f k a0_0 a0_1 l0_2 l0_3 = some r) :
  Calls Try.prog 77 #[.agg #[.int .i64 a0_0,.int .i64 a0_1,.slice A0_2 l0_2.length c0_2,.slice A0_3 l0_3.length c0_3]] w fun e w' => e = .returned (.bool r) ∧ Below w.heap.size w w':=by
 have hu51:=Try.underlying51
 have hu73:=Try.underlying73
 have hu103:=Try.underlying103
 have HR0_2:=Aside0.mk hr0_2
 have HC0_2:=Aside0.mk hc0_2
 clear hr0_2 hc0_2
 have HR0_3:=Aside0.mk hr0_3
 have HC0_3:=Aside0.mk hc0_3
 clear hr0_3 hc0_3
 have HB:=Aside0.mk (Below.refl w.heap.size w)
 have H : ((impl_within.f a0_0 10 20000).bind fun t338 => (if t338 = true then ((impl_within.f a0_1 10 20000).bind fun t339 => (if t339 = true then (if (l0_2.length : Int) > 48 then (impl_ValidDrawing.j0 k true a0_0 a0_1 l0_2 l0_3) else (impl_ValidDrawing.j0 k (decide ((l0_3.length : Int) > 24)) a0_0 a0_1 l0_2 l0_3)) else (impl_ValidDrawing.j0 k true a0_0 a0_1 l0_2 l0_3))) else (impl_ValidDrawing.j0 k true a0_0 a0_1 l0_2 l0_3))) = some r:=h
 clear h
 have HC2:=Aside0.mk H
 clear H
 go_enter Try.func77,Try.ntmps77
 go_upto_region 1 with (first | ((with_reducible refine gate_dst (N:=1) rfl ?_);(try (refine gate_guard (by rfl) ?_;dsimp only));refine bx (cs:=#[.int .i64 a0_0,.int .i64 a0_1,.slice A0_2 l0_2.length c0_2,.slice A0_3 l0_3.length c0_3]) (t:=51) ?_;intro gb337 hg w3 hbox hb;have BK337:=Aside0.mk (hbox);have GW337:=zb hg;have GE337:=zb hg;replace HB:=sb hb;clear hb hbox hg))
 (try simp only [Act.put,iT,sZ,sC])
 go_cut [30] (fun v30 wc => ∃ (kq : Nat) (x30_1 : Bool),v30 = .bool x30_1 ∧ Aside0 (impl_ValidDrawing.j0 kq x30_1 a0_0 a0_1 l0_2 l0_3 = some r) ∧ Aside0 (kq ≤ k) ∧ Aside0 (wc.heap[gb337]? = some (.cells #[.int .i64 a0_0,.int .i64 a0_1,(.slice A0_2 l0_2.length c0_2),(.slice A0_3 l0_3.length c0_3)] 51 (0,0))) ∧ Aside0 (Below w.heap.size w wc))
 case first =>
  have H:=HC2.out
  clear HC2
  replace H:=bE.mp H
  obtain ⟨t338,A40,H⟩:=H
  replace H : (if t338 = true then ((impl_within.f a0_1 10 20000).bind fun t339 => (if t339 = true then (if (l0_2.length : Int) > 48 then (impl_ValidDrawing.j0 k true a0_0 a0_1 l0_2 l0_3) else (impl_ValidDrawing.j0 k (decide ((l0_3.length : Int) > 24)) a0_0 a0_1 l0_2 l0_3)) else (impl_ValidDrawing.j0 k true a0_0 a0_1 l0_2 l0_3))) else (impl_ValidDrawing.j0 k true a0_0 a0_1 l0_2 l0_3)) = some r:=H
  have A4:=Aside0.mk A40
  clear A40
  by_cases c5 : t338 = true
  ·subst c5
   have H1 : ((impl_within.f a0_1 10 20000).bind fun t339 => (if t339 = true then (if (l0_2.length : Int) > 48 then (impl_ValidDrawing.j0 k true a0_0 a0_1 l0_2 l0_3) else (impl_ValidDrawing.j0 k (decide ((l0_3.length : Int) > 24)) a0_0 a0_1 l0_2 l0_3)) else (impl_ValidDrawing.j0 k true a0_0 a0_1 l0_2 l0_3))) = some r:=by rw [if_pos rfl] at H;exact H
   clear H
   have H:=H1
   clear H1
   replace H:=bE.mp H
   obtain ⟨t339,A60,H⟩:=H
   replace H : (if t339 = true then (if (l0_2.length : Int) > 48 then (impl_ValidDrawing.j0 k true a0_0 a0_1 l0_2 l0_3) else (impl_ValidDrawing.j0 k (decide ((l0_3.length : Int) > 24)) a0_0 a0_1 l0_2 l0_3)) else (impl_ValidDrawing.j0 k true a0_0 a0_1 l0_2 l0_3)) = some r:=H
   have A6:=Aside0.mk A60
   clear A60
   by_cases c7 : t339 = true
   ·subst c7
    have H1 : (if (l0_2.length : Int) > 48 then (impl_ValidDrawing.j0 k true a0_0 a0_1 l0_2 l0_3) else (impl_ValidDrawing.j0 k (decide ((l0_3.length : Int) > 24)) a0_0 a0_1 l0_2 l0_3)) = some r:=by rw [if_pos rfl] at H;exact H
    clear H
    have H:=H1
    clear H1
    by_cases c8 : (l0_2.length : Int) > 48
    ·rw [if_pos c8] at H
     have c8b0 : decide (48 < (l0_2.length : Int)) = true:=decide_eq_true c8
     have c8b1 : decide (48 < l0_2.length) = true:=decide_eq_true (by omega)
     clear c8
     (first | rw [c8b0] | (simp only [i64_w,i32_w];rw [c8b0]) | skip)
     have H':=Aside0.mk H
     clear H
     have hcz9_0:=ck BK337 0
     have hcz9_1:=ck BK337 1
     have hcz9_2:=ck BK337 2
     have hcz9_3:=ck BK337 3
     have hfz9_0:=blk_frozen BK337.out 0
     have hfz9_1:=blk_frozen BK337.out 1
     have hfz9_2:=blk_frozen BK337.out 2
     have hfz9_3:=blk_frozen BK337.out 3
     go_wp2_with (first | ((with_reducible refine gate_callee (f:=62) rfl ?_);refine goesL_ (some 11) rfl rfl Try.func62 (by kernel_rfl) rfl #[.int .i64 a0_0,.int .i64 10,.int .i64 20000] rfl (by (try simp only [mT,mC,mN]);first | done | rfl | (simp only [lD,lT];rfl)) ?_;(with_reducible refine (impl_within.calls a0_0 10 20000 true _ A4.out).mono ?_);rintro e w' ⟨rfl,⟨nd,rfl⟩⟩;refine ⟨_,rfl,?_⟩) | (go_at_call 62;(with_reducible refine (impl_within.calls a0_1 10 20000 true _ A6.out).mono ?_);rintro e w' ⟨rfl,⟨nd,rfl⟩⟩))
     go_meet
     case rel => exact ⟨_,(true),(by first | rfl | (simp;done) | (simp [*];done)),H',⟨by first | omega | exact Nat.le_refl _⟩,⟨by exact bk BK337⟩,⟨ib⟩⟩
    ·rw [if_neg c8] at H
     have c8b0 : decide (48 < (l0_2.length : Int)) = false:=decide_eq_false c8
     have c8b1 : decide (48 < l0_2.length) = false:=decide_eq_false (by omega)
     clear c8
     (first | rw [c8b0] | (simp only [i64_w,i32_w];rw [c8b0]) | skip)
     have H':=Aside0.mk H
     clear H
     have hcz10_0:=ck BK337 0
     have hcz10_1:=ck BK337 1
     have hcz10_2:=ck BK337 2
     have hcz10_3:=ck BK337 3
     have hfz10_0:=blk_frozen BK337.out 0
     have hfz10_1:=blk_frozen BK337.out 1
     have hfz10_2:=blk_frozen BK337.out 2
     have hfz10_3:=blk_frozen BK337.out 3
     go_wp2_with (first | ((with_reducible refine gate_callee (f:=62) rfl ?_);refine goesL_ (some 11) rfl rfl Try.func62 (by kernel_rfl) rfl #[.int .i64 a0_0,.int .i64 10,.int .i64 20000] rfl (by (try simp only [mT,mC,mN]);first | done | rfl | (simp only [lD,lT];rfl)) ?_;(with_reducible refine (impl_within.calls a0_0 10 20000 true _ A4.out).mono ?_);rintro e w' ⟨rfl,⟨nd,rfl⟩⟩;refine ⟨_,rfl,?_⟩) | (go_at_call 62;(with_reducible refine (impl_within.calls a0_1 10 20000 true _ A6.out).mono ?_);rintro e w' ⟨rfl,⟨nd,rfl⟩⟩))
     go_meet
     case rel => exact ⟨_,(decide ((l0_3.length : Int) > 24)),(by first | rfl | (simp;done) | (simp [*];done)),H',⟨by first | omega | exact Nat.le_refl _⟩,⟨by exact bk BK337⟩,⟨ib⟩⟩
   ·replace c7:=Bool.eq_false_iff.mpr c7
    subst c7
    have H1 : (impl_ValidDrawing.j0 k true a0_0 a0_1 l0_2 l0_3) = some r:=by rw [if_neg (show ¬ (false = true) by decide)] at H;exact H
    clear H
    have H:=H1
    clear H1
    have H':=Aside0.mk H
    clear H
    have hcz11_0:=ck BK337 0
    have hcz11_1:=ck BK337 1
    have hcz11_2:=ck BK337 2
    have hcz11_3:=ck BK337 3
    have hfz11_0:=blk_frozen BK337.out 0
    have hfz11_1:=blk_frozen BK337.out 1
    have hfz11_2:=blk_frozen BK337.out 2
    have hfz11_3:=blk_frozen BK337.out 3
    go_wp2_with (first | ((with_reducible refine gate_callee (f:=62) rfl ?_);refine goesL_ (some 11) rfl rfl Try.func62 (by kernel_rfl) rfl #[.int .i64 a0_0,.int .i64 10,.int .i64 20000] rfl (by (try simp only [mT,mC,mN]);first | done | rfl | (simp only [lD,lT];rfl)) ?_;(with_reducible refine (impl_within.calls a0_0 10 20000 true _ A4.out).mono ?_);rintro e w' ⟨rfl,⟨nd,rfl⟩⟩;refine ⟨_,rfl,?_⟩) | (go_at_call 62;(with_reducible refine (impl_within.calls a0_1 10 20000 false _ A6.out).mono ?_);rintro e w' ⟨rfl,⟨nd,rfl⟩⟩))
    go_meet
    case rel => exact ⟨_,(true),(by first | rfl | (simp;done) | (simp [*];done)),H',⟨by first | omega | exact Nat.le_refl _⟩,⟨by exact bk BK337⟩,⟨ib⟩⟩
  ·replace c5:=Bool.eq_false_iff.mpr c5
   subst c5
   have H1 : (impl_ValidDrawing.j0 k true a0_0 a0_1 l0_2 l0_3) = some r:=by rw [if_neg (show ¬ (false = true) by decide)] at H;exact H
   clear H
   have H:=H1
   clear H1
   have H':=Aside0.mk H
   clear H
   have hcz12_0:=ck BK337 0
   have hcz12_1:=ck BK337 1
   have hcz12_2:=ck BK337 2
   have hcz12_3:=ck BK337 3
   have hfz12_0:=blk_frozen BK337.out 0
   have hfz12_1:=blk_frozen BK337.out 1
   have hfz12_2:=blk_frozen BK337.out 2
   have hfz12_3:=blk_frozen BK337.out 3
   go_wp2_with (first | ((with_reducible refine gate_callee (f:=62) rfl ?_);refine goesL_ (some 11) rfl rfl Try.func62 (by kernel_rfl) rfl #[.int .i64 a0_0,.int .i64 10,.int .i64 20000] rfl (by (try simp only [mT,mC,mN]);first | done | rfl | (simp only [lD,lT];rfl)) ?_;(with_reducible refine (impl_within.calls a0_0 10 20000 false _ A4.out).mono ?_);rintro e w' ⟨rfl,⟨nd,rfl⟩⟩;refine ⟨_,rfl,?_⟩))
   go_meet
   case rel => exact ⟨_,(true),(by first | rfl | (simp;done) | (simp [*];done)),H',⟨by first | omega | exact Nat.le_refl _⟩,⟨by exact bk BK337⟩,⟨ib⟩⟩
 case rest =>
  clear HC2
  try clear p2
  try clear c5
  try clear c6
  try clear c7
  try clear c8
  try clear c8b0
  try clear c8b1
  try clear hcz10_0
  try clear hcz10_1
  try clear hcz10_2
  try clear hcz10_3
  try clear hcz11_0
  try clear hcz11_1
  try clear hcz11_2
  try clear hcz11_3
  try clear hcz12_0
  try clear hcz12_1
  try clear hcz12_2
  try clear hcz12_3
  try clear hcz9_0
  try clear hcz9_1
  try clear hcz9_2
  try clear hcz9_3
  try clear hfz10_0
  try clear hfz10_1
  try clear hfz10_2
  try clear hfz10_3
  try clear hfz11_0
  try clear hfz11_1
  try clear hfz11_2
  try clear hfz11_3
  try clear hfz12_0
  try clear hfz12_1
  try clear hfz12_2
  try clear hfz12_3
  try clear hfz9_0
  try clear hfz9_1
  try clear hfz9_2
  try clear hfz9_3
  obtain ⟨kq,x30_1,rfl,HA,HJ1,BK337,HB⟩:=hcut
  cases kq with
  | zero => exact absurd HA.out (by simp [impl_ValidDrawing.j0])
  | succ kj1 =>
   have H:=HA.out
   clear HA
   simp only [impl_ValidDrawing.j0] at H
   by_cases c13 : x30_1 = true
   ·subst c13
    have H1 : (some false) = some r:=by rw [if_pos rfl] at H;exact H
    clear H
    have H:=H1
    clear H1
    obtain rfl:=Option.some.inj H
    go_wp2
    go_ret
    exact ⟨by first | rfl | (simp [errW_none,errW_some] <;> rfl) | (simp [*,errW_none,errW_some] <;> rfl),ib⟩
   ·replace c13:=Bool.eq_false_iff.mpr c13
    subst c13
    have H1 : (impl_ValidDrawing.l0 kj1 l0_2 (l0_2.length : Int) 0 a0_0 a0_1 l0_2 l0_3) = some r:=by rw [if_neg (show ¬ (false = true) by decide)] at H;exact H
    clear H
    have H:=H1
    clear H1
    have H':=Aside0.mk H
    clear H
    have hcz14_0 : wc.cell? ⟨gb337,0,none⟩ = some (.int .i64 a0_0):=(blk_cell BK337.out 0).trans rfl
    have hcz14_1 : wc.cell? ⟨gb337,1,none⟩ = some (.int .i64 a0_1):=(blk_cell BK337.out 1).trans rfl
    have hcz14_2 : wc.cell? ⟨gb337,2,none⟩ = some (.slice A0_2 l0_2.length c0_2):=(blk_cell BK337.out 2).trans rfl
    have hcz14_3 : wc.cell? ⟨gb337,3,none⟩ = some (.slice A0_3 l0_3.length c0_3):=(blk_cell BK337.out 3).trans rfl
    have hfz14_0:=blk_frozen BK337.out 0
    have hfz14_1:=blk_frozen BK337.out 1
    have hfz14_2:=blk_frozen BK337.out 2
    have hfz14_3:=blk_frozen BK337.out 3
    go_wp2
    go_loopg [34] kj1 (fun kq v34 w' => ∃ (x34_2 : Int),v34 = .int .i64 x34_2 ∧ Aside0 (impl_ValidDrawing.l0 kq l0_2 (l0_2.length : Int) x34_2 a0_0 a0_1 l0_2 l0_3 = some r) ∧ Aside0 (kq ≤ kj1) ∧ Aside0 (w'.heap[gb337]? = some (.cells #[.int .i64 a0_0,.int .i64 a0_1,(.slice A0_2 l0_2.length c0_2),(.slice A0_3 l0_3.length c0_3)] 51 (0,0))) ∧ Aside0 (Below w.heap.size w w'))
    case atStart => exact ⟨(0),(by first | rfl | (simp;done) | (simp [*];done)),H',⟨Nat.le_refl _⟩,⟨by exact bk BK337⟩,⟨ib⟩⟩
    case round =>
     clear H'
     try clear c1
     try clear p2
     try clear c5
     try clear c6
     try clear c7
     try clear c8
     try clear c8b0
     try clear c8b1
     try clear c13
     try clear hcz10_0
     try clear hcz10_1
     try clear hcz10_2
     try clear hcz10_3
     try clear hcz11_0
     try clear hcz11_1
     try clear hcz11_2
     try clear hcz11_3
     try clear hcz12_0
     try clear hcz12_1
     try clear hcz12_2
     try clear hcz12_3
     try clear hcz14_0
     try clear hcz14_1
     try clear hcz14_2
     try clear hcz14_3
     try clear hcz9_0
     try clear hcz9_1
     try clear hcz9_2
     try clear hcz9_3
     try clear hfz10_0
     try clear hfz10_1
     try clear hfz10_2
     try clear hfz10_3
     try clear hfz11_0
     try clear hfz11_1
     try clear hfz11_2
     try clear hfz11_3
     try clear hfz12_0
     try clear hfz12_1
     try clear hfz12_2
     try clear hfz12_3
     try clear hfz14_0
     try clear hfz14_1
     try clear hfz14_2
     try clear hfz14_3
     try clear hfz9_0
     try clear hfz9_1
     try clear hfz9_2
     try clear hfz9_3
     try clear p2
     obtain ⟨x34_2,rfl,HA,HK2,BK337,HB⟩:=hrel
     cases gk with
     | zero => exact absurd HA.out (by simp [impl_ValidDrawing.l0])
     | succ k2 =>
      have H:=HA.out
      clear HA
      simp only [impl_ValidDrawing.l0] at H
      by_cases c15 : x34_2 < (l0_2.length : Int)
      ·rw [if_pos c15] at H
       have c15b0 : decide (x34_2 < (l0_2.length : Int)) = true:=decide_eq_true c15
       clear c15
       by_cases c16 : 0 ≤ x34_2
       ·rw [if_pos c16] at H
        have c16b0 : decide (0 ≤ x34_2) = true:=decide_eq_true c16
        clear c16
        by_cases c17 : x34_2 < (l0_2.length : Int)
        ·rw [if_pos c17] at H
         have c17b0 : decide (x34_2 < (l0_2.length : Int)) = true:=decide_eq_true c17
         clear c17
         replace H:=bE.mp H
         obtain ⟨t342,A180,H⟩:=H
         replace H : (if t342 = true then ((impl_within.f ((rd_T73 l0_2 x34_2).f1) 0 a0_1).bind fun t343 => (if t343 = true then (if x34_2 ≤ (l0_2.length : Int) then ((impl_Point_123.f k2 (l0_2.take (x34_2 : Int).toNat) ((rd_T73 l0_2 x34_2).f0) ((rd_T73 l0_2 x34_2).f1)).bind fun t348 => (if t348 = true then (some false) else (impl_ValidDrawing.l0 k2 l0_2 (l0_2.length : Int) (wrap64 (x34_2 + 1)) a0_0 a0_1 l0_2 l0_3))) else (none)) else (some false))) else (some false)) = some r:=H
         have A18:=Aside0.mk A180
         clear A180
         by_cases c19 : t342 = true
         ·subst c19
          have H1 : ((impl_within.f ((rd_T73 l0_2 x34_2).f1) 0 a0_1).bind fun t343 => (if t343 = true then (if x34_2 ≤ (l0_2.length : Int) then ((impl_Point_123.f k2 (l0_2.take (x34_2 : Int).toNat) ((rd_T73 l0_2 x34_2).f0) ((rd_T73 l0_2 x34_2).f1)).bind fun t348 => (if t348 = true then (some false) else (impl_ValidDrawing.l0 k2 l0_2 (l0_2.length : Int) (wrap64 (x34_2 + 1)) a0_0 a0_1 l0_2 l0_3))) else (none)) else (some false))) = some r:=by rw [if_pos rfl] at H;exact H
          clear H
          have H:=H1
          clear H1
          replace H:=bE.mp H
          obtain ⟨t343,A200,H⟩:=H
          replace H : (if t343 = true then (if x34_2 ≤ (l0_2.length : Int) then ((impl_Point_123.f k2 (l0_2.take (x34_2 : Int).toNat) ((rd_T73 l0_2 x34_2).f0) ((rd_T73 l0_2 x34_2).f1)).bind fun t348 => (if t348 = true then (some false) else (impl_ValidDrawing.l0 k2 l0_2 (l0_2.length : Int) (wrap64 (x34_2 + 1)) a0_0 a0_1 l0_2 l0_3))) else (none)) else (some false)) = some r:=H
          have A20:=Aside0.mk A200
          clear A200
          by_cases c21 : t343 = true
          ·subst c21
           have H1 : (if x34_2 ≤ (l0_2.length : Int) then ((impl_Point_123.f k2 (l0_2.take (x34_2 : Int).toNat) ((rd_T73 l0_2 x34_2).f0) ((rd_T73 l0_2 x34_2).f1)).bind fun t348 => (if t348 = true then (some false) else (impl_ValidDrawing.l0 k2 l0_2 (l0_2.length : Int) (wrap64 (x34_2 + 1)) a0_0 a0_1 l0_2 l0_3))) else (none)) = some r:=by rw [if_pos rfl] at H;exact H
           clear H
           have H:=H1
           clear H1
           have c22b0:=eq_true (da : 0 ≤ x34_2)
           by_cases c23 : x34_2 ≤ (l0_2.length : Int)
           ·rw [if_pos c23] at H
            have c23b0:=eq_true c23
            have c23b1 : decide (x34_2 ≤ (l0_2.length : Int)) = true:=decide_eq_true c23
            clear c23
            obtain ⟨y344,hy344⟩ : ∃ y_ : List (S73),y_ = (l0_2.take (x34_2 : Int).toNat):=⟨_,rfl⟩
            replace H : ((impl_Point_123.f k2 y344 ((rd_T73 l0_2 x34_2).f0) ((rd_T73 l0_2 x34_2).f1)).bind fun t348 => (if t348 = true then (some false) else (impl_ValidDrawing.l0 k2 l0_2 (l0_2.length : Int) (wrap64 (x34_2 + 1)) a0_0 a0_1 l0_2 l0_3))) = some r:=by first | (rw [hy344];with_reducible exact H) | (have H2_:=(Option.bind_some _ _).symm.trans H;rw [hy344];with_reducible exact H2_) | (have H2_:=(Option.bind_some _ _).symm.trans H;with_reducible exact H2_) | with_reducible exact H | (rw [hy344];exact H) | exact H
            have Ny344:=Aside0.mk hy344
            clear hy344
            replace H:=bE.mp H
            obtain ⟨t348,A240,H⟩:=H
            replace H : (if t348 = true then (some false) else (impl_ValidDrawing.l0 k2 l0_2 (l0_2.length : Int) (wrap64 (x34_2 + 1)) a0_0 a0_1 l0_2 l0_3)) = some r:=H
            have A24:=Aside0.mk A240
            clear A240
            by_cases c25 : t348 = true
            ·subst c25
             have H1 : (some false) = some r:=by rw [if_pos rfl] at H;exact H
             clear H
             have H:=H1
             clear H1
             obtain rfl:=Option.some.inj H
             have p340 : 0 ≤ (x34_2 : Int):=da
             have q340 : x34_2 < (l0_2.length : Int):=da
             obtain ⟨ad340,e340,hx340_0,hx340_1⟩:=at_T73 HR0_2.out x34_2 p340 q340
             cases e340
             replace hx340_0:=cq HB.out hx340_0
             replace hx340_1:=cq HB.out hx340_1
             replace p340:=eq_true p340
             replace q340:=eq_true q340
             try go_wp2_with (first | ((with_reducible refine gate_dst (N:=4) rfl ?_);(try (refine gate_guard (by rfl) ?_;dsimp only));refine bx (cs:=#[.int .i64 0,.int .i64 0]) (t:=73) ?_;intro gb341 hg w26 hbox hb;have BK341:=Aside0.mk (hbox);have GW341:=zb hg;have GE341:=zb hg;replace HB:=sb hb;have NB337_341:=nl BK337 hg;have NB341_337:=ng BK337 hg;replace BK337:=kb BK337 hb;clear hb hbox hg;have hnb27:=NB341_337.out;have hnc27:=NB337_341.out;have hcz28_0:=ck BK341 0;have hcz28_1:=ck BK341 1;have hfz28_0:=blk_frozen BK341.out 0;have hfz28_1:=blk_frozen BK341.out 1))
             have n0_ : Aside0 (((w26.setCell ⟨gb341,0,none⟩ (.int .i64 ((rd_T73 l0_2 x34_2).f0))).setCell ⟨gb341,1,none⟩ (.int .i64 ((rd_T73 l0_2 x34_2).f1))).heap[gb337]? = some (.cells #[.int .i64 a0_0,.int .i64 a0_1,.slice (some ad340) l0_2.length c0_2,.slice A0_3 l0_3.length c0_3] 51 (0,0))):=⟨by refine bF NB337_341.out ?_;refine bF NB337_341.out ?_;exact bk BK337⟩
             have n1_ : Aside0 (((w26.setCell ⟨gb341,0,none⟩ (.int .i64 ((rd_T73 l0_2 x34_2).f0))).setCell ⟨gb341,1,none⟩ (.int .i64 ((rd_T73 l0_2 x34_2).f1))).heap[gb341]? = some (.cells #[.int .i64 ((rd_T73 l0_2 x34_2).f0),.int .i64 ((rd_T73 l0_2 x34_2).f1)] 73 (0,0))):=⟨by refine bP (cs:=#[.int .i64 ((rd_T73 l0_2 x34_2).f0),.int .i64 0]) 1 ?_;refine bP (cs:=#[.int .i64 0,.int .i64 0]) 0 ?_;exact bk BK341⟩
             have n2_ : Aside0 (Below w.heap.size w ((w26.setCell ⟨gb341,0,none⟩ (.int .i64 ((rd_T73 l0_2 x34_2).f0))).setCell ⟨gb341,1,none⟩ (.int .i64 ((rd_T73 l0_2 x34_2).f1)))):=⟨ib⟩
             (try clear BK337)
             (try clear BK341)
             (try clear HB)
             generalize ((w26.setCell ⟨gb341,0,none⟩ (.int .i64 ((rd_T73 l0_2 x34_2).f0))).setCell ⟨gb341,1,none⟩ (.int .i64 ((rd_T73 l0_2 x34_2).f1))) = w29 at n0_ n1_ n2_ ⊢
             have BK337:=n0_
             have BK341:=n1_
             have HB:=n2_
             clear n0_ n1_ n2_
             replace BK337:=Aside0.mk (blk_drew BK337.out)
             replace BK341:=Aside0.mk (blk_drew BK341.out)
             replace HB:=Aside0.mk (below_drew1 HB.out)
             refine start_ (n:=22) (S:=fun w' => w'.cell? ⟨gb341,0,none⟩ = some (.int .i64 ((rd_T73 l0_2 x34_2).f0)) ∧ w'.cell? ⟨gb341,1,none⟩ = some (.int .i64 ((rd_T73 l0_2 x34_2).f1)) ∧ w'.cell? ⟨gb337,0,none⟩ = some (.int .i64 a0_0) ∧ w'.cell? ⟨gb337,1,none⟩ = some (.int .i64 a0_1) ∧ w'.cell? ⟨gb337,2,none⟩ = some (.slice (some ad340) l0_2.length c0_2) ∧ w'.cell? ⟨gb337,3,none⟩ = some (.slice A0_3 l0_3.length c0_3)) (ds:=[]) #[fF,fF,fF,fF,fF,fF,fF,fF,fF,fF,fF,fF,fF,fF,fF,fF,fF,fF,fF,fF,fF,fF] (by kernel_rfl) rfl rfl ⟨(blk_cell BK341.out 0).trans rfl,(blk_cell BK341.out 1).trans rfl,(blk_cell BK337.out 0).trans rfl,(blk_cell BK337.out 1).trans rfl,(blk_cell BK337.out 2).trans rfl,(blk_cell BK337.out 3).trans rfl⟩ (fun hHeld => ?_);refine with_tabW impl_ValidDrawing.tab6 impl_ValidDrawing.bits6 (fun HT_ HW_ => ?_)
             generalize w29.drew = w30 at BK337 BK341 HB hHeld ⊢
             refine pu 0 39 HT_ ?_
             refine pu 2 41 HT_ ?_
             refine tk 1 40 HT_ HW_ hHeld ?_
             refine tk 3 42 HT_ HW_ hHeld ?_
             refine on 4 43 HT_ (fun K hK => ?_)
             refine goes_ Try.func62 (by kernel_rfl) rfl #[.int .i64 ((rd_T73 l0_2 x34_2).f0),.int .i64 0,.int .i64 a0_0] (by rfl) rfl rfl (by (try simp only [mT,mC,mN]);first | done | rfl | (simp only [lD,lT];rfl)) ?_
             with_reducible refine (impl_within.calls ((rd_T73 l0_2 x34_2).f0) 0 a0_0 true _ A18.out).mono ?_
             rintro e w' ⟨rfl,⟨nd,rfl⟩⟩
             refine ⟨_,rfl,?_⟩
             refine hK.out _ _ ⟨(blk_cell BK341.out 0).trans rfl,(blk_cell BK341.out 1).trans rfl,(blk_cell BK337.out 0).trans rfl,(blk_cell BK337.out 1).trans rfl,(blk_cell BK337.out 2).trans rfl,(blk_cell BK337.out 3).trans rfl⟩ (fun hHeld => ?_)
             clear hK K
             refine norm_ (a':=?_) ?_ ?_
             rotate_left
             ·show Act.put _ (some 43) _ = _
              simp only [Act.put,iT,sZ,sC,i64_w,i32_w]
              rfl
             refine pu 5 44 HT_ ?_
             refine pu 6 45 HT_ ?_
             refine pu 7 46 HT_ ?_
             refine pu 9 48 HT_ ?_
             refine tk 8 47 HT_ HW_ hHeld ?_
             refine tk 10 49 HT_ HW_ hHeld ?_
             refine on 11 50 HT_ (fun K hK => ?_)
             refine goes_ Try.func62 (by kernel_rfl) rfl #[.int .i64 ((rd_T73 l0_2 x34_2).f1),.int .i64 0,.int .i64 a0_1] (by rfl) rfl rfl (by (try simp only [mT,mC,mN]);first | done | rfl | (simp only [lD,lT];rfl)) ?_
             with_reducible refine (impl_within.calls ((rd_T73 l0_2 x34_2).f1) 0 a0_1 true _ A20.out).mono ?_
             rintro e w' ⟨rfl,⟨nd,rfl⟩⟩
             refine ⟨_,rfl,?_⟩
             have q31 : (x34_2 : Int) ≤ ((l0_2.length : Int) : Int):=da
             obtain ⟨i031,hi031,_,hsz31,_⟩:=info_parts info73
             have hroom31 : l0_2.length ≤ c0_2:=HC0_2.out
             have hC31 : Kd.C k73 _ (some ad340) l0_2.length l0_2:=HR0_2.out
             have hcut31:=cut_to (P:=Try.prog) 25 73 .i64 Try.underlying25 hi031 (some ad340) l0_2.length c0_2 x34_2 (da) q31 hroom31
             have hr31:=Kd.C_take (m:=(x34_2 : Int).toNat) hC31 (by omega)
             have hy31 : y344.length = (x34_2 : Int).toNat:=(by rw [Ny344.out,lT];omega)
             rw [← Ny344.out] at hr31
             rw [← hy31] at hcut31
             have HR347:=Aside0.mk hr31
             have HC347:=Aside0.mk (show y344.length ≤ c0_2 from by omega)
             clear hr31 hC31 hroom31 hi031 hsz31
             have KY31:=Aside0.mk hy31
             clear hy31
             replace q31:=eq_true q31
             refine hK.out _ _ ⟨(blk_cell BK341.out 0).trans rfl,(blk_cell BK341.out 1).trans rfl,(blk_cell BK337.out 0).trans rfl,(blk_cell BK337.out 1).trans rfl,(blk_cell BK337.out 2).trans rfl,(blk_cell BK337.out 3).trans rfl⟩ (fun hHeld => ?_)
             clear hK K
             refine norm_ (a':=?_) ?_ ?_
             rotate_left
             ·show Act.put _ (some 50) _ = _
              simp only [Act.put,iT,sZ,sC,i64_w,i32_w]
              rfl
             refine pu 12 51 HT_ ?_
             refine pu 13 52 HT_ ?_
             refine pu 14 53 HT_ ?_
             refine pu 15 54 HT_ ?_
             refine pu 17 56 HT_ ?_
             refine tk 16 55 HT_ HW_ hHeld ?_
             refine pu 18 57 HT_ ?_
             refine tk 19 58 HT_ HW_ hHeld ?_
             refine on 20 59 HT_ (fun K hK => ?_)
             refine goes_ Try.func123 (by kernel_rfl) rfl #[.slice (some ad340) y344.length c0_2,.agg #[.int .i64 ((rd_T73 l0_2 x34_2).f0),.int .i64 ((rd_T73 l0_2 x34_2).f1)]] (by rfl) rfl rfl (by (try simp only [mT,mC,mN]);first | done | rfl | (simp only [lD,lT];rfl)) ?_
             with_reducible refine (impl_Point_123.calls k2 _ _ y344 ((rd_T73 l0_2 x34_2).f0) ((rd_T73 l0_2 x34_2).f1) true _ ?side1 ?side2 A24.out).mono ?_
             (case side1 => exact cO ((Kd.C_below HR347.out ib)))
             (case side2 => exact HC347.out)
             rintro e w32 ⟨rfl,hb⟩
             refine ⟨_,rfl,?_⟩
             replace BK337:=kb BK337 hb
             replace BK341:=kb BK341 hb
             replace HB:=sb hb
             (try clear hb)
             (try clear hb2)
             (try clear hk)
             (try clear hi)
             refine hK.out _ _ ⟨(blk_cell BK341.out 0).trans rfl,(blk_cell BK341.out 1).trans rfl,(blk_cell BK337.out 0).trans rfl,(blk_cell BK337.out 1).trans rfl,(blk_cell BK337.out 2).trans rfl,(blk_cell BK337.out 3).trans rfl⟩ (fun hHeld => ?_)
             clear hK K
             refine norm_ (a':=?_) ?_ ?_
             rotate_left
             ·show Act.put _ (some 59) _ = _
              simp only [Act.put,iT,sZ,sC,i64_w,i32_w]
              rfl
             refine pu 21 60 HT_ ?_
             refine done_ (done_of HT_.out (by kernel_rfl)) ?_
             try go_wp2
             go_ret
             exact ⟨by first | rfl | (simp [errW_none,errW_some] <;> rfl) | (simp [*,errW_none,errW_some] <;> rfl),ib⟩
            ·replace c25:=Bool.eq_false_iff.mpr c25
             subst c25
             have H1 : (impl_ValidDrawing.l0 k2 l0_2 (l0_2.length : Int) (wrap64 (x34_2 + 1)) a0_0 a0_1 l0_2 l0_3) = some r:=by rw [if_neg (show ¬ (false = true) by decide)] at H;exact H
             clear H
             have H:=H1
             clear H1
             have H':=Aside0.mk H
             clear H
             have p340 : 0 ≤ (x34_2 : Int):=da
             have q340 : x34_2 < (l0_2.length : Int):=da
             obtain ⟨ad340,e340,hx340_0,hx340_1⟩:=at_T73 HR0_2.out x34_2 p340 q340
             cases e340
             replace hx340_0:=cq HB.out hx340_0
             replace hx340_1:=cq HB.out hx340_1
             replace p340:=eq_true p340
             replace q340:=eq_true q340
             try go_wp2_with (first | ((with_reducible refine gate_dst (N:=4) rfl ?_);(try (refine gate_guard (by rfl) ?_;dsimp only));refine bx (cs:=#[.int .i64 0,.int .i64 0]) (t:=73) ?_;intro gb341 hg w33 hbox hb;have BK341:=Aside0.mk (hbox);have GW341:=zb hg;have GE341:=zb hg;replace HB:=sb hb;have NB337_341:=nl BK337 hg;have NB341_337:=ng BK337 hg;replace BK337:=kb BK337 hb;clear hb hbox hg;have hnb34:=NB341_337.out;have hnc34:=NB337_341.out;have hcz35_0:=ck BK341 0;have hcz35_1:=ck BK341 1;have hfz35_0:=blk_frozen BK341.out 0;have hfz35_1:=blk_frozen BK341.out 1))
             have n0_ : Aside0 (((w33.setCell ⟨gb341,0,none⟩ (.int .i64 ((rd_T73 l0_2 x34_2).f0))).setCell ⟨gb341,1,none⟩ (.int .i64 ((rd_T73 l0_2 x34_2).f1))).heap[gb337]? = some (.cells #[.int .i64 a0_0,.int .i64 a0_1,.slice (some ad340) l0_2.length c0_2,.slice A0_3 l0_3.length c0_3] 51 (0,0))):=⟨by refine bF NB337_341.out ?_;refine bF NB337_341.out ?_;exact bk BK337⟩
             have n1_ : Aside0 (((w33.setCell ⟨gb341,0,none⟩ (.int .i64 ((rd_T73 l0_2 x34_2).f0))).setCell ⟨gb341,1,none⟩ (.int .i64 ((rd_T73 l0_2 x34_2).f1))).heap[gb341]? = some (.cells #[.int .i64 ((rd_T73 l0_2 x34_2).f0),.int .i64 ((rd_T73 l0_2 x34_2).f1)] 73 (0,0))):=⟨by refine bP (cs:=#[.int .i64 ((rd_T73 l0_2 x34_2).f0),.int .i64 0]) 1 ?_;refine bP (cs:=#[.int .i64 0,.int .i64 0]) 0 ?_;exact bk BK341⟩
             have n2_ : Aside0 (Below w.heap.size w ((w33.setCell ⟨gb341,0,none⟩ (.int .i64 ((rd_T73 l0_2 x34_2).f0))).setCell ⟨gb341,1,none⟩ (.int .i64 ((rd_T73 l0_2 x34_2).f1)))):=⟨ib⟩
             (try clear BK337)
             (try clear BK341)
             (try clear HB)
             generalize ((w33.setCell ⟨gb341,0,none⟩ (.int .i64 ((rd_T73 l0_2 x34_2).f0))).setCell ⟨gb341,1,none⟩ (.int .i64 ((rd_T73 l0_2 x34_2).f1))) = w36 at n0_ n1_ n2_ ⊢
             have BK337:=n0_
             have BK341:=n1_
             have HB:=n2_
             clear n0_ n1_ n2_
             replace BK337:=Aside0.mk (blk_drew BK337.out)
             replace BK341:=Aside0.mk (blk_drew BK341.out)
             replace HB:=Aside0.mk (below_drew1 HB.out)
             refine start_ (n:=22) (S:=fun w' => w'.cell? ⟨gb341,0,none⟩ = some (.int .i64 ((rd_T73 l0_2 x34_2).f0)) ∧ w'.cell? ⟨gb341,1,none⟩ = some (.int .i64 ((rd_T73 l0_2 x34_2).f1)) ∧ w'.cell? ⟨gb337,0,none⟩ = some (.int .i64 a0_0) ∧ w'.cell? ⟨gb337,1,none⟩ = some (.int .i64 a0_1) ∧ w'.cell? ⟨gb337,2,none⟩ = some (.slice (some ad340) l0_2.length c0_2) ∧ w'.cell? ⟨gb337,3,none⟩ = some (.slice A0_3 l0_3.length c0_3)) (ds:=[]) #[fF,fF,fF,fF,fF,fF,fF,fF,fF,fF,fF,fF,fF,fF,fF,fF,fF,fF,fF,fF,fF,fF] (by kernel_rfl) rfl rfl ⟨(blk_cell BK341.out 0).trans rfl,(blk_cell BK341.out 1).trans rfl,(blk_cell BK337.out 0).trans rfl,(blk_cell BK337.out 1).trans rfl,(blk_cell BK337.out 2).trans rfl,(blk_cell BK337.out 3).trans rfl⟩ (fun hHeld => ?_);refine with_tabW impl_ValidDrawing.tab6 impl_ValidDrawing.bits6 (fun HT_ HW_ => ?_)
             generalize w36.drew = w37 at BK337 BK341 HB hHeld ⊢
             refine pu 0 39 HT_ ?_
             refine pu 2 41 HT_ ?_
             refine tk 1 40 HT_ HW_ hHeld ?_
             refine tk 3 42 HT_ HW_ hHeld ?_
             refine on 4 43 HT_ (fun K hK => ?_)
             refine goes_ Try.func62 (by kernel_rfl) rfl #[.int .i64 ((rd_T73 l0_2 x34_2).f0),.int .i64 0,.int .i64 a0_0] (by rfl) rfl rfl (by (try simp only [mT,mC,mN]);first | done | rfl | (simp only [lD,lT];rfl)) ?_
             with_reducible refine (impl_within.calls ((rd_T73 l0_2 x34_2).f0) 0 a0_0 true _ A18.out).mono ?_
             rintro e w' ⟨rfl,⟨nd,rfl⟩⟩
             refine ⟨_,rfl,?_⟩
             refine hK.out _ _ ⟨(blk_cell BK341.out 0).trans rfl,(blk_cell BK341.out 1).trans rfl,(blk_cell BK337.out 0).trans rfl,(blk_cell BK337.out 1).trans rfl,(blk_cell BK337.out 2).trans rfl,(blk_cell BK337.out 3).trans rfl⟩ (fun hHeld => ?_)
             clear hK K
             refine norm_ (a':=?_) ?_ ?_
             rotate_left
             ·show Act.put _ (some 43) _ = _
              simp only [Act.put,iT,sZ,sC,i64_w,i32_w]
              rfl
             refine pu 5 44 HT_ ?_
             refine pu 6 45 HT_ ?_
             refine pu 7 46 HT_ ?_
             refine pu 9 48 HT_ ?_
             refine tk 8 47 HT_ HW_ hHeld ?_
             refine tk 10 49 HT_ HW_ hHeld ?_
             refine on 11 50 HT_ (fun K hK => ?_)
             refine goes_ Try.func62 (by kernel_rfl) rfl #[.int .i64 ((rd_T73 l0_2 x34_2).f1),.int .i64 0,.int .i64 a0_1] (by rfl) rfl rfl (by (try simp only [mT,mC,mN]);first | done | rfl | (simp only [lD,lT];rfl)) ?_
             with_reducible refine (impl_within.calls ((rd_T73 l0_2 x34_2).f1) 0 a0_1 true _ A20.out).mono ?_
             rintro e w' ⟨rfl,⟨nd,rfl⟩⟩
             refine ⟨_,rfl,?_⟩
             have q38 : (x34_2 : Int) ≤ ((l0_2.length : Int) : Int):=da
             obtain ⟨i038,hi038,_,hsz38,_⟩:=info_parts info73
             have hroom38 : l0_2.length ≤ c0_2:=HC0_2.out
             have hC38 : Kd.C k73 _ (some ad340) l0_2.length l0_2:=HR0_2.out
             have hcut38:=cut_to (P:=Try.prog) 25 73 .i64 Try.underlying25 hi038 (some ad340) l0_2.length c0_2 x34_2 (da) q38 hroom38
             have hr38:=Kd.C_take (m:=(x34_2 : Int).toNat) hC38 (by omega)
             have hy38 : y344.length = (x34_2 : Int).toNat:=(by rw [Ny344.out,lT];omega)
             rw [← Ny344.out] at hr38
             rw [← hy38] at hcut38
             have HR347:=Aside0.mk hr38
             have HC347:=Aside0.mk (show y344.length ≤ c0_2 from by omega)
             clear hr38 hC38 hroom38 hi038 hsz38
             have KY38:=Aside0.mk hy38
             clear hy38
             replace q38:=eq_true q38
             refine hK.out _ _ ⟨(blk_cell BK341.out 0).trans rfl,(blk_cell BK341.out 1).trans rfl,(blk_cell BK337.out 0).trans rfl,(blk_cell BK337.out 1).trans rfl,(blk_cell BK337.out 2).trans rfl,(blk_cell BK337.out 3).trans rfl⟩ (fun hHeld => ?_)
             clear hK K
             refine norm_ (a':=?_) ?_ ?_
             rotate_left
             ·show Act.put _ (some 50) _ = _
              simp only [Act.put,iT,sZ,sC,i64_w,i32_w]
              rfl
             refine pu 12 51 HT_ ?_
             refine pu 13 52 HT_ ?_
             refine pu 14 53 HT_ ?_
             refine pu 15 54 HT_ ?_
             refine pu 17 56 HT_ ?_
             refine tk 16 55 HT_ HW_ hHeld ?_
             refine pu 18 57 HT_ ?_
             refine tk 19 58 HT_ HW_ hHeld ?_
             refine on 20 59 HT_ (fun K hK => ?_)
             refine goes_ Try.func123 (by kernel_rfl) rfl #[.slice (some ad340) y344.length c0_2,.agg #[.int .i64 ((rd_T73 l0_2 x34_2).f0),.int .i64 ((rd_T73 l0_2 x34_2).f1)]] (by rfl) rfl rfl (by (try simp only [mT,mC,mN]);first | done | rfl | (simp only [lD,lT];rfl)) ?_
             with_reducible refine (impl_Point_123.calls k2 _ _ y344 ((rd_T73 l0_2 x34_2).f0) ((rd_T73 l0_2 x34_2).f1) false _ ?side1 ?side2 A24.out).mono ?_
             (case side1 => exact cO ((Kd.C_below HR347.out ib)))
             (case side2 => exact HC347.out)
             rintro e w39 ⟨rfl,hb⟩
             refine ⟨_,rfl,?_⟩
             replace BK337:=kb BK337 hb
             replace BK341:=kb BK341 hb
             replace HB:=sb hb
             (try clear hb)
             (try clear hb2)
             (try clear hk)
             (try clear hi)
             refine hK.out _ _ ⟨(blk_cell BK341.out 0).trans rfl,(blk_cell BK341.out 1).trans rfl,(blk_cell BK337.out 0).trans rfl,(blk_cell BK337.out 1).trans rfl,(blk_cell BK337.out 2).trans rfl,(blk_cell BK337.out 3).trans rfl⟩ (fun hHeld => ?_)
             clear hK K
             refine norm_ (a':=?_) ?_ ?_
             rotate_left
             ·show Act.put _ (some 59) _ = _
              simp only [Act.put,iT,sZ,sC,i64_w,i32_w]
              rfl
             refine pu 21 60 HT_ ?_
             refine done_ (done_of HT_.out (by kernel_rfl)) ?_
             try go_wp2
             go_roundg k2
             case measure => have:=HJ1.out;have:=HK2.out;omega
             case rel => exact ⟨(wrap64 (x34_2 + 1)),(by first | rfl | (simp;done) | (simp [*];done)),H',⟨by have:=HJ1.out;have:=HK2.out;omega⟩,⟨by exact bk BK337⟩,⟨ib⟩⟩
           ·rw [if_neg c23] at H
            exact absurd H (by simp)
          ·replace c21:=Bool.eq_false_iff.mpr c21
           subst c21
           have H1 : (some false) = some r:=by rw [if_neg (show ¬ (false = true) by decide)] at H;exact H
           clear H
           have H:=H1
           clear H1
           obtain rfl:=Option.some.inj H
           have p340 : 0 ≤ (x34_2 : Int):=da
           have q340 : x34_2 < (l0_2.length : Int):=da
           obtain ⟨ad340,e340,hx340_0,hx340_1⟩:=at_T73 HR0_2.out x34_2 p340 q340
           cases e340
           replace hx340_0:=cq HB.out hx340_0
           replace hx340_1:=cq HB.out hx340_1
           replace p340:=eq_true p340
           replace q340:=eq_true q340
           try go_wp2_with (first | ((with_reducible refine gate_dst (N:=4) rfl ?_);(try (refine gate_guard (by rfl) ?_;dsimp only));refine bx (cs:=#[.int .i64 0,.int .i64 0]) (t:=73) ?_;intro gb341 hg w40 hbox hb;have BK341:=Aside0.mk (hbox);have GW341:=zb hg;have GE341:=zb hg;replace HB:=sb hb;have NB337_341:=nl BK337 hg;have NB341_337:=ng BK337 hg;replace BK337:=kb BK337 hb;clear hb hbox hg;have hnb41:=NB341_337.out;have hnc41:=NB337_341.out;have hcz42_0:=ck BK341 0;have hcz42_1:=ck BK341 1;have hfz42_0:=blk_frozen BK341.out 0;have hfz42_1:=blk_frozen BK341.out 1))
           have n0_ : Aside0 (((w40.setCell ⟨gb341,0,none⟩ (.int .i64 ((rd_T73 l0_2 x34_2).f0))).setCell ⟨gb341,1,none⟩ (.int .i64 ((rd_T73 l0_2 x34_2).f1))).heap[gb337]? = some (.cells #[.int .i64 a0_0,.int .i64 a0_1,.slice (some ad340) l0_2.length c0_2,.slice A0_3 l0_3.length c0_3] 51 (0,0))):=⟨by refine bF NB337_341.out ?_;refine bF NB337_341.out ?_;exact bk BK337⟩
           have n1_ : Aside0 (((w40.setCell ⟨gb341,0,none⟩ (.int .i64 ((rd_T73 l0_2 x34_2).f0))).setCell ⟨gb341,1,none⟩ (.int .i64 ((rd_T73 l0_2 x34_2).f1))).heap[gb341]? = some (.cells #[.int .i64 ((rd_T73 l0_2 x34_2).f0),.int .i64 ((rd_T73 l0_2 x34_2).f1)] 73 (0,0))):=⟨by refine bP (cs:=#[.int .i64 ((rd_T73 l0_2 x34_2).f0),.int .i64 0]) 1 ?_;refine bP (cs:=#[.int .i64 0,.int .i64 0]) 0 ?_;exact bk BK341⟩
           have n2_ : Aside0 (Below w.heap.size w ((w40.setCell ⟨gb341,0,none⟩ (.int .i64 ((rd_T73 l0_2 x34_2).f0))).setCell ⟨gb341,1,none⟩ (.int .i64 ((rd_T73 l0_2 x34_2).f1)))):=⟨ib⟩
           (try clear BK337)
           (try clear BK341)
           (try clear HB)
           generalize ((w40.setCell ⟨gb341,0,none⟩ (.int .i64 ((rd_T73 l0_2 x34_2).f0))).setCell ⟨gb341,1,none⟩ (.int .i64 ((rd_T73 l0_2 x34_2).f1))) = w43 at n0_ n1_ n2_ ⊢
           have BK337:=n0_
           have BK341:=n1_
           have HB:=n2_
           clear n0_ n1_ n2_
           replace BK337:=Aside0.mk (blk_drew BK337.out)
           replace BK341:=Aside0.mk (blk_drew BK341.out)
           replace HB:=Aside0.mk (below_drew1 HB.out)
           refine start_ (n:=22) (S:=fun w' => w'.cell? ⟨gb341,0,none⟩ = some (.int .i64 ((rd_T73 l0_2 x34_2).f0)) ∧ w'.cell? ⟨gb341,1,none⟩ = some (.int .i64 ((rd_T73 l0_2 x34_2).f1)) ∧ w'.cell? ⟨gb337,0,none⟩ = some (.int .i64 a0_0) ∧ w'.cell? ⟨gb337,1,none⟩ = some (.int .i64 a0_1) ∧ w'.cell? ⟨gb337,2,none⟩ = some (.slice (some ad340) l0_2.length c0_2) ∧ w'.cell? ⟨gb337,3,none⟩ = some (.slice A0_3 l0_3.length c0_3)) (ds:=[]) #[fF,fF,fF,fF,fF,fF,fF,fF,fF,fF,fF,fF,fF,fF,fF,fF,fF,fF,fF,fF,fF,fF] (by kernel_rfl) rfl rfl ⟨(blk_cell BK341.out 0).trans rfl,(blk_cell BK341.out 1).trans rfl,(blk_cell BK337.out 0).trans rfl,(blk_cell BK337.out 1).trans rfl,(blk_cell BK337.out 2).trans rfl,(blk_cell BK337.out 3).trans rfl⟩ (fun hHeld => ?_);refine with_tabW impl_ValidDrawing.tab6 impl_ValidDrawing.bits6 (fun HT_ HW_ => ?_)
           generalize w43.drew = w44 at BK337 BK341 HB hHeld ⊢
           refine pu 0 39 HT_ ?_
           refine pu 2 41 HT_ ?_
           refine tk 1 40 HT_ HW_ hHeld ?_
           refine tk 3 42 HT_ HW_ hHeld ?_
           refine on 4 43 HT_ (fun K hK => ?_)
           refine goes_ Try.func62 (by kernel_rfl) rfl #[.int .i64 ((rd_T73 l0_2 x34_2).f0),.int .i64 0,.int .i64 a0_0] (by rfl) rfl rfl (by (try simp only [mT,mC,mN]);first | done | rfl | (simp only [lD,lT];rfl)) ?_
           with_reducible refine (impl_within.calls ((rd_T73 l0_2 x34_2).f0) 0 a0_0 true _ A18.out).mono ?_
           rintro e w' ⟨rfl,⟨nd,rfl⟩⟩
           refine ⟨_,rfl,?_⟩
           refine hK.out _ _ ⟨(blk_cell BK341.out 0).trans rfl,(blk_cell BK341.out 1).trans rfl,(blk_cell BK337.out 0).trans rfl,(blk_cell BK337.out 1).trans rfl,(blk_cell BK337.out 2).trans rfl,(blk_cell BK337.out 3).trans rfl⟩ (fun hHeld => ?_)
           clear hK K
           refine norm_ (a':=?_) ?_ ?_
           rotate_left
           ·show Act.put _ (some 43) _ = _
            simp only [Act.put,iT,sZ,sC,i64_w,i32_w]
            rfl
           refine pu 5 44 HT_ ?_
           refine pu 6 45 HT_ ?_
           refine pu 7 46 HT_ ?_
           refine pu 9 48 HT_ ?_
           refine tk 8 47 HT_ HW_ hHeld ?_
           refine tk 10 49 HT_ HW_ hHeld ?_
           refine on 11 50 HT_ (fun K hK => ?_)
           refine goes_ Try.func62 (by kernel_rfl) rfl #[.int .i64 ((rd_T73 l0_2 x34_2).f1),.int .i64 0,.int .i64 a0_1] (by rfl) rfl rfl (by (try simp only [mT,mC,mN]);first | done | rfl | (simp only [lD,lT];rfl)) ?_
           with_reducible refine (impl_within.calls ((rd_T73 l0_2 x34_2).f1) 0 a0_1 false _ A20.out).mono ?_
           rintro e w' ⟨rfl,⟨nd,rfl⟩⟩
           refine ⟨_,rfl,?_⟩
           refine hK.out _ _ ⟨(blk_cell BK341.out 0).trans rfl,(blk_cell BK341.out 1).trans rfl,(blk_cell BK337.out 0).trans rfl,(blk_cell BK337.out 1).trans rfl,(blk_cell BK337.out 2).trans rfl,(blk_cell BK337.out 3).trans rfl⟩ (fun hHeld => ?_)
           clear hK K
           refine norm_ (a':=?_) ?_ ?_
           rotate_left
           ·show Act.put _ (some 50) _ = _
            simp only [Act.put,iT,sZ,sC,i64_w,i32_w]
            rfl
           refine pu 12 51 HT_ ?_
           refine pu 13 52 HT_ ?_
           refine pu 14 53 HT_ ?_
           refine pd 15 54 HT_ ?_
           refine pd 16 55 HT_ ?_
           refine pd 17 56 HT_ ?_
           refine pd 18 57 HT_ ?_
           refine pd 19 58 HT_ ?_
           refine pd 20 59 HT_ ?_
           refine pu 21 60 HT_ ?_
           refine done_ (done_of HT_.out (by kernel_rfl)) ?_
           try go_wp2
           go_ret
           exact ⟨by first | rfl | (simp [errW_none,errW_some] <;> rfl) | (simp [*,errW_none,errW_some] <;> rfl),ib⟩
         ·replace c19:=Bool.eq_false_iff.mpr c19
          subst c19
          have H1 : (some false) = some r:=by rw [if_neg (show ¬ (false = true) by decide)] at H;exact H
          clear H
          have H:=H1
          clear H1
          obtain rfl:=Option.some.inj H
          have p340 : 0 ≤ (x34_2 : Int):=da
          have q340 : x34_2 < (l0_2.length : Int):=da
          obtain ⟨ad340,e340,hx340_0,hx340_1⟩:=at_T73 HR0_2.out x34_2 p340 q340
          cases e340
          replace hx340_0:=cq HB.out hx340_0
          replace hx340_1:=cq HB.out hx340_1
          replace p340:=eq_true p340
          replace q340:=eq_true q340
          try go_wp2_with (first | ((with_reducible refine gate_dst (N:=4) rfl ?_);(try (refine gate_guard (by rfl) ?_;dsimp only));refine bx (cs:=#[.int .i64 0,.int .i64 0]) (t:=73) ?_;intro gb341 hg w45 hbox hb;have BK341:=Aside0.mk (hbox);have GW341:=zb hg;have GE341:=zb hg;replace HB:=sb hb;have NB337_341:=nl BK337 hg;have NB341_337:=ng BK337 hg;replace BK337:=kb BK337 hb;clear hb hbox hg;have hnb46:=NB341_337.out;have hnc46:=NB337_341.out;have hcz47_0:=ck BK341 0;have hcz47_1:=ck BK341 1;have hfz47_0:=blk_frozen BK341.out 0;have hfz47_1:=blk_frozen BK341.out 1))
          have n0_ : Aside0 (((w45.setCell ⟨gb341,0,none⟩ (.int .i64 ((rd_T73 l0_2 x34_2).f0))).setCell ⟨gb341,1,none⟩ (.int .i64 ((rd_T73 l0_2 x34_2).f1))).heap[gb337]? = some (.cells #[.int .i64 a0_0,.int .i64 a0_1,.slice (some ad340) l0_2.length c0_2,.slice A0_3 l0_3.length c0_3] 51 (0,0))):=⟨by refine bF NB337_341.out ?_;refine bF NB337_341.out ?_;exact bk BK337⟩
          have n1_ : Aside0 (((w45.setCell ⟨gb341,0,none⟩ (.int .i64 ((rd_T73 l0_2 x34_2).f0))).setCell ⟨gb341,1,none⟩ (.int .i64 ((rd_T73 l0_2 x34_2).f1))).heap[gb341]? = some (.cells #[.int .i64 ((rd_T73 l0_2 x34_2).f0),.int .i64 ((rd_T73 l0_2 x34_2).f1)] 73 (0,0))):=⟨by refine bP (cs:=#[.int .i64 ((rd_T73 l0_2 x34_2).f0),.int .i64 0]) 1 ?_;refine bP (cs:=#[.int .i64 0,.int .i64 0]) 0 ?_;exact bk BK341⟩
          have n2_ : Aside0 (Below w.heap.size w ((w45.setCell ⟨gb341,0,none⟩ (.int .i64 ((rd_T73 l0_2 x34_2).f0))).setCell ⟨gb341,1,none⟩ (.int .i64 ((rd_T73 l0_2 x34_2).f1)))):=⟨ib⟩
          (try clear BK337)
          (try clear BK341)
          (try clear HB)
          generalize ((w45.setCell ⟨gb341,0,none⟩ (.int .i64 ((rd_T73 l0_2 x34_2).f0))).setCell ⟨gb341,1,none⟩ (.int .i64 ((rd_T73 l0_2 x34_2).f1))) = w48 at n0_ n1_ n2_ ⊢
          have BK337:=n0_
          have BK341:=n1_
          have HB:=n2_
          clear n0_ n1_ n2_
          replace BK337:=Aside0.mk (blk_drew BK337.out)
          replace BK341:=Aside0.mk (blk_drew BK341.out)
          replace HB:=Aside0.mk (below_drew1 HB.out)
          refine start_ (n:=22) (S:=fun w' => w'.cell? ⟨gb341,0,none⟩ = some (.int .i64 ((rd_T73 l0_2 x34_2).f0)) ∧ w'.cell? ⟨gb341,1,none⟩ = some (.int .i64 ((rd_T73 l0_2 x34_2).f1)) ∧ w'.cell? ⟨gb337,0,none⟩ = some (.int .i64 a0_0) ∧ w'.cell? ⟨gb337,1,none⟩ = some (.int .i64 a0_1) ∧ w'.cell? ⟨gb337,2,none⟩ = some (.slice (some ad340) l0_2.length c0_2) ∧ w'.cell? ⟨gb337,3,none⟩ = some (.slice A0_3 l0_3.length c0_3)) (ds:=[]) #[fF,fF,fF,fF,fF,fF,fF,fF,fF,fF,fF,fF,fF,fF,fF,fF,fF,fF,fF,fF,fF,fF] (by kernel_rfl) rfl rfl ⟨(blk_cell BK341.out 0).trans rfl,(blk_cell BK341.out 1).trans rfl,(blk_cell BK337.out 0).trans rfl,(blk_cell BK337.out 1).trans rfl,(blk_cell BK337.out 2).trans rfl,(blk_cell BK337.out 3).trans rfl⟩ (fun hHeld => ?_);refine with_tabW impl_ValidDrawing.tab6 impl_ValidDrawing.bits6 (fun HT_ HW_ => ?_)
          generalize w48.drew = w49 at BK337 BK341 HB hHeld ⊢
          refine pu 0 39 HT_ ?_
          refine pu 2 41 HT_ ?_
          refine tk 1 40 HT_ HW_ hHeld ?_
          refine tk 3 42 HT_ HW_ hHeld ?_
          refine on 4 43 HT_ (fun K hK => ?_)
          refine goes_ Try.func62 (by kernel_rfl) rfl #[.int .i64 ((rd_T73 l0_2 x34_2).f0),.int .i64 0,.int .i64 a0_0] (by rfl) rfl rfl (by (try simp only [mT,mC,mN]);first | done | rfl | (simp only [lD,lT];rfl)) ?_
          with_reducible refine (impl_within.calls ((rd_T73 l0_2 x34_2).f0) 0 a0_0 false _ A18.out).mono ?_
          rintro e w' ⟨rfl,⟨nd,rfl⟩⟩
          refine ⟨_,rfl,?_⟩
          refine hK.out _ _ ⟨(blk_cell BK341.out 0).trans rfl,(blk_cell BK341.out 1).trans rfl,(blk_cell BK337.out 0).trans rfl,(blk_cell BK337.out 1).trans rfl,(blk_cell BK337.out 2).trans rfl,(blk_cell BK337.out 3).trans rfl⟩ (fun hHeld => ?_)
          clear hK K
          refine norm_ (a':=?_) ?_ ?_
          rotate_left
          ·show Act.put _ (some 43) _ = _
           simp only [Act.put,iT,sZ,sC,i64_w,i32_w]
           rfl
          refine pu 5 44 HT_ ?_
          refine pu 6 45 HT_ ?_
          refine pd 7 46 HT_ ?_
          refine pd 8 47 HT_ ?_
          refine pd 9 48 HT_ ?_
          refine pd 10 49 HT_ ?_
          refine pd 11 50 HT_ ?_
          refine pd 12 51 HT_ ?_
          refine pu 13 52 HT_ ?_
          refine pu 14 53 HT_ ?_
          refine pd 15 54 HT_ ?_
          refine pd 16 55 HT_ ?_
          refine pd 17 56 HT_ ?_
          refine pd 18 57 HT_ ?_
          refine pd 19 58 HT_ ?_
          refine pd 20 59 HT_ ?_
          refine pu 21 60 HT_ ?_
          refine done_ (done_of HT_.out (by kernel_rfl)) ?_
          try go_wp2
          go_ret
          exact ⟨by first | rfl | (simp [errW_none,errW_some] <;> rfl) | (simp [*,errW_none,errW_some] <;> rfl),ib⟩
        ·first | (exfalso;have z_:=of_decide_eq_true c15b0;omega) | (rw [if_neg c17] at H;exact absurd H (by simp))
       ·rw [if_neg c16] at H
        exact absurd H (by simp)
      ·rw [if_neg c15] at H
       have c15b0 : decide (x34_2 < (l0_2.length : Int)) = false:=decide_eq_false c15
       clear c15
       have H':=Aside0.mk H
       clear H
       have hcz50_0 : wr.cell? ⟨gb337,0,none⟩ = some (.int .i64 a0_0):=(blk_cell BK337.out 0).trans rfl
       have hcz50_1 : wr.cell? ⟨gb337,1,none⟩ = some (.int .i64 a0_1):=(blk_cell BK337.out 1).trans rfl
       have hcz50_2 : wr.cell? ⟨gb337,2,none⟩ = some (.slice A0_2 l0_2.length c0_2):=(blk_cell BK337.out 2).trans rfl
       have hcz50_3 : wr.cell? ⟨gb337,3,none⟩ = some (.slice A0_3 l0_3.length c0_3):=(blk_cell BK337.out 3).trans rfl
       have hfz50_0:=blk_frozen BK337.out 0
       have hfz50_1:=blk_frozen BK337.out 1
       have hfz50_2:=blk_frozen BK337.out 2
       have hfz50_3:=blk_frozen BK337.out 3
       go_wp2
       go_loopg [65] k2 (fun kq v65 w' => ∃ (x65_3 : Int),v65 = .int .i64 x65_3 ∧ Aside0 (impl_ValidDrawing.l1 kq l0_3 (l0_3.length : Int) x65_3 a0_0 a0_1 l0_2 l0_3 = some r) ∧ Aside0 (kq ≤ k2) ∧ Aside0 (w'.heap[gb337]? = some (.cells #[.int .i64 a0_0,.int .i64 a0_1,(.slice A0_2 l0_2.length c0_2),(.slice A0_3 l0_3.length c0_3)] 51 (0,0))) ∧ Aside0 (Below w.heap.size w w'))
       case atStart => exact ⟨(0),(by first | rfl | (simp;done) | (simp [*];done)),H',⟨Nat.le_refl _⟩,⟨by exact bk BK337⟩,⟨ib⟩⟩
       case round =>
        clear H'
        try clear c1
        try clear c2
        try clear p2
        try clear p3
        try clear q3
        try clear hx3
        try clear c4
        try clear c6
        try clear p6
        try clear c12
        try clear c15
        try clear c15b0
        try clear c16
        try clear c17
        try clear c19
        try clear c21
        try clear c23
        try clear p34
        try clear q34
        try clear hx34
        try clear q38
        try clear c41
        try clear c46
        try clear hcz42_0
        try clear hcz42_1
        try clear hcz47_0
        try clear hcz47_1
        try clear hcz50_0
        try clear hcz50_1
        try clear hcz50_2
        try clear hcz50_3
        try clear hfz42_0
        try clear hfz42_1
        try clear hfz47_0
        try clear hfz47_1
        try clear hfz50_0
        try clear hfz50_1
        try clear hfz50_2
        try clear hfz50_3
        try clear hx340_0
        try clear hx340_1
        try clear p340
        try clear q340
        try clear q38
        obtain ⟨x65_3,rfl,HA,HK3,BK337,HB⟩:=hrel
        cases gk with
        | zero => exact absurd HA.out (by simp [impl_ValidDrawing.l1])
        | succ k3 =>
         have H:=HA.out
         clear HA
         simp only [impl_ValidDrawing.l1] at H
         by_cases c51 : x65_3 < (l0_3.length : Int)
         ·rw [if_pos c51] at H
          have c51b0 : decide (x65_3 < (l0_3.length : Int)) = true:=decide_eq_true c51
          clear c51
          by_cases c52 : 0 ≤ x65_3
          ·rw [if_pos c52] at H
           have c52b0 : decide (0 ≤ x65_3) = true:=decide_eq_true c52
           clear c52
           by_cases c53 : x65_3 < (l0_3.length : Int)
           ·rw [if_pos c53] at H
            have c53b0 : decide (x65_3 < (l0_3.length : Int)) = true:=decide_eq_true c53
            clear c53
            have HC54:=Aside0.mk H
            clear H
            have p349 : 0 ≤ (x65_3 : Int):=da
            have q349 : x65_3 < (l0_3.length : Int):=da
            obtain ⟨ad349,A349_1,c349_1,e349,hx349_0,hx349_1,hl349_1,hi349_1⟩:=at_T103 HR0_3.out x65_3 p349 q349
            cases e349
            replace hx349_0:=cq HB.out hx349_0
            replace hx349_1:=cq HB.out hx349_1
            have HR349_1:=Aside0.mk hi349_1
            have HC349_1:=Aside0.mk hl349_1
            clear hi349_1 hl349_1
            replace p349:=eq_true p349
            replace q349:=eq_true q349
            go_upto_region 12 with (first | ((with_reducible refine gate_dst (N:=6) rfl ?_);(try (refine gate_guard (by rfl) ?_;dsimp only));refine bx (cs:=#[.string (⟨#[]⟩ : ByteArray),.slice none 0 0]) (t:=103) ?_;intro gb350 hg w55 hbox hb;have BK350:=Aside0.mk (hbox);have GW350:=zb hg;have GE350:=zb hg;replace HB:=sb hb;have NB337_350:=nl BK337 hg;have NB350_337:=ng BK337 hg;replace BK337:=kb BK337 hb;clear hb hbox hg;have hnb56:=NB350_337.out;have hnc56:=NB337_350.out;have hcz57_0:=ck BK350 0;have hcz57_1:=ck BK350 1;have hfz57_0:=blk_frozen BK350.out 0;have hfz57_1:=blk_frozen BK350.out 1))
            (try simp only [Act.put,iT,sZ,sC])
            go_cut [89] (fun v89 wc => ∃ (kq : Nat) (x89_53 : Bool),v89 = .bool x89_53 ∧ Aside0 (impl_ValidDrawing.j3 kq l0_3 (l0_3.length : Int) x65_3 x89_53 a0_0 a0_1 l0_2 l0_3 ((rd_T103 l0_3 x65_3).f0) ((rd_T103 l0_3 x65_3).f1) = some r) ∧ Aside0 (kq ≤ k3) ∧ Aside0 (wc.heap[gb337]? = some (.cells #[.int .i64 a0_0,.int .i64 a0_1,(.slice A0_2 l0_2.length c0_2),(.slice (some ad349) l0_3.length c0_3)] 51 (0,0))) ∧ Aside0 (wc.heap[gb350]? = some (.cells #[.string ((rd_T103 l0_3 x65_3).f0),(.slice A349_1 ((rd_T103 l0_3 x65_3).f1).length c349_1)] 103 (0,0))) ∧ Aside0 (Below w.heap.size w wc))
            case first =>
             have H:=HC54.out
             clear HC54
             replace H:=bE.mp H
             obtain ⟨t351,A580,H⟩:=H
             replace H : (if t351 = true then (if x65_3 > 0 then (if 0 ≤ (wrap64 (x65_3 - 1)) then (if (wrap64 (x65_3 - 1)) < (l0_3.length : Int) then (impl_ValidDrawing.j3 k3 l0_3 (l0_3.length : Int) x65_3 (!(Op.bytesLess (((rd_T103 l0_3 (wrap64 (x65_3 - 1))).f0).toList) (((rd_T103 l0_3 x65_3).f0).toList))) a0_0 a0_1 l0_2 l0_3 ((rd_T103 l0_3 x65_3).f0) ((rd_T103 l0_3 x65_3).f1)) else (none)) else (none)) else (impl_ValidDrawing.j3 k3 l0_3 (l0_3.length : Int) x65_3 false a0_0 a0_1 l0_2 l0_3 ((rd_T103 l0_3 x65_3).f0) ((rd_T103 l0_3 x65_3).f1))) else (impl_ValidDrawing.j3 k3 l0_3 (l0_3.length : Int) x65_3 true a0_0 a0_1 l0_2 l0_3 ((rd_T103 l0_3 x65_3).f0) ((rd_T103 l0_3 x65_3).f1))) = some r:=H
             have A58:=Aside0.mk A580
             clear A580
             by_cases c59 : t351 = true
             ·subst c59
              have H1 : (if x65_3 > 0 then (if 0 ≤ (wrap64 (x65_3 - 1)) then (if (wrap64 (x65_3 - 1)) < (l0_3.length : Int) then (impl_ValidDrawing.j3 k3 l0_3 (l0_3.length : Int) x65_3 (!(Op.bytesLess (((rd_T103 l0_3 (wrap64 (x65_3 - 1))).f0).toList) (((rd_T103 l0_3 x65_3).f0).toList))) a0_0 a0_1 l0_2 l0_3 ((rd_T103 l0_3 x65_3).f0) ((rd_T103 l0_3 x65_3).f1)) else (none)) else (none)) else (impl_ValidDrawing.j3 k3 l0_3 (l0_3.length : Int) x65_3 false a0_0 a0_1 l0_2 l0_3 ((rd_T103 l0_3 x65_3).f0) ((rd_T103 l0_3 x65_3).f1))) = some r:=by rw [if_pos rfl] at H;exact H
              clear H
              have H:=H1
              clear H1
              by_cases c60 : x65_3 > 0
              ·rw [if_pos c60] at H
               have c60b0 : decide (0 < x65_3) = true:=decide_eq_true c60
               clear c60
               (first | rw [c60b0] | (simp only [i64_w,i32_w];rw [c60b0]) | skip)
               obtain ⟨ji61,hji61⟩ : ∃ j_ : Int,(wrap64 (x65_3 - 1)) = j_:=⟨_,rfl⟩
               replace H : (if 0 ≤ (ji61) then (if (ji61) < (l0_3.length : Int) then (impl_ValidDrawing.j3 k3 l0_3 (l0_3.length : Int) x65_3 (!(Op.bytesLess (((rd_T103 l0_3 (ji61)).f0).toList) (((rd_T103 l0_3 x65_3).f0).toList))) a0_0 a0_1 l0_2 l0_3 ((rd_T103 l0_3 x65_3).f0) ((rd_T103 l0_3 x65_3).f1)) else (none)) else (none)) = some r:=by first | (rw [hji61] at H;exact H) | (simp only [hji61] at H ⊢;exact H)
               (try rw [hji61] at A58)
               have hji61w : (IntKind.i64.wrap (x65_3 - 1)) = ji61:=(i64_w _).trans hji61
               by_cases c62 : 0 ≤ (ji61)
               ·rw [if_pos c62] at H
                have c62b0 : decide (0 ≤ (ji61)) = true:=decide_eq_true c62
                clear c62
                by_cases c63 : (ji61) < (l0_3.length : Int)
                ·rw [if_pos c63] at H
                 have c63b0 : decide ((ji61) < (l0_3.length : Int)) = true:=decide_eq_true c63
                 clear c63
                 have H':=Aside0.mk H
                 clear H
                 try go_wp2
                 have n0_ : Aside0 (((w55.setCell ⟨gb350,0,none⟩ (.string ((rd_T103 l0_3 x65_3).f0))).setCell ⟨gb350,1,none⟩ (.slice A349_1 ((rd_T103 l0_3 x65_3).f1).length c349_1)).heap[gb337]? = some (.cells #[.int .i64 a0_0,.int .i64 a0_1,.slice A0_2 l0_2.length c0_2,.slice (some ad349) l0_3.length c0_3] 51 (0,0))):=⟨by refine bF NB337_350.out ?_;refine bF NB337_350.out ?_;exact bk BK337⟩
                 have n1_ : Aside0 (((w55.setCell ⟨gb350,0,none⟩ (.string ((rd_T103 l0_3 x65_3).f0))).setCell ⟨gb350,1,none⟩ (.slice A349_1 ((rd_T103 l0_3 x65_3).f1).length c349_1)).heap[gb350]? = some (.cells #[.string ((rd_T103 l0_3 x65_3).f0),.slice A349_1 ((rd_T103 l0_3 x65_3).f1).length c349_1] 103 (0,0))):=⟨by refine bP (cs:=#[.string ((rd_T103 l0_3 x65_3).f0),.slice none 0 0]) 1 ?_;refine bP (cs:=#[.string (⟨#[]⟩ : ByteArray),.slice none 0 0]) 0 ?_;exact bk BK350⟩
                 have n2_ : Aside0 (Below w.heap.size w ((w55.setCell ⟨gb350,0,none⟩ (.string ((rd_T103 l0_3 x65_3).f0))).setCell ⟨gb350,1,none⟩ (.slice A349_1 ((rd_T103 l0_3 x65_3).f1).length c349_1))):=⟨ib⟩
                 (try clear BK337)
                 (try clear BK350)
                 (try clear HB)
                 generalize ((w55.setCell ⟨gb350,0,none⟩ (.string ((rd_T103 l0_3 x65_3).f0))).setCell ⟨gb350,1,none⟩ (.slice A349_1 ((rd_T103 l0_3 x65_3).f1).length c349_1)) = w64 at n0_ n1_ n2_ ⊢
                 have BK337:=n0_
                 have BK350:=n1_
                 have HB:=n2_
                 clear n0_ n1_ n2_
                 replace BK337:=Aside0.mk (blk_drew BK337.out)
                 replace BK350:=Aside0.mk (blk_drew BK350.out)
                 replace HB:=Aside0.mk (below_drew1 HB.out)
                 have p352 : 0 ≤ ((ji61) : Int):=da
                 have q352 : (ji61) < (l0_3.length : Int):=da
                 obtain ⟨ad352,A352_1,c352_1,e352,hx352_0,hx352_1,hl352_1,hi352_1⟩:=at_T103 HR0_3.out (ji61) p352 q352
                 have hw352_1:=hx352_1
                 have hw352_0:=hx352_0
                 obtain rfl : ad349 = ad352:=(by injection e352)
                 replace hx352_0:=cq HB.out hx352_0
                 replace hx352_1:=cq HB.out hx352_1
                 have HR352_1:=Aside0.mk hi352_1
                 have HC352_1:=Aside0.mk hl352_1
                 clear hi352_1 hl352_1
                 replace p352:=eq_true p352
                 replace q352:=eq_true q352
                 refine start_ (n:=20) (S:=fun w' => w'.cell? ⟨gb350,0,none⟩ = some (.string ((rd_T103 l0_3 x65_3).f0)) ∧ w'.cell? ⟨gb350,1,none⟩ = some (.slice A349_1 ((rd_T103 l0_3 x65_3).f1).length c349_1) ∧ w'.cell? ⟨gb337,0,none⟩ = some (.int .i64 a0_0) ∧ w'.cell? ⟨gb337,1,none⟩ = some (.int .i64 a0_1) ∧ w'.cell? ⟨gb337,2,none⟩ = some (.slice A0_2 l0_2.length c0_2) ∧ w'.cell? ⟨gb337,3,none⟩ = some (.slice (some ad349) l0_3.length c0_3) ∧ w'.cell? (ad349.add (((ji61)).toNat * 2)) = some (.string ((rd_T103 l0_3 (ji61)).f0)) ∧ w'.cell? ⟨(ad349.add (((ji61)).toNat * 2)).block,(ad349.add (((ji61)).toNat * 2)).off + 1,none⟩ = some (.slice A352_1 ((rd_T103 l0_3 (ji61)).f1).length c352_1)) (ds:=[]) #[fF,fF,fF,fF,fF,fF,fF,fF,fF,fF,fF,fF,fF,fF,fF,fF,fF,fF,fF,fF] (by kernel_rfl) rfl rfl ⟨(blk_cell BK350.out 0).trans rfl,(blk_cell BK350.out 1).trans rfl,(blk_cell BK337.out 0).trans rfl,(blk_cell BK337.out 1).trans rfl,(blk_cell BK337.out 2).trans rfl,(blk_cell BK337.out 3).trans rfl,cq HB.out hw352_0,cq HB.out hw352_1⟩ (fun hHeld => ?_);refine with_tabW impl_ValidDrawing.tab12 impl_ValidDrawing.bits12 (fun HT_ HW_ => ?_)
                 generalize w64.drew = w65 at BK337 BK350 HB HR352_1 hx352_0 hx352_1 hHeld ⊢
                 refine pu 0 70 HT_ ?_
                 refine tk 1 71 HT_ HW_ hHeld ?_
                 refine on 2 72 HT_ (fun K hK => ?_)
                 refine goes_ Try.func124 (by kernel_rfl) rfl #[.string ((rd_T103 l0_3 x65_3).f0)] (by rfl) rfl rfl (by (try simp only [mT,mC,mN]);first | done | rfl | (simp only [lD,lT];rfl)) ?_
                 with_reducible refine (impl_IsName.calls k3 ((rd_T103 l0_3 x65_3).f0) true _ A58.out).mono ?_
                 rintro e w' ⟨rfl,⟨nd,rfl⟩⟩
                 refine ⟨_,rfl,?_⟩
                 refine hK.out _ _ ⟨(blk_cell BK350.out 0).trans rfl,(blk_cell BK350.out 1).trans rfl,(blk_cell BK337.out 0).trans rfl,(blk_cell BK337.out 1).trans rfl,(blk_cell BK337.out 2).trans rfl,(blk_cell BK337.out 3).trans rfl,cq HB.out hw352_0,cq HB.out hw352_1⟩ (fun hHeld => ?_)
                 clear hK K
                 refine norm_ (a':=?_) ?_ ?_
                 rotate_left
                 ·show Act.put _ (some 72) _ = _
                  simp only [Act.put,iT,sZ,sC,i64_w,i32_w]
                  rfl
                 refine pu 3 73 HT_ ?_
                 refine pu 4 74 HT_ ?_
                 refine pu 5 75 HT_ ?_
                 refine pu 6 76 HT_ ?_
                 refine pu 7 77 HT_ ?_
                 refine pu 8 78 HT_ ?_
                 refine pu 10 80 HT_ ?_
                 refine pu 11 81 HT_ ?_
                 refine pu 15 85 HT_ ?_
                 refine tk 9 79 HT_ HW_ hHeld ?_
                 refine pu 12 82 HT_ ?_
                 refine pu 13 83 HT_ ?_
                 refine tk 14 84 HT_ HW_ hHeld ?_
                 refine tk 16 86 HT_ HW_ hHeld ?_
                 refine pu 17 87 HT_ ?_
                 refine pu 18 88 HT_ ?_
                 refine pu 19 89 HT_ ?_
                 refine done_ (done_of HT_.out (by kernel_rfl)) ?_
                 try go_wp2
                 go_meet
                 case rel => exact ⟨_,(!(Op.bytesLess (((rd_T103 l0_3 (ji61)).f0).toList) (((rd_T103 l0_3 x65_3).f0).toList))),(by first | rfl | (simp;done) | (simp only [← hji61] <;> (first | rfl | simp)) | (simp [*];done)),H',⟨by have:=HJ1.out;have:=HK2.out;have:=HK3.out;first | omega | exact Nat.le_refl _⟩,⟨by exact bk BK337⟩,⟨by exact bk BK350⟩,⟨ib⟩⟩
                ·rw [if_neg c63] at H
                 exact absurd H (by simp)
               ·rw [if_neg c62] at H
                exact absurd H (by simp)
              ·rw [if_neg c60] at H
               have c60b0 : decide (0 < x65_3) = false:=decide_eq_false c60
               clear c60
               (first | rw [c60b0] | (simp only [i64_w,i32_w];rw [c60b0]) | skip)
               have H':=Aside0.mk H
               clear H
               try go_wp2
               have n0_ : Aside0 (((w55.setCell ⟨gb350,0,none⟩ (.string ((rd_T103 l0_3 x65_3).f0))).setCell ⟨gb350,1,none⟩ (.slice A349_1 ((rd_T103 l0_3 x65_3).f1).length c349_1)).heap[gb337]? = some (.cells #[.int .i64 a0_0,.int .i64 a0_1,.slice A0_2 l0_2.length c0_2,.slice (some ad349) l0_3.length c0_3] 51 (0,0))):=⟨by refine bF NB337_350.out ?_;refine bF NB337_350.out ?_;exact bk BK337⟩
               have n1_ : Aside0 (((w55.setCell ⟨gb350,0,none⟩ (.string ((rd_T103 l0_3 x65_3).f0))).setCell ⟨gb350,1,none⟩ (.slice A349_1 ((rd_T103 l0_3 x65_3).f1).length c349_1)).heap[gb350]? = some (.cells #[.string ((rd_T103 l0_3 x65_3).f0),.slice A349_1 ((rd_T103 l0_3 x65_3).f1).length c349_1] 103 (0,0))):=⟨by refine bP (cs:=#[.string ((rd_T103 l0_3 x65_3).f0),.slice none 0 0]) 1 ?_;refine bP (cs:=#[.string (⟨#[]⟩ : ByteArray),.slice none 0 0]) 0 ?_;exact bk BK350⟩
               have n2_ : Aside0 (Below w.heap.size w ((w55.setCell ⟨gb350,0,none⟩ (.string ((rd_T103 l0_3 x65_3).f0))).setCell ⟨gb350,1,none⟩ (.slice A349_1 ((rd_T103 l0_3 x65_3).f1).length c349_1))):=⟨ib⟩
               (try clear BK337)
               (try clear BK350)
               (try clear HB)
               generalize ((w55.setCell ⟨gb350,0,none⟩ (.string ((rd_T103 l0_3 x65_3).f0))).setCell ⟨gb350,1,none⟩ (.slice A349_1 ((rd_T103 l0_3 x65_3).f1).length c349_1)) = w66 at n0_ n1_ n2_ ⊢
               have BK337:=n0_
               have BK350:=n1_
               have HB:=n2_
               clear n0_ n1_ n2_
               replace BK337:=Aside0.mk (blk_drew BK337.out)
               replace BK350:=Aside0.mk (blk_drew BK350.out)
               replace HB:=Aside0.mk (below_drew1 HB.out)
               refine start_ (n:=20) (S:=fun w' => w'.cell? ⟨gb350,0,none⟩ = some (.string ((rd_T103 l0_3 x65_3).f0)) ∧ w'.cell? ⟨gb350,1,none⟩ = some (.slice A349_1 ((rd_T103 l0_3 x65_3).f1).length c349_1)) (ds:=[]) #[fF,fF,fF,fF,fF,fF,fF,fF,fF,fF,fF,fF,fF,fF,fF,fF,fF,fF,fF,fF] (by kernel_rfl) rfl rfl ⟨(blk_cell BK350.out 0).trans rfl,(blk_cell BK350.out 1).trans rfl⟩ (fun hHeld => ?_);refine with_tabW impl_ValidDrawing.tab12 impl_ValidDrawing.bits12 (fun HT_ HW_ => ?_)
               generalize w66.drew = w67 at BK337 BK350 HB hHeld ⊢
               refine pu 0 70 HT_ ?_
               refine tk 1 71 HT_ HW_ hHeld ?_
               refine on 2 72 HT_ (fun K hK => ?_)
               refine goes_ Try.func124 (by kernel_rfl) rfl #[.string ((rd_T103 l0_3 x65_3).f0)] (by rfl) rfl rfl (by (try simp only [mT,mC,mN]);first | done | rfl | (simp only [lD,lT];rfl)) ?_
               with_reducible refine (impl_IsName.calls k3 ((rd_T103 l0_3 x65_3).f0) true _ A58.out).mono ?_
               rintro e w' ⟨rfl,⟨nd,rfl⟩⟩
               refine ⟨_,rfl,?_⟩
               refine hK.out _ _ ⟨(blk_cell BK350.out 0).trans rfl,(blk_cell BK350.out 1).trans rfl⟩ (fun hHeld => ?_)
               clear hK K
               refine norm_ (a':=?_) ?_ ?_
               rotate_left
               ·show Act.put _ (some 72) _ = _
                simp only [Act.put,iT,sZ,sC,i64_w,i32_w]
                rfl
               refine pu 3 73 HT_ ?_
               refine pu 4 74 HT_ ?_
               refine pu 5 75 HT_ ?_
               refine pu 6 76 HT_ ?_
               refine pu 7 77 HT_ ?_
               refine pd 8 78 HT_ ?_
               refine pd 9 79 HT_ ?_
               refine pd 10 80 HT_ ?_
               refine pd 11 81 HT_ ?_
               refine pd 12 82 HT_ ?_
               refine pd 13 83 HT_ ?_
               refine pd 14 84 HT_ ?_
               refine pd 15 85 HT_ ?_
               refine pd 16 86 HT_ ?_
               refine pd 17 87 HT_ ?_
               refine pu 18 88 HT_ ?_
               refine pu 19 89 HT_ ?_
               refine done_ (done_of HT_.out (by kernel_rfl)) ?_
               try go_wp2
               go_meet
               case rel => exact ⟨_,(false),(by first | rfl | (simp;done) | (simp [*];done)),H',⟨by have:=HJ1.out;have:=HK2.out;have:=HK3.out;first | omega | exact Nat.le_refl _⟩,⟨by exact bk BK337⟩,⟨by exact bk BK350⟩,⟨ib⟩⟩
             ·replace c59:=Bool.eq_false_iff.mpr c59
              subst c59
              have H1 : (impl_ValidDrawing.j3 k3 l0_3 (l0_3.length : Int) x65_3 true a0_0 a0_1 l0_2 l0_3 ((rd_T103 l0_3 x65_3).f0) ((rd_T103 l0_3 x65_3).f1)) = some r:=by rw [if_neg (show ¬ (false = true) by decide)] at H;exact H
              clear H
              have H:=H1
              clear H1
              have H':=Aside0.mk H
              clear H
              try go_wp2
              have n0_ : Aside0 (((w55.setCell ⟨gb350,0,none⟩ (.string ((rd_T103 l0_3 x65_3).f0))).setCell ⟨gb350,1,none⟩ (.slice A349_1 ((rd_T103 l0_3 x65_3).f1).length c349_1)).heap[gb337]? = some (.cells #[.int .i64 a0_0,.int .i64 a0_1,.slice A0_2 l0_2.length c0_2,.slice (some ad349) l0_3.length c0_3] 51 (0,0))):=⟨by refine bF NB337_350.out ?_;refine bF NB337_350.out ?_;exact bk BK337⟩
              have n1_ : Aside0 (((w55.setCell ⟨gb350,0,none⟩ (.string ((rd_T103 l0_3 x65_3).f0))).setCell ⟨gb350,1,none⟩ (.slice A349_1 ((rd_T103 l0_3 x65_3).f1).length c349_1)).heap[gb350]? = some (.cells #[.string ((rd_T103 l0_3 x65_3).f0),.slice A349_1 ((rd_T103 l0_3 x65_3).f1).length c349_1] 103 (0,0))):=⟨by refine bP (cs:=#[.string ((rd_T103 l0_3 x65_3).f0),.slice none 0 0]) 1 ?_;refine bP (cs:=#[.string (⟨#[]⟩ : ByteArray),.slice none 0 0]) 0 ?_;exact bk BK350⟩
              have n2_ : Aside0 (Below w.heap.size w ((w55.setCell ⟨gb350,0,none⟩ (.string ((rd_T103 l0_3 x65_3).f0))).setCell ⟨gb350,1,none⟩ (.slice A349_1 ((rd_T103 l0_3 x65_3).f1).length c349_1))):=⟨ib⟩
              (try clear BK337)
              (try clear BK350)
              (try clear HB)
              generalize ((w55.setCell ⟨gb350,0,none⟩ (.string ((rd_T103 l0_3 x65_3).f0))).setCell ⟨gb350,1,none⟩ (.slice A349_1 ((rd_T103 l0_3 x65_3).f1).length c349_1)) = w68 at n0_ n1_ n2_ ⊢
              have BK337:=n0_
              have BK350:=n1_
              have HB:=n2_
              clear n0_ n1_ n2_
              replace BK337:=Aside0.mk (blk_drew BK337.out)
              replace BK350:=Aside0.mk (blk_drew BK350.out)
              replace HB:=Aside0.mk (below_drew1 HB.out)
              refine start_ (n:=20) (S:=fun w' => w'.cell? ⟨gb350,0,none⟩ = some (.string ((rd_T103 l0_3 x65_3).f0)) ∧ w'.cell? ⟨gb350,1,none⟩ = some (.slice A349_1 ((rd_T103 l0_3 x65_3).f1).length c349_1)) (ds:=[]) #[fF,fF,fF,fF,fF,fF,fF,fF,fF,fF,fF,fF,fF,fF,fF,fF,fF,fF,fF,fF] (by kernel_rfl) rfl rfl ⟨(blk_cell BK350.out 0).trans rfl,(blk_cell BK350.out 1).trans rfl⟩ (fun hHeld => ?_);refine with_tabW impl_ValidDrawing.tab12 impl_ValidDrawing.bits12 (fun HT_ HW_ => ?_)
              generalize w68.drew = w69 at BK337 BK350 HB hHeld ⊢
              refine pu 0 70 HT_ ?_
              refine tk 1 71 HT_ HW_ hHeld ?_
              refine on 2 72 HT_ (fun K hK => ?_)
              refine goes_ Try.func124 (by kernel_rfl) rfl #[.string ((rd_T103 l0_3 x65_3).f0)] (by rfl) rfl rfl (by (try simp only [mT,mC,mN]);first | done | rfl | (simp only [lD,lT];rfl)) ?_
              with_reducible refine (impl_IsName.calls k3 ((rd_T103 l0_3 x65_3).f0) false _ A58.out).mono ?_
              rintro e w' ⟨rfl,⟨nd,rfl⟩⟩
              refine ⟨_,rfl,?_⟩
              refine hK.out _ _ ⟨(blk_cell BK350.out 0).trans rfl,(blk_cell BK350.out 1).trans rfl⟩ (fun hHeld => ?_)
              clear hK K
              refine norm_ (a':=?_) ?_ ?_
              rotate_left
              ·show Act.put _ (some 72) _ = _
               simp only [Act.put,iT,sZ,sC,i64_w,i32_w]
               rfl
              refine pu 3 73 HT_ ?_
              refine pu 4 74 HT_ ?_
              refine pd 5 75 HT_ ?_
              refine pd 6 76 HT_ ?_
              refine pd 7 77 HT_ ?_
              refine pd 8 78 HT_ ?_
              refine pd 9 79 HT_ ?_
              refine pd 10 80 HT_ ?_
              refine pd 11 81 HT_ ?_
              refine pd 12 82 HT_ ?_
              refine pd 13 83 HT_ ?_
              refine pd 14 84 HT_ ?_
              refine pd 15 85 HT_ ?_
              refine pd 16 86 HT_ ?_
              refine pd 17 87 HT_ ?_
              refine pd 18 88 HT_ ?_
              refine pu 19 89 HT_ ?_
              refine done_ (done_of HT_.out (by kernel_rfl)) ?_
              try go_wp2
              go_meet
              case rel => exact ⟨_,(true),(by first | rfl | (simp;done) | (simp [*];done)),H',⟨by have:=HJ1.out;have:=HK2.out;have:=HK3.out;first | omega | exact Nat.le_refl _⟩,⟨by exact bk BK337⟩,⟨by exact bk BK350⟩,⟨ib⟩⟩
            case rest =>
             clear HC54
             try clear c1
             try clear p2
             try clear c3
             try clear p3
             try clear q3
             try clear hx3
             try clear c5
             try clear c6
             try clear p6
             try clear c12
             try clear c34
             try clear p34
             try clear q34
             try clear hx34
             try clear c35
             try clear p35
             try clear q35
             try clear hx35
             try clear q38
             try clear c51
             try clear c51b0
             try clear c52
             try clear c52b0
             try clear c53
             try clear c53b0
             try clear c56
             try clear c59
             try clear c60
             try clear c60b0
             try clear c62
             try clear c62b0
             try clear c63
             try clear c63b0
             try clear p64
             try clear hcz47_0
             try clear hcz47_1
             try clear hcz50_0
             try clear hcz50_1
             try clear hcz50_2
             try clear hcz50_3
             try clear hcz57_0
             try clear hcz57_1
             try clear hfz42_0
             try clear hfz42_1
             try clear hfz47_0
             try clear hfz47_1
             try clear hfz50_0
             try clear hfz50_1
             try clear hfz50_2
             try clear hfz50_3
             try clear hfz57_0
             try clear hfz57_1
             try clear hx340_0
             try clear hx340_1
             try clear hx349_0
             try clear hx349_1
             try clear hx352_0
             try clear hx352_1
             try clear p340
             try clear p349
             try clear p352
             try clear q340
             try clear q349
             try clear q352
             try clear q38
             obtain ⟨kq,x89_53,rfl,HA,HJ53,BK337,BK350,HB⟩:=hcut
             cases kq with
             | zero => exact absurd HA.out (by simp [impl_ValidDrawing.j3])
             | succ kj53 =>
              have H:=HA.out
              clear HA
              simp only [impl_ValidDrawing.j3] at H
              by_cases c70 : x89_53 = true
              ·subst c70
               have H1 : (some false) = some r:=by rw [if_pos rfl] at H;exact H
               clear H
               have H:=H1
               clear H1
               obtain rfl:=Option.some.inj H
               go_wp2
               go_ret
               exact ⟨by first | rfl | (simp [errW_none,errW_some] <;> rfl) | (simp [*,errW_none,errW_some] <;> rfl),ib⟩
              ·replace c70:=Bool.eq_false_iff.mpr c70
               subst c70
               have H1 : ((impl_ringPolygon.f kj53 l0_2 ((rd_T103 l0_3 x65_3).f1)).bind fun bt353 => (if bt353.2 = true then ((impl_ValidPolygon.f kj53 bt353.1).bind fun t357 => (if t357 = true then (impl_ValidDrawing.l1 kj53 l0_3 (l0_3.length : Int) (wrap64 (x65_3 + 1)) a0_0 a0_1 l0_2 l0_3) else (some false))) else (some false))) = some r:=by rw [if_neg (show ¬ (false = true) by decide)] at H;exact H
               clear H
               have H:=H1
               clear H1
               replace H:=bE.mp H
               obtain ⟨⟨t353,t354⟩,A710,H⟩:=H
               replace H : (if t354 = true then ((impl_ValidPolygon.f kj53 t353).bind fun t357 => (if t357 = true then (impl_ValidDrawing.l1 kj53 l0_3 (l0_3.length : Int) (wrap64 (x65_3 + 1)) a0_0 a0_1 l0_2 l0_3) else (some false))) else (some false)) = some r:=H
               have A71:=Aside0.mk A710
               clear A710
               by_cases c72 : t354 = true
               ·subst c72
                have H1 : ((impl_ValidPolygon.f kj53 t353).bind fun t357 => (if t357 = true then (impl_ValidDrawing.l1 kj53 l0_3 (l0_3.length : Int) (wrap64 (x65_3 + 1)) a0_0 a0_1 l0_2 l0_3) else (some false))) = some r:=by rw [if_pos rfl] at H;exact H
                clear H
                have H:=H1
                clear H1
                replace H:=bE.mp H
                obtain ⟨t357,A730,H⟩:=H
                replace H : (if t357 = true then (impl_ValidDrawing.l1 kj53 l0_3 (l0_3.length : Int) (wrap64 (x65_3 + 1)) a0_0 a0_1 l0_2 l0_3) else (some false)) = some r:=H
                have A73:=Aside0.mk A730
                clear A730
                by_cases c74 : t357 = true
                ·subst c74
                 have H1 : (impl_ValidDrawing.l1 kj53 l0_3 (l0_3.length : Int) (wrap64 (x65_3 + 1)) a0_0 a0_1 l0_2 l0_3) = some r:=by rw [if_pos rfl] at H;exact H
                 clear H
                 have H:=H1
                 clear H1
                 have H':=Aside0.mk H
                 clear H
                 have hnb75:=NB337_350.out
                 have hnc75:=NB350_337.out
                 have hcz76_0 : wc.cell? ⟨gb337,0,none⟩ = some (.int .i64 a0_0):=(blk_cell BK337.out 0).trans rfl
                 have hcz76_1 : wc.cell? ⟨gb337,1,none⟩ = some (.int .i64 a0_1):=(blk_cell BK337.out 1).trans rfl
                 have hcz76_2 : wc.cell? ⟨gb337,2,none⟩ = some (.slice A0_2 l0_2.length c0_2):=(blk_cell BK337.out 2).trans rfl
                 have hcz76_3 : wc.cell? ⟨gb337,3,none⟩ = some (.slice (some ad349) l0_3.length c0_3):=(blk_cell BK337.out 3).trans rfl
                 have hfz76_0:=blk_frozen BK337.out 0
                 have hfz76_1:=blk_frozen BK337.out 1
                 have hfz76_2:=blk_frozen BK337.out 2
                 have hfz76_3:=blk_frozen BK337.out 3
                 have hcz77_0 : wc.cell? ⟨gb350,0,none⟩ = some (.string ((rd_T103 l0_3 x65_3).f0)):=(blk_cell BK350.out 0).trans rfl
                 have hcz77_1 : wc.cell? ⟨gb350,1,none⟩ = some (.slice A349_1 ((rd_T103 l0_3 x65_3).f1).length c349_1):=(blk_cell BK350.out 1).trans rfl
                 have hfz77_0:=blk_frozen BK350.out 0
                 have hfz77_1:=blk_frozen BK350.out 1
                 go_wp2_with (first | ((with_reducible refine gate_callee (f:=125) rfl ?_);refine goesL_ (some 95) rfl rfl Try.func125 (by kernel_rfl) rfl #[.slice A0_2 l0_2.length c0_2,.slice A349_1 ((rd_T103 l0_3 x65_3).f1).length c349_1] rfl (by (try simp only [mT,mC,mN]);first | done | rfl | (simp only [lD,lT];rfl)) ?_;(with_reducible refine (impl_ringPolygon.calls kj53 _ _ l0_2 _ _ ((rd_T103 l0_3 x65_3).f1) t353 true _ ?side1 ?side2 ?side3 ?side4 A71.out).mono ?_);(case side1 => repeat (first | exact (Kd.C_below HR0_2.out HB.out) | exact HR0_2.out | (with_reducible refine Kd.C_alloc ?_ _) | (with_reducible refine Kd.C_drewN ?_ _) | (with_reducible refine Kd.C_drew ?_)));(case side2 => exact HC0_2.out);(case side3 => repeat (first | exact (Kd.C_below HR349_1.out HB.out) | exact HR349_1.out | (with_reducible refine Kd.C_alloc ?_ _) | (with_reducible refine Kd.C_drewN ?_ _) | (with_reducible refine Kd.C_drew ?_)));(case side4 => exact HC349_1.out);rintro e w78 ⟨v355,rfl,ho0,hb⟩;refine ⟨_,rfl,?_⟩;have HO356:=Aside0.mk (Kd.R_lower ho0 (below_size ib));replace BK337:=kb BK337 hb;replace BK350:=kb BK350 hb;replace HB:=sb hb;(try clear hb);(try clear hb2);(try clear hk);(try clear hi);(try clear ho0);obtain ⟨Ao79,co79,eo79⟩:=Kd.R_slice HO356.out;subst eo79) | (go_at_call 61;(with_reducible refine (impl_ValidPolygon.calls kj53 _ _ t353 true _ ?side1 ?side2 A73.out).mono ?_);(case side1 => exact cO ((Kd.R_reads' HO356.out).2.2));(case side2 => exact (Kd.R_reads' HO356.out).2.1);rintro e w80 ⟨rfl,hb⟩;replace HO356:=Aside0.mk (Kd.R_below (rO HO356.out) hb);replace BK337:=kb BK337 hb;replace BK350:=kb BK350 hb;replace HB:=sb hb;(try clear hb);(try clear hb2);(try clear hk);(try clear hi)))
                 go_roundg kj53
                 case measure => have:=HJ1.out;have:=HK2.out;have:=HK3.out;have:=HJ53.out;omega
                 case rel => exact ⟨(wrap64 (x65_3 + 1)),(by first | rfl | (simp;done) | (simp [*];done)),H',⟨by have:=HJ1.out;have:=HK2.out;have:=HK3.out;have:=HJ53.out;omega⟩,⟨by exact bk BK337⟩,⟨ib⟩⟩
                ·replace c74:=Bool.eq_false_iff.mpr c74
                 subst c74
                 have H1 : (some false) = some r:=by rw [if_neg (show ¬ (false = true) by decide)] at H;exact H
                 clear H
                 have H:=H1
                 clear H1
                 obtain rfl:=Option.some.inj H
                 have hnb81:=NB337_350.out
                 have hnc81:=NB350_337.out
                 have hcz82_0 : wc.cell? ⟨gb337,0,none⟩ = some (.int .i64 a0_0):=(blk_cell BK337.out 0).trans rfl
                 have hcz82_1 : wc.cell? ⟨gb337,1,none⟩ = some (.int .i64 a0_1):=(blk_cell BK337.out 1).trans rfl
                 have hcz82_2 : wc.cell? ⟨gb337,2,none⟩ = some (.slice A0_2 l0_2.length c0_2):=(blk_cell BK337.out 2).trans rfl
                 have hcz82_3 : wc.cell? ⟨gb337,3,none⟩ = some (.slice (some ad349) l0_3.length c0_3):=(blk_cell BK337.out 3).trans rfl
                 have hfz82_0:=blk_frozen BK337.out 0
                 have hfz82_1:=blk_frozen BK337.out 1
                 have hfz82_2:=blk_frozen BK337.out 2
                 have hfz82_3:=blk_frozen BK337.out 3
                 have hcz83_0 : wc.cell? ⟨gb350,0,none⟩ = some (.string ((rd_T103 l0_3 x65_3).f0)):=(blk_cell BK350.out 0).trans rfl
                 have hcz83_1 : wc.cell? ⟨gb350,1,none⟩ = some (.slice A349_1 ((rd_T103 l0_3 x65_3).f1).length c349_1):=(blk_cell BK350.out 1).trans rfl
                 have hfz83_0:=blk_frozen BK350.out 0
                 have hfz83_1:=blk_frozen BK350.out 1
                 go_wp2_with (first | ((with_reducible refine gate_callee (f:=125) rfl ?_);refine goesL_ (some 95) rfl rfl Try.func125 (by kernel_rfl) rfl #[.slice A0_2 l0_2.length c0_2,.slice A349_1 ((rd_T103 l0_3 x65_3).f1).length c349_1] rfl (by (try simp only [mT,mC,mN]);first | done | rfl | (simp only [lD,lT];rfl)) ?_;(with_reducible refine (impl_ringPolygon.calls kj53 _ _ l0_2 _ _ ((rd_T103 l0_3 x65_3).f1) t353 true _ ?side1 ?side2 ?side3 ?side4 A71.out).mono ?_);(case side1 => repeat (first | exact (Kd.C_below HR0_2.out HB.out) | exact HR0_2.out | (with_reducible refine Kd.C_alloc ?_ _) | (with_reducible refine Kd.C_drewN ?_ _) | (with_reducible refine Kd.C_drew ?_)));(case side2 => exact HC0_2.out);(case side3 => repeat (first | exact (Kd.C_below HR349_1.out HB.out) | exact HR349_1.out | (with_reducible refine Kd.C_alloc ?_ _) | (with_reducible refine Kd.C_drewN ?_ _) | (with_reducible refine Kd.C_drew ?_)));(case side4 => exact HC349_1.out);rintro e w84 ⟨v355,rfl,ho0,hb⟩;refine ⟨_,rfl,?_⟩;have HO356:=Aside0.mk (Kd.R_lower ho0 (below_size ib));replace BK337:=kb BK337 hb;replace BK350:=kb BK350 hb;replace HB:=sb hb;(try clear hb);(try clear hb2);(try clear hk);(try clear hi);(try clear ho0);obtain ⟨Ao85,co85,eo85⟩:=Kd.R_slice HO356.out;subst eo85) | (go_at_call 61;(with_reducible refine (impl_ValidPolygon.calls kj53 _ _ t353 false _ ?side1 ?side2 A73.out).mono ?_);(case side1 => exact cO ((Kd.R_reads' HO356.out).2.2));(case side2 => exact (Kd.R_reads' HO356.out).2.1);rintro e w86 ⟨rfl,hb⟩;replace HO356:=Aside0.mk (Kd.R_below (rO HO356.out) hb);replace BK337:=kb BK337 hb;replace BK350:=kb BK350 hb;replace HB:=sb hb;(try clear hb);(try clear hb2);(try clear hk);(try clear hi)))
                 go_ret
                 exact ⟨by first | rfl | (simp [errW_none,errW_some] <;> rfl) | (simp [*,errW_none,errW_some] <;> rfl),ib⟩
               ·replace c72:=Bool.eq_false_iff.mpr c72
                subst c72
                have H1 : (some false) = some r:=by rw [if_neg (show ¬ (false = true) by decide)] at H;exact H
                clear H
                have H:=H1
                clear H1
                obtain rfl:=Option.some.inj H
                have hnb87:=NB337_350.out
                have hnc87:=NB350_337.out
                have hcz88_0 : wc.cell? ⟨gb337,0,none⟩ = some (.int .i64 a0_0):=(blk_cell BK337.out 0).trans rfl
                have hcz88_1 : wc.cell? ⟨gb337,1,none⟩ = some (.int .i64 a0_1):=(blk_cell BK337.out 1).trans rfl
                have hcz88_2 : wc.cell? ⟨gb337,2,none⟩ = some (.slice A0_2 l0_2.length c0_2):=(blk_cell BK337.out 2).trans rfl
                have hcz88_3 : wc.cell? ⟨gb337,3,none⟩ = some (.slice (some ad349) l0_3.length c0_3):=(blk_cell BK337.out 3).trans rfl
                have hfz88_0:=blk_frozen BK337.out 0
                have hfz88_1:=blk_frozen BK337.out 1
                have hfz88_2:=blk_frozen BK337.out 2
                have hfz88_3:=blk_frozen BK337.out 3
                have hcz89_0 : wc.cell? ⟨gb350,0,none⟩ = some (.string ((rd_T103 l0_3 x65_3).f0)):=(blk_cell BK350.out 0).trans rfl
                have hcz89_1 : wc.cell? ⟨gb350,1,none⟩ = some (.slice A349_1 ((rd_T103 l0_3 x65_3).f1).length c349_1):=(blk_cell BK350.out 1).trans rfl
                have hfz89_0:=blk_frozen BK350.out 0
                have hfz89_1:=blk_frozen BK350.out 1
                go_wp2_with (first | ((with_reducible refine gate_callee (f:=125) rfl ?_);refine goesL_ (some 95) rfl rfl Try.func125 (by kernel_rfl) rfl #[.slice A0_2 l0_2.length c0_2,.slice A349_1 ((rd_T103 l0_3 x65_3).f1).length c349_1] rfl (by (try simp only [mT,mC,mN]);first | done | rfl | (simp only [lD,lT];rfl)) ?_;(with_reducible refine (impl_ringPolygon.calls kj53 _ _ l0_2 _ _ ((rd_T103 l0_3 x65_3).f1) t353 false _ ?side1 ?side2 ?side3 ?side4 A71.out).mono ?_);(case side1 => repeat (first | exact (Kd.C_below HR0_2.out HB.out) | exact HR0_2.out | (with_reducible refine Kd.C_alloc ?_ _) | (with_reducible refine Kd.C_drewN ?_ _) | (with_reducible refine Kd.C_drew ?_)));(case side2 => exact HC0_2.out);(case side3 => repeat (first | exact (Kd.C_below HR349_1.out HB.out) | exact HR349_1.out | (with_reducible refine Kd.C_alloc ?_ _) | (with_reducible refine Kd.C_drewN ?_ _) | (with_reducible refine Kd.C_drew ?_)));(case side4 => exact HC349_1.out);rintro e w90 ⟨v355,rfl,ho0,hb⟩;refine ⟨_,rfl,?_⟩;have HO356:=Aside0.mk (Kd.R_lower ho0 (below_size ib));replace BK337:=kb BK337 hb;replace BK350:=kb BK350 hb;replace HB:=sb hb;(try clear hb);(try clear hb2);(try clear hk);(try clear hi);(try clear ho0)))
                go_ret
                exact ⟨by first | rfl | (simp [errW_none,errW_some] <;> rfl) | (simp [*,errW_none,errW_some] <;> rfl),ib⟩
           ·first | (exfalso;have z_:=of_decide_eq_true c51b0;omega) | (rw [if_neg c53] at H;exact absurd H (by simp))
          ·rw [if_neg c52] at H
           exact absurd H (by simp)
         ·rw [if_neg c51] at H
          have c51b0 : decide (x65_3 < (l0_3.length : Int)) = false:=decide_eq_false c51
          clear c51
          obtain rfl:=Option.some.inj H
          go_wp2
          go_ret
          exact ⟨by first | rfl | (simp [errW_none,errW_some] <;> rfl) | (simp [*,errW_none,errW_some] <;> rfl),ib⟩
end Go.Proofs.Ytnnchaggdnlfmaa.PFnExactUnusedPoints
