/- Contracts of functions that FnExactEdgesOf reaches, out of the lines of the kit's print. -/
import Derived.Test.YtpeebobdbaemiaaQFnExactEdgesOfx0
import Derived.Test.YtpeebobdbaemiaaQFnExactEdgesOfx12
import Derived.Test.YtpeebobdbaemiaaQFnExactEdgesOfx13
import Derived.Test.YtpeebobdbaemiaaQFnExactEdgesOfx15
namespace Go.Proofs.Ytpeebobdbaemiaa.PFnExactEdgesOf
open Go.RowKit Go.Proofs.YtpeebobdbaemiaaW.PrintWords Go.Proofs.YtpeebobdbaemiaaW.PrintLast Go.Proofs.YtpeebobdbaemiaaW.PrintMore
open Bool renaming true → tT, false → fF
open Go.World renaming block_lt_of_cell? → bL
open List renaming setIfInBounds_toArray → iT, set_cons_zero → sZ, set_cons_succ → sC, length_take → lT, length_drop → lD, map_toArray → mT, map_cons → mC, map_nil → mN
open Option renaming bind_eq_some_iff → bE
attribute [local go_sem] max2_int min2_int max_two min_two max_three min_three max_four min_four
set_option linter.unusedVariables false
set_option linter.unusedSimpArgs false
mutual
def impl_ValidDrawing.j0 : Nat → Bool → Int → Int → List (S78) → List (S64) → Option (Bool)
 | 0,_,_,_,_,_ => none
 | k + 1,x30,x352000,x352001,x352002,x352003 => if x30 = true then (some false) else (impl_ValidDrawing.l0 k x352002 (x352002.length : Int) 0 x352000 x352001 x352002 x352003)
def impl_ValidDrawing.l0 : Nat → List (S78) → Int → Int → Int → Int → List (S78) → List (S64) → Option (Bool)
 | 0,_,_,_,_,_,_,_ => none
 | k + 1,x32,x33,x34,x352000,x352001,x352002,x352003 => if x34 < x33 then (if 0 ≤ x34 then (if x34 < (x32.length : Int) then ((impl_within.f ((rd_T78 x32 x34).f0) 0 x352000).bind fun t356 => (if t356 = true then ((impl_within.f ((rd_T78 x32 x34).f1) 0 x352001).bind fun t357 => (if t357 = true then (if x34 ≤ (x352002.length : Int) then ((impl_Point_53.f k (x352002.take (x34 : Int).toNat) ((rd_T78 x32 x34).f0) ((rd_T78 x32 x34).f1)).bind fun t362 => (if t362 = true then (some false) else (impl_ValidDrawing.l0 k x32 x33 (wrap64 (x34 + 1)) x352000 x352001 x352002 x352003))) else (none)) else (some false))) else (some false))) else (none)) else (none)) else (impl_ValidDrawing.l1 k x352003 (x352003.length : Int) 0 x352000 x352001 x352002 x352003)
def impl_ValidDrawing.l1 : Nat → List (S64) → Int → Int → Int → Int → List (S78) → List (S64) → Option (Bool)
 | 0,_,_,_,_,_,_,_ => none
 | k + 1,x63,x64,x65,x352000,x352001,x352002,x352003 => if x65 < x64 then (if 0 ≤ x65 then (if x65 < (x63.length : Int) then ((impl_IsName.f k ((rd_T64 x63 x65).f0)).bind fun t365 => (if t365 = true then (if x65 > 0 then (if 0 ≤ (wrap64 (x65 - 1)) then (if (wrap64 (x65 - 1)) < (x352003.length : Int) then (impl_ValidDrawing.j3 k x63 x64 x65 (!(Op.bytesLess (((rd_T64 x352003 (wrap64 (x65 - 1))).f0).toList) (((rd_T64 x63 x65).f0).toList))) x352000 x352001 x352002 x352003 ((rd_T64 x63 x65).f0) ((rd_T64 x63 x65).f1)) else (none)) else (none)) else (impl_ValidDrawing.j3 k x63 x64 x65 false x352000 x352001 x352002 x352003 ((rd_T64 x63 x65).f0) ((rd_T64 x63 x65).f1))) else (impl_ValidDrawing.j3 k x63 x64 x65 true x352000 x352001 x352002 x352003 ((rd_T64 x63 x65).f0) ((rd_T64 x63 x65).f1)))) else (none)) else (none)) else (some true)
def impl_ValidDrawing.j3 : Nat → List (S64) → Int → Int → Bool → Int → Int → List (S78) → List (S64) → ByteArray → List Int → Option (Bool)
 | 0,_,_,_,_,_,_,_,_,_,_ => none
 | k + 1,x63,x64,x65,x89,x352000,x352001,x352002,x352003,x365000,x365001 => if x89 = true then (some false) else ((impl_ringPolygon.f k x352002 x365001).bind fun bt367 => (if bt367.2 = true then ((impl_ValidPolygon.f k bt367.1).bind fun t371 => (if t371 = true then (impl_ValidDrawing.l1 k x63 x64 (wrap64 (x65 + 1)) x352000 x352001 x352002 x352003) else (some false))) else (some false)))
end
def impl_ValidDrawing.f (k : Nat) (a0_0 : Int) (a0_1 : Int) (l0_2 : List (S78)) (l0_3 : List (S64)) : Option (Bool):=(impl_within.f a0_0 10 20000).bind fun t352 => (if t352 = true then ((impl_within.f a0_1 10 20000).bind fun t353 => (if t353 = true then (if (l0_2.length : Int) > 48 then (impl_ValidDrawing.j0 k true a0_0 a0_1 l0_2 l0_3) else (impl_ValidDrawing.j0 k (decide ((l0_3.length : Int) > 24)) a0_0 a0_1 l0_2 l0_3)) else (impl_ValidDrawing.j0 k true a0_0 a0_1 l0_2 l0_3))) else (impl_ValidDrawing.j0 k true a0_0 a0_1 l0_2 l0_3))
def impl_ValidDrawing.T6 : Bool × List (List Nat × List Nat):=(true,[([],[]),([0],[0]),([],[]),([2],[2]),([1,3],[1,3]),([4],[4]),([5,4],[5]),([6],[6]),([7,6],[6,7]),([6],[6]),([9,6],[6,9]),([8,10,6,6],[6,8,10]),([11,6],[6,11]),([6,12],[6,12]),([13,11],[13]),([14],[14]),([15,14],[14,15]),([14],[14]),([16,17,14],[14,16,17]),([14],[14]),([18,19,14,14],[14,18,19]),([14,20],[14,20])])
def impl_ValidDrawing.B6 : List Nat:=[0,1,0,4,15,31,63,127,255,127,639,2047,4095,8191,16383,32767,65535,32767,262143,32767,1048575,2097151]
theorem impl_ValidDrawing.tab6 : rtab .any (opsOf Try.f33 6) = impl_ValidDrawing.T6:=by kernel_rfl
theorem impl_ValidDrawing.bits6 : waitsOk impl_ValidDrawing.T6.2 impl_ValidDrawing.B6 = true:=by kernel_rfl
def impl_ValidDrawing.T12 : Bool × List (List Nat × List Nat):=(true,[([],[]),([0],[0]),([1],[1]),([2],[2]),([3,2],[3]),([4],[4]),([5,4],[4,5]),([6,4,4],[4,6]),([7],[7]),([8,7],[7,8]),([7],[7]),([10,7],[7,10]),([9,11,7],[7,9,11]),([12,7],[7,12]),([13,7],[7,13]),([7],[7]),([15,7],[7,15]),([14,16,7],[7,14,16]),([7,17,4],[4,7,17]),([4,18],[4,18])])
def impl_ValidDrawing.B12 : List Nat:=[0,1,3,7,15,31,63,127,255,511,255,1279,4095,8191,16383,255,33023,131071,262143,524287]
theorem impl_ValidDrawing.tab12 : rtab .any (opsOf Try.f33 12) = impl_ValidDrawing.T12:=by kernel_rfl
theorem impl_ValidDrawing.bits12 : waitsOk impl_ValidDrawing.T12.2 impl_ValidDrawing.B12 = true:=by kernel_rfl
set_option maxHeartbeats 8000000 in
set_option maxRecDepth 100000 in
theorem impl_ValidDrawing.calls (k : Nat) (a0_0 : Int) (a0_1 : Int) (A0_2 : Option Addr) (c0_2 : Nat) (l0_2 : List (S78)) (A0_3 : Option Addr) (c0_3 : Nat) (l0_3 : List (S64)) (r : Bool) (w : World) (hr0_2 : Kd.C k78 w A0_2 l0_2.length l0_2) (hc0_2 : l0_2.length ≤ c0_2) (hr0_3 : Kd.C k64 w A0_3 l0_3.length l0_3) (hc0_3 : l0_3.length ≤ c0_3) (h : impl_ValidDrawing.f k a0_0 a0_1 l0_2 l0_3 = some r) :
  Calls Try.prog 33 #[.agg #[.int .i64 a0_0,.int .i64 a0_1,.slice A0_2 l0_2.length c0_2,.slice A0_3 l0_3.length c0_3]] w fun e w' => e = .returned (.bool r) ∧ Below w.heap.size w w':=by
 have hu33:=Try.underlying33
 have hu78:=Try.underlying78
 have hu64:=Try.underlying64
 have HR0_2:=Aside0.mk hr0_2
 have HC0_2:=Aside0.mk hc0_2
 clear hr0_2 hc0_2
 have HR0_3:=Aside0.mk hr0_3
 have HC0_3:=Aside0.mk hc0_3
 clear hr0_3 hc0_3
 have HB:=Aside0.mk (Below.refl w.heap.size w)
 have H : ((impl_within.f a0_0 10 20000).bind fun t352 => (if t352 = true then ((impl_within.f a0_1 10 20000).bind fun t353 => (if t353 = true then (if (l0_2.length : Int) > 48 then (impl_ValidDrawing.j0 k true a0_0 a0_1 l0_2 l0_3) else (impl_ValidDrawing.j0 k (decide ((l0_3.length : Int) > 24)) a0_0 a0_1 l0_2 l0_3)) else (impl_ValidDrawing.j0 k true a0_0 a0_1 l0_2 l0_3))) else (impl_ValidDrawing.j0 k true a0_0 a0_1 l0_2 l0_3))) = some r:=h
 clear h
 have HC2:=Aside0.mk H
 clear H
 go_enter Try.func33,Try.ntmps33
 go_upto_region 1 with (first | ((with_reducible refine gate_dst (N:=1) rfl ?_);(try (refine gate_guard (by rfl) ?_;dsimp only));refine bx (cs:=#[.int .i64 a0_0,.int .i64 a0_1,.slice A0_2 l0_2.length c0_2,.slice A0_3 l0_3.length c0_3]) (t:=33) ?_;intro gb351 hg w3 hbox hb;have BK351:=Aside0.mk (hbox);have GW351:=zb hg;have GE351:=zb hg;replace HB:=sb hb;clear hb hbox hg))
 (try simp only [Act.put,iT,sZ,sC])
 go_cut [30] (fun v30 wc => ∃ (kq : Nat) (x30_1 : Bool),v30 = .bool x30_1 ∧ Aside0 (impl_ValidDrawing.j0 kq x30_1 a0_0 a0_1 l0_2 l0_3 = some r) ∧ Aside0 (kq ≤ k) ∧ Aside0 (wc.heap[gb351]? = some (.cells #[.int .i64 a0_0,.int .i64 a0_1,(.slice A0_2 l0_2.length c0_2),(.slice A0_3 l0_3.length c0_3)] 33 (0,0))) ∧ Aside0 (Below w.heap.size w wc))
 case first =>
  have H:=HC2.out
  clear HC2
  replace H:=bE.mp H
  obtain ⟨t352,A40,H⟩:=H
  replace H : (if t352 = true then ((impl_within.f a0_1 10 20000).bind fun t353 => (if t353 = true then (if (l0_2.length : Int) > 48 then (impl_ValidDrawing.j0 k true a0_0 a0_1 l0_2 l0_3) else (impl_ValidDrawing.j0 k (decide ((l0_3.length : Int) > 24)) a0_0 a0_1 l0_2 l0_3)) else (impl_ValidDrawing.j0 k true a0_0 a0_1 l0_2 l0_3))) else (impl_ValidDrawing.j0 k true a0_0 a0_1 l0_2 l0_3)) = some r:=H
  have A4:=Aside0.mk A40
  clear A40
  by_cases c5 : t352 = true
  ·subst c5
   have H1 : ((impl_within.f a0_1 10 20000).bind fun t353 => (if t353 = true then (if (l0_2.length : Int) > 48 then (impl_ValidDrawing.j0 k true a0_0 a0_1 l0_2 l0_3) else (impl_ValidDrawing.j0 k (decide ((l0_3.length : Int) > 24)) a0_0 a0_1 l0_2 l0_3)) else (impl_ValidDrawing.j0 k true a0_0 a0_1 l0_2 l0_3))) = some r:=by rw [if_pos rfl] at H;exact H
   clear H
   have H:=H1
   clear H1
   replace H:=bE.mp H
   obtain ⟨t353,A60,H⟩:=H
   replace H : (if t353 = true then (if (l0_2.length : Int) > 48 then (impl_ValidDrawing.j0 k true a0_0 a0_1 l0_2 l0_3) else (impl_ValidDrawing.j0 k (decide ((l0_3.length : Int) > 24)) a0_0 a0_1 l0_2 l0_3)) else (impl_ValidDrawing.j0 k true a0_0 a0_1 l0_2 l0_3)) = some r:=H
   have A6:=Aside0.mk A60
   clear A60
   by_cases c7 : t353 = true
   ·subst c7
    have H1 : (if (l0_2.length : Int) > 48 then (impl_ValidDrawing.j0 k true a0_0 a0_1 l0_2 l0_3) else (impl_ValidDrawing.j0 k (decide ((l0_3.length : Int) > 24)) a0_0 a0_1 l0_2 l0_3)) = some r:=by rw [if_pos rfl] at H;exact H
    clear H
    have H:=H1
    clear H1
    by_cases c8 : (l0_2.length : Int) > 48
    ·rw [if_pos c8] at H
     have c8b0 : decide (48 < (l0_2.length : Int)) = true:=decide_eq_true c8
     have c8b1 : decide (48 < l0_2.length) = true:=decide_eq_true (by omega)
     clear c8
     (first | rw [c8b0] | (simp only [i64_w,i32_w];rw [c8b0]) | skip)
     have H':=Aside0.mk H
     clear H
     have hcz9_0:=ck BK351 0
     have hcz9_1:=ck BK351 1
     have hcz9_2:=ck BK351 2
     have hcz9_3:=ck BK351 3
     have hfz9_0:=blk_frozen BK351.out 0
     have hfz9_1:=blk_frozen BK351.out 1
     have hfz9_2:=blk_frozen BK351.out 2
     have hfz9_3:=blk_frozen BK351.out 3
     go_wp2_with (first | ((with_reducible refine gate_callee (f:=46) rfl ?_);refine goesL_ (some 11) rfl rfl Try.func46 (by kernel_rfl) rfl #[.int .i64 a0_0,.int .i64 10,.int .i64 20000] rfl (by (try simp only [mT,mC,mN]);first | done | rfl | (simp only [lD,lT];rfl)) ?_;(with_reducible refine (impl_within.calls a0_0 10 20000 true _ A4.out).mono ?_);rintro e w' ⟨rfl,⟨nd,rfl⟩⟩;refine ⟨_,rfl,?_⟩) | (go_at_call 46;(with_reducible refine (impl_within.calls a0_1 10 20000 true _ A6.out).mono ?_);rintro e w' ⟨rfl,⟨nd,rfl⟩⟩))
     go_meet
     case rel => exact ⟨_,(true),(by first | rfl | (simp;done) | (simp [*];done)),H',⟨by first | omega | exact Nat.le_refl _⟩,⟨by exact bk BK351⟩,⟨ib⟩⟩
    ·rw [if_neg c8] at H
     have c8b0 : decide (48 < (l0_2.length : Int)) = false:=decide_eq_false c8
     have c8b1 : decide (48 < l0_2.length) = false:=decide_eq_false (by omega)
     clear c8
     (first | rw [c8b0] | (simp only [i64_w,i32_w];rw [c8b0]) | skip)
     have H':=Aside0.mk H
     clear H
     have hcz10_0:=ck BK351 0
     have hcz10_1:=ck BK351 1
     have hcz10_2:=ck BK351 2
     have hcz10_3:=ck BK351 3
     have hfz10_0:=blk_frozen BK351.out 0
     have hfz10_1:=blk_frozen BK351.out 1
     have hfz10_2:=blk_frozen BK351.out 2
     have hfz10_3:=blk_frozen BK351.out 3
     go_wp2_with (first | ((with_reducible refine gate_callee (f:=46) rfl ?_);refine goesL_ (some 11) rfl rfl Try.func46 (by kernel_rfl) rfl #[.int .i64 a0_0,.int .i64 10,.int .i64 20000] rfl (by (try simp only [mT,mC,mN]);first | done | rfl | (simp only [lD,lT];rfl)) ?_;(with_reducible refine (impl_within.calls a0_0 10 20000 true _ A4.out).mono ?_);rintro e w' ⟨rfl,⟨nd,rfl⟩⟩;refine ⟨_,rfl,?_⟩) | (go_at_call 46;(with_reducible refine (impl_within.calls a0_1 10 20000 true _ A6.out).mono ?_);rintro e w' ⟨rfl,⟨nd,rfl⟩⟩))
     go_meet
     case rel => exact ⟨_,(decide ((l0_3.length : Int) > 24)),(by first | rfl | (simp;done) | (simp [*];done)),H',⟨by first | omega | exact Nat.le_refl _⟩,⟨by exact bk BK351⟩,⟨ib⟩⟩
   ·replace c7:=Bool.eq_false_iff.mpr c7
    subst c7
    have H1 : (impl_ValidDrawing.j0 k true a0_0 a0_1 l0_2 l0_3) = some r:=by rw [if_neg (show ¬ (false = true) by decide)] at H;exact H
    clear H
    have H:=H1
    clear H1
    have H':=Aside0.mk H
    clear H
    have hcz11_0:=ck BK351 0
    have hcz11_1:=ck BK351 1
    have hcz11_2:=ck BK351 2
    have hcz11_3:=ck BK351 3
    have hfz11_0:=blk_frozen BK351.out 0
    have hfz11_1:=blk_frozen BK351.out 1
    have hfz11_2:=blk_frozen BK351.out 2
    have hfz11_3:=blk_frozen BK351.out 3
    go_wp2_with (first | ((with_reducible refine gate_callee (f:=46) rfl ?_);refine goesL_ (some 11) rfl rfl Try.func46 (by kernel_rfl) rfl #[.int .i64 a0_0,.int .i64 10,.int .i64 20000] rfl (by (try simp only [mT,mC,mN]);first | done | rfl | (simp only [lD,lT];rfl)) ?_;(with_reducible refine (impl_within.calls a0_0 10 20000 true _ A4.out).mono ?_);rintro e w' ⟨rfl,⟨nd,rfl⟩⟩;refine ⟨_,rfl,?_⟩) | (go_at_call 46;(with_reducible refine (impl_within.calls a0_1 10 20000 false _ A6.out).mono ?_);rintro e w' ⟨rfl,⟨nd,rfl⟩⟩))
    go_meet
    case rel => exact ⟨_,(true),(by first | rfl | (simp;done) | (simp [*];done)),H',⟨by first | omega | exact Nat.le_refl _⟩,⟨by exact bk BK351⟩,⟨ib⟩⟩
  ·replace c5:=Bool.eq_false_iff.mpr c5
   subst c5
   have H1 : (impl_ValidDrawing.j0 k true a0_0 a0_1 l0_2 l0_3) = some r:=by rw [if_neg (show ¬ (false = true) by decide)] at H;exact H
   clear H
   have H:=H1
   clear H1
   have H':=Aside0.mk H
   clear H
   have hcz12_0:=ck BK351 0
   have hcz12_1:=ck BK351 1
   have hcz12_2:=ck BK351 2
   have hcz12_3:=ck BK351 3
   have hfz12_0:=blk_frozen BK351.out 0
   have hfz12_1:=blk_frozen BK351.out 1
   have hfz12_2:=blk_frozen BK351.out 2
   have hfz12_3:=blk_frozen BK351.out 3
   go_wp2_with (first | ((with_reducible refine gate_callee (f:=46) rfl ?_);refine goesL_ (some 11) rfl rfl Try.func46 (by kernel_rfl) rfl #[.int .i64 a0_0,.int .i64 10,.int .i64 20000] rfl (by (try simp only [mT,mC,mN]);first | done | rfl | (simp only [lD,lT];rfl)) ?_;(with_reducible refine (impl_within.calls a0_0 10 20000 false _ A4.out).mono ?_);rintro e w' ⟨rfl,⟨nd,rfl⟩⟩;refine ⟨_,rfl,?_⟩))
   go_meet
   case rel => exact ⟨_,(true),(by first | rfl | (simp;done) | (simp [*];done)),H',⟨by first | omega | exact Nat.le_refl _⟩,⟨by exact bk BK351⟩,⟨ib⟩⟩
 case rest =>
  clear HC2
  try clear p2
  try clear c3
  try clear c4
  try clear c5
  try clear c7
  try clear c8
  try clear c8b0
  try clear c8b1
  try clear hcz10_0
  try clear hcz10_1
  try clear hcz10_2
  try clear hcz10_3
  try clear hcz11_0
  try clear hcz11_1
  try clear hcz11_2
  try clear hcz11_3
  try clear hcz12_0
  try clear hcz12_1
  try clear hcz12_2
  try clear hcz12_3
  try clear hcz9_0
  try clear hcz9_1
  try clear hcz9_2
  try clear hcz9_3
  try clear hfz10_0
  try clear hfz10_1
  try clear hfz10_2
  try clear hfz10_3
  try clear hfz11_0
  try clear hfz11_1
  try clear hfz11_2
  try clear hfz11_3
  try clear hfz12_0
  try clear hfz12_1
  try clear hfz12_2
  try clear hfz12_3
  try clear hfz9_0
  try clear hfz9_1
  try clear hfz9_2
  try clear hfz9_3
  obtain ⟨kq,x30_1,rfl,HA,HJ1,BK351,HB⟩:=hcut
  cases kq with
  | zero => exact absurd HA.out (by simp [impl_ValidDrawing.j0])
  | succ kj1 =>
   have H:=HA.out
   clear HA
   simp only [impl_ValidDrawing.j0] at H
   by_cases c13 : x30_1 = true
   ·subst c13
    have H1 : (some false) = some r:=by rw [if_pos rfl] at H;exact H
    clear H
    have H:=H1
    clear H1
    obtain rfl:=Option.some.inj H
    go_wp2
    go_ret
    exact ⟨by first | rfl | (simp [errW_none,errW_some] <;> rfl) | (simp [*,errW_none,errW_some] <;> rfl),ib⟩
   ·replace c13:=Bool.eq_false_iff.mpr c13
    subst c13
    have H1 : (impl_ValidDrawing.l0 kj1 l0_2 (l0_2.length : Int) 0 a0_0 a0_1 l0_2 l0_3) = some r:=by rw [if_neg (show ¬ (false = true) by decide)] at H;exact H
    clear H
    have H:=H1
    clear H1
    have H':=Aside0.mk H
    clear H
    have hcz14_0 : wc.cell? ⟨gb351,0,none⟩ = some (.int .i64 a0_0):=(blk_cell BK351.out 0).trans rfl
    have hcz14_1 : wc.cell? ⟨gb351,1,none⟩ = some (.int .i64 a0_1):=(blk_cell BK351.out 1).trans rfl
    have hcz14_2 : wc.cell? ⟨gb351,2,none⟩ = some (.slice A0_2 l0_2.length c0_2):=(blk_cell BK351.out 2).trans rfl
    have hcz14_3 : wc.cell? ⟨gb351,3,none⟩ = some (.slice A0_3 l0_3.length c0_3):=(blk_cell BK351.out 3).trans rfl
    have hfz14_0:=blk_frozen BK351.out 0
    have hfz14_1:=blk_frozen BK351.out 1
    have hfz14_2:=blk_frozen BK351.out 2
    have hfz14_3:=blk_frozen BK351.out 3
    go_wp2
    go_loopg [34] kj1 (fun kq v34 w' => ∃ (x34_2 : Int),v34 = .int .i64 x34_2 ∧ Aside0 (impl_ValidDrawing.l0 kq l0_2 (l0_2.length : Int) x34_2 a0_0 a0_1 l0_2 l0_3 = some r) ∧ Aside0 (kq ≤ kj1) ∧ Aside0 (w'.heap[gb351]? = some (.cells #[.int .i64 a0_0,.int .i64 a0_1,(.slice A0_2 l0_2.length c0_2),(.slice A0_3 l0_3.length c0_3)] 33 (0,0))) ∧ Aside0 (Below w.heap.size w w'))
    case atStart => exact ⟨(0),(by first | rfl | (simp;done) | (simp [*];done)),H',⟨Nat.le_refl _⟩,⟨by exact bk BK351⟩,⟨ib⟩⟩
    case round =>
     clear H'
     try clear c1
     try clear p2
     try clear c3
     try clear c4
     try clear c5
     try clear c7
     try clear c8
     try clear c8b0
     try clear c8b1
     try clear c13
     try clear hcz10_0
     try clear hcz10_1
     try clear hcz10_2
     try clear hcz10_3
     try clear hcz11_0
     try clear hcz11_1
     try clear hcz11_2
     try clear hcz11_3
     try clear hcz12_0
     try clear hcz12_1
     try clear hcz12_2
     try clear hcz12_3
     try clear hcz14_0
     try clear hcz14_1
     try clear hcz14_2
     try clear hcz14_3
     try clear hcz9_0
     try clear hcz9_1
     try clear hcz9_2
     try clear hcz9_3
     try clear hfz10_0
     try clear hfz10_1
     try clear hfz10_2
     try clear hfz10_3
     try clear hfz11_0
     try clear hfz11_1
     try clear hfz11_2
     try clear hfz11_3
     try clear hfz12_0
     try clear hfz12_1
     try clear hfz12_2
     try clear hfz12_3
     try clear hfz14_0
     try clear hfz14_1
     try clear hfz14_2
     try clear hfz14_3
     try clear hfz9_0
     try clear hfz9_1
     try clear hfz9_2
     try clear hfz9_3
     try clear p2
     obtain ⟨x34_2,rfl,HA,HK2,BK351,HB⟩:=hrel
     cases gk with
     | zero => exact absurd HA.out (by simp [impl_ValidDrawing.l0])
     | succ k2 =>
      have H:=HA.out
      clear HA
      simp only [impl_ValidDrawing.l0] at H
      by_cases c15 : x34_2 < (l0_2.length : Int)
      ·rw [if_pos c15] at H
       have c15b0 : decide (x34_2 < (l0_2.length : Int)) = true:=decide_eq_true c15
       clear c15
       by_cases c16 : 0 ≤ x34_2
       ·rw [if_pos c16] at H
        have c16b0 : decide (0 ≤ x34_2) = true:=decide_eq_true c16
        clear c16
        by_cases c17 : x34_2 < (l0_2.length : Int)
        ·rw [if_pos c17] at H
         have c17b0 : decide (x34_2 < (l0_2.length : Int)) = true:=decide_eq_true c17
         clear c17
         replace H:=bE.mp H
         obtain ⟨t356,A180,H⟩:=H
         replace H : (if t356 = true then ((impl_within.f ((rd_T78 l0_2 x34_2).f1) 0 a0_1).bind fun t357 => (if t357 = true then (if x34_2 ≤ (l0_2.length : Int) then ((impl_Point_53.f k2 (l0_2.take (x34_2 : Int).toNat) ((rd_T78 l0_2 x34_2).f0) ((rd_T78 l0_2 x34_2).f1)).bind fun t362 => (if t362 = true then (some false) else (impl_ValidDrawing.l0 k2 l0_2 (l0_2.length : Int) (wrap64 (x34_2 + 1)) a0_0 a0_1 l0_2 l0_3))) else (none)) else (some false))) else (some false)) = some r:=H
         have A18:=Aside0.mk A180
         clear A180
         by_cases c19 : t356 = true
         ·subst c19
          have H1 : ((impl_within.f ((rd_T78 l0_2 x34_2).f1) 0 a0_1).bind fun t357 => (if t357 = true then (if x34_2 ≤ (l0_2.length : Int) then ((impl_Point_53.f k2 (l0_2.take (x34_2 : Int).toNat) ((rd_T78 l0_2 x34_2).f0) ((rd_T78 l0_2 x34_2).f1)).bind fun t362 => (if t362 = true then (some false) else (impl_ValidDrawing.l0 k2 l0_2 (l0_2.length : Int) (wrap64 (x34_2 + 1)) a0_0 a0_1 l0_2 l0_3))) else (none)) else (some false))) = some r:=by rw [if_pos rfl] at H;exact H
          clear H
          have H:=H1
          clear H1
          replace H:=bE.mp H
          obtain ⟨t357,A200,H⟩:=H
          replace H : (if t357 = true then (if x34_2 ≤ (l0_2.length : Int) then ((impl_Point_53.f k2 (l0_2.take (x34_2 : Int).toNat) ((rd_T78 l0_2 x34_2).f0) ((rd_T78 l0_2 x34_2).f1)).bind fun t362 => (if t362 = true then (some false) else (impl_ValidDrawing.l0 k2 l0_2 (l0_2.length : Int) (wrap64 (x34_2 + 1)) a0_0 a0_1 l0_2 l0_3))) else (none)) else (some false)) = some r:=H
          have A20:=Aside0.mk A200
          clear A200
          by_cases c21 : t357 = true
          ·subst c21
           have H1 : (if x34_2 ≤ (l0_2.length : Int) then ((impl_Point_53.f k2 (l0_2.take (x34_2 : Int).toNat) ((rd_T78 l0_2 x34_2).f0) ((rd_T78 l0_2 x34_2).f1)).bind fun t362 => (if t362 = true then (some false) else (impl_ValidDrawing.l0 k2 l0_2 (l0_2.length : Int) (wrap64 (x34_2 + 1)) a0_0 a0_1 l0_2 l0_3))) else (none)) = some r:=by rw [if_pos rfl] at H;exact H
           clear H
           have H:=H1
           clear H1
           have c22b0:=eq_true (da : 0 ≤ x34_2)
           by_cases c23 : x34_2 ≤ (l0_2.length : Int)
           ·rw [if_pos c23] at H
            have c23b0:=eq_true c23
            have c23b1 : decide (x34_2 ≤ (l0_2.length : Int)) = true:=decide_eq_true c23
            clear c23
            obtain ⟨y358,hy358⟩ : ∃ y_ : List (S78),y_ = (l0_2.take (x34_2 : Int).toNat):=⟨_,rfl⟩
            replace H : ((impl_Point_53.f k2 y358 ((rd_T78 l0_2 x34_2).f0) ((rd_T78 l0_2 x34_2).f1)).bind fun t362 => (if t362 = true then (some false) else (impl_ValidDrawing.l0 k2 l0_2 (l0_2.length : Int) (wrap64 (x34_2 + 1)) a0_0 a0_1 l0_2 l0_3))) = some r:=by first | (rw [hy358];with_reducible exact H) | (have H2_:=(Option.bind_some _ _).symm.trans H;rw [hy358];with_reducible exact H2_) | (have H2_:=(Option.bind_some _ _).symm.trans H;with_reducible exact H2_) | with_reducible exact H | (rw [hy358];exact H) | exact H
            have Ny358:=Aside0.mk hy358
            clear hy358
            replace H:=bE.mp H
            obtain ⟨t362,A240,H⟩:=H
            replace H : (if t362 = true then (some false) else (impl_ValidDrawing.l0 k2 l0_2 (l0_2.length : Int) (wrap64 (x34_2 + 1)) a0_0 a0_1 l0_2 l0_3)) = some r:=H
            have A24:=Aside0.mk A240
            clear A240
            by_cases c25 : t362 = true
            ·subst c25
             have H1 : (some false) = some r:=by rw [if_pos rfl] at H;exact H
             clear H
             have H:=H1
             clear H1
             obtain rfl:=Option.some.inj H
             have p354 : 0 ≤ (x34_2 : Int):=da
             have q354 : x34_2 < (l0_2.length : Int):=da
             obtain ⟨ad354,e354,hx354_0,hx354_1⟩:=at_T78 HR0_2.out x34_2 p354 q354
             cases e354
             replace hx354_0:=cq HB.out hx354_0
             replace hx354_1:=cq HB.out hx354_1
             replace p354:=eq_true p354
             replace q354:=eq_true q354
             try go_wp2_with (first | ((with_reducible refine gate_dst (N:=4) rfl ?_);(try (refine gate_guard (by rfl) ?_;dsimp only));refine bx (cs:=#[.int .i64 0,.int .i64 0]) (t:=78) ?_;intro gb355 hg w26 hbox hb;have BK355:=Aside0.mk (hbox);have GW355:=zb hg;have GE355:=zb hg;replace HB:=sb hb;have NB351_355:=nl BK351 hg;have NB355_351:=ng BK351 hg;replace BK351:=kb BK351 hb;clear hb hbox hg;have hnb27:=NB355_351.out;have hnc27:=NB351_355.out;have hcz28_0:=ck BK355 0;have hcz28_1:=ck BK355 1;have hfz28_0:=blk_frozen BK355.out 0;have hfz28_1:=blk_frozen BK355.out 1))
             have n0_ : Aside0 (((w26.setCell ⟨gb355,0,none⟩ (.int .i64 ((rd_T78 l0_2 x34_2).f0))).setCell ⟨gb355,1,none⟩ (.int .i64 ((rd_T78 l0_2 x34_2).f1))).heap[gb351]? = some (.cells #[.int .i64 a0_0,.int .i64 a0_1,.slice (some ad354) l0_2.length c0_2,.slice A0_3 l0_3.length c0_3] 33 (0,0))):=⟨by refine bF NB351_355.out ?_;refine bF NB351_355.out ?_;exact bk BK351⟩
             have n1_ : Aside0 (((w26.setCell ⟨gb355,0,none⟩ (.int .i64 ((rd_T78 l0_2 x34_2).f0))).setCell ⟨gb355,1,none⟩ (.int .i64 ((rd_T78 l0_2 x34_2).f1))).heap[gb355]? = some (.cells #[.int .i64 ((rd_T78 l0_2 x34_2).f0),.int .i64 ((rd_T78 l0_2 x34_2).f1)] 78 (0,0))):=⟨by refine bP (cs:=#[.int .i64 ((rd_T78 l0_2 x34_2).f0),.int .i64 0]) 1 ?_;refine bP (cs:=#[.int .i64 0,.int .i64 0]) 0 ?_;exact bk BK355⟩
             have n2_ : Aside0 (Below w.heap.size w ((w26.setCell ⟨gb355,0,none⟩ (.int .i64 ((rd_T78 l0_2 x34_2).f0))).setCell ⟨gb355,1,none⟩ (.int .i64 ((rd_T78 l0_2 x34_2).f1)))):=⟨ib⟩
             (try clear BK351)
             (try clear BK355)
             (try clear HB)
             generalize ((w26.setCell ⟨gb355,0,none⟩ (.int .i64 ((rd_T78 l0_2 x34_2).f0))).setCell ⟨gb355,1,none⟩ (.int .i64 ((rd_T78 l0_2 x34_2).f1))) = w29 at n0_ n1_ n2_ ⊢
             have BK351:=n0_
             have BK355:=n1_
             have HB:=n2_
             clear n0_ n1_ n2_
             replace BK351:=Aside0.mk (blk_drew BK351.out)
             replace BK355:=Aside0.mk (blk_drew BK355.out)
             replace HB:=Aside0.mk (below_drew1 HB.out)
             refine start_ (n:=22) (S:=fun w' => w'.cell? ⟨gb355,0,none⟩ = some (.int .i64 ((rd_T78 l0_2 x34_2).f0)) ∧ w'.cell? ⟨gb355,1,none⟩ = some (.int .i64 ((rd_T78 l0_2 x34_2).f1)) ∧ w'.cell? ⟨gb351,0,none⟩ = some (.int .i64 a0_0) ∧ w'.cell? ⟨gb351,1,none⟩ = some (.int .i64 a0_1) ∧ w'.cell? ⟨gb351,2,none⟩ = some (.slice (some ad354) l0_2.length c0_2) ∧ w'.cell? ⟨gb351,3,none⟩ = some (.slice A0_3 l0_3.length c0_3)) (ds:=[]) #[fF,fF,fF,fF,fF,fF,fF,fF,fF,fF,fF,fF,fF,fF,fF,fF,fF,fF,fF,fF,fF,fF] (by kernel_rfl) rfl rfl ⟨(blk_cell BK355.out 0).trans rfl,(blk_cell BK355.out 1).trans rfl,(blk_cell BK351.out 0).trans rfl,(blk_cell BK351.out 1).trans rfl,(blk_cell BK351.out 2).trans rfl,(blk_cell BK351.out 3).trans rfl⟩ (fun hHeld => ?_);refine with_tabW impl_ValidDrawing.tab6 impl_ValidDrawing.bits6 (fun HT_ HW_ => ?_)
             generalize w29.drew = w30 at BK351 BK355 HB hHeld ⊢
             refine pu 0 39 HT_ ?_
             refine pu 2 41 HT_ ?_
             refine tk 1 40 HT_ HW_ hHeld ?_
             refine tk 3 42 HT_ HW_ hHeld ?_
             refine on 4 43 HT_ (fun K hK => ?_)
             refine goes_ Try.func46 (by kernel_rfl) rfl #[.int .i64 ((rd_T78 l0_2 x34_2).f0),.int .i64 0,.int .i64 a0_0] (by rfl) rfl rfl (by (try simp only [mT,mC,mN]);first | done | rfl | (simp only [lD,lT];rfl)) ?_
             with_reducible refine (impl_within.calls ((rd_T78 l0_2 x34_2).f0) 0 a0_0 true _ A18.out).mono ?_
             rintro e w' ⟨rfl,⟨nd,rfl⟩⟩
             refine ⟨_,rfl,?_⟩
             refine hK.out _ _ ⟨(blk_cell BK355.out 0).trans rfl,(blk_cell BK355.out 1).trans rfl,(blk_cell BK351.out 0).trans rfl,(blk_cell BK351.out 1).trans rfl,(blk_cell BK351.out 2).trans rfl,(blk_cell BK351.out 3).trans rfl⟩ (fun hHeld => ?_)
             clear hK K
             refine norm_ (a':=?_) ?_ ?_
             rotate_left
             ·show Act.put _ (some 43) _ = _
              simp only [Act.put,iT,sZ,sC,i64_w,i32_w]
              rfl
             refine pu 5 44 HT_ ?_
             refine pu 6 45 HT_ ?_
             refine pu 7 46 HT_ ?_
             refine pu 9 48 HT_ ?_
             refine tk 8 47 HT_ HW_ hHeld ?_
             refine tk 10 49 HT_ HW_ hHeld ?_
             refine on 11 50 HT_ (fun K hK => ?_)
             refine goes_ Try.func46 (by kernel_rfl) rfl #[.int .i64 ((rd_T78 l0_2 x34_2).f1),.int .i64 0,.int .i64 a0_1] (by rfl) rfl rfl (by (try simp only [mT,mC,mN]);first | done | rfl | (simp only [lD,lT];rfl)) ?_
             with_reducible refine (impl_within.calls ((rd_T78 l0_2 x34_2).f1) 0 a0_1 true _ A20.out).mono ?_
             rintro e w' ⟨rfl,⟨nd,rfl⟩⟩
             refine ⟨_,rfl,?_⟩
             have q31 : (x34_2 : Int) ≤ ((l0_2.length : Int) : Int):=da
             obtain ⟨i031,hi031,_,hsz31,_⟩:=info_parts info78
             have hroom31 : l0_2.length ≤ c0_2:=HC0_2.out
             have hC31 : Kd.C k78 _ (some ad354) l0_2.length l0_2:=HR0_2.out
             have hcut31:=cut_to (P:=Try.prog) 30 78 .i64 Try.underlying30 hi031 (some ad354) l0_2.length c0_2 x34_2 (da) q31 hroom31
             have hr31:=Kd.C_take (m:=(x34_2 : Int).toNat) hC31 (by omega)
             have hy31 : y358.length = (x34_2 : Int).toNat:=(by rw [Ny358.out,lT];omega)
             rw [← Ny358.out] at hr31
             rw [← hy31] at hcut31
             have HR361:=Aside0.mk hr31
             have HC361:=Aside0.mk (show y358.length ≤ c0_2 from by omega)
             clear hr31 hC31 hroom31 hi031 hsz31
             have KY31:=Aside0.mk hy31
             clear hy31
             replace q31:=eq_true q31
             refine hK.out _ _ ⟨(blk_cell BK355.out 0).trans rfl,(blk_cell BK355.out 1).trans rfl,(blk_cell BK351.out 0).trans rfl,(blk_cell BK351.out 1).trans rfl,(blk_cell BK351.out 2).trans rfl,(blk_cell BK351.out 3).trans rfl⟩ (fun hHeld => ?_)
             clear hK K
             refine norm_ (a':=?_) ?_ ?_
             rotate_left
             ·show Act.put _ (some 50) _ = _
              simp only [Act.put,iT,sZ,sC,i64_w,i32_w]
              rfl
             refine pu 12 51 HT_ ?_
             refine pu 13 52 HT_ ?_
             refine pu 14 53 HT_ ?_
             refine pu 15 54 HT_ ?_
             refine pu 17 56 HT_ ?_
             refine tk 16 55 HT_ HW_ hHeld ?_
             refine pu 18 57 HT_ ?_
             refine tk 19 58 HT_ HW_ hHeld ?_
             refine on 20 59 HT_ (fun K hK => ?_)
             refine goes_ Try.func53 (by kernel_rfl) rfl #[.slice (some ad354) y358.length c0_2,.agg #[.int .i64 ((rd_T78 l0_2 x34_2).f0),.int .i64 ((rd_T78 l0_2 x34_2).f1)]] (by rfl) rfl rfl (by (try simp only [mT,mC,mN]);first | done | rfl | (simp only [lD,lT];rfl)) ?_
             with_reducible refine (impl_Point_53.calls k2 _ _ y358 ((rd_T78 l0_2 x34_2).f0) ((rd_T78 l0_2 x34_2).f1) true _ ?side1 ?side2 A24.out).mono ?_
             (case side1 => exact cO ((Kd.C_below HR361.out ib)))
             (case side2 => exact HC361.out)
             rintro e w32 ⟨rfl,hb⟩
             refine ⟨_,rfl,?_⟩
             replace BK351:=kb BK351 hb
             replace BK355:=kb BK355 hb
             replace HB:=sb hb
             (try clear hb)
             (try clear hb2)
             (try clear hk)
             (try clear hi)
             refine hK.out _ _ ⟨(blk_cell BK355.out 0).trans rfl,(blk_cell BK355.out 1).trans rfl,(blk_cell BK351.out 0).trans rfl,(blk_cell BK351.out 1).trans rfl,(blk_cell BK351.out 2).trans rfl,(blk_cell BK351.out 3).trans rfl⟩ (fun hHeld => ?_)
             clear hK K
             refine norm_ (a':=?_) ?_ ?_
             rotate_left
             ·show Act.put _ (some 59) _ = _
              simp only [Act.put,iT,sZ,sC,i64_w,i32_w]
              rfl
             refine pu 21 60 HT_ ?_
             refine done_ (done_of HT_.out (by kernel_rfl)) ?_
             try go_wp2
             go_ret
             exact ⟨by first | rfl | (simp [errW_none,errW_some] <;> rfl) | (simp [*,errW_none,errW_some] <;> rfl),ib⟩
            ·replace c25:=Bool.eq_false_iff.mpr c25
             subst c25
             have H1 : (impl_ValidDrawing.l0 k2 l0_2 (l0_2.length : Int) (wrap64 (x34_2 + 1)) a0_0 a0_1 l0_2 l0_3) = some r:=by rw [if_neg (show ¬ (false = true) by decide)] at H;exact H
             clear H
             have H:=H1
             clear H1
             have H':=Aside0.mk H
             clear H
             have p354 : 0 ≤ (x34_2 : Int):=da
             have q354 : x34_2 < (l0_2.length : Int):=da
             obtain ⟨ad354,e354,hx354_0,hx354_1⟩:=at_T78 HR0_2.out x34_2 p354 q354
             cases e354
             replace hx354_0:=cq HB.out hx354_0
             replace hx354_1:=cq HB.out hx354_1
             replace p354:=eq_true p354
             replace q354:=eq_true q354
             try go_wp2_with (first | ((with_reducible refine gate_dst (N:=4) rfl ?_);(try (refine gate_guard (by rfl) ?_;dsimp only));refine bx (cs:=#[.int .i64 0,.int .i64 0]) (t:=78) ?_;intro gb355 hg w33 hbox hb;have BK355:=Aside0.mk (hbox);have GW355:=zb hg;have GE355:=zb hg;replace HB:=sb hb;have NB351_355:=nl BK351 hg;have NB355_351:=ng BK351 hg;replace BK351:=kb BK351 hb;clear hb hbox hg;have hnb34:=NB355_351.out;have hnc34:=NB351_355.out;have hcz35_0:=ck BK355 0;have hcz35_1:=ck BK355 1;have hfz35_0:=blk_frozen BK355.out 0;have hfz35_1:=blk_frozen BK355.out 1))
             have n0_ : Aside0 (((w33.setCell ⟨gb355,0,none⟩ (.int .i64 ((rd_T78 l0_2 x34_2).f0))).setCell ⟨gb355,1,none⟩ (.int .i64 ((rd_T78 l0_2 x34_2).f1))).heap[gb351]? = some (.cells #[.int .i64 a0_0,.int .i64 a0_1,.slice (some ad354) l0_2.length c0_2,.slice A0_3 l0_3.length c0_3] 33 (0,0))):=⟨by refine bF NB351_355.out ?_;refine bF NB351_355.out ?_;exact bk BK351⟩
             have n1_ : Aside0 (((w33.setCell ⟨gb355,0,none⟩ (.int .i64 ((rd_T78 l0_2 x34_2).f0))).setCell ⟨gb355,1,none⟩ (.int .i64 ((rd_T78 l0_2 x34_2).f1))).heap[gb355]? = some (.cells #[.int .i64 ((rd_T78 l0_2 x34_2).f0),.int .i64 ((rd_T78 l0_2 x34_2).f1)] 78 (0,0))):=⟨by refine bP (cs:=#[.int .i64 ((rd_T78 l0_2 x34_2).f0),.int .i64 0]) 1 ?_;refine bP (cs:=#[.int .i64 0,.int .i64 0]) 0 ?_;exact bk BK355⟩
             have n2_ : Aside0 (Below w.heap.size w ((w33.setCell ⟨gb355,0,none⟩ (.int .i64 ((rd_T78 l0_2 x34_2).f0))).setCell ⟨gb355,1,none⟩ (.int .i64 ((rd_T78 l0_2 x34_2).f1)))):=⟨ib⟩
             (try clear BK351)
             (try clear BK355)
             (try clear HB)
             generalize ((w33.setCell ⟨gb355,0,none⟩ (.int .i64 ((rd_T78 l0_2 x34_2).f0))).setCell ⟨gb355,1,none⟩ (.int .i64 ((rd_T78 l0_2 x34_2).f1))) = w36 at n0_ n1_ n2_ ⊢
             have BK351:=n0_
             have BK355:=n1_
             have HB:=n2_
             clear n0_ n1_ n2_
             replace BK351:=Aside0.mk (blk_drew BK351.out)
             replace BK355:=Aside0.mk (blk_drew BK355.out)
             replace HB:=Aside0.mk (below_drew1 HB.out)
             refine start_ (n:=22) (S:=fun w' => w'.cell? ⟨gb355,0,none⟩ = some (.int .i64 ((rd_T78 l0_2 x34_2).f0)) ∧ w'.cell? ⟨gb355,1,none⟩ = some (.int .i64 ((rd_T78 l0_2 x34_2).f1)) ∧ w'.cell? ⟨gb351,0,none⟩ = some (.int .i64 a0_0) ∧ w'.cell? ⟨gb351,1,none⟩ = some (.int .i64 a0_1) ∧ w'.cell? ⟨gb351,2,none⟩ = some (.slice (some ad354) l0_2.length c0_2) ∧ w'.cell? ⟨gb351,3,none⟩ = some (.slice A0_3 l0_3.length c0_3)) (ds:=[]) #[fF,fF,fF,fF,fF,fF,fF,fF,fF,fF,fF,fF,fF,fF,fF,fF,fF,fF,fF,fF,fF,fF] (by kernel_rfl) rfl rfl ⟨(blk_cell BK355.out 0).trans rfl,(blk_cell BK355.out 1).trans rfl,(blk_cell BK351.out 0).trans rfl,(blk_cell BK351.out 1).trans rfl,(blk_cell BK351.out 2).trans rfl,(blk_cell BK351.out 3).trans rfl⟩ (fun hHeld => ?_);refine with_tabW impl_ValidDrawing.tab6 impl_ValidDrawing.bits6 (fun HT_ HW_ => ?_)
             generalize w36.drew = w37 at BK351 BK355 HB hHeld ⊢
             refine pu 0 39 HT_ ?_
             refine pu 2 41 HT_ ?_
             refine tk 1 40 HT_ HW_ hHeld ?_
             refine tk 3 42 HT_ HW_ hHeld ?_
             refine on 4 43 HT_ (fun K hK => ?_)
             refine goes_ Try.func46 (by kernel_rfl) rfl #[.int .i64 ((rd_T78 l0_2 x34_2).f0),.int .i64 0,.int .i64 a0_0] (by rfl) rfl rfl (by (try simp only [mT,mC,mN]);first | done | rfl | (simp only [lD,lT];rfl)) ?_
             with_reducible refine (impl_within.calls ((rd_T78 l0_2 x34_2).f0) 0 a0_0 true _ A18.out).mono ?_
             rintro e w' ⟨rfl,⟨nd,rfl⟩⟩
             refine ⟨_,rfl,?_⟩
             refine hK.out _ _ ⟨(blk_cell BK355.out 0).trans rfl,(blk_cell BK355.out 1).trans rfl,(blk_cell BK351.out 0).trans rfl,(blk_cell BK351.out 1).trans rfl,(blk_cell BK351.out 2).trans rfl,(blk_cell BK351.out 3).trans rfl⟩ (fun hHeld => ?_)
             clear hK K
             refine norm_ (a':=?_) ?_ ?_
             rotate_left
             ·show Act.put _ (some 43) _ = _
              simp only [Act.put,iT,sZ,sC,i64_w,i32_w]
              rfl
             refine pu 5 44 HT_ ?_
             refine pu 6 45 HT_ ?_
             refine pu 7 46 HT_ ?_
             refine pu 9 48 HT_ ?_
             refine tk 8 47 HT_ HW_ hHeld ?_
             refine tk 10 49 HT_ HW_ hHeld ?_
             refine on 11 50 HT_ (fun K hK => ?_)
             refine goes_ Try.func46 (by kernel_rfl) rfl #[.int .i64 ((rd_T78 l0_2 x34_2).f1),.int .i64 0,.int .i64 a0_1] (by rfl) rfl rfl (by (try simp only [mT,mC,mN]);first | done | rfl | (simp only [lD,lT];rfl)) ?_
             with_reducible refine (impl_within.calls ((rd_T78 l0_2 x34_2).f1) 0 a0_1 true _ A20.out).mono ?_
             rintro e w' ⟨rfl,⟨nd,rfl⟩⟩
             refine ⟨_,rfl,?_⟩
             have q38 : (x34_2 : Int) ≤ ((l0_2.length : Int) : Int):=da
             obtain ⟨i038,hi038,_,hsz38,_⟩:=info_parts info78
             have hroom38 : l0_2.length ≤ c0_2:=HC0_2.out
             have hC38 : Kd.C k78 _ (some ad354) l0_2.length l0_2:=HR0_2.out
             have hcut38:=cut_to (P:=Try.prog) 30 78 .i64 Try.underlying30 hi038 (some ad354) l0_2.length c0_2 x34_2 (da) q38 hroom38
             have hr38:=Kd.C_take (m:=(x34_2 : Int).toNat) hC38 (by omega)
             have hy38 : y358.length = (x34_2 : Int).toNat:=(by rw [Ny358.out,lT];omega)
             rw [← Ny358.out] at hr38
             rw [← hy38] at hcut38
             have HR361:=Aside0.mk hr38
             have HC361:=Aside0.mk (show y358.length ≤ c0_2 from by omega)
             clear hr38 hC38 hroom38 hi038 hsz38
             have KY38:=Aside0.mk hy38
             clear hy38
             replace q38:=eq_true q38
             refine hK.out _ _ ⟨(blk_cell BK355.out 0).trans rfl,(blk_cell BK355.out 1).trans rfl,(blk_cell BK351.out 0).trans rfl,(blk_cell BK351.out 1).trans rfl,(blk_cell BK351.out 2).trans rfl,(blk_cell BK351.out 3).trans rfl⟩ (fun hHeld => ?_)
             clear hK K
             refine norm_ (a':=?_) ?_ ?_
             rotate_left
             ·show Act.put _ (some 50) _ = _
              simp only [Act.put,iT,sZ,sC,i64_w,i32_w]
              rfl
             refine pu 12 51 HT_ ?_
             refine pu 13 52 HT_ ?_
             refine pu 14 53 HT_ ?_
             refine pu 15 54 HT_ ?_
             refine pu 17 56 HT_ ?_
             refine tk 16 55 HT_ HW_ hHeld ?_
             refine pu 18 57 HT_ ?_
             refine tk 19 58 HT_ HW_ hHeld ?_
             refine on 20 59 HT_ (fun K hK => ?_)
             refine goes_ Try.func53 (by kernel_rfl) rfl #[.slice (some ad354) y358.length c0_2,.agg #[.int .i64 ((rd_T78 l0_2 x34_2).f0),.int .i64 ((rd_T78 l0_2 x34_2).f1)]] (by rfl) rfl rfl (by (try simp only [mT,mC,mN]);first | done | rfl | (simp only [lD,lT];rfl)) ?_
             with_reducible refine (impl_Point_53.calls k2 _ _ y358 ((rd_T78 l0_2 x34_2).f0) ((rd_T78 l0_2 x34_2).f1) false _ ?side1 ?side2 A24.out).mono ?_
             (case side1 => exact cO ((Kd.C_below HR361.out ib)))
             (case side2 => exact HC361.out)
             rintro e w39 ⟨rfl,hb⟩
             refine ⟨_,rfl,?_⟩
             replace BK351:=kb BK351 hb
             replace BK355:=kb BK355 hb
             replace HB:=sb hb
             (try clear hb)
             (try clear hb2)
             (try clear hk)
             (try clear hi)
             refine hK.out _ _ ⟨(blk_cell BK355.out 0).trans rfl,(blk_cell BK355.out 1).trans rfl,(blk_cell BK351.out 0).trans rfl,(blk_cell BK351.out 1).trans rfl,(blk_cell BK351.out 2).trans rfl,(blk_cell BK351.out 3).trans rfl⟩ (fun hHeld => ?_)
             clear hK K
             refine norm_ (a':=?_) ?_ ?_
             rotate_left
             ·show Act.put _ (some 59) _ = _
              simp only [Act.put,iT,sZ,sC,i64_w,i32_w]
              rfl
             refine pu 21 60 HT_ ?_
             refine done_ (done_of HT_.out (by kernel_rfl)) ?_
             try go_wp2
             go_roundg k2
             case measure => have:=HJ1.out;have:=HK2.out;omega
             case rel => exact ⟨(wrap64 (x34_2 + 1)),(by first | rfl | (simp;done) | (simp [*];done)),H',⟨by have:=HJ1.out;have:=HK2.out;omega⟩,⟨by exact bk BK351⟩,⟨ib⟩⟩
           ·rw [if_neg c23] at H
            exact absurd H (by simp)
          ·replace c21:=Bool.eq_false_iff.mpr c21
           subst c21
           have H1 : (some false) = some r:=by rw [if_neg (show ¬ (false = true) by decide)] at H;exact H
           clear H
           have H:=H1
           clear H1
           obtain rfl:=Option.some.inj H
           have p354 : 0 ≤ (x34_2 : Int):=da
           have q354 : x34_2 < (l0_2.length : Int):=da
           obtain ⟨ad354,e354,hx354_0,hx354_1⟩:=at_T78 HR0_2.out x34_2 p354 q354
           cases e354
           replace hx354_0:=cq HB.out hx354_0
           replace hx354_1:=cq HB.out hx354_1
           replace p354:=eq_true p354
           replace q354:=eq_true q354
           try go_wp2_with (first | ((with_reducible refine gate_dst (N:=4) rfl ?_);(try (refine gate_guard (by rfl) ?_;dsimp only));refine bx (cs:=#[.int .i64 0,.int .i64 0]) (t:=78) ?_;intro gb355 hg w40 hbox hb;have BK355:=Aside0.mk (hbox);have GW355:=zb hg;have GE355:=zb hg;replace HB:=sb hb;have NB351_355:=nl BK351 hg;have NB355_351:=ng BK351 hg;replace BK351:=kb BK351 hb;clear hb hbox hg;have hnb41:=NB355_351.out;have hnc41:=NB351_355.out;have hcz42_0:=ck BK355 0;have hcz42_1:=ck BK355 1;have hfz42_0:=blk_frozen BK355.out 0;have hfz42_1:=blk_frozen BK355.out 1))
           have n0_ : Aside0 (((w40.setCell ⟨gb355,0,none⟩ (.int .i64 ((rd_T78 l0_2 x34_2).f0))).setCell ⟨gb355,1,none⟩ (.int .i64 ((rd_T78 l0_2 x34_2).f1))).heap[gb351]? = some (.cells #[.int .i64 a0_0,.int .i64 a0_1,.slice (some ad354) l0_2.length c0_2,.slice A0_3 l0_3.length c0_3] 33 (0,0))):=⟨by refine bF NB351_355.out ?_;refine bF NB351_355.out ?_;exact bk BK351⟩
           have n1_ : Aside0 (((w40.setCell ⟨gb355,0,none⟩ (.int .i64 ((rd_T78 l0_2 x34_2).f0))).setCell ⟨gb355,1,none⟩ (.int .i64 ((rd_T78 l0_2 x34_2).f1))).heap[gb355]? = some (.cells #[.int .i64 ((rd_T78 l0_2 x34_2).f0),.int .i64 ((rd_T78 l0_2 x34_2).f1)] 78 (0,0))):=⟨by refine bP (cs:=#[.int .i64 ((rd_T78 l0_2 x34_2).f0),.int .i64 0]) 1 ?_;refine bP (cs:=#[.int .i64 0,.int .i64 0]) 0 ?_;exact bk BK355⟩
           have n2_ : Aside0 (Below w.heap.size w ((w40.setCell ⟨gb355,0,none⟩ (.int .i64 ((rd_T78 l0_2 x34_2).f0))).setCell ⟨gb355,1,none⟩ (.int .i64 ((rd_T78 l0_2 x34_2).f1)))):=⟨ib⟩
           (try clear BK351)
           (try clear BK355)
           (try clear HB)
           generalize ((w40.setCell ⟨gb355,0,none⟩ (.int .i64 ((rd_T78 l0_2 x34_2).f0))).setCell ⟨gb355,1,none⟩ (.int .i64 ((rd_T78 l0_2 x34_2).f1))) = w43 at n0_ n1_ n2_ ⊢
           have BK351:=n0_
           have BK355:=n1_
           have HB:=n2_
           clear n0_ n1_ n2_
           replace BK351:=Aside0.mk (blk_drew BK351.out)
           replace BK355:=Aside0.mk (blk_drew BK355.out)
           replace HB:=Aside0.mk (below_drew1 HB.out)
           refine start_ (n:=22) (S:=fun w' => w'.cell? ⟨gb355,0,none⟩ = some (.int .i64 ((rd_T78 l0_2 x34_2).f0)) ∧ w'.cell? ⟨gb355,1,none⟩ = some (.int .i64 ((rd_T78 l0_2 x34_2).f1)) ∧ w'.cell? ⟨gb351,0,none⟩ = some (.int .i64 a0_0) ∧ w'.cell? ⟨gb351,1,none⟩ = some (.int .i64 a0_1) ∧ w'.cell? ⟨gb351,2,none⟩ = some (.slice (some ad354) l0_2.length c0_2) ∧ w'.cell? ⟨gb351,3,none⟩ = some (.slice A0_3 l0_3.length c0_3)) (ds:=[]) #[fF,fF,fF,fF,fF,fF,fF,fF,fF,fF,fF,fF,fF,fF,fF,fF,fF,fF,fF,fF,fF,fF] (by kernel_rfl) rfl rfl ⟨(blk_cell BK355.out 0).trans rfl,(blk_cell BK355.out 1).trans rfl,(blk_cell BK351.out 0).trans rfl,(blk_cell BK351.out 1).trans rfl,(blk_cell BK351.out 2).trans rfl,(blk_cell BK351.out 3).trans rfl⟩ (fun hHeld => ?_);refine with_tabW impl_ValidDrawing.tab6 impl_ValidDrawing.bits6 (fun HT_ HW_ => ?_)
           generalize w43.drew = w44 at BK351 BK355 HB hHeld ⊢
           refine pu 0 39 HT_ ?_
           refine pu 2 41 HT_ ?_
           refine tk 1 40 HT_ HW_ hHeld ?_
           refine tk 3 42 HT_ HW_ hHeld ?_
           refine on 4 43 HT_ (fun K hK => ?_)
           refine goes_ Try.func46 (by kernel_rfl) rfl #[.int .i64 ((rd_T78 l0_2 x34_2).f0),.int .i64 0,.int .i64 a0_0] (by rfl) rfl rfl (by (try simp only [mT,mC,mN]);first | done | rfl | (simp only [lD,lT];rfl)) ?_
           with_reducible refine (impl_within.calls ((rd_T78 l0_2 x34_2).f0) 0 a0_0 true _ A18.out).mono ?_
           rintro e w' ⟨rfl,⟨nd,rfl⟩⟩
           refine ⟨_,rfl,?_⟩
           refine hK.out _ _ ⟨(blk_cell BK355.out 0).trans rfl,(blk_cell BK355.out 1).trans rfl,(blk_cell BK351.out 0).trans rfl,(blk_cell BK351.out 1).trans rfl,(blk_cell BK351.out 2).trans rfl,(blk_cell BK351.out 3).trans rfl⟩ (fun hHeld => ?_)
           clear hK K
           refine norm_ (a':=?_) ?_ ?_
           rotate_left
           ·show Act.put _ (some 43) _ = _
            simp only [Act.put,iT,sZ,sC,i64_w,i32_w]
            rfl
           refine pu 5 44 HT_ ?_
           refine pu 6 45 HT_ ?_
           refine pu 7 46 HT_ ?_
           refine pu 9 48 HT_ ?_
           refine tk 8 47 HT_ HW_ hHeld ?_
           refine tk 10 49 HT_ HW_ hHeld ?_
           refine on 11 50 HT_ (fun K hK => ?_)
           refine goes_ Try.func46 (by kernel_rfl) rfl #[.int .i64 ((rd_T78 l0_2 x34_2).f1),.int .i64 0,.int .i64 a0_1] (by rfl) rfl rfl (by (try simp only [mT,mC,mN]);first | done | rfl | (simp only [lD,lT];rfl)) ?_
           with_reducible refine (impl_within.calls ((rd_T78 l0_2 x34_2).f1) 0 a0_1 false _ A20.out).mono ?_
           rintro e w' ⟨rfl,⟨nd,rfl⟩⟩
           refine ⟨_,rfl,?_⟩
           refine hK.out _ _ ⟨(blk_cell BK355.out 0).trans rfl,(blk_cell BK355.out 1).trans rfl,(blk_cell BK351.out 0).trans rfl,(blk_cell BK351.out 1).trans rfl,(blk_cell BK351.out 2).trans rfl,(blk_cell BK351.out 3).trans rfl⟩ (fun hHeld => ?_)
           clear hK K
           refine norm_ (a':=?_) ?_ ?_
           rotate_left
           ·show Act.put _ (some 50) _ = _
            simp only [Act.put,iT,sZ,sC,i64_w,i32_w]
            rfl
           refine pu 12 51 HT_ ?_
           refine pu 13 52 HT_ ?_
           refine pu 14 53 HT_ ?_
           refine pd 15 54 HT_ ?_
           refine pd 16 55 HT_ ?_
           refine pd 17 56 HT_ ?_
           refine pd 18 57 HT_ ?_
           refine pd 19 58 HT_ ?_
           refine pd 20 59 HT_ ?_
           refine pu 21 60 HT_ ?_
           refine done_ (done_of HT_.out (by kernel_rfl)) ?_
           try go_wp2
           go_ret
           exact ⟨by first | rfl | (simp [errW_none,errW_some] <;> rfl) | (simp [*,errW_none,errW_some] <;> rfl),ib⟩
         ·replace c19:=Bool.eq_false_iff.mpr c19
          subst c19
          have H1 : (some false) = some r:=by rw [if_neg (show ¬ (false = true) by decide)] at H;exact H
          clear H
          have H:=H1
          clear H1
          obtain rfl:=Option.some.inj H
          have p354 : 0 ≤ (x34_2 : Int):=da
          have q354 : x34_2 < (l0_2.length : Int):=da
          obtain ⟨ad354,e354,hx354_0,hx354_1⟩:=at_T78 HR0_2.out x34_2 p354 q354
          cases e354
          replace hx354_0:=cq HB.out hx354_0
          replace hx354_1:=cq HB.out hx354_1
          replace p354:=eq_true p354
          replace q354:=eq_true q354
          try go_wp2_with (first | ((with_reducible refine gate_dst (N:=4) rfl ?_);(try (refine gate_guard (by rfl) ?_;dsimp only));refine bx (cs:=#[.int .i64 0,.int .i64 0]) (t:=78) ?_;intro gb355 hg w45 hbox hb;have BK355:=Aside0.mk (hbox);have GW355:=zb hg;have GE355:=zb hg;replace HB:=sb hb;have NB351_355:=nl BK351 hg;have NB355_351:=ng BK351 hg;replace BK351:=kb BK351 hb;clear hb hbox hg;have hnb46:=NB355_351.out;have hnc46:=NB351_355.out;have hcz47_0:=ck BK355 0;have hcz47_1:=ck BK355 1;have hfz47_0:=blk_frozen BK355.out 0;have hfz47_1:=blk_frozen BK355.out 1))
          have n0_ : Aside0 (((w45.setCell ⟨gb355,0,none⟩ (.int .i64 ((rd_T78 l0_2 x34_2).f0))).setCell ⟨gb355,1,none⟩ (.int .i64 ((rd_T78 l0_2 x34_2).f1))).heap[gb351]? = some (.cells #[.int .i64 a0_0,.int .i64 a0_1,.slice (some ad354) l0_2.length c0_2,.slice A0_3 l0_3.length c0_3] 33 (0,0))):=⟨by refine bF NB351_355.out ?_;refine bF NB351_355.out ?_;exact bk BK351⟩
          have n1_ : Aside0 (((w45.setCell ⟨gb355,0,none⟩ (.int .i64 ((rd_T78 l0_2 x34_2).f0))).setCell ⟨gb355,1,none⟩ (.int .i64 ((rd_T78 l0_2 x34_2).f1))).heap[gb355]? = some (.cells #[.int .i64 ((rd_T78 l0_2 x34_2).f0),.int .i64 ((rd_T78 l0_2 x34_2).f1)] 78 (0,0))):=⟨by refine bP (cs:=#[.int .i64 ((rd_T78 l0_2 x34_2).f0),.int .i64 0]) 1 ?_;refine bP (cs:=#[.int .i64 0,.int .i64 0]) 0 ?_;exact bk BK355⟩
          have n2_ : Aside0 (Below w.heap.size w ((w45.setCell ⟨gb355,0,none⟩ (.int .i64 ((rd_T78 l0_2 x34_2).f0))).setCell ⟨gb355,1,none⟩ (.int .i64 ((rd_T78 l0_2 x34_2).f1)))):=⟨ib⟩
          (try clear BK351)
          (try clear BK355)
          (try clear HB)
          generalize ((w45.setCell ⟨gb355,0,none⟩ (.int .i64 ((rd_T78 l0_2 x34_2).f0))).setCell ⟨gb355,1,none⟩ (.int .i64 ((rd_T78 l0_2 x34_2).f1))) = w48 at n0_ n1_ n2_ ⊢
          have BK351:=n0_
          have BK355:=n1_
          have HB:=n2_
          clear n0_ n1_ n2_
          replace BK351:=Aside0.mk (blk_drew BK351.out)
          replace BK355:=Aside0.mk (blk_drew BK355.out)
          replace HB:=Aside0.mk (below_drew1 HB.out)
          refine start_ (n:=22) (S:=fun w' => w'.cell? ⟨gb355,0,none⟩ = some (.int .i64 ((rd_T78 l0_2 x34_2).f0)) ∧ w'.cell? ⟨gb355,1,none⟩ = some (.int .i64 ((rd_T78 l0_2 x34_2).f1)) ∧ w'.cell? ⟨gb351,0,none⟩ = some (.int .i64 a0_0) ∧ w'.cell? ⟨gb351,1,none⟩ = some (.int .i64 a0_1) ∧ w'.cell? ⟨gb351,2,none⟩ = some (.slice (some ad354) l0_2.length c0_2) ∧ w'.cell? ⟨gb351,3,none⟩ = some (.slice A0_3 l0_3.length c0_3)) (ds:=[]) #[fF,fF,fF,fF,fF,fF,fF,fF,fF,fF,fF,fF,fF,fF,fF,fF,fF,fF,fF,fF,fF,fF] (by kernel_rfl) rfl rfl ⟨(blk_cell BK355.out 0).trans rfl,(blk_cell BK355.out 1).trans rfl,(blk_cell BK351.out 0).trans rfl,(blk_cell BK351.out 1).trans rfl,(blk_cell BK351.out 2).trans rfl,(blk_cell BK351.out 3).trans rfl⟩ (fun hHeld => ?_);refine with_tabW impl_ValidDrawing.tab6 impl_ValidDrawing.bits6 (fun HT_ HW_ => ?_)
          generalize w48.drew = w49 at BK351 BK355 HB hHeld ⊢
          refine pu 0 39 HT_ ?_
          refine pu 2 41 HT_ ?_
          refine tk 1 40 HT_ HW_ hHeld ?_
          refine tk 3 42 HT_ HW_ hHeld ?_
          refine on 4 43 HT_ (fun K hK => ?_)
          refine goes_ Try.func46 (by kernel_rfl) rfl #[.int .i64 ((rd_T78 l0_2 x34_2).f0),.int .i64 0,.int .i64 a0_0] (by rfl) rfl rfl (by (try simp only [mT,mC,mN]);first | done | rfl | (simp only [lD,lT];rfl)) ?_
          with_reducible refine (impl_within.calls ((rd_T78 l0_2 x34_2).f0) 0 a0_0 false _ A18.out).mono ?_
          rintro e w' ⟨rfl,⟨nd,rfl⟩⟩
          refine ⟨_,rfl,?_⟩
          refine hK.out _ _ ⟨(blk_cell BK355.out 0).trans rfl,(blk_cell BK355.out 1).trans rfl,(blk_cell BK351.out 0).trans rfl,(blk_cell BK351.out 1).trans rfl,(blk_cell BK351.out 2).trans rfl,(blk_cell BK351.out 3).trans rfl⟩ (fun hHeld => ?_)
          clear hK K
          refine norm_ (a':=?_) ?_ ?_
          rotate_left
          ·show Act.put _ (some 43) _ = _
           simp only [Act.put,iT,sZ,sC,i64_w,i32_w]
           rfl
          refine pu 5 44 HT_ ?_
          refine pu 6 45 HT_ ?_
          refine pd 7 46 HT_ ?_
          refine pd 8 47 HT_ ?_
          refine pd 9 48 HT_ ?_
          refine pd 10 49 HT_ ?_
          refine pd 11 50 HT_ ?_
          refine pd 12 51 HT_ ?_
          refine pu 13 52 HT_ ?_
          refine pu 14 53 HT_ ?_
          refine pd 15 54 HT_ ?_
          refine pd 16 55 HT_ ?_
          refine pd 17 56 HT_ ?_
          refine pd 18 57 HT_ ?_
          refine pd 19 58 HT_ ?_
          refine pd 20 59 HT_ ?_
          refine pu 21 60 HT_ ?_
          refine done_ (done_of HT_.out (by kernel_rfl)) ?_
          try go_wp2
          go_ret
          exact ⟨by first | rfl | (simp [errW_none,errW_some] <;> rfl) | (simp [*,errW_none,errW_some] <;> rfl),ib⟩
        ·first | (exfalso;have z_:=of_decide_eq_true c15b0;omega) | (rw [if_neg c17] at H;exact absurd H (by simp))
       ·rw [if_neg c16] at H
        exact absurd H (by simp)
      ·rw [if_neg c15] at H
       have c15b0 : decide (x34_2 < (l0_2.length : Int)) = false:=decide_eq_false c15
       clear c15
       have H':=Aside0.mk H
       clear H
       have hcz50_0 : wr.cell? ⟨gb351,0,none⟩ = some (.int .i64 a0_0):=(blk_cell BK351.out 0).trans rfl
       have hcz50_1 : wr.cell? ⟨gb351,1,none⟩ = some (.int .i64 a0_1):=(blk_cell BK351.out 1).trans rfl
       have hcz50_2 : wr.cell? ⟨gb351,2,none⟩ = some (.slice A0_2 l0_2.length c0_2):=(blk_cell BK351.out 2).trans rfl
       have hcz50_3 : wr.cell? ⟨gb351,3,none⟩ = some (.slice A0_3 l0_3.length c0_3):=(blk_cell BK351.out 3).trans rfl
       have hfz50_0:=blk_frozen BK351.out 0
       have hfz50_1:=blk_frozen BK351.out 1
       have hfz50_2:=blk_frozen BK351.out 2
       have hfz50_3:=blk_frozen BK351.out 3
       go_wp2
       go_loopg [65] k2 (fun kq v65 w' => ∃ (x65_3 : Int),v65 = .int .i64 x65_3 ∧ Aside0 (impl_ValidDrawing.l1 kq l0_3 (l0_3.length : Int) x65_3 a0_0 a0_1 l0_2 l0_3 = some r) ∧ Aside0 (kq ≤ k2) ∧ Aside0 (w'.heap[gb351]? = some (.cells #[.int .i64 a0_0,.int .i64 a0_1,(.slice A0_2 l0_2.length c0_2),(.slice A0_3 l0_3.length c0_3)] 33 (0,0))) ∧ Aside0 (Below w.heap.size w w'))
       case atStart => exact ⟨(0),(by first | rfl | (simp;done) | (simp [*];done)),H',⟨Nat.le_refl _⟩,⟨by exact bk BK351⟩,⟨ib⟩⟩
       case round =>
        clear H'
        try clear c1
        try clear c2
        try clear p2
        try clear p3
        try clear q3
        try clear hx3
        try clear c4
        try clear c5
        try clear p6
        try clear c15
        try clear c15b0
        try clear c16
        try clear c17
        try clear c19
        try clear c21
        try clear c23
        try clear p35
        try clear q35
        try clear hx35
        try clear q38
        try clear c41
        try clear c46
        try clear hcz42_0
        try clear hcz42_1
        try clear hcz47_0
        try clear hcz47_1
        try clear hcz50_0
        try clear hcz50_1
        try clear hcz50_2
        try clear hcz50_3
        try clear hfz42_0
        try clear hfz42_1
        try clear hfz47_0
        try clear hfz47_1
        try clear hfz50_0
        try clear hfz50_1
        try clear hfz50_2
        try clear hfz50_3
        try clear hx354_0
        try clear hx354_1
        try clear p354
        try clear q354
        try clear q38
        obtain ⟨x65_3,rfl,HA,HK3,BK351,HB⟩:=hrel
        cases gk with
        | zero => exact absurd HA.out (by simp [impl_ValidDrawing.l1])
        | succ k3 =>
         have H:=HA.out
         clear HA
         simp only [impl_ValidDrawing.l1] at H
         by_cases c51 : x65_3 < (l0_3.length : Int)
         ·rw [if_pos c51] at H
          have c51b0 : decide (x65_3 < (l0_3.length : Int)) = true:=decide_eq_true c51
          clear c51
          by_cases c52 : 0 ≤ x65_3
          ·rw [if_pos c52] at H
           have c52b0 : decide (0 ≤ x65_3) = true:=decide_eq_true c52
           clear c52
           by_cases c53 : x65_3 < (l0_3.length : Int)
           ·rw [if_pos c53] at H
            have c53b0 : decide (x65_3 < (l0_3.length : Int)) = true:=decide_eq_true c53
            clear c53
            have HC54:=Aside0.mk H
            clear H
            have p363 : 0 ≤ (x65_3 : Int):=da
            have q363 : x65_3 < (l0_3.length : Int):=da
            obtain ⟨ad363,A363_1,c363_1,e363,hx363_0,hx363_1,hl363_1,hi363_1⟩:=at_T64 HR0_3.out x65_3 p363 q363
            cases e363
            replace hx363_0:=cq HB.out hx363_0
            replace hx363_1:=cq HB.out hx363_1
            have HR363_1:=Aside0.mk hi363_1
            have HC363_1:=Aside0.mk hl363_1
            clear hi363_1 hl363_1
            replace p363:=eq_true p363
            replace q363:=eq_true q363
            go_upto_region 12 with (first | ((with_reducible refine gate_dst (N:=6) rfl ?_);(try (refine gate_guard (by rfl) ?_;dsimp only));refine bx (cs:=#[.string (⟨#[]⟩ : ByteArray),.slice none 0 0]) (t:=64) ?_;intro gb364 hg w55 hbox hb;have BK364:=Aside0.mk (hbox);have GW364:=zb hg;have GE364:=zb hg;replace HB:=sb hb;have NB351_364:=nl BK351 hg;have NB364_351:=ng BK351 hg;replace BK351:=kb BK351 hb;clear hb hbox hg;have hnb56:=NB364_351.out;have hnc56:=NB351_364.out;have hcz57_0:=ck BK364 0;have hcz57_1:=ck BK364 1;have hfz57_0:=blk_frozen BK364.out 0;have hfz57_1:=blk_frozen BK364.out 1))
            (try simp only [Act.put,iT,sZ,sC])
            go_cut [89] (fun v89 wc => ∃ (kq : Nat) (x89_53 : Bool),v89 = .bool x89_53 ∧ Aside0 (impl_ValidDrawing.j3 kq l0_3 (l0_3.length : Int) x65_3 x89_53 a0_0 a0_1 l0_2 l0_3 ((rd_T64 l0_3 x65_3).f0) ((rd_T64 l0_3 x65_3).f1) = some r) ∧ Aside0 (kq ≤ k3) ∧ Aside0 (wc.heap[gb351]? = some (.cells #[.int .i64 a0_0,.int .i64 a0_1,(.slice A0_2 l0_2.length c0_2),(.slice (some ad363) l0_3.length c0_3)] 33 (0,0))) ∧ Aside0 (wc.heap[gb364]? = some (.cells #[.string ((rd_T64 l0_3 x65_3).f0),(.slice A363_1 ((rd_T64 l0_3 x65_3).f1).length c363_1)] 64 (0,0))) ∧ Aside0 (Below w.heap.size w wc))
            case first =>
             have H:=HC54.out
             clear HC54
             replace H:=bE.mp H
             obtain ⟨t365,A580,H⟩:=H
             replace H : (if t365 = true then (if x65_3 > 0 then (if 0 ≤ (wrap64 (x65_3 - 1)) then (if (wrap64 (x65_3 - 1)) < (l0_3.length : Int) then (impl_ValidDrawing.j3 k3 l0_3 (l0_3.length : Int) x65_3 (!(Op.bytesLess (((rd_T64 l0_3 (wrap64 (x65_3 - 1))).f0).toList) (((rd_T64 l0_3 x65_3).f0).toList))) a0_0 a0_1 l0_2 l0_3 ((rd_T64 l0_3 x65_3).f0) ((rd_T64 l0_3 x65_3).f1)) else (none)) else (none)) else (impl_ValidDrawing.j3 k3 l0_3 (l0_3.length : Int) x65_3 false a0_0 a0_1 l0_2 l0_3 ((rd_T64 l0_3 x65_3).f0) ((rd_T64 l0_3 x65_3).f1))) else (impl_ValidDrawing.j3 k3 l0_3 (l0_3.length : Int) x65_3 true a0_0 a0_1 l0_2 l0_3 ((rd_T64 l0_3 x65_3).f0) ((rd_T64 l0_3 x65_3).f1))) = some r:=H
             have A58:=Aside0.mk A580
             clear A580
             by_cases c59 : t365 = true
             ·subst c59
              have H1 : (if x65_3 > 0 then (if 0 ≤ (wrap64 (x65_3 - 1)) then (if (wrap64 (x65_3 - 1)) < (l0_3.length : Int) then (impl_ValidDrawing.j3 k3 l0_3 (l0_3.length : Int) x65_3 (!(Op.bytesLess (((rd_T64 l0_3 (wrap64 (x65_3 - 1))).f0).toList) (((rd_T64 l0_3 x65_3).f0).toList))) a0_0 a0_1 l0_2 l0_3 ((rd_T64 l0_3 x65_3).f0) ((rd_T64 l0_3 x65_3).f1)) else (none)) else (none)) else (impl_ValidDrawing.j3 k3 l0_3 (l0_3.length : Int) x65_3 false a0_0 a0_1 l0_2 l0_3 ((rd_T64 l0_3 x65_3).f0) ((rd_T64 l0_3 x65_3).f1))) = some r:=by rw [if_pos rfl] at H;exact H
              clear H
              have H:=H1
              clear H1
              by_cases c60 : x65_3 > 0
              ·rw [if_pos c60] at H
               have c60b0 : decide (0 < x65_3) = true:=decide_eq_true c60
               clear c60
               (first | rw [c60b0] | (simp only [i64_w,i32_w];rw [c60b0]) | skip)
               obtain ⟨ji61,hji61⟩ : ∃ j_ : Int,(wrap64 (x65_3 - 1)) = j_:=⟨_,rfl⟩
               replace H : (if 0 ≤ (ji61) then (if (ji61) < (l0_3.length : Int) then (impl_ValidDrawing.j3 k3 l0_3 (l0_3.length : Int) x65_3 (!(Op.bytesLess (((rd_T64 l0_3 (ji61)).f0).toList) (((rd_T64 l0_3 x65_3).f0).toList))) a0_0 a0_1 l0_2 l0_3 ((rd_T64 l0_3 x65_3).f0) ((rd_T64 l0_3 x65_3).f1)) else (none)) else (none)) = some r:=by first | (rw [hji61] at H;exact H) | (simp only [hji61] at H ⊢;exact H)
               (try rw [hji61] at A58)
               have hji61w : (IntKind.i64.wrap (x65_3 - 1)) = ji61:=(i64_w _).trans hji61
               by_cases c62 : 0 ≤ (ji61)
               ·rw [if_pos c62] at H
                have c62b0 : decide (0 ≤ (ji61)) = true:=decide_eq_true c62
                clear c62
                by_cases c63 : (ji61) < (l0_3.length : Int)
                ·rw [if_pos c63] at H
                 have c63b0 : decide ((ji61) < (l0_3.length : Int)) = true:=decide_eq_true c63
                 clear c63
                 have H':=Aside0.mk H
                 clear H
                 try go_wp2
                 have n0_ : Aside0 (((w55.setCell ⟨gb364,0,none⟩ (.string ((rd_T64 l0_3 x65_3).f0))).setCell ⟨gb364,1,none⟩ (.slice A363_1 ((rd_T64 l0_3 x65_3).f1).length c363_1)).heap[gb351]? = some (.cells #[.int .i64 a0_0,.int .i64 a0_1,.slice A0_2 l0_2.length c0_2,.slice (some ad363) l0_3.length c0_3] 33 (0,0))):=⟨by refine bF NB351_364.out ?_;refine bF NB351_364.out ?_;exact bk BK351⟩
                 have n1_ : Aside0 (((w55.setCell ⟨gb364,0,none⟩ (.string ((rd_T64 l0_3 x65_3).f0))).setCell ⟨gb364,1,none⟩ (.slice A363_1 ((rd_T64 l0_3 x65_3).f1).length c363_1)).heap[gb364]? = some (.cells #[.string ((rd_T64 l0_3 x65_3).f0),.slice A363_1 ((rd_T64 l0_3 x65_3).f1).length c363_1] 64 (0,0))):=⟨by refine bP (cs:=#[.string ((rd_T64 l0_3 x65_3).f0),.slice none 0 0]) 1 ?_;refine bP (cs:=#[.string (⟨#[]⟩ : ByteArray),.slice none 0 0]) 0 ?_;exact bk BK364⟩
                 have n2_ : Aside0 (Below w.heap.size w ((w55.setCell ⟨gb364,0,none⟩ (.string ((rd_T64 l0_3 x65_3).f0))).setCell ⟨gb364,1,none⟩ (.slice A363_1 ((rd_T64 l0_3 x65_3).f1).length c363_1))):=⟨ib⟩
                 (try clear BK351)
                 (try clear BK364)
                 (try clear HB)
                 generalize ((w55.setCell ⟨gb364,0,none⟩ (.string ((rd_T64 l0_3 x65_3).f0))).setCell ⟨gb364,1,none⟩ (.slice A363_1 ((rd_T64 l0_3 x65_3).f1).length c363_1)) = w64 at n0_ n1_ n2_ ⊢
                 have BK351:=n0_
                 have BK364:=n1_
                 have HB:=n2_
                 clear n0_ n1_ n2_
                 replace BK351:=Aside0.mk (blk_drew BK351.out)
                 replace BK364:=Aside0.mk (blk_drew BK364.out)
                 replace HB:=Aside0.mk (below_drew1 HB.out)
                 have p366 : 0 ≤ ((ji61) : Int):=da
                 have q366 : (ji61) < (l0_3.length : Int):=da
                 obtain ⟨ad366,A366_1,c366_1,e366,hx366_0,hx366_1,hl366_1,hi366_1⟩:=at_T64 HR0_3.out (ji61) p366 q366
                 have hw366_1:=hx366_1
                 have hw366_0:=hx366_0
                 obtain rfl : ad363 = ad366:=(by injection e366)
                 replace hx366_0:=cq HB.out hx366_0
                 replace hx366_1:=cq HB.out hx366_1
                 have HR366_1:=Aside0.mk hi366_1
                 have HC366_1:=Aside0.mk hl366_1
                 clear hi366_1 hl366_1
                 replace p366:=eq_true p366
                 replace q366:=eq_true q366
                 refine start_ (n:=20) (S:=fun w' => w'.cell? ⟨gb364,0,none⟩ = some (.string ((rd_T64 l0_3 x65_3).f0)) ∧ w'.cell? ⟨gb364,1,none⟩ = some (.slice A363_1 ((rd_T64 l0_3 x65_3).f1).length c363_1) ∧ w'.cell? ⟨gb351,0,none⟩ = some (.int .i64 a0_0) ∧ w'.cell? ⟨gb351,1,none⟩ = some (.int .i64 a0_1) ∧ w'.cell? ⟨gb351,2,none⟩ = some (.slice A0_2 l0_2.length c0_2) ∧ w'.cell? ⟨gb351,3,none⟩ = some (.slice (some ad363) l0_3.length c0_3) ∧ w'.cell? (ad363.add (((ji61)).toNat * 2)) = some (.string ((rd_T64 l0_3 (ji61)).f0)) ∧ w'.cell? ⟨(ad363.add (((ji61)).toNat * 2)).block,(ad363.add (((ji61)).toNat * 2)).off + 1,none⟩ = some (.slice A366_1 ((rd_T64 l0_3 (ji61)).f1).length c366_1)) (ds:=[]) #[fF,fF,fF,fF,fF,fF,fF,fF,fF,fF,fF,fF,fF,fF,fF,fF,fF,fF,fF,fF] (by kernel_rfl) rfl rfl ⟨(blk_cell BK364.out 0).trans rfl,(blk_cell BK364.out 1).trans rfl,(blk_cell BK351.out 0).trans rfl,(blk_cell BK351.out 1).trans rfl,(blk_cell BK351.out 2).trans rfl,(blk_cell BK351.out 3).trans rfl,cq HB.out hw366_0,cq HB.out hw366_1⟩ (fun hHeld => ?_);refine with_tabW impl_ValidDrawing.tab12 impl_ValidDrawing.bits12 (fun HT_ HW_ => ?_)
                 generalize w64.drew = w65 at BK351 BK364 HB HR366_1 hx366_0 hx366_1 hHeld ⊢
                 refine pu 0 70 HT_ ?_
                 refine tk 1 71 HT_ HW_ hHeld ?_
                 refine on 2 72 HT_ (fun K hK => ?_)
                 refine goes_ Try.func54 (by kernel_rfl) rfl #[.string ((rd_T64 l0_3 x65_3).f0)] (by rfl) rfl rfl (by (try simp only [mT,mC,mN]);first | done | rfl | (simp only [lD,lT];rfl)) ?_
                 with_reducible refine (impl_IsName.calls k3 ((rd_T64 l0_3 x65_3).f0) true _ A58.out).mono ?_
                 rintro e w' ⟨rfl,⟨nd,rfl⟩⟩
                 refine ⟨_,rfl,?_⟩
                 refine hK.out _ _ ⟨(blk_cell BK364.out 0).trans rfl,(blk_cell BK364.out 1).trans rfl,(blk_cell BK351.out 0).trans rfl,(blk_cell BK351.out 1).trans rfl,(blk_cell BK351.out 2).trans rfl,(blk_cell BK351.out 3).trans rfl,cq HB.out hw366_0,cq HB.out hw366_1⟩ (fun hHeld => ?_)
                 clear hK K
                 refine norm_ (a':=?_) ?_ ?_
                 rotate_left
                 ·show Act.put _ (some 72) _ = _
                  simp only [Act.put,iT,sZ,sC,i64_w,i32_w]
                  rfl
                 refine pu 3 73 HT_ ?_
                 refine pu 4 74 HT_ ?_
                 refine pu 5 75 HT_ ?_
                 refine pu 6 76 HT_ ?_
                 refine pu 7 77 HT_ ?_
                 refine pu 8 78 HT_ ?_
                 refine pu 10 80 HT_ ?_
                 refine pu 11 81 HT_ ?_
                 refine pu 15 85 HT_ ?_
                 refine tk 9 79 HT_ HW_ hHeld ?_
                 refine pu 12 82 HT_ ?_
                 refine pu 13 83 HT_ ?_
                 refine tk 14 84 HT_ HW_ hHeld ?_
                 refine tk 16 86 HT_ HW_ hHeld ?_
                 refine pu 17 87 HT_ ?_
                 refine pu 18 88 HT_ ?_
                 refine pu 19 89 HT_ ?_
                 refine done_ (done_of HT_.out (by kernel_rfl)) ?_
                 try go_wp2
                 go_meet
                 case rel => exact ⟨_,(!(Op.bytesLess (((rd_T64 l0_3 (ji61)).f0).toList) (((rd_T64 l0_3 x65_3).f0).toList))),(by first | rfl | (simp;done) | (simp only [← hji61] <;> (first | rfl | simp)) | (simp [*];done)),H',⟨by have:=HJ1.out;have:=HK2.out;have:=HK3.out;first | omega | exact Nat.le_refl _⟩,⟨by exact bk BK351⟩,⟨by exact bk BK364⟩,⟨ib⟩⟩
                ·rw [if_neg c63] at H
                 exact absurd H (by simp)
               ·rw [if_neg c62] at H
                exact absurd H (by simp)
              ·rw [if_neg c60] at H
               have c60b0 : decide (0 < x65_3) = false:=decide_eq_false c60
               clear c60
               (first | rw [c60b0] | (simp only [i64_w,i32_w];rw [c60b0]) | skip)
               have H':=Aside0.mk H
               clear H
               try go_wp2
               have n0_ : Aside0 (((w55.setCell ⟨gb364,0,none⟩ (.string ((rd_T64 l0_3 x65_3).f0))).setCell ⟨gb364,1,none⟩ (.slice A363_1 ((rd_T64 l0_3 x65_3).f1).length c363_1)).heap[gb351]? = some (.cells #[.int .i64 a0_0,.int .i64 a0_1,.slice A0_2 l0_2.length c0_2,.slice (some ad363) l0_3.length c0_3] 33 (0,0))):=⟨by refine bF NB351_364.out ?_;refine bF NB351_364.out ?_;exact bk BK351⟩
               have n1_ : Aside0 (((w55.setCell ⟨gb364,0,none⟩ (.string ((rd_T64 l0_3 x65_3).f0))).setCell ⟨gb364,1,none⟩ (.slice A363_1 ((rd_T64 l0_3 x65_3).f1).length c363_1)).heap[gb364]? = some (.cells #[.string ((rd_T64 l0_3 x65_3).f0),.slice A363_1 ((rd_T64 l0_3 x65_3).f1).length c363_1] 64 (0,0))):=⟨by refine bP (cs:=#[.string ((rd_T64 l0_3 x65_3).f0),.slice none 0 0]) 1 ?_;refine bP (cs:=#[.string (⟨#[]⟩ : ByteArray),.slice none 0 0]) 0 ?_;exact bk BK364⟩
               have n2_ : Aside0 (Below w.heap.size w ((w55.setCell ⟨gb364,0,none⟩ (.string ((rd_T64 l0_3 x65_3).f0))).setCell ⟨gb364,1,none⟩ (.slice A363_1 ((rd_T64 l0_3 x65_3).f1).length c363_1))):=⟨ib⟩
               (try clear BK351)
               (try clear BK364)
               (try clear HB)
               generalize ((w55.setCell ⟨gb364,0,none⟩ (.string ((rd_T64 l0_3 x65_3).f0))).setCell ⟨gb364,1,none⟩ (.slice A363_1 ((rd_T64 l0_3 x65_3).f1).length c363_1)) = w66 at n0_ n1_ n2_ ⊢
               have BK351:=n0_
               have BK364:=n1_
               have HB:=n2_
               clear n0_ n1_ n2_
               replace BK351:=Aside0.mk (blk_drew BK351.out)
               replace BK364:=Aside0.mk (blk_drew BK364.out)
               replace HB:=Aside0.mk (below_drew1 HB.out)
               refine start_ (n:=20) (S:=fun w' => w'.cell? ⟨gb364,0,none⟩ = some (.string ((rd_T64 l0_3 x65_3).f0)) ∧ w'.cell? ⟨gb364,1,none⟩ = some (.slice A363_1 ((rd_T64 l0_3 x65_3).f1).length c363_1)) (ds:=[]) #[fF,fF,fF,fF,fF,fF,fF,fF,fF,fF,fF,fF,fF,fF,fF,fF,fF,fF,fF,fF] (by kernel_rfl) rfl rfl ⟨(blk_cell BK364.out 0).trans rfl,(blk_cell BK364.out 1).trans rfl⟩ (fun hHeld => ?_);refine with_tabW impl_ValidDrawing.tab12 impl_ValidDrawing.bits12 (fun HT_ HW_ => ?_)
               generalize w66.drew = w67 at BK351 BK364 HB hHeld ⊢
               refine pu 0 70 HT_ ?_
               refine tk 1 71 HT_ HW_ hHeld ?_
               refine on 2 72 HT_ (fun K hK => ?_)
               refine goes_ Try.func54 (by kernel_rfl) rfl #[.string ((rd_T64 l0_3 x65_3).f0)] (by rfl) rfl rfl (by (try simp only [mT,mC,mN]);first | done | rfl | (simp only [lD,lT];rfl)) ?_
               with_reducible refine (impl_IsName.calls k3 ((rd_T64 l0_3 x65_3).f0) true _ A58.out).mono ?_
               rintro e w' ⟨rfl,⟨nd,rfl⟩⟩
               refine ⟨_,rfl,?_⟩
               refine hK.out _ _ ⟨(blk_cell BK364.out 0).trans rfl,(blk_cell BK364.out 1).trans rfl⟩ (fun hHeld => ?_)
               clear hK K
               refine norm_ (a':=?_) ?_ ?_
               rotate_left
               ·show Act.put _ (some 72) _ = _
                simp only [Act.put,iT,sZ,sC,i64_w,i32_w]
                rfl
               refine pu 3 73 HT_ ?_
               refine pu 4 74 HT_ ?_
               refine pu 5 75 HT_ ?_
               refine pu 6 76 HT_ ?_
               refine pu 7 77 HT_ ?_
               refine pd 8 78 HT_ ?_
               refine pd 9 79 HT_ ?_
               refine pd 10 80 HT_ ?_
               refine pd 11 81 HT_ ?_
               refine pd 12 82 HT_ ?_
               refine pd 13 83 HT_ ?_
               refine pd 14 84 HT_ ?_
               refine pd 15 85 HT_ ?_
               refine pd 16 86 HT_ ?_
               refine pd 17 87 HT_ ?_
               refine pu 18 88 HT_ ?_
               refine pu 19 89 HT_ ?_
               refine done_ (done_of HT_.out (by kernel_rfl)) ?_
               try go_wp2
               go_meet
               case rel => exact ⟨_,(false),(by first | rfl | (simp;done) | (simp [*];done)),H',⟨by have:=HJ1.out;have:=HK2.out;have:=HK3.out;first | omega | exact Nat.le_refl _⟩,⟨by exact bk BK351⟩,⟨by exact bk BK364⟩,⟨ib⟩⟩
             ·replace c59:=Bool.eq_false_iff.mpr c59
              subst c59
              have H1 : (impl_ValidDrawing.j3 k3 l0_3 (l0_3.length : Int) x65_3 true a0_0 a0_1 l0_2 l0_3 ((rd_T64 l0_3 x65_3).f0) ((rd_T64 l0_3 x65_3).f1)) = some r:=by rw [if_neg (show ¬ (false = true) by decide)] at H;exact H
              clear H
              have H:=H1
              clear H1
              have H':=Aside0.mk H
              clear H
              try go_wp2
              have n0_ : Aside0 (((w55.setCell ⟨gb364,0,none⟩ (.string ((rd_T64 l0_3 x65_3).f0))).setCell ⟨gb364,1,none⟩ (.slice A363_1 ((rd_T64 l0_3 x65_3).f1).length c363_1)).heap[gb351]? = some (.cells #[.int .i64 a0_0,.int .i64 a0_1,.slice A0_2 l0_2.length c0_2,.slice (some ad363) l0_3.length c0_3] 33 (0,0))):=⟨by refine bF NB351_364.out ?_;refine bF NB351_364.out ?_;exact bk BK351⟩
              have n1_ : Aside0 (((w55.setCell ⟨gb364,0,none⟩ (.string ((rd_T64 l0_3 x65_3).f0))).setCell ⟨gb364,1,none⟩ (.slice A363_1 ((rd_T64 l0_3 x65_3).f1).length c363_1)).heap[gb364]? = some (.cells #[.string ((rd_T64 l0_3 x65_3).f0),.slice A363_1 ((rd_T64 l0_3 x65_3).f1).length c363_1] 64 (0,0))):=⟨by refine bP (cs:=#[.string ((rd_T64 l0_3 x65_3).f0),.slice none 0 0]) 1 ?_;refine bP (cs:=#[.string (⟨#[]⟩ : ByteArray),.slice none 0 0]) 0 ?_;exact bk BK364⟩
              have n2_ : Aside0 (Below w.heap.size w ((w55.setCell ⟨gb364,0,none⟩ (.string ((rd_T64 l0_3 x65_3).f0))).setCell ⟨gb364,1,none⟩ (.slice A363_1 ((rd_T64 l0_3 x65_3).f1).length c363_1))):=⟨ib⟩
              (try clear BK351)
              (try clear BK364)
              (try clear HB)
              generalize ((w55.setCell ⟨gb364,0,none⟩ (.string ((rd_T64 l0_3 x65_3).f0))).setCell ⟨gb364,1,none⟩ (.slice A363_1 ((rd_T64 l0_3 x65_3).f1).length c363_1)) = w68 at n0_ n1_ n2_ ⊢
              have BK351:=n0_
              have BK364:=n1_
              have HB:=n2_
              clear n0_ n1_ n2_
              replace BK351:=Aside0.mk (blk_drew BK351.out)
              replace BK364:=Aside0.mk (blk_drew BK364.out)
              replace HB:=Aside0.mk (below_drew1 HB.out)
              refine start_ (n:=20) (S:=fun w' => w'.cell? ⟨gb364,0,none⟩ = some (.string ((rd_T64 l0_3 x65_3).f0)) ∧ w'.cell? ⟨gb364,1,none⟩ = some (.slice A363_1 ((rd_T64 l0_3 x65_3).f1).length c363_1)) (ds:=[]) #[fF,fF,fF,fF,fF,fF,fF,fF,fF,fF,fF,fF,fF,fF,fF,fF,fF,fF,fF,fF] (by kernel_rfl) rfl rfl ⟨(blk_cell BK364.out 0).trans rfl,(blk_cell BK364.out 1).trans rfl⟩ (fun hHeld => ?_);refine with_tabW impl_ValidDrawing.tab12 impl_ValidDrawing.bits12 (fun HT_ HW_ => ?_)
              generalize w68.drew = w69 at BK351 BK364 HB hHeld ⊢
              refine pu 0 70 HT_ ?_
              refine tk 1 71 HT_ HW_ hHeld ?_
              refine on 2 72 HT_ (fun K hK => ?_)
              refine goes_ Try.func54 (by kernel_rfl) rfl #[.string ((rd_T64 l0_3 x65_3).f0)] (by rfl) rfl rfl (by (try simp only [mT,mC,mN]);first | done | rfl | (simp only [lD,lT];rfl)) ?_
              with_reducible refine (impl_IsName.calls k3 ((rd_T64 l0_3 x65_3).f0) false _ A58.out).mono ?_
              rintro e w' ⟨rfl,⟨nd,rfl⟩⟩
              refine ⟨_,rfl,?_⟩
              refine hK.out _ _ ⟨(blk_cell BK364.out 0).trans rfl,(blk_cell BK364.out 1).trans rfl⟩ (fun hHeld => ?_)
              clear hK K
              refine norm_ (a':=?_) ?_ ?_
              rotate_left
              ·show Act.put _ (some 72) _ = _
               simp only [Act.put,iT,sZ,sC,i64_w,i32_w]
               rfl
              refine pu 3 73 HT_ ?_
              refine pu 4 74 HT_ ?_
              refine pd 5 75 HT_ ?_
              refine pd 6 76 HT_ ?_
              refine pd 7 77 HT_ ?_
              refine pd 8 78 HT_ ?_
              refine pd 9 79 HT_ ?_
              refine pd 10 80 HT_ ?_
              refine pd 11 81 HT_ ?_
              refine pd 12 82 HT_ ?_
              refine pd 13 83 HT_ ?_
              refine pd 14 84 HT_ ?_
              refine pd 15 85 HT_ ?_
              refine pd 16 86 HT_ ?_
              refine pd 17 87 HT_ ?_
              refine pd 18 88 HT_ ?_
              refine pu 19 89 HT_ ?_
              refine done_ (done_of HT_.out (by kernel_rfl)) ?_
              try go_wp2
              go_meet
              case rel => exact ⟨_,(true),(by first | rfl | (simp;done) | (simp [*];done)),H',⟨by have:=HJ1.out;have:=HK2.out;have:=HK3.out;first | omega | exact Nat.le_refl _⟩,⟨by exact bk BK351⟩,⟨by exact bk BK364⟩,⟨ib⟩⟩
            case rest =>
             clear HC54
             try clear p2
             try clear c3
             try clear p3
             try clear q3
             try clear hx3
             try clear c5
             try clear c6
             try clear p6
             try clear p35
             try clear q35
             try clear hx35
             try clear c36
             try clear p36
             try clear q36
             try clear hx36
             try clear q38
             try clear c51
             try clear c51b0
             try clear c52
             try clear c52b0
             try clear c53
             try clear c53b0
             try clear c54
             try clear c56
             try clear c59
             try clear c60
             try clear c60b0
             try clear c62
             try clear c62b0
             try clear c63
             try clear c63b0
             try clear p64
             try clear hcz47_0
             try clear hcz47_1
             try clear hcz50_0
             try clear hcz50_1
             try clear hcz50_2
             try clear hcz50_3
             try clear hcz57_0
             try clear hcz57_1
             try clear hfz42_0
             try clear hfz42_1
             try clear hfz47_0
             try clear hfz47_1
             try clear hfz50_0
             try clear hfz50_1
             try clear hfz50_2
             try clear hfz50_3
             try clear hfz57_0
             try clear hfz57_1
             try clear hx354_0
             try clear hx354_1
             try clear hx363_0
             try clear hx363_1
             try clear hx366_0
             try clear hx366_1
             try clear p354
             try clear p363
             try clear p366
             try clear q354
             try clear q363
             try clear q366
             try clear q38
             obtain ⟨kq,x89_53,rfl,HA,HJ53,BK351,BK364,HB⟩:=hcut
             cases kq with
             | zero => exact absurd HA.out (by simp [impl_ValidDrawing.j3])
             | succ kj53 =>
              have H:=HA.out
              clear HA
              simp only [impl_ValidDrawing.j3] at H
              by_cases c70 : x89_53 = true
              ·subst c70
               have H1 : (some false) = some r:=by rw [if_pos rfl] at H;exact H
               clear H
               have H:=H1
               clear H1
               obtain rfl:=Option.some.inj H
               go_wp2
               go_ret
               exact ⟨by first | rfl | (simp [errW_none,errW_some] <;> rfl) | (simp [*,errW_none,errW_some] <;> rfl),ib⟩
              ·replace c70:=Bool.eq_false_iff.mpr c70
               subst c70
               have H1 : ((impl_ringPolygon.f kj53 l0_2 ((rd_T64 l0_3 x65_3).f1)).bind fun bt367 => (if bt367.2 = true then ((impl_ValidPolygon.f kj53 bt367.1).bind fun t371 => (if t371 = true then (impl_ValidDrawing.l1 kj53 l0_3 (l0_3.length : Int) (wrap64 (x65_3 + 1)) a0_0 a0_1 l0_2 l0_3) else (some false))) else (some false))) = some r:=by rw [if_neg (show ¬ (false = true) by decide)] at H;exact H
               clear H
               have H:=H1
               clear H1
               replace H:=bE.mp H
               obtain ⟨⟨t367,t368⟩,A710,H⟩:=H
               replace H : (if t368 = true then ((impl_ValidPolygon.f kj53 t367).bind fun t371 => (if t371 = true then (impl_ValidDrawing.l1 kj53 l0_3 (l0_3.length : Int) (wrap64 (x65_3 + 1)) a0_0 a0_1 l0_2 l0_3) else (some false))) else (some false)) = some r:=H
               have A71:=Aside0.mk A710
               clear A710
               by_cases c72 : t368 = true
               ·subst c72
                have H1 : ((impl_ValidPolygon.f kj53 t367).bind fun t371 => (if t371 = true then (impl_ValidDrawing.l1 kj53 l0_3 (l0_3.length : Int) (wrap64 (x65_3 + 1)) a0_0 a0_1 l0_2 l0_3) else (some false))) = some r:=by rw [if_pos rfl] at H;exact H
                clear H
                have H:=H1
                clear H1
                replace H:=bE.mp H
                obtain ⟨t371,A730,H⟩:=H
                replace H : (if t371 = true then (impl_ValidDrawing.l1 kj53 l0_3 (l0_3.length : Int) (wrap64 (x65_3 + 1)) a0_0 a0_1 l0_2 l0_3) else (some false)) = some r:=H
                have A73:=Aside0.mk A730
                clear A730
                by_cases c74 : t371 = true
                ·subst c74
                 have H1 : (impl_ValidDrawing.l1 kj53 l0_3 (l0_3.length : Int) (wrap64 (x65_3 + 1)) a0_0 a0_1 l0_2 l0_3) = some r:=by rw [if_pos rfl] at H;exact H
                 clear H
                 have H:=H1
                 clear H1
                 have H':=Aside0.mk H
                 clear H
                 have hnb75:=NB351_364.out
                 have hnc75:=NB364_351.out
                 have hcz76_0 : wc.cell? ⟨gb351,0,none⟩ = some (.int .i64 a0_0):=(blk_cell BK351.out 0).trans rfl
                 have hcz76_1 : wc.cell? ⟨gb351,1,none⟩ = some (.int .i64 a0_1):=(blk_cell BK351.out 1).trans rfl
                 have hcz76_2 : wc.cell? ⟨gb351,2,none⟩ = some (.slice A0_2 l0_2.length c0_2):=(blk_cell BK351.out 2).trans rfl
                 have hcz76_3 : wc.cell? ⟨gb351,3,none⟩ = some (.slice (some ad363) l0_3.length c0_3):=(blk_cell BK351.out 3).trans rfl
                 have hfz76_0:=blk_frozen BK351.out 0
                 have hfz76_1:=blk_frozen BK351.out 1
                 have hfz76_2:=blk_frozen BK351.out 2
                 have hfz76_3:=blk_frozen BK351.out 3
                 have hcz77_0 : wc.cell? ⟨gb364,0,none⟩ = some (.string ((rd_T64 l0_3 x65_3).f0)):=(blk_cell BK364.out 0).trans rfl
                 have hcz77_1 : wc.cell? ⟨gb364,1,none⟩ = some (.slice A363_1 ((rd_T64 l0_3 x65_3).f1).length c363_1):=(blk_cell BK364.out 1).trans rfl
                 have hfz77_0:=blk_frozen BK364.out 0
                 have hfz77_1:=blk_frozen BK364.out 1
                 go_wp2_with (first | ((with_reducible refine gate_callee (f:=55) rfl ?_);refine goesL_ (some 95) rfl rfl Try.func55 (by kernel_rfl) rfl #[.slice A0_2 l0_2.length c0_2,.slice A363_1 ((rd_T64 l0_3 x65_3).f1).length c363_1] rfl (by (try simp only [mT,mC,mN]);first | done | rfl | (simp only [lD,lT];rfl)) ?_;(with_reducible refine (impl_ringPolygon.calls kj53 _ _ l0_2 _ _ ((rd_T64 l0_3 x65_3).f1) t367 true _ ?side1 ?side2 ?side3 ?side4 A71.out).mono ?_);(case side1 => repeat (first | exact (Kd.C_below HR0_2.out HB.out) | exact HR0_2.out | (with_reducible refine Kd.C_alloc ?_ _) | (with_reducible refine Kd.C_drewN ?_ _) | (with_reducible refine Kd.C_drew ?_)));(case side2 => exact HC0_2.out);(case side3 => repeat (first | exact (Kd.C_below HR363_1.out HB.out) | exact HR363_1.out | (with_reducible refine Kd.C_alloc ?_ _) | (with_reducible refine Kd.C_drewN ?_ _) | (with_reducible refine Kd.C_drew ?_)));(case side4 => exact HC363_1.out);rintro e w78 ⟨v369,rfl,ho0,hb⟩;refine ⟨_,rfl,?_⟩;have HO370:=Aside0.mk (Kd.R_lower ho0 (below_size ib));replace BK351:=kb BK351 hb;replace BK364:=kb BK364 hb;replace HB:=sb hb;(try clear hb);(try clear hb2);(try clear hk);(try clear hi);(try clear ho0);obtain ⟨Ao79,co79,eo79⟩:=Kd.R_slice HO370.out;subst eo79) | (go_at_call 56;(with_reducible refine (impl_ValidPolygon.calls kj53 _ _ t367 true _ ?side1 ?side2 A73.out).mono ?_);(case side1 => exact cO ((Kd.R_reads' HO370.out).2.2));(case side2 => exact (Kd.R_reads' HO370.out).2.1);rintro e w80 ⟨rfl,hb⟩;replace HO370:=Aside0.mk (Kd.R_below (rO HO370.out) hb);replace BK351:=kb BK351 hb;replace BK364:=kb BK364 hb;replace HB:=sb hb;(try clear hb);(try clear hb2);(try clear hk);(try clear hi)))
                 go_roundg kj53
                 case measure => have:=HJ1.out;have:=HK2.out;have:=HK3.out;have:=HJ53.out;omega
                 case rel => exact ⟨(wrap64 (x65_3 + 1)),(by first | rfl | (simp;done) | (simp [*];done)),H',⟨by have:=HJ1.out;have:=HK2.out;have:=HK3.out;have:=HJ53.out;omega⟩,⟨by exact bk BK351⟩,⟨ib⟩⟩
                ·replace c74:=Bool.eq_false_iff.mpr c74
                 subst c74
                 have H1 : (some false) = some r:=by rw [if_neg (show ¬ (false = true) by decide)] at H;exact H
                 clear H
                 have H:=H1
                 clear H1
                 obtain rfl:=Option.some.inj H
                 have hnb81:=NB351_364.out
                 have hnc81:=NB364_351.out
                 have hcz82_0 : wc.cell? ⟨gb351,0,none⟩ = some (.int .i64 a0_0):=(blk_cell BK351.out 0).trans rfl
                 have hcz82_1 : wc.cell? ⟨gb351,1,none⟩ = some (.int .i64 a0_1):=(blk_cell BK351.out 1).trans rfl
                 have hcz82_2 : wc.cell? ⟨gb351,2,none⟩ = some (.slice A0_2 l0_2.length c0_2):=(blk_cell BK351.out 2).trans rfl
                 have hcz82_3 : wc.cell? ⟨gb351,3,none⟩ = some (.slice (some ad363) l0_3.length c0_3):=(blk_cell BK351.out 3).trans rfl
                 have hfz82_0:=blk_frozen BK351.out 0
                 have hfz82_1:=blk_frozen BK351.out 1
                 have hfz82_2:=blk_frozen BK351.out 2
                 have hfz82_3:=blk_frozen BK351.out 3
                 have hcz83_0 : wc.cell? ⟨gb364,0,none⟩ = some (.string ((rd_T64 l0_3 x65_3).f0)):=(blk_cell BK364.out 0).trans rfl
                 have hcz83_1 : wc.cell? ⟨gb364,1,none⟩ = some (.slice A363_1 ((rd_T64 l0_3 x65_3).f1).length c363_1):=(blk_cell BK364.out 1).trans rfl
                 have hfz83_0:=blk_frozen BK364.out 0
                 have hfz83_1:=blk_frozen BK364.out 1
                 go_wp2_with (first | ((with_reducible refine gate_callee (f:=55) rfl ?_);refine goesL_ (some 95) rfl rfl Try.func55 (by kernel_rfl) rfl #[.slice A0_2 l0_2.length c0_2,.slice A363_1 ((rd_T64 l0_3 x65_3).f1).length c363_1] rfl (by (try simp only [mT,mC,mN]);first | done | rfl | (simp only [lD,lT];rfl)) ?_;(with_reducible refine (impl_ringPolygon.calls kj53 _ _ l0_2 _ _ ((rd_T64 l0_3 x65_3).f1) t367 true _ ?side1 ?side2 ?side3 ?side4 A71.out).mono ?_);(case side1 => repeat (first | exact (Kd.C_below HR0_2.out HB.out) | exact HR0_2.out | (with_reducible refine Kd.C_alloc ?_ _) | (with_reducible refine Kd.C_drewN ?_ _) | (with_reducible refine Kd.C_drew ?_)));(case side2 => exact HC0_2.out);(case side3 => repeat (first | exact (Kd.C_below HR363_1.out HB.out) | exact HR363_1.out | (with_reducible refine Kd.C_alloc ?_ _) | (with_reducible refine Kd.C_drewN ?_ _) | (with_reducible refine Kd.C_drew ?_)));(case side4 => exact HC363_1.out);rintro e w84 ⟨v369,rfl,ho0,hb⟩;refine ⟨_,rfl,?_⟩;have HO370:=Aside0.mk (Kd.R_lower ho0 (below_size ib));replace BK351:=kb BK351 hb;replace BK364:=kb BK364 hb;replace HB:=sb hb;(try clear hb);(try clear hb2);(try clear hk);(try clear hi);(try clear ho0);obtain ⟨Ao85,co85,eo85⟩:=Kd.R_slice HO370.out;subst eo85) | (go_at_call 56;(with_reducible refine (impl_ValidPolygon.calls kj53 _ _ t367 false _ ?side1 ?side2 A73.out).mono ?_);(case side1 => exact cO ((Kd.R_reads' HO370.out).2.2));(case side2 => exact (Kd.R_reads' HO370.out).2.1);rintro e w86 ⟨rfl,hb⟩;replace HO370:=Aside0.mk (Kd.R_below (rO HO370.out) hb);replace BK351:=kb BK351 hb;replace BK364:=kb BK364 hb;replace HB:=sb hb;(try clear hb);(try clear hb2);(try clear hk);(try clear hi)))
                 go_ret
                 exact ⟨by first | rfl | (simp [errW_none,errW_some] <;> rfl) | (simp [*,errW_none,errW_some] <;> rfl),ib⟩
               ·replace c72:=Bool.eq_false_iff.mpr c72
                subst c72
                have H1 : (some false) = some r:=by rw [if_neg (show ¬ (false = true) by decide)] at H;exact H
                clear H
                have H:=H1
                clear H1
                obtain rfl:=Option.some.inj H
                have hnb87:=NB351_364.out
                have hnc87:=NB364_351.out
                have hcz88_0 : wc.cell? ⟨gb351,0,none⟩ = some (.int .i64 a0_0):=(blk_cell BK351.out 0).trans rfl
                have hcz88_1 : wc.cell? ⟨gb351,1,none⟩ = some (.int .i64 a0_1):=(blk_cell BK351.out 1).trans rfl
                have hcz88_2 : wc.cell? ⟨gb351,2,none⟩ = some (.slice A0_2 l0_2.length c0_2):=(blk_cell BK351.out 2).trans rfl
                have hcz88_3 : wc.cell? ⟨gb351,3,none⟩ = some (.slice (some ad363) l0_3.length c0_3):=(blk_cell BK351.out 3).trans rfl
                have hfz88_0:=blk_frozen BK351.out 0
                have hfz88_1:=blk_frozen BK351.out 1
                have hfz88_2:=blk_frozen BK351.out 2
                have hfz88_3:=blk_frozen BK351.out 3
                have hcz89_0 : wc.cell? ⟨gb364,0,none⟩ = some (.string ((rd_T64 l0_3 x65_3).f0)):=(blk_cell BK364.out 0).trans rfl
                have hcz89_1 : wc.cell? ⟨gb364,1,none⟩ = some (.slice A363_1 ((rd_T64 l0_3 x65_3).f1).length c363_1):=(blk_cell BK364.out 1).trans rfl
                have hfz89_0:=blk_frozen BK364.out 0
                have hfz89_1:=blk_frozen BK364.out 1
                go_wp2_with (first | ((with_reducible refine gate_callee (f:=55) rfl ?_);refine goesL_ (some 95) rfl rfl Try.func55 (by kernel_rfl) rfl #[.slice A0_2 l0_2.length c0_2,.slice A363_1 ((rd_T64 l0_3 x65_3).f1).length c363_1] rfl (by (try simp only [mT,mC,mN]);first | done | rfl | (simp only [lD,lT];rfl)) ?_;(with_reducible refine (impl_ringPolygon.calls kj53 _ _ l0_2 _ _ ((rd_T64 l0_3 x65_3).f1) t367 false _ ?side1 ?side2 ?side3 ?side4 A71.out).mono ?_);(case side1 => repeat (first | exact (Kd.C_below HR0_2.out HB.out) | exact HR0_2.out | (with_reducible refine Kd.C_alloc ?_ _) | (with_reducible refine Kd.C_drewN ?_ _) | (with_reducible refine Kd.C_drew ?_)));(case side2 => exact HC0_2.out);(case side3 => repeat (first | exact (Kd.C_below HR363_1.out HB.out) | exact HR363_1.out | (with_reducible refine Kd.C_alloc ?_ _) | (with_reducible refine Kd.C_drewN ?_ _) | (with_reducible refine Kd.C_drew ?_)));(case side4 => exact HC363_1.out);rintro e w90 ⟨v369,rfl,ho0,hb⟩;refine ⟨_,rfl,?_⟩;have HO370:=Aside0.mk (Kd.R_lower ho0 (below_size ib));replace BK351:=kb BK351 hb;replace BK364:=kb BK364 hb;replace HB:=sb hb;(try clear hb);(try clear hb2);(try clear hk);(try clear hi);(try clear ho0)))
                go_ret
                exact ⟨by first | rfl | (simp [errW_none,errW_some] <;> rfl) | (simp [*,errW_none,errW_some] <;> rfl),ib⟩
           ·first | (exfalso;have z_:=of_decide_eq_true c51b0;omega) | (rw [if_neg c53] at H;exact absurd H (by simp))
          ·rw [if_neg c52] at H
           exact absurd H (by simp)
         ·rw [if_neg c51] at H
          have c51b0 : decide (x65_3 < (l0_3.length : Int)) = false:=decide_eq_false c51
          clear c51
          obtain rfl:=Option.some.inj H
          go_wp2
          go_ret
          exact ⟨by first | rfl | (simp [errW_none,errW_some] <;> rfl) | (simp [*,errW_none,errW_some] <;> rfl),ib⟩
end Go.Proofs.Ytpeebobdbaemiaa.PFnExactEdgesOf
