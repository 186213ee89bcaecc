/- Contracts of functions that FnExactEdgesOf reaches, out of the lines of the kit's print. -/
import Derived.Test.YtpeebobdbaemiaaQFnExactEdgesOfx0
import Derived.Test.YtpeebobdbaemiaaQFnExactEdgesOfx6
import Derived.Test.YtpeebobdbaemiaaQFnExactEdgesOfx7
import Derived.Test.YtpeebobdbaemiaaQFnExactEdgesOfx10
namespace Go.Proofs.Ytpeebobdbaemiaa.PFnExactEdgesOf
set_option maxHeartbeats 8000000
set_option maxRecDepth 100000
open Go.RowKit Go.Proofs.YtpeebobdbaemiaaW.PrintWords Go.Proofs.YtpeebobdbaemiaaW.PrintLast Go.Proofs.YtpeebobdbaemiaaW.PrintMore
open Bool renaming true → tT, false → fF
open Go.World renaming block_lt_of_cell? → bL
open List renaming map_toArray → mT, map_cons → mC, map_nil → mN
open Option renaming bind_eq_some_iff → bE
attribute [local go_sem] max2_int min2_int max_two min_two max_three min_three max_four min_four
set_option linter.unusedVariables false
set_option linter.unusedSimpArgs false
mutual
def spec_l05Ok.j0 : Nat → Bool → Int → Int → List (S78) → List (S64) → Option (Bool × Int × Int)
 | 0,_,_,_,_,_ => none
 | k + 1,x32,x1000,x1001,x1002,x1003 => if x32 = true then (some (false,x1000,x1001)) else (spec_l05Ok.l0 k 0 x1000 x1001 x1002 x1003)
def spec_l05Ok.l0 : Nat → Int → Int → Int → List (S78) → List (S64) → Option (Bool × Int × Int)
 | 0,_,_,_,_,_ => none
 | k + 1,x3,x1000,x1001,x1002,x1003 => if x3 < (x1003.length : Int) then (if 0 ≤ x3 then ((spec_l01Name.f k ((rd_T64 x1003 x3).f0)).bind fun t250 => (if t250 = true then (if x3 > 0 then (if 0 ≤ (wrap64 (x3 - 1)) then (if (wrap64 (x3 - 1)) < (x1003.length : Int) then (spec_l05Ok.j2 k x3 (!(Op.bytesLess (((rd_T64 x1003 (wrap64 (x3 - 1))).f0).toList) (((rd_T64 x1003 x3).f0).toList))) x1000 x1001 x1002 x1003) else (none)) else (none)) else (spec_l05Ok.j2 k x3 false x1000 x1001 x1002 x1003)) else (spec_l05Ok.j2 k x3 true x1000 x1001 x1002 x1003))) else (none)) else (some (true,x1000,x1001))
def spec_l05Ok.j2 : Nat → Int → Bool → Int → Int → List (S78) → List (S64) → Option (Bool × Int × Int)
 | 0,_,_,_,_,_,_ => none
 | k + 1,x3,x75,x1000,x1001,x1002,x1003 => if x75 = true then (some (false,x1000,x1001)) else (if 0 ≤ x3 then (if x3 < (x1003.length : Int) then ((spec_l05Ring.f k x1000 x1001 x1002 x1003 ((rd_T64 x1003 x3).f1)).bind fun bt254 => (if bt254.2.1 = true then ((spec_l03Ok.f k bt254.1).bind fun t260 => (if t260 = true then (spec_l05Ok.l0 k (wrap64 (x3 + 1)) bt254.2.2.1 bt254.2.2.2 x1002 x1003) else (some (false,bt254.2.2.1,bt254.2.2.2)))) else (some (false,bt254.2.2.1,bt254.2.2.2)))) else (none)) else (none))
end
def spec_l05Ok.f (k : Nat) (s0_0 : Int) (s0_1 : Int) (s0_2 : List (S78)) (s0_3 : List (S64)) : Option (Bool × Int × Int):=(spec_l00In.f s0_0 10 20000).bind fun t244 => (if t244 = true then ((spec_l00In.f s0_1 10 20000).bind fun t245 => (if t245 = true then ((spec_l05Points.f k s0_0 s0_1 s0_2 s0_3).bind fun bt246 => (if bt246.1 = true then (spec_l05Ok.j0 k (decide ((s0_3.length : Int) > 24)) bt246.2.1 bt246.2.2 s0_2 s0_3) else (spec_l05Ok.j0 k true bt246.2.1 bt246.2.2 s0_2 s0_3))) else (spec_l05Ok.j0 k true s0_0 s0_1 s0_2 s0_3))) else (spec_l05Ok.j0 k true s0_0 s0_1 s0_2 s0_3))
theorem spec_l05Ok.calls (k : Nat) (g : Nat) (s0_0 : Int) (s0_1 : Int) (s0_2 : List (S78)) (s0_3 : List (S64)) (r1 : Bool) (r2 : Int) (r3 : Int) (w0 w : World) (hI : IsS33 w0 w g s0_0 s0_1 s0_2 s0_3) (hB : Below w0.heap.size w0 w) (h : spec_l05Ok.f k s0_0 s0_1 s0_2 s0_3 = some (r1,r2,r3)) :
  Calls Try.prog 21 #[.pointer (some ⟨g,0,none⟩)] w fun e w' => e = .returned (.bool r1) ∧ IsS33 w0 w' g r2 r3 s0_2 s0_3 ∧ Below w0.heap.size w0 w' ∧ KeepBut w w' g none:=by
 have HI0:=Aside0.mk hI
 have HK:=Aside0.mk (KeepBut.refl w g none)
 have HL:=Aside0.mk hB.size
 clear hI
 have HW0:=Aside0.mk hB.size
 have HB:=Aside0.mk hB
 clear hB
 have H : ((spec_l00In.f s0_0 10 20000).bind fun t244 => (if t244 = true then ((spec_l00In.f s0_1 10 20000).bind fun t245 => (if t245 = true then ((spec_l05Points.f k s0_0 s0_1 s0_2 s0_3).bind fun bt246 => (if bt246.1 = true then (spec_l05Ok.j0 k (decide ((s0_3.length : Int) > 24)) bt246.2.1 bt246.2.2 s0_2 s0_3) else (spec_l05Ok.j0 k true bt246.2.1 bt246.2.2 s0_2 s0_3))) else (spec_l05Ok.j0 k true s0_0 s0_1 s0_2 s0_3))) else (spec_l05Ok.j0 k true s0_0 s0_1 s0_2 s0_3))) = some (r1,r2,r3):=h
 clear h
 obtain ⟨A2,c2,A3,c3,hblk,hge,hr2,hr3⟩:=HI0.out
 have q0 : w.cell? ⟨g,0,none⟩ = some (.int .i64 s0_0):=cellS33_0 hblk
 have q1 : w.cell? ⟨g,1,none⟩ = some (.int .i64 s0_1):=cellS33_1 hblk
 clear hblk hge hr2 hr3 A2 c2 A3 c3
 replace H:=bE.mp H
 obtain ⟨t1,A10,H⟩:=H
 have A1_:=Aside0.mk A10
 clear A10
 have zero : ∀ (b : Bool) (y : Int) (z : Int),spec_l05Ok.j0 0 b y z s0_2 s0_3 = some (r1,r2,r3) → False:=fun b y z h => by simp [spec_l05Ok.j0] at h
 have one : ∀ (k : Nat) (y : Int) (z : Int),spec_l05Ok.j0 k true y z s0_2 s0_3 = some (r1,r2,r3) → r1 = false ∧ r2 = y ∧ r3 = z:=fun k y z h => by
  cases k with
  | zero => exact (zero _ _ _ h).elim
  | succ k => simp only [spec_l05Ok.j0,if_true,Option.some.injEq,Prod.mk.injEq] at h;exact ⟨h.1.symm,h.2.1.symm,h.2.2.symm⟩
 cases t1 with
 | false =>
  replace H:=(show (spec_l05Ok.j0 k true s0_0 s0_1 s0_2 s0_3) = some (r1,r2,r3) from by first | exact H | simpa using H)
  obtain ⟨rfl,rfl,rfl⟩:=one _ _ _ H
  clear zero one H
  go_enter Try.func21,Try.ntmps21
  go_wp2_with (first | ((with_reducible refine gate_callee (f:=38) rfl ?_);refine goesL_ (some 10) rfl rfl Try.func38 (by kernel_rfl) rfl #[.int .i64 s0_0,.int .i64 10,.int .i64 20000] rfl (by (try simp only [mT,mC,mN]);first | done | rfl) ?_;(with_reducible refine (spec_l00In.calls _ _ _ _ _ A1_.out).mono ?_);rintro e w5 ⟨rfl,⟨nd,rfl⟩⟩;refine ⟨_,rfl,?_⟩) | (go_at_call 38;(with_reducible refine (spec_l00In.calls _ _ _ _ _ A1_.out).mono ?_);rintro e w5 ⟨rfl,⟨nd,rfl⟩⟩))
  go_ret
  exact ⟨(by first | rfl | (simp;done) | (simp [*];done)),(by repeat (first | exact HI0.out | apply IsS33.drewN | apply IsS33.drew)),(by repeat (first | exact HB.out | apply pw_below_drewN | apply below_drew1)),(by repeat (first | exact HK.out | apply keep_drewN | apply keep_drew))⟩
 | true =>
  replace H:=(show ((spec_l00In.f s0_1 10 20000).bind fun t239 => (if t239 = true then ((spec_l05Points.f k s0_0 s0_1 s0_2 s0_3).bind fun bt240 => (if bt240.1 = true then (spec_l05Ok.j0 k (decide ((s0_3.length : Int) > 24)) bt240.2.1 bt240.2.2 s0_2 s0_3) else (spec_l05Ok.j0 k true bt240.2.1 bt240.2.2 s0_2 s0_3))) else (spec_l05Ok.j0 k true s0_0 s0_1 s0_2 s0_3))) = some (r1,r2,r3) from by first | exact H | simpa using H)
  replace H:=bE.mp H
  obtain ⟨t2,A20,H⟩:=H
  have A2_:=Aside0.mk A20
  clear A20
  cases t2 with
  | false =>
   replace H:=(show (spec_l05Ok.j0 k true s0_0 s0_1 s0_2 s0_3) = some (r1,r2,r3) from by first | exact H | simpa using H)
   obtain ⟨rfl,rfl,rfl⟩:=one _ _ _ H
   clear zero one H
   go_enter Try.func21,Try.ntmps21
   go_wp2_with (first | ((with_reducible refine gate_callee (f:=38) rfl ?_);refine goesL_ (some 10) rfl rfl Try.func38 (by kernel_rfl) rfl #[.int .i64 s0_0,.int .i64 10,.int .i64 20000] rfl (by (try simp only [mT,mC,mN]);first | done | rfl) ?_;(with_reducible refine (spec_l00In.calls _ _ _ _ _ A1_.out).mono ?_);rintro e w5 ⟨rfl,⟨nd,rfl⟩⟩;refine ⟨_,rfl,?_⟩) | (go_at_call 38;(with_reducible refine (spec_l00In.calls _ _ _ _ _ A1_.out).mono ?_);rintro e w5 ⟨rfl,⟨nd,rfl⟩⟩) | ((with_reducible refine gate_callee (f:=38) rfl ?_);refine goesL_ (some 17) rfl rfl Try.func38 (by kernel_rfl) rfl #[.int .i64 s0_1,.int .i64 10,.int .i64 20000] rfl (by (try simp only [mT,mC,mN]);first | done | rfl) ?_;(with_reducible refine (spec_l00In.calls _ _ _ _ _ A2_.out).mono ?_);rintro e w5 ⟨rfl,⟨nd,rfl⟩⟩;refine ⟨_,rfl,?_⟩) | (go_at_call 38;(with_reducible refine (spec_l00In.calls _ _ _ _ _ A2_.out).mono ?_);rintro e w5 ⟨rfl,⟨nd,rfl⟩⟩))
   go_ret
   exact ⟨(by first | rfl | (simp;done) | (simp [*];done)),(by repeat (first | exact HI0.out | apply IsS33.drewN | apply IsS33.drew)),(by repeat (first | exact HB.out | apply pw_below_drewN | apply below_drew1)),(by repeat (first | exact HK.out | apply keep_drewN | apply keep_drew))⟩
  | true =>
   replace H:=(show ((spec_l05Points.f k s0_0 s0_1 s0_2 s0_3).bind fun bt240 => (if bt240.1 = true then (spec_l05Ok.j0 k (decide ((s0_3.length : Int) > 24)) bt240.2.1 bt240.2.2 s0_2 s0_3) else (spec_l05Ok.j0 k true bt240.2.1 bt240.2.2 s0_2 s0_3))) = some (r1,r2,r3) from by first | exact H | simpa using H)
   replace H:=bE.mp H
   obtain ⟨⟨t3,a0,a1⟩,A30,H⟩:=H
   have A3_:=Aside0.mk A30
   clear A30
   cases t3 with
   | false =>
    replace H:=(show (spec_l05Ok.j0 k true a0 a1 s0_2 s0_3) = some (r1,r2,r3) from by first | exact H | simpa using H)
    obtain ⟨rfl,rfl,rfl⟩:=one _ _ _ H
    clear zero one H
    go_enter Try.func21,Try.ntmps21
    go_wp2_with (first | ((with_reducible refine gate_callee (f:=38) rfl ?_);refine goesL_ (some 10) rfl rfl Try.func38 (by kernel_rfl) rfl #[.int .i64 s0_0,.int .i64 10,.int .i64 20000] rfl (by (try simp only [mT,mC,mN]);first | done | rfl) ?_;(with_reducible refine (spec_l00In.calls _ _ _ _ _ A1_.out).mono ?_);rintro e w5 ⟨rfl,⟨nd,rfl⟩⟩;refine ⟨_,rfl,?_⟩) | (go_at_call 38;(with_reducible refine (spec_l00In.calls _ _ _ _ _ A1_.out).mono ?_);rintro e w5 ⟨rfl,⟨nd,rfl⟩⟩) | ((with_reducible refine gate_callee (f:=38) rfl ?_);refine goesL_ (some 17) rfl rfl Try.func38 (by kernel_rfl) rfl #[.int .i64 s0_1,.int .i64 10,.int .i64 20000] rfl (by (try simp only [mT,mC,mN]);first | done | rfl) ?_;(with_reducible refine (spec_l00In.calls _ _ _ _ _ A2_.out).mono ?_);rintro e w5 ⟨rfl,⟨nd,rfl⟩⟩;refine ⟨_,rfl,?_⟩) | (go_at_call 38;(with_reducible refine (spec_l00In.calls _ _ _ _ _ A2_.out).mono ?_);rintro e w5 ⟨rfl,⟨nd,rfl⟩⟩) | ((with_reducible refine gate_callee (f:=39) rfl ?_);refine goesL_ (some 22) rfl rfl Try.func39 (by kernel_rfl) rfl #[.pointer (some ⟨g,0,none⟩)] rfl (by (try simp only [mT,mC,mN]);first | done | rfl) ?_;(with_reducible refine (spec_l05Points.calls _ g s0_0 s0_1 s0_2 s0_3 _ _ _ w0 _ (by repeat (first | exact HI0.out | apply IsS33.drewN | apply IsS33.drew)) (by repeat (first | exact HB.out | apply pw_below_drewN | apply below_drew1)) A3_.out).mono ?_);rintro e w5 ⟨rfl,hi,hb,hk⟩;refine ⟨_,rfl,?_⟩;have n0_:=Aside0.mk hi;have n1_:=Aside0.mk hb;have n2_ : Aside0 (KeepBut w w5 g none):=⟨KeepBut.trans (by repeat (first | exact HK.out | apply keep_drewN | apply keep_drew)) hk (.inl rfl)⟩;clear hi hb hk HI0 HB HK;have HI0:=n0_;have HB:=n1_;have HK:=n2_;clear n0_ n1_ n2_;obtain ⟨A2,c2,A3,c3,hblk,hge,hr2,hr3⟩:=HI0.out;have q3 : w5.cell? ⟨g,3,none⟩ = _:=cellS33_3 hblk;clear hblk hge hr2 hr3) | (go_at_call 39;(with_reducible refine (spec_l05Points.calls _ g s0_0 s0_1 s0_2 s0_3 _ _ _ w0 _ (by repeat (first | exact HI0.out | apply IsS33.drewN | apply IsS33.drew)) (by repeat (first | exact HB.out | apply pw_below_drewN | apply below_drew1)) A3_.out).mono ?_);rintro e w5 ⟨rfl,hi,hb,hk⟩;have n0_:=Aside0.mk hi;have n1_:=Aside0.mk hb;have n2_ : Aside0 (KeepBut w w5 g none):=⟨KeepBut.trans (by repeat (first | exact HK.out | apply keep_drewN | apply keep_drew)) hk (.inl rfl)⟩;clear hi hb hk HI0 HB HK;have HI0:=n0_;have HB:=n1_;have HK:=n2_;clear n0_ n1_ n2_;obtain ⟨A2,c2,A3,c3,hblk,hge,hr2,hr3⟩:=HI0.out;have q3 : w5.cell? ⟨g,3,none⟩ = _:=cellS33_3 hblk;clear hblk hge hr2 hr3))
    go_ret
    exact ⟨(by first | rfl | (simp;done) | (simp [*];done)),(by repeat (first | exact HI0.out | apply IsS33.drewN | apply IsS33.drew)),(by repeat (first | exact HB.out | apply pw_below_drewN | apply below_drew1)),(by repeat (first | exact HK.out | apply keep_drewN | apply keep_drew))⟩
   | true =>
    replace H:=(show (spec_l05Ok.j0 k (decide ((s0_3.length : Int) > 24)) a0 a1 s0_2 s0_3) = some (r1,r2,r3) from by first | exact H | simpa using H)
    by_cases c1 : (s0_3.length : Int) > 24
    ·have c1b : decide (24 < (s0_3.length : Int)) = true:=decide_eq_true c1
     rw [decide_eq_true c1] at H
     obtain ⟨rfl,rfl,rfl⟩:=one _ _ _ H
     clear zero one H c1
     go_enter Try.func21,Try.ntmps21
     go_wp2_with (first | ((with_reducible refine gate_callee (f:=38) rfl ?_);refine goesL_ (some 10) rfl rfl Try.func38 (by kernel_rfl) rfl #[.int .i64 s0_0,.int .i64 10,.int .i64 20000] rfl (by (try simp only [mT,mC,mN]);first | done | rfl) ?_;(with_reducible refine (spec_l00In.calls _ _ _ _ _ A1_.out).mono ?_);rintro e w5 ⟨rfl,⟨nd,rfl⟩⟩;refine ⟨_,rfl,?_⟩) | (go_at_call 38;(with_reducible refine (spec_l00In.calls _ _ _ _ _ A1_.out).mono ?_);rintro e w5 ⟨rfl,⟨nd,rfl⟩⟩) | ((with_reducible refine gate_callee (f:=38) rfl ?_);refine goesL_ (some 17) rfl rfl Try.func38 (by kernel_rfl) rfl #[.int .i64 s0_1,.int .i64 10,.int .i64 20000] rfl (by (try simp only [mT,mC,mN]);first | done | rfl) ?_;(with_reducible refine (spec_l00In.calls _ _ _ _ _ A2_.out).mono ?_);rintro e w5 ⟨rfl,⟨nd,rfl⟩⟩;refine ⟨_,rfl,?_⟩) | (go_at_call 38;(with_reducible refine (spec_l00In.calls _ _ _ _ _ A2_.out).mono ?_);rintro e w5 ⟨rfl,⟨nd,rfl⟩⟩) | ((with_reducible refine gate_callee (f:=39) rfl ?_);refine goesL_ (some 22) rfl rfl Try.func39 (by kernel_rfl) rfl #[.pointer (some ⟨g,0,none⟩)] rfl (by (try simp only [mT,mC,mN]);first | done | rfl) ?_;(with_reducible refine (spec_l05Points.calls _ g s0_0 s0_1 s0_2 s0_3 _ _ _ w0 _ (by repeat (first | exact HI0.out | apply IsS33.drewN | apply IsS33.drew)) (by repeat (first | exact HB.out | apply pw_below_drewN | apply below_drew1)) A3_.out).mono ?_);rintro e w5 ⟨rfl,hi,hb,hk⟩;refine ⟨_,rfl,?_⟩;have n0_:=Aside0.mk hi;have n1_:=Aside0.mk hb;have n2_ : Aside0 (KeepBut w w5 g none):=⟨KeepBut.trans (by repeat (first | exact HK.out | apply keep_drewN | apply keep_drew)) hk (.inl rfl)⟩;clear hi hb hk HI0 HB HK;have HI0:=n0_;have HB:=n1_;have HK:=n2_;clear n0_ n1_ n2_;obtain ⟨A2,c2,A3,c3,hblk,hge,hr2,hr3⟩:=HI0.out;have q3 : w5.cell? ⟨g,3,none⟩ = _:=cellS33_3 hblk;clear hblk hge hr2 hr3) | (go_at_call 39;(with_reducible refine (spec_l05Points.calls _ g s0_0 s0_1 s0_2 s0_3 _ _ _ w0 _ (by repeat (first | exact HI0.out | apply IsS33.drewN | apply IsS33.drew)) (by repeat (first | exact HB.out | apply pw_below_drewN | apply below_drew1)) A3_.out).mono ?_);rintro e w5 ⟨rfl,hi,hb,hk⟩;have n0_:=Aside0.mk hi;have n1_:=Aside0.mk hb;have n2_ : Aside0 (KeepBut w w5 g none):=⟨KeepBut.trans (by repeat (first | exact HK.out | apply keep_drewN | apply keep_drew)) hk (.inl rfl)⟩;clear hi hb hk HI0 HB HK;have HI0:=n0_;have HB:=n1_;have HK:=n2_;clear n0_ n1_ n2_;obtain ⟨A2,c2,A3,c3,hblk,hge,hr2,hr3⟩:=HI0.out;have q3 : w5.cell? ⟨g,3,none⟩ = _:=cellS33_3 hblk;clear hblk hge hr2 hr3))
     go_ret
     exact ⟨(by first | rfl | (simp;done) | (simp [*];done)),(by repeat (first | exact HI0.out | apply IsS33.drewN | apply IsS33.drew)),(by repeat (first | exact HB.out | apply pw_below_drewN | apply below_drew1)),(by repeat (first | exact HK.out | apply keep_drewN | apply keep_drew))⟩
    ·have c1b : decide (24 < (s0_3.length : Int)) = false:=decide_eq_false c1
     rw [decide_eq_false c1] at H
     cases k with
     | zero => exact (zero _ _ _ H).elim
     | succ k =>
     simp only [spec_l05Ok.j0,Bool.false_eq_true,if_false] at H
     have H':=Aside0.mk H
     clear zero one H c1
     go_enter Try.func21,Try.ntmps21
     go_wp2_with (first | ((with_reducible refine gate_callee (f:=38) rfl ?_);refine goesL_ (some 10) rfl rfl Try.func38 (by kernel_rfl) rfl #[.int .i64 s0_0,.int .i64 10,.int .i64 20000] rfl (by (try simp only [mT,mC,mN]);first | done | rfl) ?_;(with_reducible refine (spec_l00In.calls _ _ _ _ _ A1_.out).mono ?_);rintro e w5 ⟨rfl,⟨nd,rfl⟩⟩;refine ⟨_,rfl,?_⟩) | (go_at_call 38;(with_reducible refine (spec_l00In.calls _ _ _ _ _ A1_.out).mono ?_);rintro e w5 ⟨rfl,⟨nd,rfl⟩⟩) | ((with_reducible refine gate_callee (f:=38) rfl ?_);refine goesL_ (some 17) rfl rfl Try.func38 (by kernel_rfl) rfl #[.int .i64 s0_1,.int .i64 10,.int .i64 20000] rfl (by (try simp only [mT,mC,mN]);first | done | rfl) ?_;(with_reducible refine (spec_l00In.calls _ _ _ _ _ A2_.out).mono ?_);rintro e w5 ⟨rfl,⟨nd,rfl⟩⟩;refine ⟨_,rfl,?_⟩) | (go_at_call 38;(with_reducible refine (spec_l00In.calls _ _ _ _ _ A2_.out).mono ?_);rintro e w5 ⟨rfl,⟨nd,rfl⟩⟩) | ((with_reducible refine gate_callee (f:=39) rfl ?_);refine goesL_ (some 22) rfl rfl Try.func39 (by kernel_rfl) rfl #[.pointer (some ⟨g,0,none⟩)] rfl (by (try simp only [mT,mC,mN]);first | done | rfl) ?_;(with_reducible refine (spec_l05Points.calls _ g s0_0 s0_1 s0_2 s0_3 _ _ _ w0 _ (by repeat (first | exact HI0.out | apply IsS33.drewN | apply IsS33.drew)) (by repeat (first | exact HB.out | apply pw_below_drewN | apply below_drew1)) A3_.out).mono ?_);rintro e w5 ⟨rfl,hi,hb,hk⟩;refine ⟨_,rfl,?_⟩;have n0_:=Aside0.mk hi;have n1_:=Aside0.mk hb;have n2_ : Aside0 (KeepBut w w5 g none):=⟨KeepBut.trans (by repeat (first | exact HK.out | apply keep_drewN | apply keep_drew)) hk (.inl rfl)⟩;clear hi hb hk HI0 HB HK;have HI0:=n0_;have HB:=n1_;have HK:=n2_;clear n0_ n1_ n2_;obtain ⟨A2,c2,A3,c3,hblk,hge,hr2,hr3⟩:=HI0.out;have q3 : w5.cell? ⟨g,3,none⟩ = _:=cellS33_3 hblk;clear hblk hge hr2 hr3) | (go_at_call 39;(with_reducible refine (spec_l05Points.calls _ g s0_0 s0_1 s0_2 s0_3 _ _ _ w0 _ (by repeat (first | exact HI0.out | apply IsS33.drewN | apply IsS33.drew)) (by repeat (first | exact HB.out | apply pw_below_drewN | apply below_drew1)) A3_.out).mono ?_);rintro e w5 ⟨rfl,hi,hb,hk⟩;have n0_:=Aside0.mk hi;have n1_:=Aside0.mk hb;have n2_ : Aside0 (KeepBut w w5 g none):=⟨KeepBut.trans (by repeat (first | exact HK.out | apply keep_drewN | apply keep_drew)) hk (.inl rfl)⟩;clear hi hb hk HI0 HB HK;have HI0:=n0_;have HB:=n1_;have HK:=n2_;clear n0_ n1_ n2_;obtain ⟨A2,c2,A3,c3,hblk,hge,hr2,hr3⟩:=HI0.out;have q3 : w5.cell? ⟨g,3,none⟩ = _:=cellS33_3 hblk;clear hblk hge hr2 hr3))
     clear q0 q1 q3
     go_loopg [3] k (fun kq v3 w' => ∃ (x3 : Int) (b0 b1 : Int),v3 = .int .i64 x3 ∧ Aside0 (spec_l05Ok.l0 kq x3 b0 b1 s0_2 s0_3 = some (r1,r2,r3)) ∧ Aside0 (kq ≤ k) ∧ Aside0 (IsS33 w0 w' g b0 b1 s0_2 s0_3) ∧ Aside0 (Below w0.heap.size w0 w') ∧ Aside0 (KeepBut w w' g none))
     case atStart => exact ⟨0,a0,a1,rfl,H',⟨Nat.le_refl _⟩,⟨(by repeat (first | exact HI0.out | apply IsS33.drewN | apply IsS33.drew))⟩,⟨(by repeat (first | exact HB.out | apply pw_below_drewN | apply below_drew1))⟩,⟨(by repeat (first | exact HK.out | apply keep_drewN | apply keep_drew))⟩⟩
     case round =>
      clear H' HI0 HB HK
      obtain ⟨x3,b0,b1,rfl,HA,HK1,HI0,HB,HK⟩:=hrel
      cases gk with
      | zero => exact absurd HA.out (by simp [spec_l05Ok.l0])
      | succ k1 =>
       have H:=HA.out
       clear HA
       simp only [spec_l05Ok.l0] at H
       obtain ⟨A2,c2,A3,c3,hblk,hge,hr2,hr3⟩:=HI0.out
       have q3 : wr.cell? ⟨g,3,none⟩ = some (.slice A3 s0_3.length c3):=cellS33_3 hblk
       clear hblk hr2
       by_cases c3_ : x3 < (s0_3.length : Int)
       ·rw [if_pos c3_] at H
        have c3b : decide (x3 < (s0_3.length : Int)) = true:=decide_eq_true c3_
        by_cases c4_ : 0 ≤ x3
        ·rw [if_pos c4_] at H
         have c4b : decide (0 ≤ x3) = true:=decide_eq_true c4_
         obtain ⟨adf,Ar,cr,ef,y0_,y1_,hcr,hrr⟩:=at_T64 hr3 x3 c4_ c3_
         cases ef
         have C3:=Aside0.mk c3_
         have C4:=Aside0.mk c4_
         replace c3_:=eq_true c3_
         replace c4_:=eq_true c4_
         have y0:=(HB.out.cell (bL w0 _ y0_)).trans y0_
         have y1:=(HB.out.cell (bL w0 _ y1_)).trans y1_
         have Y1:=Aside0.mk y1_
         have Q3:=Aside0.mk q3
         clear y0_ y1_ y1
         replace H:=bE.mp H
         obtain ⟨t4,A40,H⟩:=H
         have A4_:=Aside0.mk A40
         clear A40
         have jz : ∀ (b : Bool),spec_l05Ok.j2 0 x3 b b0 b1 s0_2 s0_3 = some (r1,r2,r3) → False:=fun b h => by simp [spec_l05Ok.j2] at h
         have jt : ∀ (k : Nat),spec_l05Ok.j2 k x3 true b0 b1 s0_2 s0_3 = some (r1,r2,r3) → r1 = false ∧ r2 = b0 ∧ r3 = b1:=fun k h => by
          cases k with
          | zero => exact (jz _ h).elim
          | succ k => simp only [spec_l05Ok.j2,if_true,Option.some.injEq,Prod.mk.injEq] at h;exact ⟨h.1.symm,h.2.1.symm,h.2.2.symm⟩
         cases t4 with
         | false =>
          replace H:=(show (spec_l05Ok.j2 k1 x3 true b0 b1 s0_2 s0_3) = some (r1,r2,r3) from by first | exact H | simpa using H)
          obtain ⟨rfl,rfl,rfl⟩:=jt _ H
          clear jz jt H
          go_wp2
          go_quiet (with_reducible exact Calls.quiet_of ((spec_l01Name.calls _ _ _ _ A4_.out).mono fun e w' h => ⟨h.1,h.2.out⟩))
          go_wp2
          go_ret
          exact ⟨(by first | rfl | (simp;done) | (simp [*];done)),(by repeat (first | exact HI0.out | apply IsS33.drewN | apply IsS33.drew)),(by repeat (first | exact HB.out | apply pw_below_drewN | apply below_drew1)),(by repeat (first | exact HK.out | apply keep_drewN | apply keep_drew))⟩
         | true =>
          replace H:=(show ((if x3 > 0 then (if 0 ≤ (wrap64 (x3 - 1)) then (if (wrap64 (x3 - 1)) < (s0_3.length : Int) then (spec_l05Ok.j2 k1 x3 (!(Op.bytesLess (((rd_T64 s0_3 (wrap64 (x3 - 1))).f0).toList) (((rd_T64 s0_3 x3).f0).toList))) b0 b1 s0_2 s0_3) else (none)) else (none)) else (spec_l05Ok.j2 k1 x3 false b0 b1 s0_2 s0_3))) = some (r1,r2,r3) from by first | exact H | simpa using H)
          by_cases c5_ : x3 > 0
          ·rw [if_pos c5_] at H
           have c5b : decide (0 < x3) = true:=decide_eq_true c5_
           clear c5_
           obtain ⟨ji,hji⟩ : ∃ j_ : Int,wrap64 (x3 - 1) = j_:=⟨_,rfl⟩
           rw [hji] at H
           have hjr : IntKind.i64.wrap (x3 - 1) = ji:=by first | (rw [i64_w];exact hji) | exact hji
           by_cases c6_ : 0 ≤ ji
           ·rw [if_pos c6_] at H
            have c6b : decide (0 ≤ ji) = true:=decide_eq_true c6_
            by_cases c7_ : ji < (s0_3.length : Int)
            ·rw [if_pos c7_] at H
             have c7b : decide (ji < (s0_3.length : Int)) = true:=decide_eq_true c7_
             obtain ⟨adf2,Ar2,cr2,ef2,z0_,z1_,_,_⟩:=at_T64 hr3 ji c6_ c7_
             cases ef2
             replace c6_:=eq_true c6_
             replace c7_:=eq_true c7_
             have z0:=(HB.out.cell (bL w0 _ z0_)).trans z0_
             clear z0_ z1_
             cases c8_ : Op.bytesLess (((rd_T64 s0_3 ji).f0).toList) (((rd_T64 s0_3 x3).f0).toList) with
             | false =>
              rw [c8_] at H
              obtain ⟨rfl,rfl,rfl⟩:=jt _ H
              clear jz jt H
              go_wp2
              go_quiet (with_reducible exact Calls.quiet_of ((spec_l01Name.calls _ _ _ _ A4_.out).mono fun e w' h => ⟨h.1,h.2.out⟩))
              go_wp2
              go_ret
              exact ⟨(by first | rfl | (simp;done) | (simp [*];done)),(by repeat (first | exact HI0.out | apply IsS33.drewN | apply IsS33.drew)),(by repeat (first | exact HB.out | apply pw_below_drewN | apply below_drew1)),(by repeat (first | exact HK.out | apply keep_drewN | apply keep_drew))⟩
             | true =>
              rw [c8_] at H
              replace H:=(show (spec_l05Ok.j2 k1 x3 false b0 b1 s0_2 s0_3) = some (r1,r2,r3) from by first | exact H | simpa using H)
              cases k1 with
              | zero => exact (jz _ H).elim
              | succ k2 =>
              simp only [spec_l05Ok.j2,Bool.false_eq_true,if_false] at H
              rw [if_pos C4.out,if_pos C3.out] at H
              clear jz jt
              replace H:=bE.mp H
              obtain ⟨⟨pl,t5,d0,d1⟩,A50,H⟩:=H
              have A5_:=Aside0.mk A50
              clear A50
              have ne_ : ∀ ad,Ar = some ad → 0 < (rd_T64 s0_3 x3).f1.length → ad.block ≠ g:=fun ad hA hn => by
               obtain ⟨ad',e,hx⟩:=Kd.at_int hrr 0 (by omega) (by omega)
               rw [hA] at e
               cases e
               have:=bL w0 _ hx
               rw [add_block] at this
               omega
              have go1 : True:=trivial
              go_wp2
              go_quiet (with_reducible exact Calls.quiet_of ((spec_l01Name.calls _ _ _ _ A4_.out).mono fun e w' h => ⟨h.1,h.2.out⟩))
              have y1:=(HB.out.cell (bL w0 _ Y1.out)).trans Y1.out
              cases t5 with
              | false =>
               replace H:=(show (some (false,d0,d1)) = some (r1,r2,r3) from by first | exact H | simpa using H)
               simp only [Option.some.injEq,Prod.mk.injEq] at H
               obtain ⟨rfl,rfl,rfl⟩:=H
               go_wp2_with (first | ((with_reducible refine gate_callee (f:=41) rfl ?_);refine goesL_ (some 86) rfl rfl Try.func41 (by kernel_rfl) rfl #[.pointer (some ⟨g,0,none⟩),.slice Ar (rd_T64 s0_3 x3).f1.length cr] rfl (by (try simp only [mT,mC,mN]);first | done | rfl) ?_;(with_reducible refine (spec_l05Ring.calls _ g b0 b1 s0_2 s0_3 Ar cr (rd_T64 s0_3 x3).f1 _ _ _ _ w0 _ (by repeat (first | exact HI0.out | apply IsS33.drewN | apply IsS33.drew)) (by repeat (first | exact HB.out | apply pw_below_drewN | apply below_drew1)) (Kd.C_below hrr (by repeat (first | exact HB.out | apply pw_below_drewN | apply below_drew1))) hcr ne_ A5_.out).mono ?_);rintro e w5 ⟨v0_,rfl,ho,hi,hb,hk⟩;refine ⟨_,rfl,?_⟩;have n0_:=Aside0.mk hi;have n1_:=Aside0.mk hb;have n2_ : Aside0 (KeepBut w w5 g none):=⟨KeepBut.trans (by repeat (first | exact HK.out | apply keep_drewN | apply keep_drew)) hk (.inl rfl)⟩;obtain ⟨Ao_,co_,eo_⟩:=Kd.R_slice ho;subst eo_;have HO_:=Aside0.mk (Kd.R_reads' ho);clear ho hi hb hk HI0 HB HK;have HI0:=n0_;have HB:=n1_;have HK:=n2_;clear n0_ n1_ n2_) | (go_at_call 41;(with_reducible refine (spec_l05Ring.calls _ g b0 b1 s0_2 s0_3 Ar cr (rd_T64 s0_3 x3).f1 _ _ _ _ w0 _ (by repeat (first | exact HI0.out | apply IsS33.drewN | apply IsS33.drew)) (by repeat (first | exact HB.out | apply pw_below_drewN | apply below_drew1)) (Kd.C_below hrr (by repeat (first | exact HB.out | apply pw_below_drewN | apply below_drew1))) hcr ne_ A5_.out).mono ?_);rintro e w5 ⟨v0_,rfl,ho,hi,hb,hk⟩;have n0_:=Aside0.mk hi;have n1_:=Aside0.mk hb;have n2_ : Aside0 (KeepBut w w5 g none):=⟨KeepBut.trans (by repeat (first | exact HK.out | apply keep_drewN | apply keep_drew)) hk (.inl rfl)⟩;obtain ⟨Ao_,co_,eo_⟩:=Kd.R_slice ho;subst eo_;have HO_:=Aside0.mk (Kd.R_reads' ho);clear ho hi hb hk HI0 HB HK;have HI0:=n0_;have HB:=n1_;have HK:=n2_;clear n0_ n1_ n2_))
               go_ret
               exact ⟨(by first | rfl | (simp;done) | (simp [*];done)),(by repeat (first | exact HI0.out | apply IsS33.drewN | apply IsS33.drew)),(by repeat (first | exact HB.out | apply pw_below_drewN | apply below_drew1)),(by repeat (first | exact HK.out | apply keep_drewN | apply keep_drew))⟩
              | true =>
               replace H:=(show ((spec_l03Ok.f k2 pl).bind fun t254 => (if t254 = true then (spec_l05Ok.l0 k2 (wrap64 (x3 + 1)) d0 d1 s0_2 s0_3) else (some (false,d0,d1)))) = some (r1,r2,r3) from by first | exact H | simpa using H)
               replace H:=bE.mp H
               obtain ⟨t6,A60,H⟩:=H
               have A6_:=Aside0.mk A60
               clear A60
               cases t6 with
               | false =>
                replace H:=(show (some (false,d0,d1)) = some (r1,r2,r3) from by first | exact H | simpa using H)
                simp only [Option.some.injEq,Prod.mk.injEq] at H
                obtain ⟨rfl,rfl,rfl⟩:=H
                go_wp2_with (first | ((with_reducible refine gate_callee (f:=41) rfl ?_);refine goesL_ (some 86) rfl rfl Try.func41 (by kernel_rfl) rfl #[.pointer (some ⟨g,0,none⟩),.slice Ar (rd_T64 s0_3 x3).f1.length cr] rfl (by (try simp only [mT,mC,mN]);first | done | rfl) ?_;(with_reducible refine (spec_l05Ring.calls _ g b0 b1 s0_2 s0_3 Ar cr (rd_T64 s0_3 x3).f1 _ _ _ _ w0 _ (by repeat (first | exact HI0.out | apply IsS33.drewN | apply IsS33.drew)) (by repeat (first | exact HB.out | apply pw_below_drewN | apply below_drew1)) (Kd.C_below hrr (by repeat (first | exact HB.out | apply pw_below_drewN | apply below_drew1))) hcr ne_ A5_.out).mono ?_);rintro e w5 ⟨v0_,rfl,ho,hi,hb,hk⟩;refine ⟨_,rfl,?_⟩;have n0_:=Aside0.mk hi;have n1_:=Aside0.mk hb;have n2_ : Aside0 (KeepBut w w5 g none):=⟨KeepBut.trans (by repeat (first | exact HK.out | apply keep_drewN | apply keep_drew)) hk (.inl rfl)⟩;obtain ⟨Ao_,co_,eo_⟩:=Kd.R_slice ho;subst eo_;have HO_:=Aside0.mk (Kd.R_reads' ho);clear ho hi hb hk HI0 HB HK;have HI0:=n0_;have HB:=n1_;have HK:=n2_;clear n0_ n1_ n2_) | (go_at_call 41;(with_reducible refine (spec_l05Ring.calls _ g b0 b1 s0_2 s0_3 Ar cr (rd_T64 s0_3 x3).f1 _ _ _ _ w0 _ (by repeat (first | exact HI0.out | apply IsS33.drewN | apply IsS33.drew)) (by repeat (first | exact HB.out | apply pw_below_drewN | apply below_drew1)) (Kd.C_below hrr (by repeat (first | exact HB.out | apply pw_below_drewN | apply below_drew1))) hcr ne_ A5_.out).mono ?_);rintro e w5 ⟨v0_,rfl,ho,hi,hb,hk⟩;have n0_:=Aside0.mk hi;have n1_:=Aside0.mk hb;have n2_ : Aside0 (KeepBut w w5 g none):=⟨KeepBut.trans (by repeat (first | exact HK.out | apply keep_drewN | apply keep_drew)) hk (.inl rfl)⟩;obtain ⟨Ao_,co_,eo_⟩:=Kd.R_slice ho;subst eo_;have HO_:=Aside0.mk (Kd.R_reads' ho);clear ho hi hb hk HI0 HB HK;have HI0:=n0_;have HB:=n1_;have HK:=n2_;clear n0_ n1_ n2_) | ((with_reducible refine gate_callee (f:=42) rfl ?_);refine goesL_ (some 93) rfl rfl Try.func42 (by kernel_rfl) rfl #[.slice Ao_ pl.length co_] rfl (by (try simp only [mT,mC,mN]);first | done | rfl) ?_;(with_reducible refine (spec_l03Ok.calls _ Ao_ co_ pl _ _ (by repeat (first | exact HO_.out.2.2 | (with_reducible refine Kd.C_drewN ?_ _) | (with_reducible refine Kd.C_drew ?_))) HO_.out.2.1 A6_.out).mono ?_);rintro e w5 ⟨rfl,hb⟩;refine ⟨_,rfl,?_⟩;have n0_:=Aside0.mk (IsS33.below (by repeat (first | exact HI0.out | apply IsS33.drewN | apply IsS33.drew)) hb);have n1_:=Aside0.mk (below_step (by repeat (first | exact HB.out | apply pw_below_drewN | apply below_drew1)) hb);have n2_ : Aside0 (KeepBut w w5 g none):=⟨KeepBut.trans (by repeat (first | exact HK.out | apply keep_drewN | apply keep_drew)) (KeepBut.of_below hb g none) (.inl rfl)⟩;clear hb HI0 HB HK;have HI0:=n0_;have HB:=n1_;have HK:=n2_;clear n0_ n1_ n2_) | (go_at_call 42;(with_reducible refine (spec_l03Ok.calls _ Ao_ co_ pl _ _ (by repeat (first | exact HO_.out.2.2 | (with_reducible refine Kd.C_drewN ?_ _) | (with_reducible refine Kd.C_drew ?_))) HO_.out.2.1 A6_.out).mono ?_);rintro e w5 ⟨rfl,hb⟩;have n0_:=Aside0.mk (IsS33.below (by repeat (first | exact HI0.out | apply IsS33.drewN | apply IsS33.drew)) hb);have n1_:=Aside0.mk (below_step (by repeat (first | exact HB.out | apply pw_below_drewN | apply below_drew1)) hb);have n2_ : Aside0 (KeepBut w w5 g none):=⟨KeepBut.trans (by repeat (first | exact HK.out | apply keep_drewN | apply keep_drew)) (KeepBut.of_below hb g none) (.inl rfl)⟩;clear hb HI0 HB HK;have HI0:=n0_;have HB:=n1_;have HK:=n2_;clear n0_ n1_ n2_))
                go_ret
                exact ⟨(by first | rfl | (simp;done) | (simp [*];done)),(by repeat (first | exact HI0.out | apply IsS33.drewN | apply IsS33.drew)),(by repeat (first | exact HB.out | apply pw_below_drewN | apply below_drew1)),(by repeat (first | exact HK.out | apply keep_drewN | apply keep_drew))⟩
               | true =>
                replace H:=(show (spec_l05Ok.l0 k2 (wrap64 (x3 + 1)) d0 d1 s0_2 s0_3) = some (r1,r2,r3) from by first | exact H | simpa using H)
                have H':=Aside0.mk H
                clear H
                go_wp2_with (first | ((with_reducible refine gate_callee (f:=41) rfl ?_);refine goesL_ (some 86) rfl rfl Try.func41 (by kernel_rfl) rfl #[.pointer (some ⟨g,0,none⟩),.slice Ar (rd_T64 s0_3 x3).f1.length cr] rfl (by (try simp only [mT,mC,mN]);first | done | rfl) ?_;(with_reducible refine (spec_l05Ring.calls _ g b0 b1 s0_2 s0_3 Ar cr (rd_T64 s0_3 x3).f1 _ _ _ _ w0 _ (by repeat (first | exact HI0.out | apply IsS33.drewN | apply IsS33.drew)) (by repeat (first | exact HB.out | apply pw_below_drewN | apply below_drew1)) (Kd.C_below hrr (by repeat (first | exact HB.out | apply pw_below_drewN | apply below_drew1))) hcr ne_ A5_.out).mono ?_);rintro e w5 ⟨v0_,rfl,ho,hi,hb,hk⟩;refine ⟨_,rfl,?_⟩;have n0_:=Aside0.mk hi;have n1_:=Aside0.mk hb;have n2_ : Aside0 (KeepBut w w5 g none):=⟨KeepBut.trans (by repeat (first | exact HK.out | apply keep_drewN | apply keep_drew)) hk (.inl rfl)⟩;obtain ⟨Ao_,co_,eo_⟩:=Kd.R_slice ho;subst eo_;have HO_:=Aside0.mk (Kd.R_reads' ho);clear ho hi hb hk HI0 HB HK;have HI0:=n0_;have HB:=n1_;have HK:=n2_;clear n0_ n1_ n2_) | (go_at_call 41;(with_reducible refine (spec_l05Ring.calls _ g b0 b1 s0_2 s0_3 Ar cr (rd_T64 s0_3 x3).f1 _ _ _ _ w0 _ (by repeat (first | exact HI0.out | apply IsS33.drewN | apply IsS33.drew)) (by repeat (first | exact HB.out | apply pw_below_drewN | apply below_drew1)) (Kd.C_below hrr (by repeat (first | exact HB.out | apply pw_below_drewN | apply below_drew1))) hcr ne_ A5_.out).mono ?_);rintro e w5 ⟨v0_,rfl,ho,hi,hb,hk⟩;have n0_:=Aside0.mk hi;have n1_:=Aside0.mk hb;have n2_ : Aside0 (KeepBut w w5 g none):=⟨KeepBut.trans (by repeat (first | exact HK.out | apply keep_drewN | apply keep_drew)) hk (.inl rfl)⟩;obtain ⟨Ao_,co_,eo_⟩:=Kd.R_slice ho;subst eo_;have HO_:=Aside0.mk (Kd.R_reads' ho);clear ho hi hb hk HI0 HB HK;have HI0:=n0_;have HB:=n1_;have HK:=n2_;clear n0_ n1_ n2_) | ((with_reducible refine gate_callee (f:=42) rfl ?_);refine goesL_ (some 93) rfl rfl Try.func42 (by kernel_rfl) rfl #[.slice Ao_ pl.length co_] rfl (by (try simp only [mT,mC,mN]);first | done | rfl) ?_;(with_reducible refine (spec_l03Ok.calls _ Ao_ co_ pl _ _ (by repeat (first | exact HO_.out.2.2 | (with_reducible refine Kd.C_drewN ?_ _) | (with_reducible refine Kd.C_drew ?_))) HO_.out.2.1 A6_.out).mono ?_);rintro e w5 ⟨rfl,hb⟩;refine ⟨_,rfl,?_⟩;have n0_:=Aside0.mk (IsS33.below (by repeat (first | exact HI0.out | apply IsS33.drewN | apply IsS33.drew)) hb);have n1_:=Aside0.mk (below_step (by repeat (first | exact HB.out | apply pw_below_drewN | apply below_drew1)) hb);have n2_ : Aside0 (KeepBut w w5 g none):=⟨KeepBut.trans (by repeat (first | exact HK.out | apply keep_drewN | apply keep_drew)) (KeepBut.of_below hb g none) (.inl rfl)⟩;clear hb HI0 HB HK;have HI0:=n0_;have HB:=n1_;have HK:=n2_;clear n0_ n1_ n2_) | (go_at_call 42;(with_reducible refine (spec_l03Ok.calls _ Ao_ co_ pl _ _ (by repeat (first | exact HO_.out.2.2 | (with_reducible refine Kd.C_drewN ?_ _) | (with_reducible refine Kd.C_drew ?_))) HO_.out.2.1 A6_.out).mono ?_);rintro e w5 ⟨rfl,hb⟩;have n0_:=Aside0.mk (IsS33.below (by repeat (first | exact HI0.out | apply IsS33.drewN | apply IsS33.drew)) hb);have n1_:=Aside0.mk (below_step (by repeat (first | exact HB.out | apply pw_below_drewN | apply below_drew1)) hb);have n2_ : Aside0 (KeepBut w w5 g none):=⟨KeepBut.trans (by repeat (first | exact HK.out | apply keep_drewN | apply keep_drew)) (KeepBut.of_below hb g none) (.inl rfl)⟩;clear hb HI0 HB HK;have HI0:=n0_;have HB:=n1_;have HK:=n2_;clear n0_ n1_ n2_))
                go_roundg k2
                case measure => have:=HK1.out;omega
                case rel => exact ⟨(wrap64 (x3 + 1)),d0,d1,(by first | rfl | (simp;done) | (simp [*];done)),H',⟨by have:=HK1.out;omega⟩,⟨(by repeat (first | exact HI0.out | apply IsS33.drewN | apply IsS33.drew))⟩,⟨(by repeat (first | exact HB.out | apply pw_below_drewN | apply below_drew1))⟩,⟨(by repeat (first | exact HK.out | apply keep_drewN | apply keep_drew))⟩⟩
            ·rw [if_neg c7_] at H
             exact absurd H (by simp)
           ·rw [if_neg c6_] at H
            exact absurd H (by simp)
          ·rw [if_neg c5_] at H
           have c5b : decide (0 < x3) = false:=decide_eq_false c5_
           clear c5_
           replace H:=(show (spec_l05Ok.j2 k1 x3 false b0 b1 s0_2 s0_3) = some (r1,r2,r3) from by first | exact H | simpa using H)
           cases k1 with
           | zero => exact (jz _ H).elim
           | succ k2 =>
           simp only [spec_l05Ok.j2,Bool.false_eq_true,if_false] at H
           rw [if_pos C4.out,if_pos C3.out] at H
           clear jz jt
           replace H:=bE.mp H
           obtain ⟨⟨pl,t5,d0,d1⟩,A50,H⟩:=H
           have A5_:=Aside0.mk A50
           clear A50
           have ne_ : ∀ ad,Ar = some ad → 0 < (rd_T64 s0_3 x3).f1.length → ad.block ≠ g:=fun ad hA hn => by
            obtain ⟨ad',e,hx⟩:=Kd.at_int hrr 0 (by omega) (by omega)
            rw [hA] at e
            cases e
            have:=bL w0 _ hx
            rw [add_block] at this
            omega
           have go1 : True:=trivial
           go_wp2
           go_quiet (with_reducible exact Calls.quiet_of ((spec_l01Name.calls _ _ _ _ A4_.out).mono fun e w' h => ⟨h.1,h.2.out⟩))
           have y1:=(HB.out.cell (bL w0 _ Y1.out)).trans Y1.out
           cases t5 with
           | false =>
            replace H:=(show (some (false,d0,d1)) = some (r1,r2,r3) from by first | exact H | simpa using H)
            simp only [Option.some.injEq,Prod.mk.injEq] at H
            obtain ⟨rfl,rfl,rfl⟩:=H
            go_wp2_with (first | ((with_reducible refine gate_callee (f:=41) rfl ?_);refine goesL_ (some 86) rfl rfl Try.func41 (by kernel_rfl) rfl #[.pointer (some ⟨g,0,none⟩),.slice Ar (rd_T64 s0_3 x3).f1.length cr] rfl (by (try simp only [mT,mC,mN]);first | done | rfl) ?_;(with_reducible refine (spec_l05Ring.calls _ g b0 b1 s0_2 s0_3 Ar cr (rd_T64 s0_3 x3).f1 _ _ _ _ w0 _ (by repeat (first | exact HI0.out | apply IsS33.drewN | apply IsS33.drew)) (by repeat (first | exact HB.out | apply pw_below_drewN | apply below_drew1)) (Kd.C_below hrr (by repeat (first | exact HB.out | apply pw_below_drewN | apply below_drew1))) hcr ne_ A5_.out).mono ?_);rintro e w5 ⟨v0_,rfl,ho,hi,hb,hk⟩;refine ⟨_,rfl,?_⟩;have n0_:=Aside0.mk hi;have n1_:=Aside0.mk hb;have n2_ : Aside0 (KeepBut w w5 g none):=⟨KeepBut.trans (by repeat (first | exact HK.out | apply keep_drewN | apply keep_drew)) hk (.inl rfl)⟩;obtain ⟨Ao_,co_,eo_⟩:=Kd.R_slice ho;subst eo_;have HO_:=Aside0.mk (Kd.R_reads' ho);clear ho hi hb hk HI0 HB HK;have HI0:=n0_;have HB:=n1_;have HK:=n2_;clear n0_ n1_ n2_) | (go_at_call 41;(with_reducible refine (spec_l05Ring.calls _ g b0 b1 s0_2 s0_3 Ar cr (rd_T64 s0_3 x3).f1 _ _ _ _ w0 _ (by repeat (first | exact HI0.out | apply IsS33.drewN | apply IsS33.drew)) (by repeat (first | exact HB.out | apply pw_below_drewN | apply below_drew1)) (Kd.C_below hrr (by repeat (first | exact HB.out | apply pw_below_drewN | apply below_drew1))) hcr ne_ A5_.out).mono ?_);rintro e w5 ⟨v0_,rfl,ho,hi,hb,hk⟩;have n0_:=Aside0.mk hi;have n1_:=Aside0.mk hb;have n2_ : Aside0 (KeepBut w w5 g none):=⟨KeepBut.trans (by repeat (first | exact HK.out | apply keep_drewN | apply keep_drew)) hk (.inl rfl)⟩;obtain ⟨Ao_,co_,eo_⟩:=Kd.R_slice ho;subst eo_;have HO_:=Aside0.mk (Kd.R_reads' ho);clear ho hi hb hk HI0 HB HK;have HI0:=n0_;have HB:=n1_;have HK:=n2_;clear n0_ n1_ n2_))
            go_ret
            exact ⟨(by first | rfl | (simp;done) | (simp [*];done)),(by repeat (first | exact HI0.out | apply IsS33.drewN | apply IsS33.drew)),(by repeat (first | exact HB.out | apply pw_below_drewN | apply below_drew1)),(by repeat (first | exact HK.out | apply keep_drewN | apply keep_drew))⟩
           | true =>
            replace H:=(show ((spec_l03Ok.f k2 pl).bind fun t254 => (if t254 = true then (spec_l05Ok.l0 k2 (wrap64 (x3 + 1)) d0 d1 s0_2 s0_3) else (some (false,d0,d1)))) = some (r1,r2,r3) from by first | exact H | simpa using H)
            replace H:=bE.mp H
            obtain ⟨t6,A60,H⟩:=H
            have A6_:=Aside0.mk A60
            clear A60
            cases t6 with
            | false =>
             replace H:=(show (some (false,d0,d1)) = some (r1,r2,r3) from by first | exact H | simpa using H)
             simp only [Option.some.injEq,Prod.mk.injEq] at H
             obtain ⟨rfl,rfl,rfl⟩:=H
             go_wp2_with (first | ((with_reducible refine gate_callee (f:=41) rfl ?_);refine goesL_ (some 86) rfl rfl Try.func41 (by kernel_rfl) rfl #[.pointer (some ⟨g,0,none⟩),.slice Ar (rd_T64 s0_3 x3).f1.length cr] rfl (by (try simp only [mT,mC,mN]);first | done | rfl) ?_;(with_reducible refine (spec_l05Ring.calls _ g b0 b1 s0_2 s0_3 Ar cr (rd_T64 s0_3 x3).f1 _ _ _ _ w0 _ (by repeat (first | exact HI0.out | apply IsS33.drewN | apply IsS33.drew)) (by repeat (first | exact HB.out | apply pw_below_drewN | apply below_drew1)) (Kd.C_below hrr (by repeat (first | exact HB.out | apply pw_below_drewN | apply below_drew1))) hcr ne_ A5_.out).mono ?_);rintro e w5 ⟨v0_,rfl,ho,hi,hb,hk⟩;refine ⟨_,rfl,?_⟩;have n0_:=Aside0.mk hi;have n1_:=Aside0.mk hb;have n2_ : Aside0 (KeepBut w w5 g none):=⟨KeepBut.trans (by repeat (first | exact HK.out | apply keep_drewN | apply keep_drew)) hk (.inl rfl)⟩;obtain ⟨Ao_,co_,eo_⟩:=Kd.R_slice ho;subst eo_;have HO_:=Aside0.mk (Kd.R_reads' ho);clear ho hi hb hk HI0 HB HK;have HI0:=n0_;have HB:=n1_;have HK:=n2_;clear n0_ n1_ n2_) | (go_at_call 41;(with_reducible refine (spec_l05Ring.calls _ g b0 b1 s0_2 s0_3 Ar cr (rd_T64 s0_3 x3).f1 _ _ _ _ w0 _ (by repeat (first | exact HI0.out | apply IsS33.drewN | apply IsS33.drew)) (by repeat (first | exact HB.out | apply pw_below_drewN | apply below_drew1)) (Kd.C_below hrr (by repeat (first | exact HB.out | apply pw_below_drewN | apply below_drew1))) hcr ne_ A5_.out).mono ?_);rintro e w5 ⟨v0_,rfl,ho,hi,hb,hk⟩;have n0_:=Aside0.mk hi;have n1_:=Aside0.mk hb;have n2_ : Aside0 (KeepBut w w5 g none):=⟨KeepBut.trans (by repeat (first | exact HK.out | apply keep_drewN | apply keep_drew)) hk (.inl rfl)⟩;obtain ⟨Ao_,co_,eo_⟩:=Kd.R_slice ho;subst eo_;have HO_:=Aside0.mk (Kd.R_reads' ho);clear ho hi hb hk HI0 HB HK;have HI0:=n0_;have HB:=n1_;have HK:=n2_;clear n0_ n1_ n2_) | ((with_reducible refine gate_callee (f:=42) rfl ?_);refine goesL_ (some 93) rfl rfl Try.func42 (by kernel_rfl) rfl #[.slice Ao_ pl.length co_] rfl (by (try simp only [mT,mC,mN]);first | done | rfl) ?_;(with_reducible refine (spec_l03Ok.calls _ Ao_ co_ pl _ _ (by repeat (first | exact HO_.out.2.2 | (with_reducible refine Kd.C_drewN ?_ _) | (with_reducible refine Kd.C_drew ?_))) HO_.out.2.1 A6_.out).mono ?_);rintro e w5 ⟨rfl,hb⟩;refine ⟨_,rfl,?_⟩;have n0_:=Aside0.mk (IsS33.below (by repeat (first | exact HI0.out | apply IsS33.drewN | apply IsS33.drew)) hb);have n1_:=Aside0.mk (below_step (by repeat (first | exact HB.out | apply pw_below_drewN | apply below_drew1)) hb);have n2_ : Aside0 (KeepBut w w5 g none):=⟨KeepBut.trans (by repeat (first | exact HK.out | apply keep_drewN | apply keep_drew)) (KeepBut.of_below hb g none) (.inl rfl)⟩;clear hb HI0 HB HK;have HI0:=n0_;have HB:=n1_;have HK:=n2_;clear n0_ n1_ n2_) | (go_at_call 42;(with_reducible refine (spec_l03Ok.calls _ Ao_ co_ pl _ _ (by repeat (first | exact HO_.out.2.2 | (with_reducible refine Kd.C_drewN ?_ _) | (with_reducible refine Kd.C_drew ?_))) HO_.out.2.1 A6_.out).mono ?_);rintro e w5 ⟨rfl,hb⟩;have n0_:=Aside0.mk (IsS33.below (by repeat (first | exact HI0.out | apply IsS33.drewN | apply IsS33.drew)) hb);have n1_:=Aside0.mk (below_step (by repeat (first | exact HB.out | apply pw_below_drewN | apply below_drew1)) hb);have n2_ : Aside0 (KeepBut w w5 g none):=⟨KeepBut.trans (by repeat (first | exact HK.out | apply keep_drewN | apply keep_drew)) (KeepBut.of_below hb g none) (.inl rfl)⟩;clear hb HI0 HB HK;have HI0:=n0_;have HB:=n1_;have HK:=n2_;clear n0_ n1_ n2_))
             go_ret
             exact ⟨(by first | rfl | (simp;done) | (simp [*];done)),(by repeat (first | exact HI0.out | apply IsS33.drewN | apply IsS33.drew)),(by repeat (first | exact HB.out | apply pw_below_drewN | apply below_drew1)),(by repeat (first | exact HK.out | apply keep_drewN | apply keep_drew))⟩
            | true =>
             replace H:=(show (spec_l05Ok.l0 k2 (wrap64 (x3 + 1)) d0 d1 s0_2 s0_3) = some (r1,r2,r3) from by first | exact H | simpa using H)
             have H':=Aside0.mk H
             clear H
             go_wp2_with (first | ((with_reducible refine gate_callee (f:=41) rfl ?_);refine goesL_ (some 86) rfl rfl Try.func41 (by kernel_rfl) rfl #[.pointer (some ⟨g,0,none⟩),.slice Ar (rd_T64 s0_3 x3).f1.length cr] rfl (by (try simp only [mT,mC,mN]);first | done | rfl) ?_;(with_reducible refine (spec_l05Ring.calls _ g b0 b1 s0_2 s0_3 Ar cr (rd_T64 s0_3 x3).f1 _ _ _ _ w0 _ (by repeat (first | exact HI0.out | apply IsS33.drewN | apply IsS33.drew)) (by repeat (first | exact HB.out | apply pw_below_drewN | apply below_drew1)) (Kd.C_below hrr (by repeat (first | exact HB.out | apply pw_below_drewN | apply below_drew1))) hcr ne_ A5_.out).mono ?_);rintro e w5 ⟨v0_,rfl,ho,hi,hb,hk⟩;refine ⟨_,rfl,?_⟩;have n0_:=Aside0.mk hi;have n1_:=Aside0.mk hb;have n2_ : Aside0 (KeepBut w w5 g none):=⟨KeepBut.trans (by repeat (first | exact HK.out | apply keep_drewN | apply keep_drew)) hk (.inl rfl)⟩;obtain ⟨Ao_,co_,eo_⟩:=Kd.R_slice ho;subst eo_;have HO_:=Aside0.mk (Kd.R_reads' ho);clear ho hi hb hk HI0 HB HK;have HI0:=n0_;have HB:=n1_;have HK:=n2_;clear n0_ n1_ n2_) | (go_at_call 41;(with_reducible refine (spec_l05Ring.calls _ g b0 b1 s0_2 s0_3 Ar cr (rd_T64 s0_3 x3).f1 _ _ _ _ w0 _ (by repeat (first | exact HI0.out | apply IsS33.drewN | apply IsS33.drew)) (by repeat (first | exact HB.out | apply pw_below_drewN | apply below_drew1)) (Kd.C_below hrr (by repeat (first | exact HB.out | apply pw_below_drewN | apply below_drew1))) hcr ne_ A5_.out).mono ?_);rintro e w5 ⟨v0_,rfl,ho,hi,hb,hk⟩;have n0_:=Aside0.mk hi;have n1_:=Aside0.mk hb;have n2_ : Aside0 (KeepBut w w5 g none):=⟨KeepBut.trans (by repeat (first | exact HK.out | apply keep_drewN | apply keep_drew)) hk (.inl rfl)⟩;obtain ⟨Ao_,co_,eo_⟩:=Kd.R_slice ho;subst eo_;have HO_:=Aside0.mk (Kd.R_reads' ho);clear ho hi hb hk HI0 HB HK;have HI0:=n0_;have HB:=n1_;have HK:=n2_;clear n0_ n1_ n2_) | ((with_reducible refine gate_callee (f:=42) rfl ?_);refine goesL_ (some 93) rfl rfl Try.func42 (by kernel_rfl) rfl #[.slice Ao_ pl.length co_] rfl (by (try simp only [mT,mC,mN]);first | done | rfl) ?_;(with_reducible refine (spec_l03Ok.calls _ Ao_ co_ pl _ _ (by repeat (first | exact HO_.out.2.2 | (with_reducible refine Kd.C_drewN ?_ _) | (with_reducible refine Kd.C_drew ?_))) HO_.out.2.1 A6_.out).mono ?_);rintro e w5 ⟨rfl,hb⟩;refine ⟨_,rfl,?_⟩;have n0_:=Aside0.mk (IsS33.below (by repeat (first | exact HI0.out | apply IsS33.drewN | apply IsS33.drew)) hb);have n1_:=Aside0.mk (below_step (by repeat (first | exact HB.out | apply pw_below_drewN | apply below_drew1)) hb);have n2_ : Aside0 (KeepBut w w5 g none):=⟨KeepBut.trans (by repeat (first | exact HK.out | apply keep_drewN | apply keep_drew)) (KeepBut.of_below hb g none) (.inl rfl)⟩;clear hb HI0 HB HK;have HI0:=n0_;have HB:=n1_;have HK:=n2_;clear n0_ n1_ n2_) | (go_at_call 42;(with_reducible refine (spec_l03Ok.calls _ Ao_ co_ pl _ _ (by repeat (first | exact HO_.out.2.2 | (with_reducible refine Kd.C_drewN ?_ _) | (with_reducible refine Kd.C_drew ?_))) HO_.out.2.1 A6_.out).mono ?_);rintro e w5 ⟨rfl,hb⟩;have n0_:=Aside0.mk (IsS33.below (by repeat (first | exact HI0.out | apply IsS33.drewN | apply IsS33.drew)) hb);have n1_:=Aside0.mk (below_step (by repeat (first | exact HB.out | apply pw_below_drewN | apply below_drew1)) hb);have n2_ : Aside0 (KeepBut w w5 g none):=⟨KeepBut.trans (by repeat (first | exact HK.out | apply keep_drewN | apply keep_drew)) (KeepBut.of_below hb g none) (.inl rfl)⟩;clear hb HI0 HB HK;have HI0:=n0_;have HB:=n1_;have HK:=n2_;clear n0_ n1_ n2_))
             go_roundg k2
             case measure => have:=HK1.out;omega
             case rel => exact ⟨(wrap64 (x3 + 1)),d0,d1,(by first | rfl | (simp;done) | (simp [*];done)),H',⟨by have:=HK1.out;omega⟩,⟨(by repeat (first | exact HI0.out | apply IsS33.drewN | apply IsS33.drew))⟩,⟨(by repeat (first | exact HB.out | apply pw_below_drewN | apply below_drew1))⟩,⟨(by repeat (first | exact HK.out | apply keep_drewN | apply keep_drew))⟩⟩
        ·rw [if_neg c4_] at H
         exact absurd H (by simp)
       ·rw [if_neg c3_] at H
        have c3b : decide (x3 < (s0_3.length : Int)) = false:=decide_eq_false c3_
        clear c3_
        simp only [Option.some.injEq,Prod.mk.injEq] at H
        obtain ⟨rfl,rfl,rfl⟩:=H
        go_wp2
        go_ret
        exact ⟨(by first | rfl | (simp;done) | (simp [*];done)),(by repeat (first | exact HI0.out | apply IsS33.drewN | apply IsS33.drew)),(by repeat (first | exact HB.out | apply pw_below_drewN | apply below_drew1)),(by repeat (first | exact HK.out | apply keep_drewN | apply keep_drew))⟩
def spec_l05HasEdge.l0 : Nat → List Int → Int → Int → Int → Option (Bool)
 | 0,_,_,_,_ => none
 | k + 1,x0,x1,x2,x7 => if x7 < (x0.length : Int) then (if 0 ≤ x7 then (if (x0.length : Int) = 0 then (none) else (if 0 ≤ (Int.tmod (wrap64 (x7 + 1)) (x0.length : Int)) then (if (Int.tmod (wrap64 (x7 + 1)) (x0.length : Int)) < (x0.length : Int) then (if (rd x0 x7) = x1 then (if (rd x0 (Int.tmod (wrap64 (x7 + 1)) (x0.length : Int))) = x2 then (some true) else (if (rd x0 x7) = x2 then (if (rd x0 (Int.tmod (wrap64 (x7 + 1)) (x0.length : Int))) = x1 then (some true) else (spec_l05HasEdge.l0 k x0 x1 x2 (wrap64 (x7 + 1)))) else (spec_l05HasEdge.l0 k x0 x1 x2 (wrap64 (x7 + 1))))) else (if (rd x0 x7) = x2 then (if (rd x0 (Int.tmod (wrap64 (x7 + 1)) (x0.length : Int))) = x1 then (some true) else (spec_l05HasEdge.l0 k x0 x1 x2 (wrap64 (x7 + 1)))) else (spec_l05HasEdge.l0 k x0 x1 x2 (wrap64 (x7 + 1))))) else (none)) else (none))) else (none)) else (some false)
def spec_l05HasEdge.f (k : Nat) (l0 : List Int) (a1 : Int) (a2 : Int) : Option (Bool):=spec_l05HasEdge.l0 k l0 a1 a2 0
theorem spec_l05HasEdge.calls (k : Nat) (A0 : Option Addr) (c0 : Nat) (l0 : List Int) (a1 : Int) (a2 : Int) (r : Bool) (w : World) (hr0 : Kd.C (Kd.int .i64) w A0 l0.length l0) (hc0 : l0.length ≤ c0) (h : spec_l05HasEdge.f k l0 a1 a2 = some r) :
  Calls Try.prog 43 #[.slice A0 l0.length c0,.int .i64 a1,.int .i64 a2] w fun e w' => e = .returned (.bool r) ∧ Drawn0 w w':=by
 have HR0:=Aside0.mk hr0
 have HC0:=Aside0.mk hc0
 clear hr0 hc0
 have H : (spec_l05HasEdge.l0 k l0 a1 a2 0) = some r:=h
 clear h
 have H':=Aside0.mk H
 clear H
 go_enter Try.func43,Try.ntmps43
 go_wp2
 go_loopg [7] k (fun kq v7 w' => ∃ (x7_1 : Int),v7 = .int .i64 x7_1 ∧ Aside0 (spec_l05HasEdge.l0 kq l0 a1 a2 x7_1 = some r) ∧ Aside0 (kq ≤ k) ∧ Drawn0 w w')
 case atStart => exact ⟨(0),(by first | rfl | (simp;done) | (simp [*];done)),H',⟨Nat.le_refl _⟩,by repeat (first | exact Drawn0.refl _ | apply Drawn0.step)⟩
 case round =>
  clear H'
  try clear p2
  obtain ⟨x7_1,rfl,HA,HK1,⟨m1,rfl⟩⟩:=hrel
  cases gk with
  | zero => exact absurd HA.out (by simp [spec_l05HasEdge.l0])
  | succ k1 =>
   have H:=HA.out
   clear HA
   simp only [spec_l05HasEdge.l0] at H
   by_cases c4 : x7_1 < (l0.length : Int)
   ·rw [if_pos c4] at H
    have c4b0 : decide (x7_1 < (l0.length : Int)) = true:=decide_eq_true c4
    clear c4
    by_cases c5 : 0 ≤ x7_1
    ·rw [if_pos c5] at H
     have c5b0 : decide (0 ≤ x7_1) = true:=decide_eq_true c5
     clear c5
     by_cases c6 : (l0.length : Int) = 0
     ·rw [if_pos c6] at H
      exact absurd H (by simp)
     ·rw [if_neg c6] at H
      have c6b0 : ((l0.length : Int) == 0) = false:=beq_eq_false_iff_ne.mpr c6
      have c6b1 : ((l0.length : Int) != 0) = true:=bne_iff_ne.mpr c6
      have c6b2 : ¬ (l0 = []):=fun h_ => c6 (by rw [h_];rfl)
      obtain ⟨ji7,hji7⟩ : ∃ j_ : Int,(Int.tmod (wrap64 (x7_1 + 1)) (l0.length : Int)) = j_:=⟨_,rfl⟩
      replace H : (if 0 ≤ (ji7) then (if (ji7) < (l0.length : Int) then (if (rd l0 x7_1) = a1 then (if (rd l0 (ji7)) = a2 then (some true) else (if (rd l0 x7_1) = a2 then (if (rd l0 (ji7)) = a1 then (some true) else (spec_l05HasEdge.l0 k1 l0 a1 a2 (wrap64 (x7_1 + 1)))) else (spec_l05HasEdge.l0 k1 l0 a1 a2 (wrap64 (x7_1 + 1))))) else (if (rd l0 x7_1) = a2 then (if (rd l0 (ji7)) = a1 then (some true) else (spec_l05HasEdge.l0 k1 l0 a1 a2 (wrap64 (x7_1 + 1)))) else (spec_l05HasEdge.l0 k1 l0 a1 a2 (wrap64 (x7_1 + 1))))) else (none)) else (none)) = some r:=by first | (rw [hji7] at H;exact H) | (simp only [hji7] at H ⊢;exact H)
      by_cases c8 : 0 ≤ (ji7)
      ·rw [if_pos c8] at H
       have c8b0 : decide (0 ≤ (ji7)) = true:=decide_eq_true c8
       clear c8
       by_cases c9 : (ji7) < (l0.length : Int)
       ·rw [if_pos c9] at H
        have c9b0 : decide ((ji7) < (l0.length : Int)) = true:=decide_eq_true c9
        clear c9
        by_cases c10 : (rd l0 x7_1) = a1
        ·rw [if_pos c10] at H
         have c10b0 : ((rd l0 x7_1) == a1) = true:=beq_iff_eq.mpr c10
         have c10b1 : ((rd l0 x7_1) != a1) = false:=bne_eq_false_iff_eq.mpr c10
         clear c10
         by_cases c11 : (rd l0 (ji7)) = a2
         ·rw [if_pos c11] at H
          have c11b0 : ((rd l0 (ji7)) == a2) = true:=beq_iff_eq.mpr c11
          have c11b1 : ((rd l0 (ji7)) != a2) = false:=bne_eq_false_iff_eq.mpr c11
          clear c11
          obtain rfl:=Option.some.inj H
          have p261 : 0 ≤ (x7_1 : Int):=da
          have q261 : x7_1 < (l0.length : Int):=da
          obtain ⟨ad261,e261,hx261_0⟩:=Kd.at_int HR0.out x7_1 p261 q261
          cases e261
          replace p261:=eq_true p261
          replace q261:=eq_true q261
          have p262 : 0 ≤ ((ji7) : Int):=da
          have q262 : (ji7) < (l0.length : Int):=da
          obtain ⟨ad262,e262,hx262_0⟩:=Kd.at_int HR0.out (ji7) p262 q262
          obtain rfl : ad261 = ad262:=(by injection e262)
          replace p262:=eq_true p262
          replace q262:=eq_true q262
          go_wp2
          go_ret
          exact ⟨by first | rfl | (simp;done) | (simp only [← hji7] <;> (first | rfl | simp)) | (simp [*];done),by repeat (first | exact Drawn0.refl _ | apply Drawn0.step)⟩
         ·rw [if_neg c11] at H
          have c11b0 : ((rd l0 (ji7)) == a2) = false:=beq_eq_false_iff_ne.mpr c11
          have c11b1 : ((rd l0 (ji7)) != a2) = true:=bne_iff_ne.mpr c11
          by_cases c12 : (rd l0 x7_1) = a2
          ·rw [if_pos c12] at H
           have c12b0 : ((rd l0 x7_1) == a2) = true:=beq_iff_eq.mpr c12
           have c12b1 : ((rd l0 x7_1) != a2) = false:=bne_eq_false_iff_eq.mpr c12
           clear c12
           by_cases c13 : (rd l0 (ji7)) = a1
           ·rw [if_pos c13] at H
            have c13b0 : ((rd l0 (ji7)) == a1) = true:=beq_iff_eq.mpr c13
            have c13b1 : ((rd l0 (ji7)) != a1) = false:=bne_eq_false_iff_eq.mpr c13
            clear c13
            obtain rfl:=Option.some.inj H
            have p261 : 0 ≤ (x7_1 : Int):=da
            have q261 : x7_1 < (l0.length : Int):=da
            obtain ⟨ad261,e261,hx261_0⟩:=Kd.at_int HR0.out x7_1 p261 q261
            cases e261
            replace p261:=eq_true p261
            replace q261:=eq_true q261
            have p262 : 0 ≤ ((ji7) : Int):=da
            have q262 : (ji7) < (l0.length : Int):=da
            obtain ⟨ad262,e262,hx262_0⟩:=Kd.at_int HR0.out (ji7) p262 q262
            obtain rfl : ad261 = ad262:=(by injection e262)
            replace p262:=eq_true p262
            replace q262:=eq_true q262
            go_wp2
            go_ret
            exact ⟨by first | rfl | (simp;done) | (simp only [← hji7] <;> (first | rfl | simp)) | (simp [*];done),by repeat (first | exact Drawn0.refl _ | apply Drawn0.step)⟩
           ·rw [if_neg c13] at H
            have c13b0 : ((rd l0 (ji7)) == a1) = false:=beq_eq_false_iff_ne.mpr c13
            have c13b1 : ((rd l0 (ji7)) != a1) = true:=bne_iff_ne.mpr c13
            have H':=Aside0.mk H
            clear H
            have p261 : 0 ≤ (x7_1 : Int):=da
            have q261 : x7_1 < (l0.length : Int):=da
            obtain ⟨ad261,e261,hx261_0⟩:=Kd.at_int HR0.out x7_1 p261 q261
            cases e261
            replace p261:=eq_true p261
            replace q261:=eq_true q261
            have p262 : 0 ≤ ((ji7) : Int):=da
            have q262 : (ji7) < (l0.length : Int):=da
            obtain ⟨ad262,e262,hx262_0⟩:=Kd.at_int HR0.out (ji7) p262 q262
            obtain rfl : ad261 = ad262:=(by injection e262)
            replace p262:=eq_true p262
            replace q262:=eq_true q262
            go_wp2
            go_roundg k1
            case measure => have:=HK1.out;omega
            case rel => exact ⟨(wrap64 (x7_1 + 1)),(by first | rfl | (simp;done) | (simp [*];done)),H',⟨by have:=HK1.out;omega⟩,by repeat (first | exact Drawn0.refl _ | apply Drawn0.step)⟩
          ·rw [if_neg c12] at H
           have c12b0 : ((rd l0 x7_1) == a2) = false:=beq_eq_false_iff_ne.mpr c12
           have c12b1 : ((rd l0 x7_1) != a2) = true:=bne_iff_ne.mpr c12
           have H':=Aside0.mk H
           clear H
           have p261 : 0 ≤ (x7_1 : Int):=da
           have q261 : x7_1 < (l0.length : Int):=da
           obtain ⟨ad261,e261,hx261_0⟩:=Kd.at_int HR0.out x7_1 p261 q261
           cases e261
           replace p261:=eq_true p261
           replace q261:=eq_true q261
           have p262 : 0 ≤ ((ji7) : Int):=da
           have q262 : (ji7) < (l0.length : Int):=da
           obtain ⟨ad262,e262,hx262_0⟩:=Kd.at_int HR0.out (ji7) p262 q262
           obtain rfl : ad261 = ad262:=(by injection e262)
           replace p262:=eq_true p262
           replace q262:=eq_true q262
           go_wp2
           go_roundg k1
           case measure => have:=HK1.out;omega
           case rel => exact ⟨(wrap64 (x7_1 + 1)),(by first | rfl | (simp;done) | (simp [*];done)),H',⟨by have:=HK1.out;omega⟩,by repeat (first | exact Drawn0.refl _ | apply Drawn0.step)⟩
        ·rw [if_neg c10] at H
         have c10b0 : ((rd l0 x7_1) == a1) = false:=beq_eq_false_iff_ne.mpr c10
         have c10b1 : ((rd l0 x7_1) != a1) = true:=bne_iff_ne.mpr c10
         by_cases c14 : (rd l0 x7_1) = a2
         ·rw [if_pos c14] at H
          have c14b0 : ((rd l0 x7_1) == a2) = true:=beq_iff_eq.mpr c14
          have c14b1 : ((rd l0 x7_1) != a2) = false:=bne_eq_false_iff_eq.mpr c14
          clear c14
          by_cases c15 : (rd l0 (ji7)) = a1
          ·rw [if_pos c15] at H
           have c15b0 : ((rd l0 (ji7)) == a1) = true:=beq_iff_eq.mpr c15
           have c15b1 : ((rd l0 (ji7)) != a1) = false:=bne_eq_false_iff_eq.mpr c15
           clear c15
           obtain rfl:=Option.some.inj H
           have p261 : 0 ≤ (x7_1 : Int):=da
           have q261 : x7_1 < (l0.length : Int):=da
           obtain ⟨ad261,e261,hx261_0⟩:=Kd.at_int HR0.out x7_1 p261 q261
           cases e261
           replace p261:=eq_true p261
           replace q261:=eq_true q261
           have p262 : 0 ≤ ((ji7) : Int):=da
           have q262 : (ji7) < (l0.length : Int):=da
           obtain ⟨ad262,e262,hx262_0⟩:=Kd.at_int HR0.out (ji7) p262 q262
           obtain rfl : ad261 = ad262:=(by injection e262)
           replace p262:=eq_true p262
           replace q262:=eq_true q262
           go_wp2
           go_ret
           exact ⟨by first | rfl | (simp;done) | (simp only [← hji7] <;> (first | rfl | simp)) | (simp [*];done),by repeat (first | exact Drawn0.refl _ | apply Drawn0.step)⟩
          ·rw [if_neg c15] at H
           have c15b0 : ((rd l0 (ji7)) == a1) = false:=beq_eq_false_iff_ne.mpr c15
           have c15b1 : ((rd l0 (ji7)) != a1) = true:=bne_iff_ne.mpr c15
           have H':=Aside0.mk H
           clear H
           have p261 : 0 ≤ (x7_1 : Int):=da
           have q261 : x7_1 < (l0.length : Int):=da
           obtain ⟨ad261,e261,hx261_0⟩:=Kd.at_int HR0.out x7_1 p261 q261
           cases e261
           replace p261:=eq_true p261
           replace q261:=eq_true q261
           have p262 : 0 ≤ ((ji7) : Int):=da
           have q262 : (ji7) < (l0.length : Int):=da
           obtain ⟨ad262,e262,hx262_0⟩:=Kd.at_int HR0.out (ji7) p262 q262
           obtain rfl : ad261 = ad262:=(by injection e262)
           replace p262:=eq_true p262
           replace q262:=eq_true q262
           go_wp2
           go_roundg k1
           case measure => have:=HK1.out;omega
           case rel => exact ⟨(wrap64 (x7_1 + 1)),(by first | rfl | (simp;done) | (simp [*];done)),H',⟨by have:=HK1.out;omega⟩,by repeat (first | exact Drawn0.refl _ | apply Drawn0.step)⟩
         ·rw [if_neg c14] at H
          have c14b0 : ((rd l0 x7_1) == a2) = false:=beq_eq_false_iff_ne.mpr c14
          have c14b1 : ((rd l0 x7_1) != a2) = true:=bne_iff_ne.mpr c14
          have H':=Aside0.mk H
          clear H
          have p261 : 0 ≤ (x7_1 : Int):=da
          have q261 : x7_1 < (l0.length : Int):=da
          obtain ⟨ad261,e261,hx261_0⟩:=Kd.at_int HR0.out x7_1 p261 q261
          cases e261
          replace p261:=eq_true p261
          replace q261:=eq_true q261
          have p262 : 0 ≤ ((ji7) : Int):=da
          have q262 : (ji7) < (l0.length : Int):=da
          obtain ⟨ad262,e262,hx262_0⟩:=Kd.at_int HR0.out (ji7) p262 q262
          obtain rfl : ad261 = ad262:=(by injection e262)
          replace p262:=eq_true p262
          replace q262:=eq_true q262
          go_wp2
          go_roundg k1
          case measure => have:=HK1.out;omega
          case rel => exact ⟨(wrap64 (x7_1 + 1)),(by first | rfl | (simp;done) | (simp [*];done)),H',⟨by have:=HK1.out;omega⟩,by repeat (first | exact Drawn0.refl _ | apply Drawn0.step)⟩
       ·rw [if_neg c9] at H
        exact absurd H (by simp)
      ·rw [if_neg c8] at H
       exact absurd H (by simp)
    ·rw [if_neg c5] at H
     exact absurd H (by simp)
   ·rw [if_neg c4] at H
    have c4b0 : decide (x7_1 < (l0.length : Int)) = false:=decide_eq_false c4
    clear c4
    obtain rfl:=Option.some.inj H
    go_wp2
    go_ret
    exact ⟨by first | rfl | (simp;done) | (simp [*];done),by repeat (first | exact Drawn0.refl _ | apply Drawn0.step)⟩
def spec_l05OnEdge.l0 : Nat → Int → Int → List Int → Int → Int → Int → List (S78) → List (S64) → Option (List Int × Int × Int)
 | 0,_,_,_,_,_,_,_,_ => none
 | k + 1,x1,x2,x7,x8,x1000,x1001,x1002,x1003 => if x8 < (x1003.length : Int) then (if 0 ≤ x8 then ((spec_l05HasEdge.f k ((rd_T64 x1003 x8).f1) x1 x2).bind fun t267 => (if t267 = true then (if x7.length < 17592186044416 then (spec_l05OnEdge.l0 k x1 x2 (x7 ++ [x8]) (wrap64 (x8 + 1)) x1000 x1001 x1002 x1003) else (none)) else (spec_l05OnEdge.l0 k x1 x2 x7 (wrap64 (x8 + 1)) x1000 x1001 x1002 x1003))) else (none)) else (some (x7,x1000,x1001))
def spec_l05OnEdge.f (k : Nat) (s0_0 : Int) (s0_1 : Int) (s0_2 : List (S78)) (s0_3 : List (S64)) (a1 : Int) (a2 : Int) : Option (List Int × Int × Int):=spec_l05OnEdge.l0 k a1 a2 (([] : List Int)) 0 s0_0 s0_1 s0_2 s0_3
theorem spec_l05OnEdge.calls (k : Nat) (g : Nat) (s0_0 : Int) (s0_1 : Int) (s0_2 : List (S78)) (s0_3 : List (S64)) (a1 : Int) (a2 : Int) (r1 : List Int) (r2 : Int) (r3 : Int) (w0 w : World) (hI : IsS33 w0 w g s0_0 s0_1 s0_2 s0_3) (hB : Below w0.heap.size w0 w) (h : spec_l05OnEdge.f k s0_0 s0_1 s0_2 s0_3 a1 a2 = some (r1,r2,r3)) :
  Calls Try.prog 32 #[.pointer (some ⟨g,0,none⟩),.int .i64 a1,.int .i64 a2] w fun e w' => ∃ v0_ : Value,e = .returned (v0_) ∧ Kd.R (Kd.int .i64) 2 w' w.heap.size (fun _ => True) v0_ r1 ∧ IsS33 w0 w' g r2 r3 s0_2 s0_3 ∧ Below w0.heap.size w0 w' ∧ KeepBut w w' g none:=by
 have HI0:=Aside0.mk hI
 have HK:=Aside0.mk (KeepBut.refl w g none)
 have HL:=Aside0.mk hB.size
 clear hI
 have HW0:=Aside0.mk hB.size
 have HB:=Aside0.mk hB
 clear hB
 have H : (spec_l05OnEdge.l0 k a1 a2 (([] : List Int)) 0 s0_0 s0_1 s0_2 s0_3) = some (r1,r2,r3):=h
 clear h
 obtain ⟨y263,hy263⟩ : ∃ y_ : List Int,y_ = (([] : List Int)):=⟨_,rfl⟩
 replace H : (spec_l05OnEdge.l0 k a1 a2 y263 0 s0_0 s0_1 s0_2 s0_3) = some (r1,r2,r3):=by first | (rw [hy263];with_reducible exact H) | (have H2_:=(Option.bind_some _ _).symm.trans H;rw [hy263];with_reducible exact H2_) | (have H2_:=(Option.bind_some _ _).symm.trans H;with_reducible exact H2_) | with_reducible exact H | (rw [hy263];exact H) | exact H
 have Ny263:=Aside0.mk hy263
 clear hy263
 have H':=Aside0.mk H
 clear H
 go_enter Try.func32,Try.ntmps32
 go_wp2_with (first | ((with_reducible refine gate_dst (N:=9) rfl ?_);refine Kd.R_lit (Kd.int .i64) _ 2 ?hg (N:=9) ?hd (xs:=([] : List Int)) (inner:=[]) (ok:=fun _ => True) (okp:=fun _ => True) ?hr ?hp (fun _ hk => hk) trivial (Below.refl _ _) (Nat.le_refl _) (by simp) ?_;(case hd => rfl);(case hg => rfl);(case hr => first | (go_simp;done) | (go_simp;rfl));(case hp => exact (Reps.none _ _));intro v264 w4 ho5 hb hg_ hnew_;clear hg_ hnew_;(first | rw [← Ny263.out] at ho5 | (simp only [Int.reduceToNat] at ho5;rw [← Ny263.out] at ho5));have HO265:=Aside0.mk (Kd.R_lower ho5 (keep_size (w:=w) (g:=g) (row:=none) (by repeat (first | (with_reducible first | exact HK.out | apply KeepBut.set_ | apply keep_drewN | apply keep_drew | apply keep_alloc) | exact HK.out))));replace HK:=Aside0.mk (KeepBut.trans (by repeat (first | (with_reducible first | exact HK.out | apply KeepBut.set_ | apply keep_drewN | apply keep_drew | apply keep_alloc) | exact HK.out)) (KeepBut.of_below hb g none) (.inl rfl));replace HB:=Aside0.mk (below_step (by repeat (first | (with_reducible first | exact HB.out | apply below_alloc | apply pw_below_drewN | apply below_drew1 | refine below_set ?_ (IsS33.ge HI0.out)) | exact HB.out)) hb);replace HI0:=Aside0.mk (IsS33.below (by repeat (first | (with_reducible first | exact HI0.out | apply IsS33.alloc | apply IsS33.drewN | apply IsS33.drew | apply IsS33.set_0 | apply IsS33.set_1) | exact HI0.out)) hb);clear hb ho5))
 go_loopg [7,8] k (fun kq v7 v8 w' => ∃ (x7_1 : List Int) (x8_1 : Int),v8 = .int .i64 x8_1 ∧ Aside0 (spec_l05OnEdge.l0 kq a1 a2 x7_1 x8_1 s0_0 s0_1 s0_2 s0_3 = some (r1,r2,r3)) ∧ Aside0 (kq ≤ k) ∧ Aside0 (Kd.R (Kd.int .i64) 2 w' w.heap.size (fun _ => True) v7 x7_1) ∧ Aside0 (IsS33 w0 w' g s0_0 s0_1 s0_2 s0_3) ∧ Aside0 (KeepBut w w' g none) ∧ Aside0 (Below w0.heap.size w0 w'))
 case atStart => exact ⟨(y263),(0),(by first | rfl | (simp;done) | (simp [*];done)),H',⟨Nat.le_refl _⟩,⟨rO HO265.out⟩,⟨by repeat (first | (with_reducible first | exact HI0.out | apply IsS33.alloc | apply IsS33.drewN | apply IsS33.drew | apply IsS33.set_0 | apply IsS33.set_1) | exact HI0.out)⟩,⟨by repeat (first | (with_reducible first | exact HK.out | apply KeepBut.set_ | apply keep_drewN | apply keep_drew | apply keep_alloc) | exact HK.out)⟩,⟨by repeat (first | (with_reducible first | exact HB.out | apply below_alloc | apply pw_below_drewN | apply below_drew1 | refine below_set ?_ (IsS33.ge HI0.out)) | exact HB.out)⟩⟩
 case round =>
  clear H'
  try clear p2
  try clear c3
  obtain ⟨x7_1,x8_1,rfl,HA,HK1,HO_7,HI0,HK,HB⟩:=hrel
  cases gk with
  | zero => exact absurd HA.out (by simp [spec_l05OnEdge.l0])
  | succ k1 =>
   have H:=HA.out
   clear HA
   simp only [spec_l05OnEdge.l0] at H
   by_cases c6 : x8_1 < (s0_3.length : Int)
   ·rw [if_pos c6] at H
    have c6b0 : decide (x8_1 < (s0_3.length : Int)) = true:=decide_eq_true c6
    clear c6
    by_cases c7 : 0 ≤ x8_1
    ·rw [if_pos c7] at H
     have c7b0 : decide (0 ≤ x8_1) = true:=decide_eq_true c7
     clear c7
     replace H:=bE.mp H
     obtain ⟨t267,A80,H⟩:=H
     replace H : (if t267 = true then (if x7_1.length < 17592186044416 then (spec_l05OnEdge.l0 k1 a1 a2 (x7_1 ++ [x8_1]) (wrap64 (x8_1 + 1)) s0_0 s0_1 s0_2 s0_3) else (none)) else (spec_l05OnEdge.l0 k1 a1 a2 x7_1 (wrap64 (x8_1 + 1)) s0_0 s0_1 s0_2 s0_3)) = some (r1,r2,r3):=H
     have A8:=Aside0.mk A80
     clear A80
     by_cases c9 : t267 = true
     ·subst c9
      have H1 : (if x7_1.length < 17592186044416 then (spec_l05OnEdge.l0 k1 a1 a2 (x7_1 ++ [x8_1]) (wrap64 (x8_1 + 1)) s0_0 s0_1 s0_2 s0_3) else (none)) = some (r1,r2,r3):=by rw [if_pos rfl] at H;exact H
      clear H
      have H:=H1
      clear H1
      by_cases c10 : x7_1.length < 17592186044416
      ·rw [if_pos c10] at H
       have LMc10:=Aside0.mk c10
       clear c10
       obtain ⟨y268,hy268⟩ : ∃ y_ : List Int,y_ = (x7_1 ++ [x8_1]):=⟨_,rfl⟩
       replace H : (spec_l05OnEdge.l0 k1 a1 a2 y268 (wrap64 (x8_1 + 1)) s0_0 s0_1 s0_2 s0_3) = some (r1,r2,r3):=by first | (rw [hy268];with_reducible exact H) | (have H2_:=(Option.bind_some _ _).symm.trans H;rw [hy268];with_reducible exact H2_) | (have H2_:=(Option.bind_some _ _).symm.trans H;with_reducible exact H2_) | with_reducible exact H | (rw [hy268];exact H) | exact H
       have Ny268:=Aside0.mk hy268
       clear hy268
       have H':=Aside0.mk H
       clear H
       obtain ⟨ASz11_2,cSz11_2,ASz11_3,cSz11_3,HGz11,hgz11,HSz11_2,HSz11_3⟩:=HI0.out
       have hcz11_0:=cellS33_0 HGz11
       have hcz11_1:=cellS33_1 HGz11
       have hcz11_2:=cellS33_2 HGz11
       have hcz11_3:=cellS33_3 HGz11
       have hfz11_0:=blk_frozen HGz11 0
       have hfz11_1:=blk_frozen HGz11 1
       clear HGz11 hgz11
       have p266 : 0 ≤ (x8_1 : Int):=da
       have q266 : x8_1 < (s0_3.length : Int):=da
       obtain ⟨ad266,A266_1,c266_1,e266,hx266_0,hx266_1,hl266_1,hi266_1⟩:=at_T64 HSz11_3 x8_1 p266 q266
       cases e266
       replace hx266_0:=pw_cell_below HB.out hx266_0
       replace hx266_1:=pw_cell_below HB.out hx266_1
       have HR266_1:=Aside0.mk hi266_1
       have HC266_1:=Aside0.mk hl266_1
       clear hi266_1 hl266_1
       replace p266:=eq_true p266
       replace q266:=eq_true q266
       go_wp2_with (first | ((with_reducible refine gate_callee (f:=43) rfl ?_);refine goesL_ (some 29) rfl rfl Try.func43 (by kernel_rfl) rfl #[.slice A266_1 ((rd_T64 s0_3 x8_1).f1).length c266_1,.int .i64 a1,.int .i64 a2] rfl (by (try simp only [mT,mC,mN]);first | done | rfl | (simp only [List.length_drop,List.length_take];rfl)) ?_;(with_reducible refine (spec_l05HasEdge.calls k1 _ _ ((rd_T64 s0_3 x8_1).f1) a1 a2 true _ ?side1 ?side2 A8.out).mono ?_);(case side1 => exact Kd.C_below HR266_1.out (by repeat (first | (with_reducible first | exact HB.out | apply below_alloc | apply pw_below_drewN | apply below_drew1 | refine below_set ?_ (IsS33.ge HI0.out)) | exact HB.out)));(case side2 => exact HC266_1.out);rintro e w' ⟨rfl,⟨nd,rfl⟩⟩;refine ⟨_,rfl,?_⟩) | ((with_reducible refine gate_builtin (b:=.append) (xs:=#[.tmp 30,.tmp 32]) rfl ?_);at_builtin;refine Kd.R_append (Kd.int .i64) w.heap.size rfl (.tmp 30) (.tmp 32) 27 2 (.int .i64 0) 8 rfl Try.underlying27 info2 rfl (by decide) (by omega) u7 x7_1 x8_1 [.int .i64 x8_1] (fun _ => True) (fun _ => False) rfl rfl ?aP (fun _ hk => hk.elim) ?aF ?aO (Below.refl _ _) ?aS ?aL ?_;(case aP => exact rfl);(case aF => exact (fun _ _ => trivial));(case aO => exact (rO HO_7.out));(case aS => exact (keep_size (w:=w) (g:=g) (row:=none) (by repeat (first | (with_reducible first | exact HK.out | apply KeepBut.set_ | apply keep_drewN | apply keep_drew | apply keep_alloc) | exact HK.out))));(case aL => have:=LMc10.out;omega);intro v269 w12 ho hb hg hat;rw [← Ny268.out] at ho;replace HB:=Aside0.mk (below_weaken (by repeat (first | (with_reducible first | exact HB.out | apply below_alloc | apply pw_below_drewN | apply below_drew1 | refine below_set ?_ (IsS33.ge HI0.out)) | exact HB.out)) HL.out hb);replace HI0:=Aside0.mk (IsS33.grown (by repeat (first | (with_reducible first | exact HI0.out | apply IsS33.alloc | apply IsS33.drewN | apply IsS33.drew | apply IsS33.set_0 | apply IsS33.set_1) | exact HI0.out)) hg (IsS33.own_ne HI0.out HO_7.out (by decide)));replace HK:=Aside0.mk (KeepBut.trans (by repeat (first | (with_reducible first | exact HK.out | apply KeepBut.set_ | apply keep_drewN | apply keep_drew | apply keep_alloc) | exact HK.out)) (KeepBut.of_grown hg g) (Kd.R_base2 HO_7.out));have HO270:=Aside0.mk (ho);clear HO_7;clear ho hb hg hat))
       go_roundg k1
       case measure => have:=HK1.out;omega
       case rel => exact ⟨(y268),(wrap64 (x8_1 + 1)),(by first | rfl | (simp;done) | (simp [*];done)),H',⟨by have:=HK1.out;omega⟩,⟨rO HO270.out⟩,⟨by repeat (first | (with_reducible first | exact HI0.out | apply IsS33.alloc | apply IsS33.drewN | apply IsS33.drew | apply IsS33.set_0 | apply IsS33.set_1) | exact HI0.out)⟩,⟨by repeat (first | (with_reducible first | exact HK.out | apply KeepBut.set_ | apply keep_drewN | apply keep_drew | apply keep_alloc) | exact HK.out)⟩,⟨by repeat (first | (with_reducible first | exact HB.out | apply below_alloc | apply pw_below_drewN | apply below_drew1 | refine below_set ?_ (IsS33.ge HI0.out)) | exact HB.out)⟩⟩
      ·rw [if_neg c10] at H
       exact absurd H (by simp)
     ·replace c9:=Bool.eq_false_iff.mpr c9
      subst c9
      have H1 : (spec_l05OnEdge.l0 k1 a1 a2 x7_1 (wrap64 (x8_1 + 1)) s0_0 s0_1 s0_2 s0_3) = some (r1,r2,r3):=by rw [if_neg (show ¬ (false = true) by decide)] at H;exact H
      clear H
      have H:=H1
      clear H1
      have H':=Aside0.mk H
      clear H
      obtain ⟨ASz13_2,cSz13_2,ASz13_3,cSz13_3,HGz13,hgz13,HSz13_2,HSz13_3⟩:=HI0.out
      have hcz13_0:=cellS33_0 HGz13
      have hcz13_1:=cellS33_1 HGz13
      have hcz13_2:=cellS33_2 HGz13
      have hcz13_3:=cellS33_3 HGz13
      have hfz13_0:=blk_frozen HGz13 0
      have hfz13_1:=blk_frozen HGz13 1
      clear HGz13 hgz13
      have p266 : 0 ≤ (x8_1 : Int):=da
      have q266 : x8_1 < (s0_3.length : Int):=da
      obtain ⟨ad266,A266_1,c266_1,e266,hx266_0,hx266_1,hl266_1,hi266_1⟩:=at_T64 HSz13_3 x8_1 p266 q266
      cases e266
      replace hx266_0:=pw_cell_below HB.out hx266_0
      replace hx266_1:=pw_cell_below HB.out hx266_1
      have HR266_1:=Aside0.mk hi266_1
      have HC266_1:=Aside0.mk hl266_1
      clear hi266_1 hl266_1
      replace p266:=eq_true p266
      replace q266:=eq_true q266
      go_wp2_with (first | ((with_reducible refine gate_callee (f:=43) rfl ?_);refine goesL_ (some 29) rfl rfl Try.func43 (by kernel_rfl) rfl #[.slice A266_1 ((rd_T64 s0_3 x8_1).f1).length c266_1,.int .i64 a1,.int .i64 a2] rfl (by (try simp only [mT,mC,mN]);first | done | rfl | (simp only [List.length_drop,List.length_take];rfl)) ?_;(with_reducible refine (spec_l05HasEdge.calls k1 _ _ ((rd_T64 s0_3 x8_1).f1) a1 a2 false _ ?side1 ?side2 A8.out).mono ?_);(case side1 => exact Kd.C_below HR266_1.out (by repeat (first | (with_reducible first | exact HB.out | apply below_alloc | apply pw_below_drewN | apply below_drew1 | refine below_set ?_ (IsS33.ge HI0.out)) | exact HB.out)));(case side2 => exact HC266_1.out);rintro e w' ⟨rfl,⟨nd,rfl⟩⟩;refine ⟨_,rfl,?_⟩))
      go_roundg k1
      case measure => have:=HK1.out;omega
      case rel => exact ⟨(x7_1),(wrap64 (x8_1 + 1)),(by first | rfl | (simp;done) | (simp [*];done)),H',⟨by have:=HK1.out;omega⟩,⟨rO HO_7.out⟩,⟨by repeat (first | (with_reducible first | exact HI0.out | apply IsS33.alloc | apply IsS33.drewN | apply IsS33.drew | apply IsS33.set_0 | apply IsS33.set_1) | exact HI0.out)⟩,⟨by repeat (first | (with_reducible first | exact HK.out | apply KeepBut.set_ | apply keep_drewN | apply keep_drew | apply keep_alloc) | exact HK.out)⟩,⟨by repeat (first | (with_reducible first | exact HB.out | apply below_alloc | apply pw_below_drewN | apply below_drew1 | refine below_set ?_ (IsS33.ge HI0.out)) | exact HB.out)⟩⟩
    ·rw [if_neg c7] at H
     exact absurd H (by simp)
   ·rw [if_neg c6] at H
    have c6b0 : decide (x8_1 < (s0_3.length : Int)) = false:=decide_eq_false c6
    clear c6
    simp only [Option.some.injEq,Prod.mk.injEq] at H
    obtain ⟨rfl,rfl,rfl⟩:=H
    obtain ⟨ASz14_2,cSz14_2,ASz14_3,cSz14_3,HGz14,hgz14,HSz14_2,HSz14_3⟩:=HI0.out
    have hcz14_0:=cellS33_0 HGz14
    have hcz14_1:=cellS33_1 HGz14
    have hcz14_2:=cellS33_2 HGz14
    have hcz14_3:=cellS33_3 HGz14
    have hfz14_0:=blk_frozen HGz14 0
    have hfz14_1:=blk_frozen HGz14 1
    clear HGz14 hgz14
    go_wp2
    go_ret
    exact ⟨_,by first | rfl | (simp [errW_none,errW_some] <;> rfl) | (simp [*,errW_none,errW_some] <;> rfl),rO HO_7.out,by repeat (first | (with_reducible first | exact HI0.out | apply IsS33.alloc | apply IsS33.drewN | apply IsS33.drew | apply IsS33.set_0 | apply IsS33.set_1) | exact HI0.out),by repeat (first | (with_reducible first | exact HB.out | apply below_alloc | apply pw_below_drewN | apply below_drew1 | refine below_set ?_ (IsS33.ge HI0.out)) | exact HB.out),by repeat (first | (with_reducible first | exact HK.out | apply KeepBut.set_ | apply keep_drewN | apply keep_drew | apply keep_alloc) | exact HK.out)⟩
end Go.Proofs.Ytpeebobdbaemiaa.PFnExactEdgesOf
