/- Contracts of functions that FnExactUnusedPoints reaches, out of the lines of the kit's print. -/
import Derived.Test.YtnnchaggdnlfmaaQFnExactUnusedPointsx0
import Derived.Test.YtnnchaggdnlfmaaQFnExactUnusedPointsx2
import Derived.Test.YtnnchaggdnlfmaaQFnExactUnusedPointsx3
import Derived.Test.YtnnchaggdnlfmaaQFnExactUnusedPointsx4
import Derived.Test.YtnnchaggdnlfmaaQFnExactUnusedPointsx5
import Derived.Test.YtnnchaggdnlfmaaQFnExactUnusedPointsx11
import Derived.Test.YtnnchaggdnlfmaaQFnExactUnusedPointsx15
namespace Go.Proofs.Ytnnchaggdnlfmaa.PFnExactUnusedPoints
set_option maxHeartbeats 8000000
set_option maxRecDepth 100000
open Go.RowKit Go.Proofs.YtnnchaggdnlfmaaW.PrintWords Go.Proofs.YtnnchaggdnlfmaaW.PrintLast Go.Proofs.YtnnchaggdnlfmaaW.PrintMore
open Bool renaming true → tT, false → fF
open Go.World renaming block_lt_of_cell? → bL
open List renaming length_take → lT, length_drop → lD, map_toArray → mT, map_cons → mC, map_nil → mN
open Option renaming bind_eq_some_iff → bE
attribute [local go_sem] max2_int min2_int max_two min_two max_three min_three max_four min_four
set_option linter.unusedVariables false
set_option linter.unusedSimpArgs false
def slices_Index_int64_int64.l0 : Nat → List Int → Int → Int → Int → Option (Int)
 | 0,_,_,_,_ => none
 | k + 1,x0,x1,x7,x8 => if x8 < x7 then (if 0 ≤ x8 then (if x8 < (x0.length : Int) then (if x1 = (rd x0 x8) then (some x8) else (slices_Index_int64_int64.l0 k x0 x1 x7 (wrap64 (x8 + 1)))) else (none)) else (none)) else (some (-1))
def slices_Index_int64_int64.f (k : Nat) (l0 : List Int) (a1 : Int) : Option (Int):=slices_Index_int64_int64.l0 k l0 a1 (l0.length : Int) 0
theorem slices_Index_int64_int64.calls (k : Nat) (A0 : Option Addr) (c0 : Nat) (l0 : List Int) (a1 : Int) (r : Int) (w : World) (hr0 : Kd.C (Kd.int .i64) w A0 l0.length l0) (hc0 : l0.length ≤ c0) (h : slices_Index_int64_int64.f k l0 a1 = some r) :
  Calls Try.prog 157 #[.slice A0 l0.length c0,.int .i64 a1] w fun e w' => e = .returned (.int .i64 r) ∧ Drawn0 w w':=by
 have HR0:=Aside0.mk hr0
 have HC0:=Aside0.mk hc0
 clear hr0 hc0
 have H : (slices_Index_int64_int64.l0 k l0 a1 (l0.length : Int) 0) = some r:=h
 clear h
 have H':=Aside0.mk H
 clear H
 go_enter Try.func157,Try.ntmps157
 go_wp2
 go_loopg [8] k (fun kq v8 w' => ∃ (x8_1 : Int),v8 = .int .i64 x8_1 ∧ Aside0 (slices_Index_int64_int64.l0 kq l0 a1 (l0.length : Int) x8_1 = some r) ∧ Aside0 (kq ≤ k) ∧ Drawn0 w w')
 case atStart => exact ⟨(0),(by first | rfl | (simp;done) | (simp [*];done)),H',⟨Nat.le_refl _⟩,by repeat (first | exact Drawn0.refl _ | apply Drawn0.step)⟩
 case round =>
  clear H'
  try clear c1
  try clear p2
  obtain ⟨x8_1,rfl,HA,HK1,⟨m1,rfl⟩⟩:=hrel
  cases gk with
  | zero => exact absurd HA.out (by simp [slices_Index_int64_int64.l0])
  | succ k1 =>
   have H:=HA.out
   clear HA
   simp only [slices_Index_int64_int64.l0] at H
   by_cases c3 : x8_1 < (l0.length : Int)
   ·rw [if_pos c3] at H
    have c3b0 : decide (x8_1 < (l0.length : Int)) = true:=decide_eq_true c3
    clear c3
    by_cases c4 : 0 ≤ x8_1
    ·rw [if_pos c4] at H
     have c4b0 : decide (0 ≤ x8_1) = true:=decide_eq_true c4
     clear c4
     by_cases c5 : x8_1 < (l0.length : Int)
     ·rw [if_pos c5] at H
      have c5b0 : decide (x8_1 < (l0.length : Int)) = true:=decide_eq_true c5
      clear c5
      by_cases c6 : a1 = (rd l0 x8_1)
      ·rw [if_pos c6] at H
       have c6b0 : (a1 == (rd l0 x8_1)) = true:=beq_iff_eq.mpr c6
       have c6b1 : (a1 != (rd l0 x8_1)) = false:=bne_eq_false_iff_eq.mpr c6
       clear c6
       obtain rfl:=Option.some.inj H
       have p358 : 0 ≤ (x8_1 : Int):=da
       have q358 : x8_1 < (l0.length : Int):=da
       obtain ⟨ad358,e358,hx358_0⟩:=Kd.at_int HR0.out x8_1 p358 q358
       cases e358
       replace p358:=eq_true p358
       replace q358:=eq_true q358
       go_wp2
       go_ret
       exact ⟨by first | rfl | (simp;done) | (simp [*];done),by repeat (first | exact Drawn0.refl _ | apply Drawn0.step)⟩
      ·rw [if_neg c6] at H
       have c6b0 : (a1 == (rd l0 x8_1)) = false:=beq_eq_false_iff_ne.mpr c6
       have c6b1 : (a1 != (rd l0 x8_1)) = true:=bne_iff_ne.mpr c6
       have H':=Aside0.mk H
       clear H
       have p358 : 0 ≤ (x8_1 : Int):=da
       have q358 : x8_1 < (l0.length : Int):=da
       obtain ⟨ad358,e358,hx358_0⟩:=Kd.at_int HR0.out x8_1 p358 q358
       cases e358
       replace p358:=eq_true p358
       replace q358:=eq_true q358
       go_wp2
       go_roundg k1
       case measure => have:=HK1.out;omega
       case rel => exact ⟨(wrap64 (x8_1 + 1)),(by first | rfl | (simp;done) | (simp [*];done)),H',⟨by have:=HK1.out;omega⟩,by repeat (first | exact Drawn0.refl _ | apply Drawn0.step)⟩
     ·first | (exfalso;have z_:=of_decide_eq_true c3b0;omega) | (rw [if_neg c5] at H;exact absurd H (by simp))
    ·rw [if_neg c4] at H
     exact absurd H (by simp)
   ·rw [if_neg c3] at H
    have c3b0 : decide (x8_1 < (l0.length : Int)) = false:=decide_eq_false c3
    clear c3
    obtain rfl:=Option.some.inj H
    go_wp2
    go_ret
    exact ⟨by first | rfl | (simp;done) | (simp [*];done),by repeat (first | exact Drawn0.refl _ | apply Drawn0.step)⟩
def slices_Contains_int64_int64.f (k : Nat) (l0 : List Int) (a1 : Int) : Option (Bool):=(slices_Index_int64_int64.f k l0 a1).bind fun t359 => (some (decide (t359 ≥ 0)))
theorem slices_Contains_int64_int64.calls (k : Nat) (A0 : Option Addr) (c0 : Nat) (l0 : List Int) (a1 : Int) (r : Bool) (w : World) (hr0 : Kd.C (Kd.int .i64) w A0 l0.length l0) (hc0 : l0.length ≤ c0) (h : slices_Contains_int64_int64.f k l0 a1 = some r) :
  Calls Try.prog 140 #[.slice A0 l0.length c0,.int .i64 a1] w fun e w' => e = .returned (.bool r) ∧ Drawn0 w w':=by
 have HR0:=Aside0.mk hr0
 have HC0:=Aside0.mk hc0
 clear hr0 hc0
 have H : ((slices_Index_int64_int64.f k l0 a1).bind fun t359 => (some (decide (t359 ≥ 0)))) = some r:=h
 clear h
 replace H:=bE.mp H
 obtain ⟨t359,A30,H⟩:=H
 replace H : (some (decide (t359 ≥ 0))) = some r:=H
 have A3:=Aside0.mk A30
 clear A30
 obtain rfl:=Option.some.inj H
 go_enter Try.func140,Try.ntmps140
 go_wp2_with (first | ((with_reducible refine gate_callee (f:=157) rfl ?_);refine goesL_ (some 7) rfl rfl Try.func157 (by kernel_rfl) rfl #[.slice A0 l0.length c0,.int .i64 a1] rfl (by (try simp only [mT,mC,mN]);first | done | rfl | (simp only [lD,lT];rfl)) ?_;(with_reducible refine (slices_Index_int64_int64.calls k _ _ l0 a1 t359 _ ?side1 ?side2 A3.out).mono ?_);(case side1 => exact cO HR0.out);(case side2 => exact HC0.out);rintro e w' ⟨rfl,⟨nd,rfl⟩⟩;refine ⟨_,rfl,?_⟩))
 go_ret
 exact ⟨by first | rfl | (simp;done) | (simp [*];done),by repeat (first | exact Drawn0.refl _ | apply Drawn0.step)⟩
def impl_unused.ix : Nat → List (S103) → Int → Int → Option (Int)
 | 0,_,_,_ => none
 | k + 1,x0,i,x8 => if x8 < (x0.length : Int) then (if 0 ≤ x8 then ((slices_Contains_int64_int64.f k ((rd_T103 x0 x8).f1) i).bind fun t => (if t = true then (some x8) else (impl_unused.ix k x0 i (wrap64 (x8 + 1))))) else (none)) else (some (-1))
def impl_unused.l0 : Nat → List (S103) → List Int → Int → Int → Option (List Int)
 | 0,_,_,_,_ => none
 | k + 1,x0,x3,n,x9 => if x9 < n then ((impl_unused.ix k x0 x9 0).bind fun t => (if t ≥ 0 then (impl_unused.l0 k x0 x3 n (wrap64 (x9 + 1))) else (if x3.length < 17592186044416 then (impl_unused.l0 k x0 (x3 ++ [x9]) n (wrap64 (x9 + 1))) else (none)))) else (some x3)
def impl_unused.f (k : Nat) (a0_0 : Int) (a0_1 : Int) (l0_2 : List (S73)) (l0_3 : List (S103)) : Option (List Int):=impl_unused.l0 k l0_3 ([] : List Int) (l0_2.length : Int) 0
theorem impl_unused.clo (k : Nat) (s : ByteArray) (A : Option Addr) (c : Nat) (l : List Int) (i : Int) (r : Bool) (w : World) (g : Nat) (hr : Kd.C (Kd.int .i64) w A l.length l) (hc : l.length ≤ c) (hi : w.cell? ⟨g,0,none⟩ = some (.int .i64 i)) (h : slices_Contains_int64_int64.f k l i = some r) :
  Calls Try.prog 139 #[.agg #[.string s,.slice A l.length c],.pointer (some ⟨g,0,none⟩)] w fun e w' => e = .returned (.bool r) ∧ Below w.heap.size w w':=by
 have hu103:=Try.underlying103
 have HR0:=Aside0.mk hr
 have HC0:=Aside0.mk hc
 have HI:=Aside0.mk hi
 clear hr hc hi
 have HB:=Aside0.mk (Below.refl w.heap.size w)
 have A1:=Aside0.mk h
 clear h
 go_enter Try.func139,Try.ntmps139
 go_wp2_with (first | ((with_reducible refine gate_dst (N:=2) rfl ?_);refine bx (cs:=#[.string s,.slice A l.length c]) (t:=103) ?_;intro gb hg w3 hbox hb;have BK:=Aside0.mk hbox;have HBn_:=sb hb;clear HB;have HB:=HBn_;clear HBn_;have hcz_0 : w3.cell? ⟨gb,0,none⟩ = some (.string s):=(blk_cell BK.out 0).trans rfl;have hcz_1 : w3.cell? ⟨gb,1,none⟩ = some (.slice A l.length c):=(blk_cell BK.out 1).trans rfl;have hi_:=(HB.out.cell (bL w _ HI.out)).trans HI.out;clear hg hbox hb) | ((with_reducible refine gate_callee (f:=140) rfl ?_);refine goesL_ _ rfl rfl Try.func140 (by kernel_rfl) rfl #[.slice A l.length c,.int .i64 i] rfl (by (try simp only [mT,mC,mN]);first | done | rfl | (simp only [lD,lT];rfl)) ?_;(with_reducible refine (slices_Contains_int64_int64.calls k _ _ l i r _ (Kd.C_below HR0.out ib) HC0.out A1.out).mono ?_);rintro e w5 ⟨rfl,hd_⟩;refine ⟨_,rfl,?_⟩;have hb:=hd_.below;clear hd_;have HBn_:=sb hb;clear HB;have HB:=HBn_;clear HBn_ hb))
 go_ret
 exact ⟨rfl,ib⟩
theorem impl_unused.index (k : Nat) (A0 : Option Addr) (c0 : Nat) (l0 : List (S103)) (i : Int) (g : Nat) (r : Int) (w : World) (hr0 : Kd.C k103 w A0 l0.length l0) (hc0 : l0.length ≤ c0) (hi : w.cell? ⟨g,0,none⟩ = some (.int .i64 i)) (h : impl_unused.ix k l0 i 0 = some r) :
  Calls Try.prog 156 #[.slice A0 l0.length c0,.func (.func 139) #[] #[.pointer (some ⟨g,0,none⟩)]] w fun e w' => e = .returned (.int .i64 r) ∧ Below w.heap.size w w':=by
 have hu103:=Try.underlying103
 have HR0:=Aside0.mk hr0
 have HC0:=Aside0.mk hc0
 have HI:=Aside0.mk hi
 clear hr0 hc0 hi
 have HB:=Aside0.mk (Below.refl w.heap.size w)
 have H':=Aside0.mk h
 clear h
 go_enter Try.func156,Try.ntmps156
 go_wp2
 repeat (go_quiet (fail);try go_wp2)
 go_loopg [5,8] k (fun kq v5 v8 w' => ∃ (x8_1 : Int),v8 = .int .i64 x8_1 ∧ Aside0 (impl_unused.ix kq l0 i x8_1 = some r) ∧ Aside0 (kq ≤ k) ∧ Aside0 (Below w.heap.size w w'))
 case atStart => exact ⟨(0),(by first | rfl | (simp;done) | (simp [*];done)),H',⟨Nat.le_refl _⟩,⟨ib⟩⟩
 case round =>
  clear H'
  obtain ⟨x8_1,rfl,HA,HK1,HB⟩:=hrel
  cases gk with
  | zero => exact absurd HA.out (by simp [impl_unused.ix])
  | succ k1 =>
   have H:=HA.out
   clear HA
   simp only [impl_unused.ix] at H
   by_cases c4 : x8_1 < (l0.length : Int)
   ·rw [if_pos c4] at H
    have c4b0 : decide (x8_1 < (l0.length : Int)) = true:=decide_eq_true c4
    by_cases c5 : 0 ≤ x8_1
    ·rw [if_pos c5] at H
     have c5b0 : decide (0 ≤ x8_1) = true:=decide_eq_true c5
     obtain ⟨t,A1,H⟩:=bE.mp H
     obtain ⟨ad367,A367_1,c367_1,e367,hx367_0,hx367_1,hl367_1,hi367_1⟩:=at_T103 HR0.out x8_1 c5 c4
     cases e367
     replace hx367_0:=cq HB.out hx367_0
     replace hx367_1:=cq HB.out hx367_1
     have HCL:=Aside0.mk (fun (W : World) (hb : Below w.heap.size w W) => impl_unused.clo k1 (rd_T103 l0 x8_1).f0 A367_1 c367_1 (rd_T103 l0 x8_1).f1 i t W g (Kd.C_below hi367_1 hb) hl367_1 ((hb.cell (bL w _ HI.out)).trans HI.out) A1)
     clear hi367_1 hl367_1 A1
     replace c5:=eq_true c5
     replace c4:=eq_true c4
     cases t with
     | true =>
      rw [if_pos rfl] at H
      obtain rfl:=Option.some.inj H
      go_wp2_with (go_at_call 139;refine (HCL.out _ ib).mono ?_;rintro e w5 ⟨rfl,hb⟩;have HBn_:=sb hb;clear HB;have HB:=HBn_;clear HBn_ hb)
      repeat (go_quiet (fail);try go_wp2)
      go_ret
      exact ⟨rfl,ib⟩
     | false =>
      rw [if_neg (by decide)] at H
      have H':=Aside0.mk H
      clear H
      go_wp2_with (go_at_call 139;refine (HCL.out _ ib).mono ?_;rintro e w5 ⟨rfl,hb⟩;have HBn_:=sb hb;clear HB;have HB:=HBn_;clear HBn_ hb)
      repeat (go_quiet (fail);try go_wp2)
      go_roundg k1
      case measure => have:=HK1.out;omega
      case rel => exact ⟨(wrap64 (x8_1 + 1)),(by first | rfl | (simp;done) | (simp [*];done)),H',⟨by have:=HK1.out;omega⟩,⟨ib⟩⟩
    ·rw [if_neg c5] at H
     exact absurd H (by simp)
   ·rw [if_neg c4] at H
    have c4b0 : decide (x8_1 < (l0.length : Int)) = false:=decide_eq_false c4
    clear c4
    obtain rfl:=Option.some.inj H
    go_wp2
    repeat (go_quiet (fail);try go_wp2)
    go_ret
    exact ⟨rfl,ib⟩
theorem impl_unused.has (k : Nat) (A0 : Option Addr) (c0 : Nat) (l0 : List (S103)) (i : Int) (g : Nat) (r : Int) (w : World) (hr0 : Kd.C k103 w A0 l0.length l0) (hc0 : l0.length ≤ c0) (hi : w.cell? ⟨g,0,none⟩ = some (.int .i64 i)) (h : impl_unused.ix k l0 i 0 = some r) :
  Calls Try.prog 138 #[.slice A0 l0.length c0,.func (.func 139) #[] #[.pointer (some ⟨g,0,none⟩)]] w fun e w' => e = .returned (.bool (decide (r ≥ 0))) ∧ Below w.heap.size w w':=by
 have HB:=Aside0.mk (Below.refl w.heap.size w)
 have HC:=Aside0.mk (impl_unused.index k A0 c0 l0 i g r w hr0 hc0 hi h)
 clear h hr0 hc0 hi
 go_enter Try.func138,Try.ntmps138
 go_wp2_with (first | ((with_reducible refine gate_callee (f:=156) rfl ?_);refine goesL_ _ rfl rfl Try.func156 (by kernel_rfl) rfl #[.slice A0 l0.length c0,.func (.func 139) #[] #[.pointer (some ⟨g,0,none⟩)]] rfl (by (try simp only [mT,mC,mN]);first | done | rfl | (simp only [lD,lT];rfl)) ?_;(with_reducible refine HC.out.mono ?_);rintro e w5 ⟨rfl,hb⟩;refine ⟨_,rfl,?_⟩;have HBn_:=sb hb;clear HB;have HB:=HBn_;clear HBn_ hb))
 go_ret
 exact ⟨by first | rfl | (simp;done) | (simp [*];done),ib⟩
theorem impl_unused.calls (k : Nat) (a0_0 : Int) (a0_1 : Int) (A0_2 : Option Addr) (c0_2 : Nat) (l0_2 : List (S73)) (A0_3 : Option Addr) (c0_3 : Nat) (l0_3 : List (S103)) (r : List Int) (w : World) (hr0_2 : Kd.C k73 w A0_2 l0_2.length l0_2) (hc0_2 : l0_2.length ≤ c0_2) (hr0_3 : Kd.C k103 w A0_3 l0_3.length l0_3) (hc0_3 : l0_3.length ≤ c0_3) (h : impl_unused.f k a0_0 a0_1 l0_2 l0_3 = some r) :
  Calls Try.prog 94 #[.agg #[.int .i64 a0_0,.int .i64 a0_1,.slice A0_2 l0_2.length c0_2,.slice A0_3 l0_3.length c0_3]] w fun e w' => ∃ v0_ : Value,e = .returned (v0_) ∧ Kd.R (Kd.int .i64) 2 w' w.heap.size (fun _ => True) v0_ r ∧ Below w.heap.size w w':=by
 have hu103:=Try.underlying103
 have hu51:=Try.underlying51
 have hmf : ∀ (fn : Fn) (first cap : Array Value) (w : World),(Instr.makeFunc fn first cap).run Try.prog w = .ok (.func fn first cap) w:=fun _ _ _ _ => rfl
 have HR3:=Aside0.mk hr0_3
 have HC3:=Aside0.mk hc0_3
 clear hr0_2 hc0_2 hr0_3 hc0_3
 have HB:=Aside0.mk (Below.refl w.heap.size w)
 have H':=Aside0.mk (show impl_unused.l0 k l0_3 ([] : List Int) (l0_2.length : Int) 0 = some r from h)
 clear h
 go_enter Try.func94,Try.ntmps94
 go_wp2_with (first | ((with_reducible refine gate_dst (N:=1) rfl ?_);refine bx (cs:=#[.int .i64 a0_0,.int .i64 a0_1,.slice A0_2 l0_2.length c0_2,.slice A0_3 l0_3.length c0_3]) (t:=51) ?_;intro gb hg w3 hbox hb;have BK:=Aside0.mk hbox;have HBn_:=sb hb;clear HB;have HB:=HBn_;clear HBn_;(try clear hcz0 hcz1 hcz2 hcz3 hfz0 hfz1 hfz2 hfz3);have hcz0 : w3.cell? ⟨gb,0,none⟩ = some (.int .i64 a0_0):=(blk_cell BK.out 0).trans rfl;have hcz1 : w3.cell? ⟨gb,1,none⟩ = some (.int .i64 a0_1):=(blk_cell BK.out 1).trans rfl;have hcz2 : w3.cell? ⟨gb,2,none⟩ = some (.slice A0_2 l0_2.length c0_2):=(blk_cell BK.out 2).trans rfl;have hcz3 : w3.cell? ⟨gb,3,none⟩ = some (.slice A0_3 l0_3.length c0_3):=(blk_cell BK.out 3).trans rfl;have hfz0:=blk_frozen BK.out 0;have hfz1:=blk_frozen BK.out 1;have hfz2:=blk_frozen BK.out 2;have hfz3:=blk_frozen BK.out 3;clear hg hbox hb) | ((with_reducible refine gate_dst (N:=5) rfl ?_);refine Kd.R_lit (Kd.int .i64) _ 2 ?hg (N:=5) ?hd (xs:=([] : List Int)) (inner:=[]) (ok:=fun _ => True) (okp:=fun _ => True) ?hr ?hp (fun _ hk => hk) trivial (Below.refl _ _) (Nat.le_refl _) (by simp) ?_;(case hd => rfl);(case hg => rfl);(case hr => first | (go_simp;done) | (go_simp;rfl));(case hp => exact (Reps.none _ _));intro v5 w4 ho hb hg_ hnew_;clear hg_ hnew_;have HO:=Aside0.mk (Kd.R_lower ho (below_size ib));have BKn_:=Aside0.mk (blk_below (by (with_reducible repeat (first | refine blk_drewN ?_ _ | refine blk_drew ?_ | refine blk_alloc ?_ _));exact BK.out) hb);clear BK;have BK:=BKn_;clear BKn_;have HBn_:=sb hb;clear HB;have HB:=HBn_;clear HBn_;(try clear hcz0 hcz1 hcz2 hcz3 hfz0 hfz1 hfz2 hfz3);have hcz0 : w4.cell? ⟨gb,0,none⟩ = some (.int .i64 a0_0):=(blk_cell BK.out 0).trans rfl;have hcz1 : w4.cell? ⟨gb,1,none⟩ = some (.int .i64 a0_1):=(blk_cell BK.out 1).trans rfl;have hcz2 : w4.cell? ⟨gb,2,none⟩ = some (.slice A0_2 l0_2.length c0_2):=(blk_cell BK.out 2).trans rfl;have hcz3 : w4.cell? ⟨gb,3,none⟩ = some (.slice A0_3 l0_3.length c0_3):=(blk_cell BK.out 3).trans rfl;have hfz0:=blk_frozen BK.out 0;have hfz1:=blk_frozen BK.out 1;have hfz2:=blk_frozen BK.out 2;have hfz3:=blk_frozen BK.out 3;clear ho hb))
 repeat (go_quiet (fail);try go_wp2)
 go_loopg [3,4,9] k (fun kq v3 v4 v9 w' => ∃ (x3_1 : List Int) (x9_1 : Int),v9 = .int .i64 x9_1 ∧ Aside0 (impl_unused.l0 kq l0_3 x3_1 (l0_2.length : Int) x9_1 = some r) ∧ Aside0 (kq ≤ k) ∧ Aside0 (Kd.R (Kd.int .i64) 2 w' w.heap.size (fun _ => True) v3 x3_1) ∧ Aside0 (w'.heap[gb]? = some (.cells #[.int .i64 a0_0,.int .i64 a0_1,.slice A0_2 l0_2.length c0_2,.slice A0_3 l0_3.length c0_3] 51 (0,0))) ∧ Aside0 (Below w.heap.size w w'))
 case atStart => exact ⟨[],(0),(by first | rfl | (simp;done) | (simp [*];done)),H',⟨Nat.le_refl _⟩,⟨rO HO.out⟩,⟨by (with_reducible repeat (first | refine blk_drewN ?_ _ | refine blk_drew ?_ | refine blk_alloc ?_ _));exact BK.out⟩,⟨ib⟩⟩
 case round =>
  clear H' HO BK HB
  (try clear hcz0 hcz1 hcz2 hcz3 hfz0 hfz1 hfz2 hfz3)
  obtain ⟨x3_1,x9_1,rfl,HA,HK1,HO,BK,HB⟩:=hrel
  cases gk with
  | zero => exact absurd HA.out (by simp [impl_unused.l0])
  | succ k1 =>
   have H:=HA.out
   clear HA
   simp only [impl_unused.l0] at H
   by_cases c4 : x9_1 < (l0_2.length : Int)
   ·rw [if_pos c4] at H
    have c4b0 : decide (x9_1 < (l0_2.length : Int)) = true:=decide_eq_true c4
    clear c4
    obtain ⟨t,A1_,H⟩:=bE.mp H
    have A1:=Aside0.mk A1_
    clear A1_
    by_cases ct : t ≥ 0
    ·rw [if_pos ct] at H
     have ctb : decide (t ≥ 0) = true:=decide_eq_true ct
     clear ct
     have H':=Aside0.mk H
     clear H
     go_wp2_with (first | ((with_reducible refine gate_dst (N:=4) rfl ?_);refine bx (cs:=#[.int .i64 0]) (t:=2) ?_;intro gx hg w6 hbox hb;have BX:=Aside0.mk hbox;have GX:=Aside0.mk (show w.heap.size ≤ gx by rw [hg];exact below_size ib);have NG:=Aside0.mk (show gb ≠ gx by rw [hg];exact Nat.ne_of_lt (blk_lt (by (with_reducible repeat (first | refine blk_drewN ?_ _ | refine blk_drew ?_ | refine blk_alloc ?_ _));exact BK.out)));have HOn_:=Aside0.mk (Kd.R_below (Kd.R_mono (ok':=fun k_ => k_ ≠ gx) (Kd.R_bound (rO HO.out)) (fun k_ hk_ => by rw [hg];exact Nat.ne_of_lt hk_.2.2.1)) hb);have BKn_:=Aside0.mk (blk_below (by (with_reducible repeat (first | refine blk_drewN ?_ _ | refine blk_drew ?_ | refine blk_alloc ?_ _));exact BK.out) hb);clear HO BK;have HO:=HOn_;have BK:=BKn_;clear HOn_ BKn_;have HBn_:=sb hb;clear HB;have HB:=HBn_;clear HBn_;(try clear hcz0 hcz1 hcz2 hcz3 hfz0 hfz1 hfz2 hfz3);have hcz0 : w6.cell? ⟨gb,0,none⟩ = some (.int .i64 a0_0):=(blk_cell BK.out 0).trans rfl;have hcz1 : w6.cell? ⟨gb,1,none⟩ = some (.int .i64 a0_1):=(blk_cell BK.out 1).trans rfl;have hcz2 : w6.cell? ⟨gb,2,none⟩ = some (.slice A0_2 l0_2.length c0_2):=(blk_cell BK.out 2).trans rfl;have hcz3 : w6.cell? ⟨gb,3,none⟩ = some (.slice A0_3 l0_3.length c0_3):=(blk_cell BK.out 3).trans rfl;have hfz0:=blk_frozen BK.out 0;have hfz1:=blk_frozen BK.out 1;have hfz2:=blk_frozen BK.out 2;have hfz3:=blk_frozen BK.out 3;have hxz : w6.cell? ⟨gx,0,none⟩ = some (.int .i64 0):=(blk_cell BX.out 0).trans rfl;have hxf:=blk_frozen BX.out 0;have hn1:=NG.out;have hn2:=Ne.symm NG.out;clear hg hbox hb) | ((with_reducible refine gate_callee (f:=138) rfl ?_);refine goesL_ _ rfl rfl Try.func138 (by kernel_rfl) rfl #[.slice A0_3 l0_3.length c0_3,.func (.func 139) #[] #[.pointer (some ⟨gx,0,none⟩)]] rfl (by (try simp only [mT,mC,mN]);first | done | rfl | (simp only [lD,lT];rfl)) ?_;(with_reducible refine (impl_unused.has k1 _ _ l0_3 x9_1 gx t _ (Kd.C_below HR3.out (by repeat (first | (with_reducible first | exact HB.out | apply below_alloc | apply pw_below_drewN | apply below_drew1 | refine below_set ?_ GX.out) | exact HB.out))) HC3.out ((blk_cell (show (_ : World).heap[gx]? = some (.cells #[.int .i64 x9_1] 2 (0,0)) from (by (with_reducible repeat (first | refine blk_drewN ?_ _ | refine blk_drew ?_ | refine blk_alloc ?_ _));exact blk_put (cs:=#[.int .i64 0]) (by (with_reducible repeat (first | refine blk_drewN ?_ _ | refine blk_drew ?_ | refine blk_alloc ?_ _));exact BX.out) 0 _ rfl)) 0).trans rfl) A1.out).mono ?_);rintro e w8 ⟨rfl,hb⟩;refine ⟨_,rfl,?_⟩;have HOn_:=Aside0.mk (Kd.R_below (rO (Kd.R_far (p:=⟨gx,0,none⟩) HO.out (fun _ hk => hk) (.int .i64 x9_1))) hb);have BKn_:=Aside0.mk (blk_below (g:=gb) (o:=.cells #[.int .i64 a0_0,.int .i64 a0_1,.slice A0_2 l0_2.length c0_2,.slice A0_3 l0_3.length c0_3] 51 (0,0)) (by refine bF NG.out ?_;(with_reducible repeat (first | refine blk_drewN ?_ _ | refine blk_drew ?_ | refine blk_alloc ?_ _));exact BK.out) hb);have BXn_:=Aside0.mk (blk_below (g:=gx) (o:=.cells #[.int .i64 x9_1] 2 (0,0)) (by (with_reducible repeat (first | refine blk_drewN ?_ _ | refine blk_drew ?_ | refine blk_alloc ?_ _));exact blk_put (cs:=#[.int .i64 0]) (by (with_reducible repeat (first | refine blk_drewN ?_ _ | refine blk_drew ?_ | refine blk_alloc ?_ _));exact BX.out) 0 _ rfl) hb);have HBn_:=Aside0.mk (below_step (by repeat (first | (with_reducible first | exact HB.out | apply below_alloc | apply pw_below_drewN | apply below_drew1 | refine below_set ?_ GX.out) | exact HB.out)) hb);clear HB HO BK BX;have HB:=HBn_;have HO:=HOn_;have BK:=BKn_;have BX:=BXn_;clear HBn_ HOn_ BKn_ BXn_;(try clear hcz0 hcz1 hcz2 hcz3 hfz0 hfz1 hfz2 hfz3);have hcz0 : w8.cell? ⟨gb,0,none⟩ = some (.int .i64 a0_0):=(blk_cell BK.out 0).trans rfl;have hcz1 : w8.cell? ⟨gb,1,none⟩ = some (.int .i64 a0_1):=(blk_cell BK.out 1).trans rfl;have hcz2 : w8.cell? ⟨gb,2,none⟩ = some (.slice A0_2 l0_2.length c0_2):=(blk_cell BK.out 2).trans rfl;have hcz3 : w8.cell? ⟨gb,3,none⟩ = some (.slice A0_3 l0_3.length c0_3):=(blk_cell BK.out 3).trans rfl;have hfz0:=blk_frozen BK.out 0;have hfz1:=blk_frozen BK.out 1;have hfz2:=blk_frozen BK.out 2;have hfz3:=blk_frozen BK.out 3;clear hxz hxf;have hxz : w8.cell? ⟨gx,0,none⟩ = some (.int .i64 x9_1):=(blk_cell BX.out 0).trans rfl;clear hb))
     repeat (go_quiet (fail);try go_wp2)
     go_roundg k1
     case measure => have:=HK1.out;omega
     case rel => exact ⟨x3_1,(wrap64 (x9_1 + 1)),(by first | rfl | (simp;done) | (simp [*];done)),H',⟨by have:=HK1.out;omega⟩,⟨rO (Kd.R_mono HO.out (fun _ _ => trivial))⟩,⟨by (with_reducible repeat (first | refine blk_drewN ?_ _ | refine blk_drew ?_ | refine blk_alloc ?_ _));exact BK.out⟩,⟨ib⟩⟩
    ·rw [if_neg ct] at H
     have ctb : decide (t ≥ 0) = false:=decide_eq_false ct
     clear ct
     by_cases cl : x3_1.length < 17592186044416
     ·rw [if_pos cl] at H
      have CL:=Aside0.mk cl
      clear cl
      have H':=Aside0.mk H
      clear H
      obtain ⟨y3,hy3⟩ : ∃ y_,y_ = x3_1 ++ [x9_1]:=⟨_,rfl⟩
      have Ny:=Aside0.mk hy3
      rw [← hy3] at H'
      clear hy3
      go_wp2_with (first | ((with_reducible refine gate_dst (N:=4) rfl ?_);refine bx (cs:=#[.int .i64 0]) (t:=2) ?_;intro gx hg w6 hbox hb;have BX:=Aside0.mk hbox;have GX:=Aside0.mk (show w.heap.size ≤ gx by rw [hg];exact below_size ib);have NG:=Aside0.mk (show gb ≠ gx by rw [hg];exact Nat.ne_of_lt (blk_lt (by (with_reducible repeat (first | refine blk_drewN ?_ _ | refine blk_drew ?_ | refine blk_alloc ?_ _));exact BK.out)));have HOn_:=Aside0.mk (Kd.R_below (Kd.R_mono (ok':=fun k_ => k_ ≠ gx) (Kd.R_bound (rO HO.out)) (fun k_ hk_ => by rw [hg];exact Nat.ne_of_lt hk_.2.2.1)) hb);have BKn_:=Aside0.mk (blk_below (by (with_reducible repeat (first | refine blk_drewN ?_ _ | refine blk_drew ?_ | refine blk_alloc ?_ _));exact BK.out) hb);clear HO BK;have HO:=HOn_;have BK:=BKn_;clear HOn_ BKn_;have HBn_:=sb hb;clear HB;have HB:=HBn_;clear HBn_;(try clear hcz0 hcz1 hcz2 hcz3 hfz0 hfz1 hfz2 hfz3);have hcz0 : w6.cell? ⟨gb,0,none⟩ = some (.int .i64 a0_0):=(blk_cell BK.out 0).trans rfl;have hcz1 : w6.cell? ⟨gb,1,none⟩ = some (.int .i64 a0_1):=(blk_cell BK.out 1).trans rfl;have hcz2 : w6.cell? ⟨gb,2,none⟩ = some (.slice A0_2 l0_2.length c0_2):=(blk_cell BK.out 2).trans rfl;have hcz3 : w6.cell? ⟨gb,3,none⟩ = some (.slice A0_3 l0_3.length c0_3):=(blk_cell BK.out 3).trans rfl;have hfz0:=blk_frozen BK.out 0;have hfz1:=blk_frozen BK.out 1;have hfz2:=blk_frozen BK.out 2;have hfz3:=blk_frozen BK.out 3;have hxz : w6.cell? ⟨gx,0,none⟩ = some (.int .i64 0):=(blk_cell BX.out 0).trans rfl;have hxf:=blk_frozen BX.out 0;have hn1:=NG.out;have hn2:=Ne.symm NG.out;clear hg hbox hb) | ((with_reducible refine gate_callee (f:=138) rfl ?_);refine goesL_ _ rfl rfl Try.func138 (by kernel_rfl) rfl #[.slice A0_3 l0_3.length c0_3,.func (.func 139) #[] #[.pointer (some ⟨gx,0,none⟩)]] rfl (by (try simp only [mT,mC,mN]);first | done | rfl | (simp only [lD,lT];rfl)) ?_;(with_reducible refine (impl_unused.has k1 _ _ l0_3 x9_1 gx t _ (Kd.C_below HR3.out (by repeat (first | (with_reducible first | exact HB.out | apply below_alloc | apply pw_below_drewN | apply below_drew1 | refine below_set ?_ GX.out) | exact HB.out))) HC3.out ((blk_cell (show (_ : World).heap[gx]? = some (.cells #[.int .i64 x9_1] 2 (0,0)) from (by (with_reducible repeat (first | refine blk_drewN ?_ _ | refine blk_drew ?_ | refine blk_alloc ?_ _));exact blk_put (cs:=#[.int .i64 0]) (by (with_reducible repeat (first | refine blk_drewN ?_ _ | refine blk_drew ?_ | refine blk_alloc ?_ _));exact BX.out) 0 _ rfl)) 0).trans rfl) A1.out).mono ?_);rintro e w8 ⟨rfl,hb⟩;refine ⟨_,rfl,?_⟩;have HOn_:=Aside0.mk (Kd.R_below (rO (Kd.R_far (p:=⟨gx,0,none⟩) HO.out (fun _ hk => hk) (.int .i64 x9_1))) hb);have BKn_:=Aside0.mk (blk_below (g:=gb) (o:=.cells #[.int .i64 a0_0,.int .i64 a0_1,.slice A0_2 l0_2.length c0_2,.slice A0_3 l0_3.length c0_3] 51 (0,0)) (by refine bF NG.out ?_;(with_reducible repeat (first | refine blk_drewN ?_ _ | refine blk_drew ?_ | refine blk_alloc ?_ _));exact BK.out) hb);have BXn_:=Aside0.mk (blk_below (g:=gx) (o:=.cells #[.int .i64 x9_1] 2 (0,0)) (by (with_reducible repeat (first | refine blk_drewN ?_ _ | refine blk_drew ?_ | refine blk_alloc ?_ _));exact blk_put (cs:=#[.int .i64 0]) (by (with_reducible repeat (first | refine blk_drewN ?_ _ | refine blk_drew ?_ | refine blk_alloc ?_ _));exact BX.out) 0 _ rfl) hb);have HBn_:=Aside0.mk (below_step (by repeat (first | (with_reducible first | exact HB.out | apply below_alloc | apply pw_below_drewN | apply below_drew1 | refine below_set ?_ GX.out) | exact HB.out)) hb);clear HB HO BK BX;have HB:=HBn_;have HO:=HOn_;have BK:=BKn_;have BX:=BXn_;clear HBn_ HOn_ BKn_ BXn_;(try clear hcz0 hcz1 hcz2 hcz3 hfz0 hfz1 hfz2 hfz3);have hcz0 : w8.cell? ⟨gb,0,none⟩ = some (.int .i64 a0_0):=(blk_cell BK.out 0).trans rfl;have hcz1 : w8.cell? ⟨gb,1,none⟩ = some (.int .i64 a0_1):=(blk_cell BK.out 1).trans rfl;have hcz2 : w8.cell? ⟨gb,2,none⟩ = some (.slice A0_2 l0_2.length c0_2):=(blk_cell BK.out 2).trans rfl;have hcz3 : w8.cell? ⟨gb,3,none⟩ = some (.slice A0_3 l0_3.length c0_3):=(blk_cell BK.out 3).trans rfl;have hfz0:=blk_frozen BK.out 0;have hfz1:=blk_frozen BK.out 1;have hfz2:=blk_frozen BK.out 2;have hfz3:=blk_frozen BK.out 3;clear hxz hxf;have hxz : w8.cell? ⟨gx,0,none⟩ = some (.int .i64 x9_1):=(blk_cell BX.out 0).trans rfl;clear hb) | ((with_reducible refine gate_builtin (b:=.append) (xs:=#[.tmp 17,.tmp 19]) rfl ?_);(try (refine gate_guard (by rfl) ?_;dsimp only));at_builtin;refine Kd.R_append (Kd.int .i64) (w0:=w) w.heap.size rfl (.tmp 17) (.tmp 19) 57 2 (.int .i64 0) 8 rfl Try.underlying57 info2 rfl (by decide) (by omega) u3 x3_1 x9_1 [.int .i64 x9_1] (fun _ => True) (fun _ => False) rfl rfl ?aP (fun _ hk => hk.elim) ?aF ?aO ?aB ?aS ?aL ?_;(case aP => exact rfl);(case aB => exact ib);(case aF => exact (fun _ _ => trivial));(case aO => exact (rO (Kd.R_mono HO.out (fun _ _ => trivial))));(case aS => exact (below_size ib));(case aL => have:=CL.out;omega);intro v20 w9 ho hb hg hat;rw [← Ny.out] at ho;have BKn_:=Aside0.mk (blk_grown (g:=gb) (o:=.cells #[.int .i64 a0_0,.int .i64 a0_1,.slice A0_2 l0_2.length c0_2,.slice A0_3 l0_3.length c0_3] 51 (0,0)) (by (with_reducible repeat (first | refine blk_drewN ?_ _ | refine blk_drew ?_ | refine blk_alloc ?_ _));exact BK.out) hg (Kd.R_ne HO.out BK.out (by decide)));clear BK HB HO;have BK:=BKn_;have HB:=Aside0.mk hb;have HO:=Aside0.mk ho;clear BKn_ ho hb hg hat))
      repeat (go_quiet (fail);try go_wp2_with (first | ((with_reducible refine gate_builtin (b:=.append) (xs:=#[.tmp 17,.tmp 19]) rfl ?_);(try (refine gate_guard (by rfl) ?_;dsimp only));at_builtin;refine Kd.R_append (Kd.int .i64) (w0:=w) w.heap.size rfl (.tmp 17) (.tmp 19) 57 2 (.int .i64 0) 8 rfl Try.underlying57 info2 rfl (by decide) (by omega) u3 x3_1 x9_1 [.int .i64 x9_1] (fun _ => True) (fun _ => False) rfl rfl ?aP (fun _ hk => hk.elim) ?aF ?aO ?aB ?aS ?aL ?_;(case aP => exact rfl);(case aB => exact ib);(case aF => exact (fun _ _ => trivial));(case aO => exact (rO (Kd.R_mono HO.out (fun _ _ => trivial))));(case aS => exact (below_size ib));(case aL => have:=CL.out;omega);intro v20 w9 ho hb hg hat;rw [← Ny.out] at ho;have BKn_:=Aside0.mk (blk_grown (g:=gb) (o:=.cells #[.int .i64 a0_0,.int .i64 a0_1,.slice A0_2 l0_2.length c0_2,.slice A0_3 l0_3.length c0_3] 51 (0,0)) (by (with_reducible repeat (first | refine blk_drewN ?_ _ | refine blk_drew ?_ | refine blk_alloc ?_ _));exact BK.out) hg (Kd.R_ne HO.out BK.out (by decide)));clear BK HB HO;have BK:=BKn_;have HB:=Aside0.mk hb;have HO:=Aside0.mk ho;clear BKn_ ho hb hg hat)))
      go_roundg k1
      case measure => have:=HK1.out;omega
      case rel => exact ⟨y3,(wrap64 (x9_1 + 1)),(by first | rfl | (simp;done) | (simp [*];done)),H',⟨by have:=HK1.out;omega⟩,⟨rO HO.out⟩,⟨by (with_reducible repeat (first | refine blk_drewN ?_ _ | refine blk_drew ?_ | refine blk_alloc ?_ _));exact BK.out⟩,⟨ib⟩⟩
     ·rw [if_neg cl] at H
      exact absurd H (by simp)
   ·rw [if_neg c4] at H
    have c4b0 : decide (x9_1 < (l0_2.length : Int)) = false:=decide_eq_false c4
    clear c4
    obtain rfl:=Option.some.inj H
    go_wp2
    go_ret
    exact ⟨_,rfl,rO HO.out,ib⟩
def impl_UnusedPoints.f (k : Nat) (a0_0 : Int) (a0_1 : Int) (l0_2 : List (S73)) (l0_3 : List (S103)) : Option (List Int × Int):=(impl_ValidDrawing.f k a0_0 a0_1 l0_2 l0_3).bind fun t361 => (if t361 = true then ((impl_unused.f k a0_0 a0_1 l0_2 l0_3).bind fun t362 => (some (t362,0))) else (some (([] : List Int),1)))
theorem impl_UnusedPoints.calls (k : Nat) (a0_0 : Int) (a0_1 : Int) (A0_2 : Option Addr) (c0_2 : Nat) (l0_2 : List (S73)) (A0_3 : Option Addr) (c0_3 : Nat) (l0_3 : List (S103)) (r1 : List Int) (r2 : Int) (w : World) (hr0_2 : Kd.C k73 w A0_2 l0_2.length l0_2) (hc0_2 : l0_2.length ≤ c0_2) (hr0_3 : Kd.C k103 w A0_3 l0_3.length l0_3) (hc0_3 : l0_3.length ≤ c0_3) (h : impl_UnusedPoints.f k a0_0 a0_1 l0_2 l0_3 = some (r1,r2)) :
  Calls Try.prog 54 #[.agg #[.int .i64 a0_0,.int .i64 a0_1,.slice A0_2 l0_2.length c0_2,.slice A0_3 l0_3.length c0_3]] w fun e w' => ∃ v0_ : Value,e = .returned (.tuple #[v0_,.int .i64 r2]) ∧ Kd.R (Kd.int .i64) 2 w' w.heap.size (fun _ => True) v0_ r1 ∧ Below w.heap.size w w':=by
 have hu51:=Try.underlying51
 have HR0_2:=Aside0.mk hr0_2
 have HC0_2:=Aside0.mk hc0_2
 clear hr0_2 hc0_2
 have HR0_3:=Aside0.mk hr0_3
 have HC0_3:=Aside0.mk hc0_3
 clear hr0_3 hc0_3
 have HB:=Aside0.mk (Below.refl w.heap.size w)
 have H : ((impl_ValidDrawing.f k a0_0 a0_1 l0_2 l0_3).bind fun t361 => (if t361 = true then ((impl_unused.f k a0_0 a0_1 l0_2 l0_3).bind fun t362 => (some (t362,0))) else (some (([] : List Int),1)))) = some (r1,r2):=h
 clear h
 replace H:=bE.mp H
 obtain ⟨t361,A20,H⟩:=H
 replace H : (if t361 = true then ((impl_unused.f k a0_0 a0_1 l0_2 l0_3).bind fun t362 => (some (t362,0))) else (some (([] : List Int),1))) = some (r1,r2):=H
 have A2:=Aside0.mk A20
 clear A20
 by_cases c3 : t361 = true
 ·subst c3
  have H1 : ((impl_unused.f k a0_0 a0_1 l0_2 l0_3).bind fun t362 => (some (t362,0))) = some (r1,r2):=by rw [if_pos rfl] at H;exact H
  clear H
  have H:=H1
  clear H1
  replace H:=bE.mp H
  obtain ⟨t362,A40,H⟩:=H
  replace H : (some (t362,0)) = some (r1,r2):=H
  have A4:=Aside0.mk A40
  clear A40
  simp only [Option.some.injEq,Prod.mk.injEq] at H
  obtain ⟨rfl,rfl⟩:=H
  go_enter Try.func54,Try.ntmps54
  go_wp2_with (first | ((with_reducible refine gate_dst (N:=1) rfl ?_);refine bx (cs:=#[.int .i64 a0_0,.int .i64 a0_1,.slice A0_2 l0_2.length c0_2,.slice A0_3 l0_3.length c0_3]) (t:=51) ?_;intro gb360 hg w5 hbox hb;have BK360:=Aside0.mk (hbox);have GW360:=zb hg;have GE360:=zb hg;replace HB:=sb hb;clear hb hbox hg;have hcz6_0:=ck BK360 0;have hcz6_1:=ck BK360 1;have hcz6_2:=ck BK360 2;have hcz6_3:=ck BK360 3;have hfz6_0:=blk_frozen BK360.out 0;have hfz6_1:=blk_frozen BK360.out 1;have hfz6_2:=blk_frozen BK360.out 2;have hfz6_3:=blk_frozen BK360.out 3) | ((with_reducible refine gate_callee (f:=77) rfl ?_);refine goesL_ (some 5) rfl rfl Try.func77 (by kernel_rfl) rfl #[.agg #[.int .i64 a0_0,.int .i64 a0_1,.slice A0_2 l0_2.length c0_2,.slice A0_3 l0_3.length c0_3]] rfl (by (try simp only [mT,mC,mN]);first | done | rfl | (simp only [lD,lT];rfl)) ?_;(with_reducible refine (impl_ValidDrawing.calls k a0_0 a0_1 _ _ l0_2 _ _ l0_3 true _ ?side1 ?side2 ?side3 ?side4 A2.out).mono ?_);(case side1 => repeat (first | exact (Kd.C_below HR0_2.out HB.out) | exact HR0_2.out | (with_reducible refine Kd.C_alloc ?_ _) | (with_reducible refine Kd.C_drewN ?_ _) | (with_reducible refine Kd.C_drew ?_)));(case side2 => exact HC0_2.out);(case side3 => repeat (first | exact (Kd.C_below HR0_3.out HB.out) | exact HR0_3.out | (with_reducible refine Kd.C_alloc ?_ _) | (with_reducible refine Kd.C_drewN ?_ _) | (with_reducible refine Kd.C_drew ?_)));(case side4 => exact HC0_3.out);rintro e w7 ⟨rfl,hb⟩;refine ⟨_,rfl,?_⟩;replace BK360:=kb BK360 hb;replace HB:=sb hb;(try clear hb);(try clear hb2);(try clear hk);(try clear hi);have hcz8_0:=ck BK360 0;have hcz8_1:=ck BK360 1;have hcz8_2:=ck BK360 2;have hcz8_3:=ck BK360 3;have hfz8_0:=blk_frozen BK360.out 0;have hfz8_1:=blk_frozen BK360.out 1;have hfz8_2:=blk_frozen BK360.out 2;have hfz8_3:=blk_frozen BK360.out 3) | ((with_reducible refine gate_callee (f:=94) rfl ?_);refine goesL_ (some 8) rfl rfl Try.func94 (by kernel_rfl) rfl #[.agg #[.int .i64 a0_0,.int .i64 a0_1,.slice A0_2 l0_2.length c0_2,.slice A0_3 l0_3.length c0_3]] rfl (by (try simp only [mT,mC,mN]);first | done | rfl | (simp only [lD,lT];rfl)) ?_;(with_reducible refine (impl_unused.calls k a0_0 a0_1 _ _ l0_2 _ _ l0_3 t362 _ ?side1 ?side2 ?side3 ?side4 A4.out).mono ?_);(case side1 => repeat (first | exact (Kd.C_below HR0_2.out HB.out) | exact HR0_2.out | (with_reducible refine Kd.C_alloc ?_ _) | (with_reducible refine Kd.C_drewN ?_ _) | (with_reducible refine Kd.C_drew ?_)));(case side2 => exact HC0_2.out);(case side3 => repeat (first | exact (Kd.C_below HR0_3.out HB.out) | exact HR0_3.out | (with_reducible refine Kd.C_alloc ?_ _) | (with_reducible refine Kd.C_drewN ?_ _) | (with_reducible refine Kd.C_drew ?_)));(case side4 => exact HC0_3.out);rintro e w9 ⟨v363,rfl,ho0,hb⟩;refine ⟨_,rfl,?_⟩;have HO364:=Aside0.mk (Kd.R_lower ho0 (below_size ib));replace BK360:=kb BK360 hb;replace HB:=sb hb;(try clear hb);(try clear hb2);(try clear hk);(try clear hi);(try clear ho0)))
  go_ret2
  exact ⟨_,by first | rfl | (simp [errW_none,errW_some] <;> rfl) | (simp [*,errW_none,errW_some] <;> rfl),rO HO364.out,ib⟩
 ·replace c3:=Bool.eq_false_iff.mpr c3
  subst c3
  have H1 : (some (([] : List Int),1)) = some (r1,r2):=by rw [if_neg (show ¬ (false = true) by decide)] at H;exact H
  clear H
  have H:=H1
  clear H1
  simp only [Option.some.injEq,Prod.mk.injEq] at H
  obtain ⟨rfl,rfl⟩:=H
  go_enter Try.func54,Try.ntmps54
  go_wp2_with (first | ((with_reducible refine gate_dst (N:=1) rfl ?_);refine bx (cs:=#[.int .i64 a0_0,.int .i64 a0_1,.slice A0_2 l0_2.length c0_2,.slice A0_3 l0_3.length c0_3]) (t:=51) ?_;intro gb360 hg w10 hbox hb;have BK360:=Aside0.mk (hbox);have GW360:=zb hg;have GE360:=zb hg;replace HB:=sb hb;clear hb hbox hg;have hcz11_0:=ck BK360 0;have hcz11_1:=ck BK360 1;have hcz11_2:=ck BK360 2;have hcz11_3:=ck BK360 3;have hfz11_0:=blk_frozen BK360.out 0;have hfz11_1:=blk_frozen BK360.out 1;have hfz11_2:=blk_frozen BK360.out 2;have hfz11_3:=blk_frozen BK360.out 3) | ((with_reducible refine gate_callee (f:=77) rfl ?_);refine goesL_ (some 5) rfl rfl Try.func77 (by kernel_rfl) rfl #[.agg #[.int .i64 a0_0,.int .i64 a0_1,.slice A0_2 l0_2.length c0_2,.slice A0_3 l0_3.length c0_3]] rfl (by (try simp only [mT,mC,mN]);first | done | rfl | (simp only [lD,lT];rfl)) ?_;(with_reducible refine (impl_ValidDrawing.calls k a0_0 a0_1 _ _ l0_2 _ _ l0_3 false _ ?side1 ?side2 ?side3 ?side4 A2.out).mono ?_);(case side1 => repeat (first | exact (Kd.C_below HR0_2.out HB.out) | exact HR0_2.out | (with_reducible refine Kd.C_alloc ?_ _) | (with_reducible refine Kd.C_drewN ?_ _) | (with_reducible refine Kd.C_drew ?_)));(case side2 => exact HC0_2.out);(case side3 => repeat (first | exact (Kd.C_below HR0_3.out HB.out) | exact HR0_3.out | (with_reducible refine Kd.C_alloc ?_ _) | (with_reducible refine Kd.C_drewN ?_ _) | (with_reducible refine Kd.C_drew ?_)));(case side4 => exact HC0_3.out);rintro e w12 ⟨rfl,hb⟩;refine ⟨_,rfl,?_⟩;replace BK360:=kb BK360 hb;replace HB:=sb hb;(try clear hb);(try clear hb2);(try clear hk);(try clear hi)))
  go_ret2
  exact ⟨_,by first | rfl | (simp [errW_none,errW_some] <;> rfl) | (simp [*,errW_none,errW_some] <;> rfl),by first | exact Kd.R_nil _ _ _ _ _ | exact Kd.N_nil _ _ _ _ _ | exact Kd.V_nil _ _ _ _ _ | exact Kd.Q_nil _ _ _ _ _ | exact Kd.S_nil _ _ _ _ _,ib⟩
mutual
def laws_FnExactUnusedPoints.j0 : Nat → List Int → Int → List Int → Int → Bool → Int → Int → List (S75) → List (S126) → Int → Int → List (S73) → List (S103) → Option (Bool)
 | 0,_,_,_,_,_,_,_,_,_,_,_,_,_ => none
 | k + 1,x4,x5,x7,x8,x40,x366000,x366001,x366002,x366003,x388000,x388001,x388002,x388003 => if x40 = true then (some false) else ((laws_toDrawing.f k x366000 x366001 x366002 x366003).bind fun bt393 => ((laws_eqDrawing.f k x388000 x388001 x388002 x388003 bt393.1 bt393.2.1 bt393.2.2.1 bt393.2.2.2).bind fun t401 => (if t401 = true then ((laws_markDrawing.f k x388000 x388001 x388002 x388003 1).bind fun t402 => (if t402 < 0 then (laws_FnExactUnusedPoints.j1 k x4 x5 x7 true x366000 x366001 x366002 x366003) else ((laws_eqInt64S.f k x7 x4).bind fun t403 => (if t403 = true then (laws_FnExactUnusedPoints.j1 k x4 x5 x7 (x8 != x5) x366000 x366001 x366002 x366003) else (laws_FnExactUnusedPoints.j1 k x4 x5 x7 true x366000 x366001 x366002 x366003))))) else (some false))))
def laws_FnExactUnusedPoints.j1 : Nat → List Int → Int → List Int → Bool → Int → Int → List (S75) → List (S126) → Option (Bool)
 | 0,_,_,_,_,_,_,_,_ => none
 | k + 1,x4,x5,x7,x61,x366000,x366001,x366002,x366003 => if x61 = true then (some false) else ((laws_markInt64S.f k x7 1).bind fun bt404 => ((laws_heldInt64S.f k bt404.2 1).bind fun t406 => (if t406 < 0 then (some false) else (if t406 = bt404.1 then ((laws_toDrawing.f k x366000 x366001 x366002 x366003).bind fun bt407 => ((impl_UnusedPoints.f k bt407.1 bt407.2.1 bt407.2.2.1 bt407.2.2.2).bind fun bt415 => ((laws_eqInt64S.f k bt415.1 x4).bind fun t419 => (if t419 = true then (laws_FnExactUnusedPoints.j2 k bt404.2 bt404.1 (bt415.2 != x5)) else (laws_FnExactUnusedPoints.j2 k bt404.2 bt404.1 true))))) else (some false)))))
def laws_FnExactUnusedPoints.j2 : Nat → List Int → Int → Bool → Option (Bool)
 | 0,_,_,_ => none
 | k + 1,x7,x10,x87 => if x87 = true then (some false) else ((laws_heldInt64S.f k x7 1).bind fun t420 => (if t420 < 0 then (some false) else (if t420 = x10 then (some true) else (some false))))
end
def laws_FnExactUnusedPoints.f (k : Nat) (a0_0 : Int) (a0_1 : Int) (l0_2 : List (S75)) (l0_3 : List (S126)) : Option (Bool):=(laws_szDrawing.f k a0_0 a0_1 l0_2 l0_3 1048576).bind fun t366 => (if t366 < 0 then (some true) else ((laws_toDrawing.f k a0_0 a0_1 l0_2 l0_3).bind fun bt367 => ((spec_UnusedPoints.f k bt367.1 bt367.2.1 bt367.2.2.1 bt367.2.2.2).bind fun bt375 => ((laws_toDrawing.f k a0_0 a0_1 l0_2 l0_3).bind fun bt379 => ((impl_UnusedPoints.f k bt379.1 bt379.2.1 bt379.2.2.1 bt379.2.2.2).bind fun bt388 => ((laws_eqInt64S.f k bt388.1 bt375.1).bind fun t392 => (if t392 = true then (laws_FnExactUnusedPoints.j0 k bt375.1 bt375.2 bt388.1 bt388.2 (bt388.2 != bt375.2) a0_0 a0_1 l0_2 l0_3 bt379.1 bt379.2.1 bt379.2.2.1 bt379.2.2.2) else (laws_FnExactUnusedPoints.j0 k bt375.1 bt375.2 bt388.1 bt388.2 true a0_0 a0_1 l0_2 l0_3 bt379.1 bt379.2.1 bt379.2.2.1 bt379.2.2.2))))))))
theorem laws_FnExactUnusedPoints.calls (k : Nat) (a0_0 : Int) (a0_1 : Int) (A0_2 : Option Addr) (c0_2 : Nat) (l0_2 : List (S75)) (A0_3 : Option Addr) (c0_3 : Nat) (l0_3 : List (S126)) (w : World) (hr0_2 : Kd.C k75 w A0_2 l0_2.length l0_2) (hc0_2 : l0_2.length ≤ c0_2) (hr0_3 : Kd.C k126 w A0_3 l0_3.length l0_3) (hc0_3 : l0_3.length ≤ c0_3) (h : laws_FnExactUnusedPoints.f k a0_0 a0_1 l0_2 l0_3 = some true) :
  Calls Try.prog 13 #[.agg #[.int .i64 a0_0,.int .i64 a0_1,.slice A0_2 l0_2.length c0_2,.slice A0_3 l0_3.length c0_3]] w fun e w' => e = .returned (.bool true) ∧ Below w.heap.size w w':=by
 have hu46:=Try.underlying46
 have hu51:=Try.underlying51
 have HR0_2:=Aside0.mk hr0_2
 have HC0_2:=Aside0.mk hc0_2
 clear hr0_2 hc0_2
 have HR0_3:=Aside0.mk hr0_3
 have HC0_3:=Aside0.mk hc0_3
 clear hr0_3 hc0_3
 have HB:=Aside0.mk (Below.refl w.heap.size w)
 have H : ((laws_szDrawing.f k a0_0 a0_1 l0_2 l0_3 1048576).bind fun t366 => (if t366 < 0 then (some true) else ((laws_toDrawing.f k a0_0 a0_1 l0_2 l0_3).bind fun bt367 => ((spec_UnusedPoints.f k bt367.1 bt367.2.1 bt367.2.2.1 bt367.2.2.2).bind fun bt375 => ((laws_toDrawing.f k a0_0 a0_1 l0_2 l0_3).bind fun bt379 => ((impl_UnusedPoints.f k bt379.1 bt379.2.1 bt379.2.2.1 bt379.2.2.2).bind fun bt388 => ((laws_eqInt64S.f k bt388.1 bt375.1).bind fun t392 => (if t392 = true then (laws_FnExactUnusedPoints.j0 k bt375.1 bt375.2 bt388.1 bt388.2 (bt388.2 != bt375.2) a0_0 a0_1 l0_2 l0_3 bt379.1 bt379.2.1 bt379.2.2.1 bt379.2.2.2) else (laws_FnExactUnusedPoints.j0 k bt375.1 bt375.2 bt388.1 bt388.2 true a0_0 a0_1 l0_2 l0_3 bt379.1 bt379.2.1 bt379.2.2.1 bt379.2.2.2))))))))) = some true:=h
 clear h
 obtain ⟨t1,A10_,H⟩:=bE.mp H
 have A1:=Aside0.mk A10_
 clear A10_
 by_cases c1 : t1 < 0
 ·have c1b0 : decide (t1 < 0) = true:=decide_eq_true c1
  clear c1 H
  go_enter Try.func13,Try.ntmps13
  go_wp2_with (first | ((with_reducible refine gate_dst (N:=1) rfl ?_);refine bx (cs:=#[.int .i64 a0_0,.int .i64 a0_1,.slice A0_2 l0_2.length c0_2,.slice A0_3 l0_3.length c0_3]) (t:=46) ?_;intro gB hg w5 hbox hb;have BB:=Aside0.mk hbox;have HBn_:=sb hb;clear HB;have HB:=HBn_;clear HBn_;(try clear hb0 hb1 hb2 hb3);have hb0 : w5.cell? ⟨gB,0,none⟩ = some (.int .i64 a0_0):=(blk_cell BB.out 0).trans rfl;have hb1 : w5.cell? ⟨gB,1,none⟩ = some (.int .i64 a0_1):=(blk_cell BB.out 1).trans rfl;have hb2 : w5.cell? ⟨gB,2,none⟩ = some (.slice A0_2 l0_2.length c0_2):=(blk_cell BB.out 2).trans rfl;have hb3 : w5.cell? ⟨gB,3,none⟩ = some (.slice A0_3 l0_3.length c0_3):=(blk_cell BB.out 3).trans rfl;clear hbox hb hg) | ((with_reducible refine gate_callee (f:=36) rfl ?_);refine goesL_ _ rfl rfl Try.func36 (by kernel_rfl) rfl #[.agg #[.int .i64 a0_0,.int .i64 a0_1,.slice A0_2 l0_2.length c0_2,.slice A0_3 l0_3.length c0_3],.int .i64 1048576] rfl (by (try simp only [mT,mC,mN]);first | done | rfl | (simp only [lD,lT];rfl)) ?_;(with_reducible refine (laws_szDrawing.calls _ a0_0 a0_1 _ _ l0_2 _ _ l0_3 1048576 t1 _ (cO ((Kd.C_below HR0_2.out ib))) HC0_2.out (cO ((Kd.C_below HR0_3.out ib))) HC0_3.out A1.out).mono ?_);rintro e w5 ⟨rfl,hb⟩;refine ⟨_,rfl,?_⟩;have BBn_:=Aside0.mk (blk_below (by repeat (first | exact BB.out | refine blk_drewN ?_ _ | refine blk_drew ?_)) hb);have HBn_:=sb hb;clear HB;have HB:=HBn_;clear HBn_;clear BB;have BB:=BBn_;clear BBn_;clear A1;(try clear hb0 hb1 hb2 hb3);have hb0 : w5.cell? ⟨gB,0,none⟩ = some (.int .i64 a0_0):=(blk_cell BB.out 0).trans rfl;have hb1 : w5.cell? ⟨gB,1,none⟩ = some (.int .i64 a0_1):=(blk_cell BB.out 1).trans rfl;have hb2 : w5.cell? ⟨gB,2,none⟩ = some (.slice A0_2 l0_2.length c0_2):=(blk_cell BB.out 2).trans rfl;have hb3 : w5.cell? ⟨gB,3,none⟩ = some (.slice A0_3 l0_3.length c0_3):=(blk_cell BB.out 3).trans rfl;clear hb))
  go_ret
  exact ⟨(by first | rfl | (simp;done) | (simp [*];done)),ib⟩
 ·replace H:=(if_neg c1).symm.trans H
  have c1b0 : decide (t1 < 0) = false:=decide_eq_false c1
  clear c1
  obtain ⟨⟨d0,d1,d2,d3⟩,A2_,H⟩:=bE.mp H
  obtain ⟨⟨s0,s1⟩,A3_,H⟩:=bE.mp H
  obtain ⟨⟨x0,x1,x2,x3⟩,A5_,H⟩:=bE.mp H
  obtain ⟨⟨g0,g1⟩,A6_,H⟩:=bE.mp H
  obtain ⟨t8,A8_,H⟩:=bE.mp H
  dsimp only at H A2_ A3_ A5_ A6_ A8_
  cases t8 with
  | false =>
   replace H:=(if_neg (show ¬ (false = true) by decide)).symm.trans H
   cases k <;> simp [laws_FnExactUnusedPoints.j0] at H
  | true =>
  replace H:=(if_pos rfl).symm.trans H
  cases e1 : (g1 != s1) with
  | true =>
   rw [e1] at H
   cases k <;> simp [laws_FnExactUnusedPoints.j0] at H
  | false =>
  rw [e1] at H
  cases k with
  | zero => simp [laws_FnExactUnusedPoints.j0] at H
  | succ k1 =>
  simp only [laws_FnExactUnusedPoints.j0,Bool.false_eq_true,if_false] at H
  obtain ⟨⟨q0,q1,q2,q3⟩,A9_,H⟩:=bE.mp H
  obtain ⟨t10,A10_,H⟩:=bE.mp H
  dsimp only at H A9_ A10_
  cases t10 with
  | false => exact absurd H (by simp)
  | true =>
  replace H:=(if_pos rfl).symm.trans H
  obtain ⟨t11,A11_,H⟩:=bE.mp H
  by_cases c2 : t11 < 0
  ·replace H:=(if_pos c2).symm.trans H
   cases k1 <;> simp [laws_FnExactUnusedPoints.j1] at H
  replace H:=(if_neg c2).symm.trans H
  have c2b0 : decide (t11 < 0) = false:=decide_eq_false c2
  clear c2
  obtain ⟨t13,A13_,H⟩:=bE.mp H
  cases t13 with
  | false =>
   replace H:=(if_neg (show ¬ (false = true) by decide)).symm.trans H
   cases k1 <;> simp [laws_FnExactUnusedPoints.j1] at H
  | true =>
  replace H:=(if_pos rfl).symm.trans H
  rw [e1] at H
  cases k1 with
  | zero => simp [laws_FnExactUnusedPoints.j1] at H
  | succ k2 =>
  simp only [laws_FnExactUnusedPoints.j1,Bool.false_eq_true,if_false] at H
  obtain ⟨⟨t14,y2⟩,A14_,H⟩:=bE.mp H
  obtain ⟨t16,A16_,H⟩:=bE.mp H
  dsimp only at H A14_ A16_
  by_cases c3 : t16 < 0
  ·exact absurd ((if_pos c3).symm.trans H) (by simp)
  replace H:=(if_neg c3).symm.trans H
  by_cases c4 : t16 = t14
  case neg => exact absurd ((if_neg c4).symm.trans H) (by simp)
  replace H:=(if_pos c4).symm.trans H
  subst c4
  have c3b0 : decide (t16 < 0) = false:=decide_eq_false c3
  clear c3
  obtain ⟨⟨z0,z1,z2,z3⟩,A17_,H⟩:=bE.mp H
  obtain ⟨⟨u0,u1⟩,A18_,H⟩:=bE.mp H
  obtain ⟨t20,A20_,H⟩:=bE.mp H
  dsimp only at H A17_ A18_ A20_
  cases t20 with
  | false =>
   replace H:=(if_neg (show ¬ (false = true) by decide)).symm.trans H
   cases k2 <;> simp [laws_FnExactUnusedPoints.j2] at H
  | true =>
  replace H:=(if_pos rfl).symm.trans H
  cases e2 : (u1 != s1) with
  | true =>
   rw [e2] at H
   cases k2 <;> simp [laws_FnExactUnusedPoints.j2] at H
  | false =>
  rw [e2] at H
  cases k2 with
  | zero => simp [laws_FnExactUnusedPoints.j2] at H
  | succ k3 =>
  simp only [laws_FnExactUnusedPoints.j2,Bool.false_eq_true,if_false] at H
  obtain ⟨t21,A21_,H⟩:=bE.mp H
  by_cases c5 : t21 < 0
  ·exact absurd ((if_pos c5).symm.trans H) (by simp)
  replace H:=(if_neg c5).symm.trans H
  by_cases c6 : t21 = t16
  case neg => exact absurd ((if_neg c6).symm.trans H) (by simp)
  subst c6
  clear H c5
  have A2:=Aside0.mk A2_;have A3:=Aside0.mk A3_;have A5:=Aside0.mk A5_;have A6:=Aside0.mk A6_;have A8:=Aside0.mk A8_;have A9:=Aside0.mk A9_;have A10:=Aside0.mk A10_;have A11:=Aside0.mk A11_;have A13:=Aside0.mk A13_;have A14:=Aside0.mk A14_;have A16:=Aside0.mk A16_;have A17:=Aside0.mk A17_;have A18:=Aside0.mk A18_;have A20:=Aside0.mk A20_;have A21:=Aside0.mk A21_
  clear A2_ A3_ A5_ A6_ A8_ A9_ A10_ A11_ A13_ A14_ A16_ A17_ A18_ A20_ A21_
  go_enter Try.func13,Try.ntmps13
  go_wp2_with (first | ((with_reducible refine gate_dst (N:=1) rfl ?_);refine bx (cs:=#[.int .i64 a0_0,.int .i64 a0_1,.slice A0_2 l0_2.length c0_2,.slice A0_3 l0_3.length c0_3]) (t:=46) ?_;intro gB hg w5 hbox hb;have BB:=Aside0.mk hbox;have HBn_:=sb hb;clear HB;have HB:=HBn_;clear HBn_;(try clear hb0 hb1 hb2 hb3);have hb0 : w5.cell? ⟨gB,0,none⟩ = some (.int .i64 a0_0):=(blk_cell BB.out 0).trans rfl;have hb1 : w5.cell? ⟨gB,1,none⟩ = some (.int .i64 a0_1):=(blk_cell BB.out 1).trans rfl;have hb2 : w5.cell? ⟨gB,2,none⟩ = some (.slice A0_2 l0_2.length c0_2):=(blk_cell BB.out 2).trans rfl;have hb3 : w5.cell? ⟨gB,3,none⟩ = some (.slice A0_3 l0_3.length c0_3):=(blk_cell BB.out 3).trans rfl;clear hbox hb hg) | ((with_reducible refine gate_callee (f:=36) rfl ?_);refine goesL_ _ rfl rfl Try.func36 (by kernel_rfl) rfl #[.agg #[.int .i64 a0_0,.int .i64 a0_1,.slice A0_2 l0_2.length c0_2,.slice A0_3 l0_3.length c0_3],.int .i64 1048576] rfl (by (try simp only [mT,mC,mN]);first | done | rfl | (simp only [lD,lT];rfl)) ?_;(with_reducible refine (laws_szDrawing.calls _ a0_0 a0_1 _ _ l0_2 _ _ l0_3 1048576 t1 _ (cO ((Kd.C_below HR0_2.out ib))) HC0_2.out (cO ((Kd.C_below HR0_3.out ib))) HC0_3.out A1.out).mono ?_);rintro e w5 ⟨rfl,hb⟩;refine ⟨_,rfl,?_⟩;have BBn_:=Aside0.mk (blk_below (by repeat (first | exact BB.out | refine blk_drewN ?_ _ | refine blk_drew ?_)) hb);have HBn_:=sb hb;clear HB;have HB:=HBn_;clear HBn_;clear BB;have BB:=BBn_;clear BBn_;clear A1;(try clear hb0 hb1 hb2 hb3);have hb0 : w5.cell? ⟨gB,0,none⟩ = some (.int .i64 a0_0):=(blk_cell BB.out 0).trans rfl;have hb1 : w5.cell? ⟨gB,1,none⟩ = some (.int .i64 a0_1):=(blk_cell BB.out 1).trans rfl;have hb2 : w5.cell? ⟨gB,2,none⟩ = some (.slice A0_2 l0_2.length c0_2):=(blk_cell BB.out 2).trans rfl;have hb3 : w5.cell? ⟨gB,3,none⟩ = some (.slice A0_3 l0_3.length c0_3):=(blk_cell BB.out 3).trans rfl;clear hb) | ((with_reducible refine gate_callee (f:=38) rfl ?_);refine goesL_ _ rfl rfl Try.func38 (by kernel_rfl) rfl #[.agg #[.int .i64 a0_0,.int .i64 a0_1,.slice A0_2 l0_2.length c0_2,.slice A0_3 l0_3.length c0_3]] rfl (by (try simp only [mT,mC,mN]);first | done | rfl | (simp only [lD,lT];rfl)) ?_;(with_reducible refine (laws_toDrawing.calls _ a0_0 a0_1 _ _ l0_2 _ _ l0_3 d0 d1 d2 d3 _ (cO ((Kd.C_below HR0_2.out ib))) HC0_2.out (cO ((Kd.C_below HR0_3.out ib))) HC0_3.out A2.out).mono ?_);rintro e w5 ⟨vp_,vf_,rfl,ho,hs,hb⟩;refine ⟨_,rfl,?_⟩;have BBn_:=Aside0.mk (blk_below (by repeat (first | exact BB.out | refine blk_drewN ?_ _ | refine blk_drew ?_)) hb);have XT:=Aside0.mk ho;have XF:=Aside0.mk hs;have HBn_:=sb hb;clear HB;have HB:=HBn_;clear HBn_;clear BB;have BB:=BBn_;clear BBn_;clear A2;obtain ⟨AT,cT,eT_⟩:=Kd.R_slice XT.out;subst eT_;obtain ⟨AF,cF,eF_⟩:=Kd.S_slice XF.out;subst eF_;(try clear hb0 hb1 hb2 hb3);have hb0 : w5.cell? ⟨gB,0,none⟩ = some (.int .i64 a0_0):=(blk_cell BB.out 0).trans rfl;have hb1 : w5.cell? ⟨gB,1,none⟩ = some (.int .i64 a0_1):=(blk_cell BB.out 1).trans rfl;have hb2 : w5.cell? ⟨gB,2,none⟩ = some (.slice A0_2 l0_2.length c0_2):=(blk_cell BB.out 2).trans rfl;have hb3 : w5.cell? ⟨gB,3,none⟩ = some (.slice A0_3 l0_3.length c0_3):=(blk_cell BB.out 3).trans rfl;clear hb) | ((with_reducible refine gate_callee (f:=53) rfl ?_);refine goesL_ _ rfl rfl Try.func53 (by kernel_rfl) rfl #[.agg #[.int .i64 d0,.int .i64 d1,.slice AT d2.length cT,.slice AF d3.length cF]] rfl (by (try simp only [mT,mC,mN]);first | done | rfl | (simp only [lD,lT];rfl)) ?_;(with_reducible refine (spec_UnusedPoints.calls _ d0 d1 _ _ d2 _ _ d3 s0 s1 _ (cO ((Kd.R_reads' XT.out).2.2)) (Kd.R_reads' XT.out).2.1 (cO ((Kd.S_reads' XF.out).2.2)) (Kd.S_reads' XF.out).2.1 A3.out).mono ?_);rintro e w5 ⟨v0_,rfl,ho,hb⟩;refine ⟨_,rfl,?_⟩;have BBn_:=Aside0.mk (blk_below (by repeat (first | exact BB.out | refine blk_drewN ?_ _ | refine blk_drew ?_)) hb);obtain ⟨N1,hN1⟩ : ∃ n_,n_ = w5.heap.size:=⟨_,rfl⟩;have G0:=Aside0.mk (Kd.R_mono (ok':=fun k_ => k_ < N1) (Kd.R_lower (Kd.R_bound ho) (show Below w.heap.size w _ from ib).size) (fun k_ hk_ => by rw [hN1];exact hk_.2.2.1));have B1:=Aside0.mk (Nat.le_of_eq hN1);have HBn_:=sb hb;clear HB;have HB:=HBn_;clear HBn_;clear BB;have BB:=BBn_;clear BBn_;have GBN:=Aside0.mk (show gB < N1 by rw [hN1];exact blk_lt BB.out);clear A3 XT XF hN1;obtain ⟨AG,cG,eG_⟩:=Kd.R_slice G0.out;subst eG_;(try clear hb0 hb1 hb2 hb3);have hb0 : w5.cell? ⟨gB,0,none⟩ = some (.int .i64 a0_0):=(blk_cell BB.out 0).trans rfl;have hb1 : w5.cell? ⟨gB,1,none⟩ = some (.int .i64 a0_1):=(blk_cell BB.out 1).trans rfl;have hb2 : w5.cell? ⟨gB,2,none⟩ = some (.slice A0_2 l0_2.length c0_2):=(blk_cell BB.out 2).trans rfl;have hb3 : w5.cell? ⟨gB,3,none⟩ = some (.slice A0_3 l0_3.length c0_3):=(blk_cell BB.out 3).trans rfl;clear hb) | ((with_reducible refine gate_callee (f:=38) rfl ?_);refine goesL_ _ rfl rfl Try.func38 (by kernel_rfl) rfl #[.agg #[.int .i64 a0_0,.int .i64 a0_1,.slice A0_2 l0_2.length c0_2,.slice A0_3 l0_3.length c0_3]] rfl (by (try simp only [mT,mC,mN]);first | done | rfl | (simp only [lD,lT];rfl)) ?_;(with_reducible refine (laws_toDrawing.calls _ a0_0 a0_1 _ _ l0_2 _ _ l0_3 x0 x1 x2 x3 _ (cO ((Kd.C_below HR0_2.out ib))) HC0_2.out (cO ((Kd.C_below HR0_3.out ib))) HC0_3.out A5.out).mono ?_);rintro e w5 ⟨vp_,vf_,rfl,ho,hs,hb⟩;refine ⟨_,rfl,?_⟩;have BBn_:=Aside0.mk (blk_below (by repeat (first | exact BB.out | refine blk_drewN ?_ _ | refine blk_drew ?_)) hb);have G0n_:=Aside0.mk (Kd.R_below (rO G0.out) hb);obtain ⟨N2,hN2⟩ : ∃ n_,n_ = w5.heap.size:=⟨_,rfl⟩;have XP:=Aside0.mk (Kd.R_mono (ok':=fun k_ => N1 ≤ k_ ∧ k_ < N2) (Kd.R_lower (Kd.R_bound ho) (show Below w.heap.size w _ from ib).size) (fun k_ hk_ => ⟨Nat.le_trans B1.out hk_.2.1,by rw [hN2];exact hk_.2.2.1⟩));have XQ:=Aside0.mk (Kd.S_mono (ok':=fun k_ => N1 ≤ k_ ∧ k_ < N2) (Kd.S_lower (Kd.S_bound hs) (show Below w.heap.size w _ from ib).size) (fun k_ hk_ => ⟨Nat.le_trans B1.out hk_.2.1,by rw [hN2];exact hk_.2.2.1⟩));have B2:=Aside0.mk (Nat.le_of_eq hN2);have B12:=Aside0.mk (show N1 ≤ N2 by rw [hN2];exact Nat.le_trans B1.out hb.size);have HBn_:=sb hb;clear HB;have HB:=HBn_;clear HBn_;clear BB;have BB:=BBn_;clear BBn_;clear G0;have G0:=G0n_;clear G0n_;clear A5 hN2;obtain ⟨AP,cP,eP_⟩:=Kd.R_slice XP.out;subst eP_;obtain ⟨AQ,cQ,eQ_⟩:=Kd.S_slice XQ.out;subst eQ_;(try clear hb0 hb1 hb2 hb3);have hb0 : w5.cell? ⟨gB,0,none⟩ = some (.int .i64 a0_0):=(blk_cell BB.out 0).trans rfl;have hb1 : w5.cell? ⟨gB,1,none⟩ = some (.int .i64 a0_1):=(blk_cell BB.out 1).trans rfl;have hb2 : w5.cell? ⟨gB,2,none⟩ = some (.slice A0_2 l0_2.length c0_2):=(blk_cell BB.out 2).trans rfl;have hb3 : w5.cell? ⟨gB,3,none⟩ = some (.slice A0_3 l0_3.length c0_3):=(blk_cell BB.out 3).trans rfl;clear hb) | ((with_reducible refine gate_dst (N:=6) rfl ?_);refine bx (cs:=#[.int .i64 0,.int .i64 0,.slice none 0 0,.slice none 0 0]) (t:=51) ?_;intro gX hg w5 hbox hb;have BX:=Aside0.mk hbox;have NX:=Aside0.mk (show N2 ≤ gX by rw [hg];exact B2.out);have GEX:=Aside0.mk (show w.heap.size ≤ gX by rw [hg];exact HB.out.size);have BBn_:=Aside0.mk (blk_below (by repeat (first | exact BB.out | refine blk_drewN ?_ _ | refine blk_drew ?_)) hb);have G0n_:=Aside0.mk (Kd.R_below (rO G0.out) hb);have XPn_:=Aside0.mk (Kd.R_below (rO XP.out) hb);have XQn_:=Aside0.mk (Kd.S_below (sO XQ.out) hb);have HBn_:=sb hb;clear HB;have HB:=HBn_;clear HBn_;clear BB;have BB:=BBn_;clear BBn_;clear G0;have G0:=G0n_;clear G0n_;clear XP;have XP:=XPn_;clear XPn_;clear XQ;have XQ:=XQn_;clear XQn_;(try clear hb0 hb1 hb2 hb3);have hb0 : w5.cell? ⟨gB,0,none⟩ = some (.int .i64 a0_0):=(blk_cell BB.out 0).trans rfl;have hb1 : w5.cell? ⟨gB,1,none⟩ = some (.int .i64 a0_1):=(blk_cell BB.out 1).trans rfl;have hb2 : w5.cell? ⟨gB,2,none⟩ = some (.slice A0_2 l0_2.length c0_2):=(blk_cell BB.out 2).trans rfl;have hb3 : w5.cell? ⟨gB,3,none⟩ = some (.slice A0_3 l0_3.length c0_3):=(blk_cell BB.out 3).trans rfl;clear hb;clear hbox hg;have hz0:=(blk_cell BX.out 0).trans rfl;have hz1:=(blk_cell BX.out 1).trans rfl;have hz2:=(blk_cell BX.out 2).trans rfl;have hz3:=(blk_cell BX.out 3).trans rfl;have hf0:=blk_frozen BX.out 0;have hf1:=blk_frozen BX.out 1;have hf2:=blk_frozen BX.out 2;have hf3:=blk_frozen BX.out 3) | ((with_reducible refine gate_callee (f:=54) rfl ?_);obtain ⟨w9,hw⟩ : ∃ w_,w_ = ((((w5.setCell ⟨gX,0,none⟩ (.int .i64 x0)).setCell ⟨gX,1,none⟩ (.int .i64 x1)).setCell ⟨gX,2,none⟩ (.slice AP x2.length cP)).setCell ⟨gX,3,none⟩ (.slice AQ x3.length cQ)):=⟨_,rfl⟩;rw [← hw];have fa_ : ∀ k_,k_ ≠ gX → w9.heap[k_]? = w5.heap[k_]?:=fun k_ hk_ => (by rw [hw];exact (Below.heap_setCell _ _ _ k_ hk_).trans ((Below.heap_setCell _ _ _ k_ hk_).trans ((Below.heap_setCell _ _ _ k_ hk_).trans (Below.heap_setCell _ _ _ k_ hk_))));have G0n_:=Aside0.mk (Kd.R_step G0.out (fun k_ h_ _ => fa_ k_ (Nat.ne_of_lt (Nat.lt_of_lt_of_le h_ (Nat.le_trans B12.out NX.out)))));have XPn_:=Aside0.mk (Kd.R_step XP.out (fun k_ h_ _ => fa_ k_ (Nat.ne_of_lt (Nat.lt_of_lt_of_le h_.2 NX.out))));have XQn_:=Aside0.mk (Kd.S_step XQ.out (fun k_ h_ _ => fa_ k_ (Nat.ne_of_lt (Nat.lt_of_lt_of_le h_.2 NX.out))));have BBn_:=Aside0.mk ((fa_ gB (Nat.ne_of_lt (Nat.lt_of_lt_of_le GBN.out (Nat.le_trans B12.out NX.out)))).trans BB.out);have BXn_:=Aside0.mk (show w9.heap[gX]? = some (.cells #[.int .i64 x0,.int .i64 x1,.slice AP x2.length cP,.slice AQ x3.length cQ] 51 (0,0)) by rw [hw];simpa using blk_set (blk_set (blk_set (blk_set BX.out 0 (.int .i64 x0)) 1 (.int .i64 x1)) 2 (.slice AP x2.length cP)) 3 (.slice AQ x3.length cQ));have HBn_:=Aside0.mk (show Below w.heap.size w w9 by rw [hw];exact below_set (below_set (below_set (below_set HB.out GEX.out) GEX.out) GEX.out) GEX.out);clear hz0 hz1 hz2 hz3 hf0 hf1 hf2 hf3 fa_ hw HB;have HB:=HBn_;clear HBn_;clear G0;have G0:=G0n_;clear G0n_;clear XP;have XP:=XPn_;clear XPn_;clear XQ;have XQ:=XQn_;clear XQn_;clear BB;have BB:=BBn_;clear BBn_;clear BX;have BX:=BXn_;clear BXn_;refine goesL_ _ rfl rfl Try.func54 (by kernel_rfl) rfl #[.agg #[.int .i64 x0,.int .i64 x1,.slice AP x2.length cP,.slice AQ x3.length cQ]] rfl (by (try simp only [mT,mC,mN]);first | done | rfl | (simp only [lD,lT];rfl)) ?_;(with_reducible refine (impl_UnusedPoints.calls _ x0 x1 _ _ x2 _ _ x3 g0 g1 _ (cO ((Kd.R_reads' XP.out).2.2)) (Kd.R_reads' XP.out).2.1 (cO ((Kd.S_reads' XQ.out).2.2)) (Kd.S_reads' XQ.out).2.1 A6.out).mono ?_);rintro e w5 ⟨v0_,rfl,ho,hb⟩;refine ⟨_,rfl,?_⟩;have BBn_:=Aside0.mk (blk_below (by repeat (first | exact BB.out | refine blk_drewN ?_ _ | refine blk_drew ?_)) hb);have G0n_:=Aside0.mk (Kd.R_below (rO G0.out) hb);have XPn_:=Aside0.mk (Kd.R_below (rO XP.out) hb);have XQn_:=Aside0.mk (Kd.S_below (sO XQ.out) hb);have BXn_:=Aside0.mk (blk_below (by repeat (first | exact BX.out | refine blk_drewN ?_ _ | refine blk_drew ?_)) hb);have G1:=Aside0.mk (Kd.R_mono (ok':=fun k_ => N2 ≤ k_) (Kd.R_lower (Kd.R_bound ho) (show Below w.heap.size w _ from ib).size) (fun k_ hk_ => Nat.le_trans NX.out (Nat.le_trans (Nat.le_of_lt (blk_lt BX.out)) hk_.2.1)));have HBn_:=sb hb;clear HB;have HB:=HBn_;clear HBn_;clear BB;have BB:=BBn_;clear BBn_;clear G0;have G0:=G0n_;clear G0n_;clear XP;have XP:=XPn_;clear XPn_;clear XQ;have XQ:=XQn_;clear XQn_;clear BX;have BX:=BXn_;clear BXn_;clear A6;obtain ⟨AI,cI,eI_⟩:=Kd.R_slice G1.out;subst eI_;(try clear hb0 hb1 hb2 hb3);have hb0 : w5.cell? ⟨gB,0,none⟩ = some (.int .i64 a0_0):=(blk_cell BB.out 0).trans rfl;have hb1 : w5.cell? ⟨gB,1,none⟩ = some (.int .i64 a0_1):=(blk_cell BB.out 1).trans rfl;have hb2 : w5.cell? ⟨gB,2,none⟩ = some (.slice A0_2 l0_2.length c0_2):=(blk_cell BB.out 2).trans rfl;have hb3 : w5.cell? ⟨gB,3,none⟩ = some (.slice A0_3 l0_3.length c0_3):=(blk_cell BB.out 3).trans rfl;(try clear hx0 hx1 hx2 hx3);have hx0 : w5.cell? ⟨gX,0,none⟩ = some (.int .i64 x0):=(blk_cell BX.out 0).trans rfl;have hx1 : w5.cell? ⟨gX,1,none⟩ = some (.int .i64 x1):=(blk_cell BX.out 1).trans rfl;have hx2 : w5.cell? ⟨gX,2,none⟩ = some (.slice AP x2.length cP):=(blk_cell BX.out 2).trans rfl;have hx3 : w5.cell? ⟨gX,3,none⟩ = some (.slice AQ x3.length cQ):=(blk_cell BX.out 3).trans rfl;clear hb) | ((with_reducible refine gate_callee (f:=46) rfl ?_);refine goesL_ _ rfl rfl Try.func46 (by kernel_rfl) rfl #[.slice AI g0.length cI,.slice AG s0.length cG] rfl (by (try simp only [mT,mC,mN]);first | done | rfl | (simp only [lD,lT];rfl)) ?_;(with_reducible refine (laws_eqInt64S.calls _ _ _ g0 _ _ s0 true _ (cO ((Kd.R_reads' G1.out).2.2)) (Kd.R_reads' G1.out).2.1 (cO ((Kd.R_reads' G0.out).2.2)) (Kd.R_reads' G0.out).2.1 A8.out).mono ?_);rintro e w5 ⟨rfl,hd_⟩;refine ⟨_,rfl,?_⟩;have hb:=hd_.below;clear hd_;have BBn_:=Aside0.mk (blk_below (by repeat (first | exact BB.out | refine blk_drewN ?_ _ | refine blk_drew ?_)) hb);have G0n_:=Aside0.mk (Kd.R_below (rO G0.out) hb);have XPn_:=Aside0.mk (Kd.R_below (rO XP.out) hb);have XQn_:=Aside0.mk (Kd.S_below (sO XQ.out) hb);have BXn_:=Aside0.mk (blk_below (by repeat (first | exact BX.out | refine blk_drewN ?_ _ | refine blk_drew ?_)) hb);have G1n_:=Aside0.mk (Kd.R_below (rO G1.out) hb);have HBn_:=sb hb;clear HB;have HB:=HBn_;clear HBn_;clear BB;have BB:=BBn_;clear BBn_;clear G0;have G0:=G0n_;clear G0n_;clear XP;have XP:=XPn_;clear XPn_;clear XQ;have XQ:=XQn_;clear XQn_;clear BX;have BX:=BXn_;clear BXn_;clear G1;have G1:=G1n_;clear G1n_;clear A8;(try clear hb0 hb1 hb2 hb3);have hb0 : w5.cell? ⟨gB,0,none⟩ = some (.int .i64 a0_0):=(blk_cell BB.out 0).trans rfl;have hb1 : w5.cell? ⟨gB,1,none⟩ = some (.int .i64 a0_1):=(blk_cell BB.out 1).trans rfl;have hb2 : w5.cell? ⟨gB,2,none⟩ = some (.slice A0_2 l0_2.length c0_2):=(blk_cell BB.out 2).trans rfl;have hb3 : w5.cell? ⟨gB,3,none⟩ = some (.slice A0_3 l0_3.length c0_3):=(blk_cell BB.out 3).trans rfl;(try clear hx0 hx1 hx2 hx3);have hx0 : w5.cell? ⟨gX,0,none⟩ = some (.int .i64 x0):=(blk_cell BX.out 0).trans rfl;have hx1 : w5.cell? ⟨gX,1,none⟩ = some (.int .i64 x1):=(blk_cell BX.out 1).trans rfl;have hx2 : w5.cell? ⟨gX,2,none⟩ = some (.slice AP x2.length cP):=(blk_cell BX.out 2).trans rfl;have hx3 : w5.cell? ⟨gX,3,none⟩ = some (.slice AQ x3.length cQ):=(blk_cell BX.out 3).trans rfl;clear hb))
  have G0n_:=Aside0.mk (Kd.R_drew G0.out)
  have G1n_:=Aside0.mk (Kd.R_drew G1.out)
  have XPn_:=Aside0.mk (Kd.R_drew XP.out)
  have XQn_:=Aside0.mk (Kd.S_drew XQ.out)
  have BBn_:=Aside0.mk (blk_drew BB.out)
  have BXn_:=Aside0.mk (blk_drew BX.out)
  have HBn_:=Aside0.mk (below_drew1 HB.out)
  clear HB hb0 hb1 hb2 hb3 hx0 hx1 hx2 hx3
  have HB:=HBn_
  clear HBn_
  clear G0
  have G0:=G0n_
  clear G0n_
  clear G1
  have G1:=G1n_
  clear G1n_
  clear XP
  have XP:=XPn_
  clear XPn_
  clear XQ
  have XQ:=XQn_
  clear XQn_
  clear BB
  have BB:=BBn_
  clear BBn_
  clear BX
  have BX:=BXn_
  clear BXn_
  refine start_ (n:=5) (S:=fun w' => w'.cell? ⟨gX,0,none⟩ = some (.int .i64 x0) ∧ w'.cell? ⟨gX,1,none⟩ = some (.int .i64 x1) ∧ w'.cell? ⟨gX,2,none⟩ = some (.slice AP x2.length cP) ∧ w'.cell? ⟨gX,3,none⟩ = some (.slice AQ x3.length cQ) ∧ w'.cell? ⟨gB,0,none⟩ = some (.int .i64 a0_0) ∧ w'.cell? ⟨gB,1,none⟩ = some (.int .i64 a0_1) ∧ w'.cell? ⟨gB,2,none⟩ = some (.slice A0_2 l0_2.length c0_2) ∧ w'.cell? ⟨gB,3,none⟩ = some (.slice A0_3 l0_3.length c0_3)) (ds:=[]) #[fF,fF,fF,fF,fF] (by kernel_rfl) rfl rfl ⟨(blk_cell BX.out 0).trans rfl,(blk_cell BX.out 1).trans rfl,(blk_cell BX.out 2).trans rfl,(blk_cell BX.out 3).trans rfl,(blk_cell BB.out 0).trans rfl,(blk_cell BB.out 1).trans rfl,(blk_cell BB.out 2).trans rfl,(blk_cell BB.out 3).trans rfl⟩ (fun hHeld => ?_)
  refine take_ (i:=0) (N:=some 41) (v:=?_) (a':=?_) #[tT,fF,fF,fF,fF] rfl rfl (by kernel_rfl) (fun _ _ _ h => h) (Or.inl ⟨by rfl,?_⟩) hHeld ?_ ?_
  rotate_left
  ·rintro w' ⟨s0_,s1_,s2_,s3_,s4_,s5_,s6_,s7_⟩
   go_simp
   with_reducible rfl
  rotate_left
  ·exact pa
  refine take_ (i:=1) (N:=some 42) (v:=?_) (a':=?_) #[tT,tT,fF,fF,fF] rfl rfl (by kernel_rfl) (fun _ _ _ h => h) (Or.inl ⟨by rfl,?_⟩) hHeld ?_ ?_
  rotate_left
  ·rintro w' ⟨s0_,s1_,s2_,s3_,s4_,s5_,s6_,s7_⟩
   go_simp
   with_reducible rfl
  rotate_left
  ·exact pa
  refine one_ (i:=2) (N:=some 43) #[tT,tT,tT,fF,fF] rfl rfl (by kernel_rfl) (by decide) (fun K hK => ?_)
  refine goes_ Try.func38 (by kernel_rfl) rfl #[.agg #[.int .i64 a0_0,.int .i64 a0_1,.slice A0_2 l0_2.length c0_2,.slice A0_3 l0_3.length c0_3]] (by rfl) rfl rfl (by (try simp only [mT,mC,mN]);first | done | rfl | (simp only [lD,lT];rfl)) ?_
  with_reducible refine (laws_toDrawing.calls _ a0_0 a0_1 _ _ l0_2 _ _ l0_3 q0 q1 q2 q3 _ (cO ((Kd.C_below HR0_2.out ib))) HC0_2.out (cO ((Kd.C_below HR0_3.out ib))) HC0_3.out A9.out).mono ?_
  rintro e w5 ⟨vp_,vf_,rfl,ho,hs,hb⟩
  refine ⟨_,rfl,?_⟩
  have BBn_:=Aside0.mk (blk_below (by repeat (first | exact BB.out | refine blk_drewN ?_ _ | refine blk_drew ?_)) hb);have G0n_:=Aside0.mk (Kd.R_below (rO G0.out) hb);have XPn_:=Aside0.mk (Kd.R_below (rO XP.out) hb);have XQn_:=Aside0.mk (Kd.S_below (sO XQ.out) hb);have BXn_:=Aside0.mk (blk_below (by repeat (first | exact BX.out | refine blk_drewN ?_ _ | refine blk_drew ?_)) hb);have G1n_:=Aside0.mk (Kd.R_below (rO G1.out) hb);have ZT:=Aside0.mk ho;have ZF:=Aside0.mk hs;have HBn_:=sb hb;clear HB;have HB:=HBn_;clear HBn_;clear BB;have BB:=BBn_;clear BBn_;clear G0;have G0:=G0n_;clear G0n_;clear XP;have XP:=XPn_;clear XPn_;clear XQ;have XQ:=XQn_;clear XQn_;clear BX;have BX:=BXn_;clear BXn_;clear G1;have G1:=G1n_;clear G1n_;clear A9;obtain ⟨AZ,cZ,eZ_⟩:=Kd.R_slice ZT.out;subst eZ_;obtain ⟨AY,cY,eY_⟩:=Kd.S_slice ZF.out;subst eY_;(try clear hb0 hb1 hb2 hb3)
  refine hK.out _ _ ⟨(blk_cell BX.out 0).trans rfl,(blk_cell BX.out 1).trans rfl,(blk_cell BX.out 2).trans rfl,(blk_cell BX.out 3).trans rfl,(blk_cell BB.out 0).trans rfl,(blk_cell BB.out 1).trans rfl,(blk_cell BB.out 2).trans rfl,(blk_cell BB.out 3).trans rfl⟩ (fun hHeld => ?_)
  clear hK K
  refine norm_ (a':=?_) ?_ ?_
  rotate_left
  ·show Act.put _ (some 43) _ = _
   simp only [Act.put,List.setIfInBounds_toArray,List.set_cons_zero,List.set_cons_succ,i64_w,i32_w]
   rfl
  refine one_ (i:=3) (N:=some 44) #[tT,tT,tT,tT,fF] rfl rfl (by kernel_rfl) (by decide) (fun K hK => ?_)
  refine goes_ Try.func40 (by kernel_rfl) rfl #[.agg #[.int .i64 x0,.int .i64 x1,.slice AP x2.length cP,.slice AQ x3.length cQ],.agg #[.int .i64 q0,.int .i64 q1,.slice AZ q2.length cZ,.slice AY q3.length cY]] (by rfl) rfl rfl (by (try simp only [mT,mC,mN]);first | done | rfl | (simp only [lD,lT];rfl)) ?_
  with_reducible refine (laws_eqDrawing.calls _ x0 x1 _ _ x2 _ _ x3 q0 q1 _ _ q2 _ _ q3 true _ (cO ((Kd.R_reads' XP.out).2.2)) (Kd.R_reads' XP.out).2.1 (cO ((Kd.S_reads' XQ.out).2.2)) (Kd.S_reads' XQ.out).2.1 (cO ((Kd.R_reads' ZT.out).2.2)) (Kd.R_reads' ZT.out).2.1 (cO ((Kd.S_reads' ZF.out).2.2)) (Kd.S_reads' ZF.out).2.1 A10.out).mono ?_
  rintro e w5 ⟨rfl,hb⟩
  refine ⟨_,rfl,?_⟩
  have BBn_:=Aside0.mk (blk_below (by repeat (first | exact BB.out | refine blk_drewN ?_ _ | refine blk_drew ?_)) hb);have G0n_:=Aside0.mk (Kd.R_below (rO G0.out) hb);have XPn_:=Aside0.mk (Kd.R_below (rO XP.out) hb);have XQn_:=Aside0.mk (Kd.S_below (sO XQ.out) hb);have BXn_:=Aside0.mk (blk_below (by repeat (first | exact BX.out | refine blk_drewN ?_ _ | refine blk_drew ?_)) hb);have G1n_:=Aside0.mk (Kd.R_below (rO G1.out) hb);have HBn_:=sb hb;clear HB;have HB:=HBn_;clear HBn_;clear BB;have BB:=BBn_;clear BBn_;clear G0;have G0:=G0n_;clear G0n_;clear XP;have XP:=XPn_;clear XPn_;clear XQ;have XQ:=XQn_;clear XQn_;clear BX;have BX:=BXn_;clear BXn_;clear G1;have G1:=G1n_;clear G1n_;clear A10 ZT ZF;(try clear hb0 hb1 hb2 hb3);have hb0 : w5.cell? ⟨gB,0,none⟩ = some (.int .i64 a0_0):=(blk_cell BB.out 0).trans rfl;have hb1 : w5.cell? ⟨gB,1,none⟩ = some (.int .i64 a0_1):=(blk_cell BB.out 1).trans rfl;have hb2 : w5.cell? ⟨gB,2,none⟩ = some (.slice A0_2 l0_2.length c0_2):=(blk_cell BB.out 2).trans rfl;have hb3 : w5.cell? ⟨gB,3,none⟩ = some (.slice A0_3 l0_3.length c0_3):=(blk_cell BB.out 3).trans rfl;(try clear hx0 hx1 hx2 hx3);have hx0 : w5.cell? ⟨gX,0,none⟩ = some (.int .i64 x0):=(blk_cell BX.out 0).trans rfl;have hx1 : w5.cell? ⟨gX,1,none⟩ = some (.int .i64 x1):=(blk_cell BX.out 1).trans rfl;have hx2 : w5.cell? ⟨gX,2,none⟩ = some (.slice AP x2.length cP):=(blk_cell BX.out 2).trans rfl;have hx3 : w5.cell? ⟨gX,3,none⟩ = some (.slice AQ x3.length cQ):=(blk_cell BX.out 3).trans rfl;clear hb
  refine hK.out _ _ ⟨(blk_cell BX.out 0).trans rfl,(blk_cell BX.out 1).trans rfl,(blk_cell BX.out 2).trans rfl,(blk_cell BX.out 3).trans rfl,(blk_cell BB.out 0).trans rfl,(blk_cell BB.out 1).trans rfl,(blk_cell BB.out 2).trans rfl,(blk_cell BB.out 3).trans rfl⟩ (fun hHeld => ?_)
  clear hK K
  refine norm_ (a':=?_) ?_ ?_
  rotate_left
  ·show Act.put _ (some 44) _ = _
   simp only [Act.put,List.setIfInBounds_toArray,List.set_cons_zero,List.set_cons_succ,i64_w,i32_w]
   rfl
  refine pure_ (i:=4) (N:=some 45) (v:=?_) (a':=?_) #[tT,tT,tT,tT,tT] rfl rfl (by kernel_rfl) (fun _ _ _ h => h) (Or.inl ⟨by rfl,?_⟩) ?_ ?_
  rotate_left
  ·intro w'
   go_simp
   with_reducible rfl
  rotate_left
  ·exact pa
  refine done_ (by kernel_rfl) ?_
  go_wp2_with (first | ((with_reducible refine gate_callee (f:=41) rfl ?_);refine goesL_ _ rfl rfl Try.func41 (by kernel_rfl) rfl #[.agg #[.int .i64 x0,.int .i64 x1,.slice AP x2.length cP,.slice AQ x3.length cQ],.int .i64 1] rfl (by (try simp only [mT,mC,mN]);first | done | rfl | (simp only [lD,lT];rfl)) ?_;(with_reducible refine (laws_markDrawing.calls _ (fun k_ => N1 ≤ k_ ∧ k_ < N2) x0 x1 _ x2 _ x3 1 t11 w _ ib (rO XP.out) (sO XQ.out) A11.out).mono ?_);rintro e w5 ⟨rfl,hb,hk⟩;refine ⟨_,rfl,?_⟩;have G0n_:=Aside0.mk (Kd.R_step (rO G0.out) (fun k_ h1_ hlt => hk.2 k_ hlt (fun h2_ => Nat.not_lt.2 h2_.1 h1_)));have G1n_:=Aside0.mk (Kd.R_step (rO G1.out) (fun k_ h1_ hlt => hk.2 k_ hlt (fun h2_ => Nat.not_lt.2 h1_ h2_.2)));have BBn_:=Aside0.mk ((hk.2 gB (blk_lt BB.out) (fun h2_ => Nat.not_lt.2 h2_.1 GBN.out)).trans BB.out);have HBn_:=Aside0.mk hb;clear HB XP XQ BX hx0 hx1 hx2 hx3;have HB:=HBn_;clear HBn_ hk hb;clear G0;have G0:=G0n_;clear G0n_;clear G1;have G1:=G1n_;clear G1n_;clear BB;have BB:=BBn_;clear BBn_;clear A11;(try clear hb0 hb1 hb2 hb3);have hb0 : w5.cell? ⟨gB,0,none⟩ = some (.int .i64 a0_0):=(blk_cell BB.out 0).trans rfl;have hb1 : w5.cell? ⟨gB,1,none⟩ = some (.int .i64 a0_1):=(blk_cell BB.out 1).trans rfl;have hb2 : w5.cell? ⟨gB,2,none⟩ = some (.slice A0_2 l0_2.length c0_2):=(blk_cell BB.out 2).trans rfl;have hb3 : w5.cell? ⟨gB,3,none⟩ = some (.slice A0_3 l0_3.length c0_3):=(blk_cell BB.out 3).trans rfl) | (go_at_call 46;(with_reducible refine (laws_eqInt64S.calls _ _ _ g0 _ _ s0 true _ (cO ((Kd.R_reads' G1.out).2.2)) (Kd.R_reads' G1.out).2.1 (cO ((Kd.R_reads' G0.out).2.2)) (Kd.R_reads' G0.out).2.1 A13.out).mono ?_);rintro e w5 ⟨rfl,hd_⟩;have hb:=hd_.below;clear hd_;have BBn_:=Aside0.mk (blk_below (by repeat (first | exact BB.out | refine blk_drewN ?_ _ | refine blk_drew ?_)) hb);have G0n_:=Aside0.mk (Kd.R_below (rO G0.out) hb);have G1n_:=Aside0.mk (Kd.R_below (rO G1.out) hb);have HBn_:=sb hb;clear HB;have HB:=HBn_;clear HBn_;clear BB;have BB:=BBn_;clear BBn_;clear G0;have G0:=G0n_;clear G0n_;clear G1;have G1:=G1n_;clear G1n_;clear A13;(try clear hb0 hb1 hb2 hb3);have hb0 : w5.cell? ⟨gB,0,none⟩ = some (.int .i64 a0_0):=(blk_cell BB.out 0).trans rfl;have hb1 : w5.cell? ⟨gB,1,none⟩ = some (.int .i64 a0_1):=(blk_cell BB.out 1).trans rfl;have hb2 : w5.cell? ⟨gB,2,none⟩ = some (.slice A0_2 l0_2.length c0_2):=(blk_cell BB.out 2).trans rfl;have hb3 : w5.cell? ⟨gB,3,none⟩ = some (.slice A0_3 l0_3.length c0_3):=(blk_cell BB.out 3).trans rfl;clear hb) | ((with_reducible refine gate_callee (f:=47) rfl ?_);refine goesL_ _ rfl rfl Try.func47 (by kernel_rfl) rfl #[.slice AI g0.length cI,.int .i64 1] rfl (by (try simp only [mT,mC,mN]);first | done | rfl | (simp only [lD,lT];rfl)) ?_;(with_reducible refine (laws_markInt64S.calls _ (fun k_ => N2 ≤ k_) _ g0 1 t21 y2 w _ ib (rO G1.out) A14.out).mono ?_);rintro e w5 ⟨rfl,ho,hb,hk⟩;refine ⟨_,rfl,?_⟩;have G0n_:=Aside0.mk (Kd.R_step (rO G0.out) (fun k_ h1_ hlt => hk.2 k_ hlt (fun h2_ => Nat.not_lt.2 (Nat.le_trans B12.out h2_) h1_)));have BBn_:=Aside0.mk ((hk.2 gB (blk_lt BB.out) (fun h2_ => Nat.not_lt.2 (Nat.le_trans B12.out h2_) GBN.out)).trans BB.out);have HBn_:=Aside0.mk hb;have G2:=Aside0.mk (Kd.R_mono (ok':=fun _ => True) ho (fun _ _ => trivial));clear HB G1;have HB:=HBn_;clear HBn_ hk ho hb;clear G0;have G0:=G0n_;clear G0n_;clear BB;have BB:=BBn_;clear BBn_;clear A14;(try clear hb0 hb1 hb2 hb3);have hb0 : w5.cell? ⟨gB,0,none⟩ = some (.int .i64 a0_0):=(blk_cell BB.out 0).trans rfl;have hb1 : w5.cell? ⟨gB,1,none⟩ = some (.int .i64 a0_1):=(blk_cell BB.out 1).trans rfl;have hb2 : w5.cell? ⟨gB,2,none⟩ = some (.slice A0_2 l0_2.length c0_2):=(blk_cell BB.out 2).trans rfl;have hb3 : w5.cell? ⟨gB,3,none⟩ = some (.slice A0_3 l0_3.length c0_3):=(blk_cell BB.out 3).trans rfl;have eL_ : y2.length = g0.length:=(Kd.R_reads' G2.out).1.symm;have G2n_:=Aside0.mk (show Kd.R (Kd.int .i64) 2 w5 w.heap.size (fun _ => True) (.slice AI y2.length cI) y2 by (rw [eL_];exact G2.out));clear G2;have G2:=G2n_;clear G2n_;rw [← eL_];clear eL_) | ((with_reducible refine gate_callee (f:=48) rfl ?_);refine goesL_ _ rfl rfl Try.func48 (by kernel_rfl) rfl #[.slice AI y2.length cI,.int .i64 1] rfl (by (try simp only [mT,mC,mN]);first | done | rfl | (simp only [lD,lT];rfl)) ?_;(with_reducible refine (laws_heldInt64S.calls _ _ _ y2 1 t21 _ (cO ((Kd.R_reads' G2.out).2.2)) (Kd.R_reads' G2.out).2.1 A16.out).mono ?_);rintro e w5 ⟨rfl,⟨nd,rfl⟩⟩;refine ⟨_,rfl,?_⟩;clear A16) | ((with_reducible refine gate_callee (f:=38) rfl ?_);refine goesL_ _ rfl rfl Try.func38 (by kernel_rfl) rfl #[.agg #[.int .i64 a0_0,.int .i64 a0_1,.slice A0_2 l0_2.length c0_2,.slice A0_3 l0_3.length c0_3]] rfl (by (try simp only [mT,mC,mN]);first | done | rfl | (simp only [lD,lT];rfl)) ?_;(with_reducible refine (laws_toDrawing.calls _ a0_0 a0_1 _ _ l0_2 _ _ l0_3 z0 z1 z2 z3 _ (cO ((Kd.C_below HR0_2.out ib))) HC0_2.out (cO ((Kd.C_below HR0_3.out ib))) HC0_3.out A17.out).mono ?_);rintro e w5 ⟨vp_,vf_,rfl,ho,hs,hb⟩;refine ⟨_,rfl,?_⟩;have BBn_:=Aside0.mk (blk_below (by repeat (first | exact BB.out | refine blk_drewN ?_ _ | refine blk_drew ?_)) hb);have G0n_:=Aside0.mk (Kd.R_below (rO G0.out) hb);have G2n_:=Aside0.mk (Kd.R_below (rO G2.out) hb);have XT:=Aside0.mk ho;have XF:=Aside0.mk hs;have HBn_:=sb hb;clear HB;have HB:=HBn_;clear HBn_;clear BB;have BB:=BBn_;clear BBn_;clear G0;have G0:=G0n_;clear G0n_;clear G2;have G2:=G2n_;clear G2n_;clear A17;obtain ⟨AT,cT,eT_⟩:=Kd.R_slice XT.out;subst eT_;obtain ⟨AF,cF,eF_⟩:=Kd.S_slice XF.out;subst eF_;(try clear hb0 hb1 hb2 hb3);have hb0 : w5.cell? ⟨gB,0,none⟩ = some (.int .i64 a0_0):=(blk_cell BB.out 0).trans rfl;have hb1 : w5.cell? ⟨gB,1,none⟩ = some (.int .i64 a0_1):=(blk_cell BB.out 1).trans rfl;have hb2 : w5.cell? ⟨gB,2,none⟩ = some (.slice A0_2 l0_2.length c0_2):=(blk_cell BB.out 2).trans rfl;have hb3 : w5.cell? ⟨gB,3,none⟩ = some (.slice A0_3 l0_3.length c0_3):=(blk_cell BB.out 3).trans rfl;clear hb) | ((with_reducible refine gate_callee (f:=54) rfl ?_);refine goesL_ _ rfl rfl Try.func54 (by kernel_rfl) rfl #[.agg #[.int .i64 z0,.int .i64 z1,.slice AT z2.length cT,.slice AF z3.length cF]] rfl (by (try simp only [mT,mC,mN]);first | done | rfl | (simp only [lD,lT];rfl)) ?_;(with_reducible refine (impl_UnusedPoints.calls _ z0 z1 _ _ z2 _ _ z3 u0 u1 _ (cO ((Kd.R_reads' XT.out).2.2)) (Kd.R_reads' XT.out).2.1 (cO ((Kd.S_reads' XF.out).2.2)) (Kd.S_reads' XF.out).2.1 A18.out).mono ?_);rintro e w5 ⟨v0_,rfl,ho,hb⟩;refine ⟨_,rfl,?_⟩;have BBn_:=Aside0.mk (blk_below (by repeat (first | exact BB.out | refine blk_drewN ?_ _ | refine blk_drew ?_)) hb);have G0n_:=Aside0.mk (Kd.R_below (rO G0.out) hb);have G2n_:=Aside0.mk (Kd.R_below (rO G2.out) hb);have G3:=Aside0.mk ho;have HBn_:=sb hb;clear HB;have HB:=HBn_;clear HBn_;clear BB;have BB:=BBn_;clear BBn_;clear G0;have G0:=G0n_;clear G0n_;clear G2;have G2:=G2n_;clear G2n_;clear A18 XT XF;obtain ⟨AH,cH,eH_⟩:=Kd.R_slice G3.out;subst eH_;(try clear hb0 hb1 hb2 hb3);have hb0 : w5.cell? ⟨gB,0,none⟩ = some (.int .i64 a0_0):=(blk_cell BB.out 0).trans rfl;have hb1 : w5.cell? ⟨gB,1,none⟩ = some (.int .i64 a0_1):=(blk_cell BB.out 1).trans rfl;have hb2 : w5.cell? ⟨gB,2,none⟩ = some (.slice A0_2 l0_2.length c0_2):=(blk_cell BB.out 2).trans rfl;have hb3 : w5.cell? ⟨gB,3,none⟩ = some (.slice A0_3 l0_3.length c0_3):=(blk_cell BB.out 3).trans rfl;clear hb) | ((with_reducible refine gate_callee (f:=46) rfl ?_);refine goesL_ _ rfl rfl Try.func46 (by kernel_rfl) rfl #[.slice AH u0.length cH,.slice AG s0.length cG] rfl (by (try simp only [mT,mC,mN]);first | done | rfl | (simp only [lD,lT];rfl)) ?_;(with_reducible refine (laws_eqInt64S.calls _ _ _ u0 _ _ s0 true _ (cO ((Kd.R_reads' G3.out).2.2)) (Kd.R_reads' G3.out).2.1 (cO ((Kd.R_reads' G0.out).2.2)) (Kd.R_reads' G0.out).2.1 A20.out).mono ?_);rintro e w5 ⟨rfl,hd_⟩;refine ⟨_,rfl,?_⟩;have hb:=hd_.below;clear hd_;have BBn_:=Aside0.mk (blk_below (by repeat (first | exact BB.out | refine blk_drewN ?_ _ | refine blk_drew ?_)) hb);have G0n_:=Aside0.mk (Kd.R_below (rO G0.out) hb);have G2n_:=Aside0.mk (Kd.R_below (rO G2.out) hb);have G3n_:=Aside0.mk (Kd.R_below (rO G3.out) hb);have HBn_:=sb hb;clear HB;have HB:=HBn_;clear HBn_;clear BB;have BB:=BBn_;clear BBn_;clear G0;have G0:=G0n_;clear G0n_;clear G2;have G2:=G2n_;clear G2n_;clear G3;have G3:=G3n_;clear G3n_;clear A20;(try clear hb0 hb1 hb2 hb3);have hb0 : w5.cell? ⟨gB,0,none⟩ = some (.int .i64 a0_0):=(blk_cell BB.out 0).trans rfl;have hb1 : w5.cell? ⟨gB,1,none⟩ = some (.int .i64 a0_1):=(blk_cell BB.out 1).trans rfl;have hb2 : w5.cell? ⟨gB,2,none⟩ = some (.slice A0_2 l0_2.length c0_2):=(blk_cell BB.out 2).trans rfl;have hb3 : w5.cell? ⟨gB,3,none⟩ = some (.slice A0_3 l0_3.length c0_3):=(blk_cell BB.out 3).trans rfl;clear hb) | ((with_reducible refine gate_callee (f:=48) rfl ?_);refine goesL_ _ rfl rfl Try.func48 (by kernel_rfl) rfl #[.slice AI y2.length cI,.int .i64 1] rfl (by (try simp only [mT,mC,mN]);first | done | rfl | (simp only [lD,lT];rfl)) ?_;(with_reducible refine (laws_heldInt64S.calls _ _ _ y2 1 t21 _ (cO ((Kd.R_reads' G2.out).2.2)) (Kd.R_reads' G2.out).2.1 A21.out).mono ?_);rintro e w5 ⟨rfl,⟨nd,rfl⟩⟩;refine ⟨_,rfl,?_⟩;clear A21))
  go_ret
  exact ⟨(by first | rfl | (simp;done) | (simp [*];done)),ib⟩
end Go.Proofs.Ytnnchaggdnlfmaa.PFnExactUnusedPoints
