/- Contracts of functions that FnExactFacesOfEdge reaches, out of the lines of the kit's print. -/
import Derived.Test.YtnnchaggdnlfmaaQFnExactFacesOfEdgex0
import Derived.Test.YtnnchaggdnlfmaaQFnExactFacesOfEdgex6
import Derived.Test.YtnnchaggdnlfmaaQFnExactFacesOfEdgex10
import Derived.Test.YtnnchaggdnlfmaaQFnExactFacesOfEdgex11
namespace Go.Proofs.Ytnnchaggdnlfmaa.PFnExactFacesOfEdge
set_option maxHeartbeats 8000000
set_option maxRecDepth 100000
open Go.RowKit Go.Proofs.YtnnchaggdnlfmaaW.PrintWords Go.Proofs.YtnnchaggdnlfmaaW.PrintLast Go.Proofs.YtnnchaggdnlfmaaW.PrintMore
open Bool renaming true → tT, false → fF
open Go.World renaming block_lt_of_cell? → bL
open List renaming length_take → lT, length_drop → lD, map_toArray → mT, map_cons → mC, map_nil → mN
open Option renaming bind_eq_some_iff → bE
attribute [local go_sem] max2_int min2_int max_two min_two max_three min_three max_four min_four
set_option linter.unusedVariables false
set_option linter.unusedSimpArgs false
def spec_l05HasEdge.l0 : Nat → List Int → Int → Int → Int → Option (Bool)
 | 0,_,_,_,_ => none
 | k + 1,x0,x1,x2,x7 => if x7 < (x0.length : Int) then (if 0 ≤ x7 then (if (x0.length : Int) = 0 then (none) else (if 0 ≤ (Int.tmod (wrap64 (x7 + 1)) (x0.length : Int)) then (if (Int.tmod (wrap64 (x7 + 1)) (x0.length : Int)) < (x0.length : Int) then (if (rd x0 x7) = x1 then (if (rd x0 (Int.tmod (wrap64 (x7 + 1)) (x0.length : Int))) = x2 then (some true) else (if (rd x0 x7) = x2 then (if (rd x0 (Int.tmod (wrap64 (x7 + 1)) (x0.length : Int))) = x1 then (some true) else (spec_l05HasEdge.l0 k x0 x1 x2 (wrap64 (x7 + 1)))) else (spec_l05HasEdge.l0 k x0 x1 x2 (wrap64 (x7 + 1))))) else (if (rd x0 x7) = x2 then (if (rd x0 (Int.tmod (wrap64 (x7 + 1)) (x0.length : Int))) = x1 then (some true) else (spec_l05HasEdge.l0 k x0 x1 x2 (wrap64 (x7 + 1)))) else (spec_l05HasEdge.l0 k x0 x1 x2 (wrap64 (x7 + 1))))) else (none)) else (none))) else (none)) else (some false)
def spec_l05HasEdge.f (k : Nat) (l0 : List Int) (a1 : Int) (a2 : Int) : Option (Bool):=spec_l05HasEdge.l0 k l0 a1 a2 0
theorem spec_l05HasEdge.calls (k : Nat) (A0 : Option Addr) (c0 : Nat) (l0 : List Int) (a1 : Int) (a2 : Int) (r : Bool) (w : World) (hr0 : Kd.C (Kd.int .i64) w A0 l0.length l0) (hc0 : l0.length ≤ c0) (h : spec_l05HasEdge.f k l0 a1 a2 = some r) :
  Calls Try.prog 141 #[.slice A0 l0.length c0,.int .i64 a1,.int .i64 a2] w fun e w' => e = .returned (.bool r) ∧ Drawn0 w w':=by
 have HR0:=Aside0.mk hr0
 have HC0:=Aside0.mk hc0
 clear hr0 hc0
 have H : (spec_l05HasEdge.l0 k l0 a1 a2 0) = some r:=h
 clear h
 have H':=Aside0.mk H
 clear H
 go_enter Try.func141,Try.ntmps141
 go_wp2
 go_loopg [7] k (fun kq v7 w' => ∃ (x7_1 : Int),v7 = .int .i64 x7_1 ∧ Aside0 (spec_l05HasEdge.l0 kq l0 a1 a2 x7_1 = some r) ∧ Aside0 (kq ≤ k) ∧ Drawn0 w w')
 case atStart => exact ⟨(0),(by first | rfl | (simp;done) | (simp [*];done)),H',⟨Nat.le_refl _⟩,by repeat (first | exact Drawn0.refl _ | apply Drawn0.step)⟩
 case round =>
  clear H'
  try clear c1
  try clear p2
  obtain ⟨x7_1,rfl,HA,HK1,⟨m1,rfl⟩⟩:=hrel
  cases gk with
  | zero => exact absurd HA.out (by simp [spec_l05HasEdge.l0])
  | succ k1 =>
   have H:=HA.out
   clear HA
   simp only [spec_l05HasEdge.l0] at H
   by_cases c4 : x7_1 < (l0.length : Int)
   ·rw [if_pos c4] at H
    have c4b0 : decide (x7_1 < (l0.length : Int)) = true:=decide_eq_true c4
    clear c4
    by_cases c5 : 0 ≤ x7_1
    ·rw [if_pos c5] at H
     have c5b0 : decide (0 ≤ x7_1) = true:=decide_eq_true c5
     clear c5
     by_cases c6 : (l0.length : Int) = 0
     ·rw [if_pos c6] at H
      exact absurd H (by simp)
     ·rw [if_neg c6] at H
      have c6b0 : ((l0.length : Int) == 0) = false:=beq_eq_false_iff_ne.mpr c6
      have c6b1 : ((l0.length : Int) != 0) = true:=bne_iff_ne.mpr c6
      have c6b2 : ¬ (l0 = []):=fun h_ => c6 (by rw [h_];rfl)
      obtain ⟨ji7,hji7⟩ : ∃ j_ : Int,(Int.tmod (wrap64 (x7_1 + 1)) (l0.length : Int)) = j_:=⟨_,rfl⟩
      replace H : (if 0 ≤ (ji7) then (if (ji7) < (l0.length : Int) then (if (rd l0 x7_1) = a1 then (if (rd l0 (ji7)) = a2 then (some true) else (if (rd l0 x7_1) = a2 then (if (rd l0 (ji7)) = a1 then (some true) else (spec_l05HasEdge.l0 k1 l0 a1 a2 (wrap64 (x7_1 + 1)))) else (spec_l05HasEdge.l0 k1 l0 a1 a2 (wrap64 (x7_1 + 1))))) else (if (rd l0 x7_1) = a2 then (if (rd l0 (ji7)) = a1 then (some true) else (spec_l05HasEdge.l0 k1 l0 a1 a2 (wrap64 (x7_1 + 1)))) else (spec_l05HasEdge.l0 k1 l0 a1 a2 (wrap64 (x7_1 + 1))))) else (none)) else (none)) = some r:=by first | (rw [hji7] at H;exact H) | (simp only [hji7] at H ⊢;exact H)
      by_cases c8 : 0 ≤ (ji7)
      ·rw [if_pos c8] at H
       have c8b0 : decide (0 ≤ (ji7)) = true:=decide_eq_true c8
       clear c8
       by_cases c9 : (ji7) < (l0.length : Int)
       ·rw [if_pos c9] at H
        have c9b0 : decide ((ji7) < (l0.length : Int)) = true:=decide_eq_true c9
        clear c9
        by_cases c10 : (rd l0 x7_1) = a1
        ·rw [if_pos c10] at H
         have c10b0 : ((rd l0 x7_1) == a1) = true:=beq_iff_eq.mpr c10
         have c10b1 : ((rd l0 x7_1) != a1) = false:=bne_eq_false_iff_eq.mpr c10
         clear c10
         by_cases c11 : (rd l0 (ji7)) = a2
         ·rw [if_pos c11] at H
          have c11b0 : ((rd l0 (ji7)) == a2) = true:=beq_iff_eq.mpr c11
          have c11b1 : ((rd l0 (ji7)) != a2) = false:=bne_eq_false_iff_eq.mpr c11
          clear c11
          obtain rfl:=Option.some.inj H
          have p262 : 0 ≤ (x7_1 : Int):=da
          have q262 : x7_1 < (l0.length : Int):=da
          obtain ⟨ad262,e262,hx262_0⟩:=Kd.at_int HR0.out x7_1 p262 q262
          cases e262
          replace p262:=eq_true p262
          replace q262:=eq_true q262
          have p263 : 0 ≤ ((ji7) : Int):=da
          have q263 : (ji7) < (l0.length : Int):=da
          obtain ⟨ad263,e263,hx263_0⟩:=Kd.at_int HR0.out (ji7) p263 q263
          obtain rfl : ad262 = ad263:=(by injection e263)
          replace p263:=eq_true p263
          replace q263:=eq_true q263
          go_wp2
          go_ret
          exact ⟨by first | rfl | (simp;done) | (simp only [← hji7] <;> (first | rfl | simp)) | (simp [*];done),by repeat (first | exact Drawn0.refl _ | apply Drawn0.step)⟩
         ·rw [if_neg c11] at H
          have c11b0 : ((rd l0 (ji7)) == a2) = false:=beq_eq_false_iff_ne.mpr c11
          have c11b1 : ((rd l0 (ji7)) != a2) = true:=bne_iff_ne.mpr c11
          by_cases c12 : (rd l0 x7_1) = a2
          ·rw [if_pos c12] at H
           have c12b0 : ((rd l0 x7_1) == a2) = true:=beq_iff_eq.mpr c12
           have c12b1 : ((rd l0 x7_1) != a2) = false:=bne_eq_false_iff_eq.mpr c12
           clear c12
           by_cases c13 : (rd l0 (ji7)) = a1
           ·rw [if_pos c13] at H
            have c13b0 : ((rd l0 (ji7)) == a1) = true:=beq_iff_eq.mpr c13
            have c13b1 : ((rd l0 (ji7)) != a1) = false:=bne_eq_false_iff_eq.mpr c13
            clear c13
            obtain rfl:=Option.some.inj H
            have p262 : 0 ≤ (x7_1 : Int):=da
            have q262 : x7_1 < (l0.length : Int):=da
            obtain ⟨ad262,e262,hx262_0⟩:=Kd.at_int HR0.out x7_1 p262 q262
            cases e262
            replace p262:=eq_true p262
            replace q262:=eq_true q262
            have p263 : 0 ≤ ((ji7) : Int):=da
            have q263 : (ji7) < (l0.length : Int):=da
            obtain ⟨ad263,e263,hx263_0⟩:=Kd.at_int HR0.out (ji7) p263 q263
            obtain rfl : ad262 = ad263:=(by injection e263)
            replace p263:=eq_true p263
            replace q263:=eq_true q263
            go_wp2
            go_ret
            exact ⟨by first | rfl | (simp;done) | (simp only [← hji7] <;> (first | rfl | simp)) | (simp [*];done),by repeat (first | exact Drawn0.refl _ | apply Drawn0.step)⟩
           ·rw [if_neg c13] at H
            have c13b0 : ((rd l0 (ji7)) == a1) = false:=beq_eq_false_iff_ne.mpr c13
            have c13b1 : ((rd l0 (ji7)) != a1) = true:=bne_iff_ne.mpr c13
            have H':=Aside0.mk H
            clear H
            have p262 : 0 ≤ (x7_1 : Int):=da
            have q262 : x7_1 < (l0.length : Int):=da
            obtain ⟨ad262,e262,hx262_0⟩:=Kd.at_int HR0.out x7_1 p262 q262
            cases e262
            replace p262:=eq_true p262
            replace q262:=eq_true q262
            have p263 : 0 ≤ ((ji7) : Int):=da
            have q263 : (ji7) < (l0.length : Int):=da
            obtain ⟨ad263,e263,hx263_0⟩:=Kd.at_int HR0.out (ji7) p263 q263
            obtain rfl : ad262 = ad263:=(by injection e263)
            replace p263:=eq_true p263
            replace q263:=eq_true q263
            go_wp2
            go_roundg k1
            case measure => have:=HK1.out;omega
            case rel => exact ⟨(wrap64 (x7_1 + 1)),(by first | rfl | (simp;done) | (simp [*];done)),H',⟨by have:=HK1.out;omega⟩,by repeat (first | exact Drawn0.refl _ | apply Drawn0.step)⟩
          ·rw [if_neg c12] at H
           have c12b0 : ((rd l0 x7_1) == a2) = false:=beq_eq_false_iff_ne.mpr c12
           have c12b1 : ((rd l0 x7_1) != a2) = true:=bne_iff_ne.mpr c12
           have H':=Aside0.mk H
           clear H
           have p262 : 0 ≤ (x7_1 : Int):=da
           have q262 : x7_1 < (l0.length : Int):=da
           obtain ⟨ad262,e262,hx262_0⟩:=Kd.at_int HR0.out x7_1 p262 q262
           cases e262
           replace p262:=eq_true p262
           replace q262:=eq_true q262
           have p263 : 0 ≤ ((ji7) : Int):=da
           have q263 : (ji7) < (l0.length : Int):=da
           obtain ⟨ad263,e263,hx263_0⟩:=Kd.at_int HR0.out (ji7) p263 q263
           obtain rfl : ad262 = ad263:=(by injection e263)
           replace p263:=eq_true p263
           replace q263:=eq_true q263
           go_wp2
           go_roundg k1
           case measure => have:=HK1.out;omega
           case rel => exact ⟨(wrap64 (x7_1 + 1)),(by first | rfl | (simp;done) | (simp [*];done)),H',⟨by have:=HK1.out;omega⟩,by repeat (first | exact Drawn0.refl _ | apply Drawn0.step)⟩
        ·rw [if_neg c10] at H
         have c10b0 : ((rd l0 x7_1) == a1) = false:=beq_eq_false_iff_ne.mpr c10
         have c10b1 : ((rd l0 x7_1) != a1) = true:=bne_iff_ne.mpr c10
         by_cases c14 : (rd l0 x7_1) = a2
         ·rw [if_pos c14] at H
          have c14b0 : ((rd l0 x7_1) == a2) = true:=beq_iff_eq.mpr c14
          have c14b1 : ((rd l0 x7_1) != a2) = false:=bne_eq_false_iff_eq.mpr c14
          clear c14
          by_cases c15 : (rd l0 (ji7)) = a1
          ·rw [if_pos c15] at H
           have c15b0 : ((rd l0 (ji7)) == a1) = true:=beq_iff_eq.mpr c15
           have c15b1 : ((rd l0 (ji7)) != a1) = false:=bne_eq_false_iff_eq.mpr c15
           clear c15
           obtain rfl:=Option.some.inj H
           have p262 : 0 ≤ (x7_1 : Int):=da
           have q262 : x7_1 < (l0.length : Int):=da
           obtain ⟨ad262,e262,hx262_0⟩:=Kd.at_int HR0.out x7_1 p262 q262
           cases e262
           replace p262:=eq_true p262
           replace q262:=eq_true q262
           have p263 : 0 ≤ ((ji7) : Int):=da
           have q263 : (ji7) < (l0.length : Int):=da
           obtain ⟨ad263,e263,hx263_0⟩:=Kd.at_int HR0.out (ji7) p263 q263
           obtain rfl : ad262 = ad263:=(by injection e263)
           replace p263:=eq_true p263
           replace q263:=eq_true q263
           go_wp2
           go_ret
           exact ⟨by first | rfl | (simp;done) | (simp only [← hji7] <;> (first | rfl | simp)) | (simp [*];done),by repeat (first | exact Drawn0.refl _ | apply Drawn0.step)⟩
          ·rw [if_neg c15] at H
           have c15b0 : ((rd l0 (ji7)) == a1) = false:=beq_eq_false_iff_ne.mpr c15
           have c15b1 : ((rd l0 (ji7)) != a1) = true:=bne_iff_ne.mpr c15
           have H':=Aside0.mk H
           clear H
           have p262 : 0 ≤ (x7_1 : Int):=da
           have q262 : x7_1 < (l0.length : Int):=da
           obtain ⟨ad262,e262,hx262_0⟩:=Kd.at_int HR0.out x7_1 p262 q262
           cases e262
           replace p262:=eq_true p262
           replace q262:=eq_true q262
           have p263 : 0 ≤ ((ji7) : Int):=da
           have q263 : (ji7) < (l0.length : Int):=da
           obtain ⟨ad263,e263,hx263_0⟩:=Kd.at_int HR0.out (ji7) p263 q263
           obtain rfl : ad262 = ad263:=(by injection e263)
           replace p263:=eq_true p263
           replace q263:=eq_true q263
           go_wp2
           go_roundg k1
           case measure => have:=HK1.out;omega
           case rel => exact ⟨(wrap64 (x7_1 + 1)),(by first | rfl | (simp;done) | (simp [*];done)),H',⟨by have:=HK1.out;omega⟩,by repeat (first | exact Drawn0.refl _ | apply Drawn0.step)⟩
         ·rw [if_neg c14] at H
          have c14b0 : ((rd l0 x7_1) == a2) = false:=beq_eq_false_iff_ne.mpr c14
          have c14b1 : ((rd l0 x7_1) != a2) = true:=bne_iff_ne.mpr c14
          have H':=Aside0.mk H
          clear H
          have p262 : 0 ≤ (x7_1 : Int):=da
          have q262 : x7_1 < (l0.length : Int):=da
          obtain ⟨ad262,e262,hx262_0⟩:=Kd.at_int HR0.out x7_1 p262 q262
          cases e262
          replace p262:=eq_true p262
          replace q262:=eq_true q262
          have p263 : 0 ≤ ((ji7) : Int):=da
          have q263 : (ji7) < (l0.length : Int):=da
          obtain ⟨ad263,e263,hx263_0⟩:=Kd.at_int HR0.out (ji7) p263 q263
          obtain rfl : ad262 = ad263:=(by injection e263)
          replace p263:=eq_true p263
          replace q263:=eq_true q263
          go_wp2
          go_roundg k1
          case measure => have:=HK1.out;omega
          case rel => exact ⟨(wrap64 (x7_1 + 1)),(by first | rfl | (simp;done) | (simp [*];done)),H',⟨by have:=HK1.out;omega⟩,by repeat (first | exact Drawn0.refl _ | apply Drawn0.step)⟩
       ·rw [if_neg c9] at H
        exact absurd H (by simp)
      ·rw [if_neg c8] at H
       exact absurd H (by simp)
    ·rw [if_neg c5] at H
     exact absurd H (by simp)
   ·rw [if_neg c4] at H
    have c4b0 : decide (x7_1 < (l0.length : Int)) = false:=decide_eq_false c4
    clear c4
    obtain rfl:=Option.some.inj H
    go_wp2
    go_ret
    exact ⟨by first | rfl | (simp;done) | (simp [*];done),by repeat (first | exact Drawn0.refl _ | apply Drawn0.step)⟩
def spec_l05OnEdge.l0 : Nat → Int → Int → List Int → Int → Int → Int → List (S73) → List (S103) → Option (List Int × Int × Int)
 | 0,_,_,_,_,_,_,_,_ => none
 | k + 1,x1,x2,x7,x8,x1000,x1001,x1002,x1003 => if x8 < (x1003.length : Int) then (if 0 ≤ x8 then ((spec_l05HasEdge.f k ((rd_T103 x1003 x8).f1) x1 x2).bind fun t268 => (if t268 = true then (if x7.length < 17592186044416 then (spec_l05OnEdge.l0 k x1 x2 (x7 ++ [x8]) (wrap64 (x8 + 1)) x1000 x1001 x1002 x1003) else (none)) else (spec_l05OnEdge.l0 k x1 x2 x7 (wrap64 (x8 + 1)) x1000 x1001 x1002 x1003))) else (none)) else (some (x7,x1000,x1001))
def spec_l05OnEdge.f (k : Nat) (s0_0 : Int) (s0_1 : Int) (s0_2 : List (S73)) (s0_3 : List (S103)) (a1 : Int) (a2 : Int) : Option (List Int × Int × Int):=spec_l05OnEdge.l0 k a1 a2 (([] : List Int)) 0 s0_0 s0_1 s0_2 s0_3
theorem spec_l05OnEdge.calls (k : Nat) (g : Nat) (s0_0 : Int) (s0_1 : Int) (s0_2 : List (S73)) (s0_3 : List (S103)) (a1 : Int) (a2 : Int) (r1 : List Int) (r2 : Int) (r3 : Int) (w0 w : World) (hI : IsS51 w0 w g s0_0 s0_1 s0_2 s0_3) (hB : Below w0.heap.size w0 w) (h : spec_l05OnEdge.f k s0_0 s0_1 s0_2 s0_3 a1 a2 = some (r1,r2,r3)) :
  Calls Try.prog 95 #[.pointer (some ⟨g,0,none⟩),.int .i64 a1,.int .i64 a2] w fun e w' => ∃ v0_ : Value,e = .returned (v0_) ∧ Kd.R (Kd.int .i64) 2 w' w.heap.size (fun _ => True) v0_ r1 ∧ IsS51 w0 w' g r2 r3 s0_2 s0_3 ∧ Below w0.heap.size w0 w' ∧ KeepBut w w' g none:=by
 have HI0:=Aside0.mk hI
 have HK:=Aside0.mk (KeepBut.refl w g none)
 have HL:=Aside0.mk hB.size
 clear hI
 have HW0:=Aside0.mk hB.size
 have HB:=Aside0.mk hB
 clear hB
 have H : (spec_l05OnEdge.l0 k a1 a2 (([] : List Int)) 0 s0_0 s0_1 s0_2 s0_3) = some (r1,r2,r3):=h
 clear h
 obtain ⟨y264,hy264⟩ : ∃ y_ : List Int,y_ = (([] : List Int)):=⟨_,rfl⟩
 replace H : (spec_l05OnEdge.l0 k a1 a2 y264 0 s0_0 s0_1 s0_2 s0_3) = some (r1,r2,r3):=by first | (rw [hy264];with_reducible exact H) | (have H2_:=(Option.bind_some _ _).symm.trans H;rw [hy264];with_reducible exact H2_) | (have H2_:=(Option.bind_some _ _).symm.trans H;with_reducible exact H2_) | with_reducible exact H | (rw [hy264];exact H) | exact H
 have Ny264:=Aside0.mk hy264
 clear hy264
 have H':=Aside0.mk H
 clear H
 go_enter Try.func95,Try.ntmps95
 go_wp2_with (first | ((with_reducible refine gate_dst (N:=9) rfl ?_);refine Kd.R_lit (Kd.int .i64) _ 2 ?hg (N:=9) ?hd (xs:=([] : List Int)) (inner:=[]) (ok:=fun _ => True) (okp:=fun _ => True) ?hr ?hp (fun _ hk => hk) trivial (Below.refl _ _) (Nat.le_refl _) (by simp) ?_;(case hd => rfl);(case hg => rfl);(case hr => first | (go_simp;done) | (go_simp;rfl));(case hp => exact (Reps.none _ _));intro v265 w4 ho5 hb hg_ hnew_;clear hg_ hnew_;(first | rw [← Ny264.out] at ho5 | (simp only [Int.reduceToNat] at ho5;rw [← Ny264.out] at ho5));have HO266:=Aside0.mk (Kd.R_lower ho5 (keep_size (w:=w) (g:=g) (row:=none) (by repeat (first | (with_reducible first | exact HK.out | apply KeepBut.set_ | apply keep_drewN | apply keep_drew | apply keep_alloc) | exact HK.out))));replace HK:=Aside0.mk (KeepBut.trans (by repeat (first | (with_reducible first | exact HK.out | apply KeepBut.set_ | apply keep_drewN | apply keep_drew | apply keep_alloc) | exact HK.out)) (KeepBut.of_below hb g none) (.inl rfl));replace HB:=Aside0.mk (below_step (by repeat (first | (with_reducible first | exact HB.out | apply below_alloc | apply pw_below_drewN | apply below_drew1 | refine below_set ?_ (IsS51.ge HI0.out)) | exact HB.out)) hb);replace HI0:=Aside0.mk (IsS51.below (by repeat (first | (with_reducible first | exact HI0.out | apply IsS51.alloc | apply IsS51.drewN | apply IsS51.drew | apply IsS51.set_0 | apply IsS51.set_1) | exact HI0.out)) hb);clear hb ho5))
 go_loopg [7,8] k (fun kq v7 v8 w' => ∃ (x7_1 : List Int) (x8_1 : Int),v8 = .int .i64 x8_1 ∧ Aside0 (spec_l05OnEdge.l0 kq a1 a2 x7_1 x8_1 s0_0 s0_1 s0_2 s0_3 = some (r1,r2,r3)) ∧ Aside0 (kq ≤ k) ∧ Aside0 (Kd.R (Kd.int .i64) 2 w' w.heap.size (fun _ => True) v7 x7_1) ∧ Aside0 (IsS51 w0 w' g s0_0 s0_1 s0_2 s0_3) ∧ Aside0 (KeepBut w w' g none) ∧ Aside0 (Below w0.heap.size w0 w'))
 case atStart => exact ⟨(y264),(0),(by first | rfl | (simp;done) | (simp [*];done)),H',⟨Nat.le_refl _⟩,⟨rO HO266.out⟩,⟨by repeat (first | (with_reducible first | exact HI0.out | apply IsS51.alloc | apply IsS51.drewN | apply IsS51.drew | apply IsS51.set_0 | apply IsS51.set_1) | exact HI0.out)⟩,⟨by repeat (first | (with_reducible first | exact HK.out | apply KeepBut.set_ | apply keep_drewN | apply keep_drew | apply keep_alloc) | exact HK.out)⟩,⟨by repeat (first | (with_reducible first | exact HB.out | apply below_alloc | apply pw_below_drewN | apply below_drew1 | refine below_set ?_ (IsS51.ge HI0.out)) | exact HB.out)⟩⟩
 case round =>
  clear H'
  try clear p2
  obtain ⟨x7_1,x8_1,rfl,HA,HK1,HO_7,HI0,HK,HB⟩:=hrel
  cases gk with
  | zero => exact absurd HA.out (by simp [spec_l05OnEdge.l0])
  | succ k1 =>
   have H:=HA.out
   clear HA
   simp only [spec_l05OnEdge.l0] at H
   by_cases c6 : x8_1 < (s0_3.length : Int)
   ·rw [if_pos c6] at H
    have c6b0 : decide (x8_1 < (s0_3.length : Int)) = true:=decide_eq_true c6
    clear c6
    by_cases c7 : 0 ≤ x8_1
    ·rw [if_pos c7] at H
     have c7b0 : decide (0 ≤ x8_1) = true:=decide_eq_true c7
     clear c7
     replace H:=bE.mp H
     obtain ⟨t268,A80,H⟩:=H
     replace H : (if t268 = true then (if x7_1.length < 17592186044416 then (spec_l05OnEdge.l0 k1 a1 a2 (x7_1 ++ [x8_1]) (wrap64 (x8_1 + 1)) s0_0 s0_1 s0_2 s0_3) else (none)) else (spec_l05OnEdge.l0 k1 a1 a2 x7_1 (wrap64 (x8_1 + 1)) s0_0 s0_1 s0_2 s0_3)) = some (r1,r2,r3):=H
     have A8:=Aside0.mk A80
     clear A80
     by_cases c9 : t268 = true
     ·subst c9
      have H1 : (if x7_1.length < 17592186044416 then (spec_l05OnEdge.l0 k1 a1 a2 (x7_1 ++ [x8_1]) (wrap64 (x8_1 + 1)) s0_0 s0_1 s0_2 s0_3) else (none)) = some (r1,r2,r3):=by rw [if_pos rfl] at H;exact H
      clear H
      have H:=H1
      clear H1
      by_cases c10 : x7_1.length < 17592186044416
      ·rw [if_pos c10] at H
       have LMc10:=Aside0.mk c10
       clear c10
       obtain ⟨y269,hy269⟩ : ∃ y_ : List Int,y_ = (x7_1 ++ [x8_1]):=⟨_,rfl⟩
       replace H : (spec_l05OnEdge.l0 k1 a1 a2 y269 (wrap64 (x8_1 + 1)) s0_0 s0_1 s0_2 s0_3) = some (r1,r2,r3):=by first | (rw [hy269];with_reducible exact H) | (have H2_:=(Option.bind_some _ _).symm.trans H;rw [hy269];with_reducible exact H2_) | (have H2_:=(Option.bind_some _ _).symm.trans H;with_reducible exact H2_) | with_reducible exact H | (rw [hy269];exact H) | exact H
       have Ny269:=Aside0.mk hy269
       clear hy269
       have H':=Aside0.mk H
       clear H
       obtain ⟨ASz11_2,cSz11_2,ASz11_3,cSz11_3,HGz11,hgz11,HSz11_2,HSz11_3⟩:=HI0.out
       have hcz11_0:=cellS51_0 HGz11
       have hcz11_1:=cellS51_1 HGz11
       have hcz11_2:=cellS51_2 HGz11
       have hcz11_3:=cellS51_3 HGz11
       have hfz11_0:=blk_frozen HGz11 0
       have hfz11_1:=blk_frozen HGz11 1
       clear HGz11 hgz11
       have p267 : 0 ≤ (x8_1 : Int):=da
       have q267 : x8_1 < (s0_3.length : Int):=da
       obtain ⟨ad267,A267_1,c267_1,e267,hx267_0,hx267_1,hl267_1,hi267_1⟩:=at_T103 HSz11_3 x8_1 p267 q267
       cases e267
       replace hx267_0:=pw_cell_below HB.out hx267_0
       replace hx267_1:=pw_cell_below HB.out hx267_1
       have HR267_1:=Aside0.mk hi267_1
       have HC267_1:=Aside0.mk hl267_1
       clear hi267_1 hl267_1
       replace p267:=eq_true p267
       replace q267:=eq_true q267
       go_wp2_with (first | ((with_reducible refine gate_callee (f:=141) rfl ?_);refine goesL_ (some 29) rfl rfl Try.func141 (by kernel_rfl) rfl #[.slice A267_1 ((rd_T103 s0_3 x8_1).f1).length c267_1,.int .i64 a1,.int .i64 a2] rfl (by (try simp only [mT,mC,mN]);first | done | rfl | (simp only [lD,lT];rfl)) ?_;(with_reducible refine (spec_l05HasEdge.calls k1 _ _ ((rd_T103 s0_3 x8_1).f1) a1 a2 true _ ?side1 ?side2 A8.out).mono ?_);(case side1 => exact Kd.C_below HR267_1.out (by repeat (first | (with_reducible first | exact HB.out | apply below_alloc | apply pw_below_drewN | apply below_drew1 | refine below_set ?_ (IsS51.ge HI0.out)) | exact HB.out)));(case side2 => exact HC267_1.out);rintro e w' ⟨rfl,⟨nd,rfl⟩⟩;refine ⟨_,rfl,?_⟩) | ((with_reducible refine gate_builtin (b:=.append) (xs:=#[.tmp 30,.tmp 32]) rfl ?_);at_builtin;refine Kd.R_append (Kd.int .i64) w.heap.size rfl (.tmp 30) (.tmp 32) 57 2 (.int .i64 0) 8 rfl Try.underlying57 info2 rfl (by decide) (by omega) u7 x7_1 x8_1 [.int .i64 x8_1] (fun _ => True) (fun _ => False) rfl rfl ?aP (fun _ hk => hk.elim) ?aF ?aO (Below.refl _ _) ?aS ?aL ?_;(case aP => exact rfl);(case aF => exact (fun _ _ => trivial));(case aO => exact (rO HO_7.out));(case aS => exact (keep_size (w:=w) (g:=g) (row:=none) (by repeat (first | (with_reducible first | exact HK.out | apply KeepBut.set_ | apply keep_drewN | apply keep_drew | apply keep_alloc) | exact HK.out))));(case aL => have:=LMc10.out;omega);intro v270 w12 ho hb hg hat;rw [← Ny269.out] at ho;replace HB:=Aside0.mk (below_weaken (by repeat (first | (with_reducible first | exact HB.out | apply below_alloc | apply pw_below_drewN | apply below_drew1 | refine below_set ?_ (IsS51.ge HI0.out)) | exact HB.out)) HL.out hb);replace HI0:=Aside0.mk (IsS51.grown (by repeat (first | (with_reducible first | exact HI0.out | apply IsS51.alloc | apply IsS51.drewN | apply IsS51.drew | apply IsS51.set_0 | apply IsS51.set_1) | exact HI0.out)) hg (IsS51.own_ne HI0.out HO_7.out (by decide)));replace HK:=Aside0.mk (KeepBut.trans (by repeat (first | (with_reducible first | exact HK.out | apply KeepBut.set_ | apply keep_drewN | apply keep_drew | apply keep_alloc) | exact HK.out)) (KeepBut.of_grown hg g) (Kd.R_base2 HO_7.out));have HO271:=Aside0.mk (ho);clear HO_7;clear ho hb hg hat))
       go_roundg k1
       case measure => have:=HK1.out;omega
       case rel => exact ⟨(y269),(wrap64 (x8_1 + 1)),(by first | rfl | (simp;done) | (simp [*];done)),H',⟨by have:=HK1.out;omega⟩,⟨rO HO271.out⟩,⟨by repeat (first | (with_reducible first | exact HI0.out | apply IsS51.alloc | apply IsS51.drewN | apply IsS51.drew | apply IsS51.set_0 | apply IsS51.set_1) | exact HI0.out)⟩,⟨by repeat (first | (with_reducible first | exact HK.out | apply KeepBut.set_ | apply keep_drewN | apply keep_drew | apply keep_alloc) | exact HK.out)⟩,⟨by repeat (first | (with_reducible first | exact HB.out | apply below_alloc | apply pw_below_drewN | apply below_drew1 | refine below_set ?_ (IsS51.ge HI0.out)) | exact HB.out)⟩⟩
      ·rw [if_neg c10] at H
       exact absurd H (by simp)
     ·replace c9:=Bool.eq_false_iff.mpr c9
      subst c9
      have H1 : (spec_l05OnEdge.l0 k1 a1 a2 x7_1 (wrap64 (x8_1 + 1)) s0_0 s0_1 s0_2 s0_3) = some (r1,r2,r3):=by rw [if_neg (show ¬ (false = true) by decide)] at H;exact H
      clear H
      have H:=H1
      clear H1
      have H':=Aside0.mk H
      clear H
      obtain ⟨ASz13_2,cSz13_2,ASz13_3,cSz13_3,HGz13,hgz13,HSz13_2,HSz13_3⟩:=HI0.out
      have hcz13_0:=cellS51_0 HGz13
      have hcz13_1:=cellS51_1 HGz13
      have hcz13_2:=cellS51_2 HGz13
      have hcz13_3:=cellS51_3 HGz13
      have hfz13_0:=blk_frozen HGz13 0
      have hfz13_1:=blk_frozen HGz13 1
      clear HGz13 hgz13
      have p267 : 0 ≤ (x8_1 : Int):=da
      have q267 : x8_1 < (s0_3.length : Int):=da
      obtain ⟨ad267,A267_1,c267_1,e267,hx267_0,hx267_1,hl267_1,hi267_1⟩:=at_T103 HSz13_3 x8_1 p267 q267
      cases e267
      replace hx267_0:=pw_cell_below HB.out hx267_0
      replace hx267_1:=pw_cell_below HB.out hx267_1
      have HR267_1:=Aside0.mk hi267_1
      have HC267_1:=Aside0.mk hl267_1
      clear hi267_1 hl267_1
      replace p267:=eq_true p267
      replace q267:=eq_true q267
      go_wp2_with (first | ((with_reducible refine gate_callee (f:=141) rfl ?_);refine goesL_ (some 29) rfl rfl Try.func141 (by kernel_rfl) rfl #[.slice A267_1 ((rd_T103 s0_3 x8_1).f1).length c267_1,.int .i64 a1,.int .i64 a2] rfl (by (try simp only [mT,mC,mN]);first | done | rfl | (simp only [lD,lT];rfl)) ?_;(with_reducible refine (spec_l05HasEdge.calls k1 _ _ ((rd_T103 s0_3 x8_1).f1) a1 a2 false _ ?side1 ?side2 A8.out).mono ?_);(case side1 => exact Kd.C_below HR267_1.out (by repeat (first | (with_reducible first | exact HB.out | apply below_alloc | apply pw_below_drewN | apply below_drew1 | refine below_set ?_ (IsS51.ge HI0.out)) | exact HB.out)));(case side2 => exact HC267_1.out);rintro e w' ⟨rfl,⟨nd,rfl⟩⟩;refine ⟨_,rfl,?_⟩))
      go_roundg k1
      case measure => have:=HK1.out;omega
      case rel => exact ⟨(x7_1),(wrap64 (x8_1 + 1)),(by first | rfl | (simp;done) | (simp [*];done)),H',⟨by have:=HK1.out;omega⟩,⟨rO HO_7.out⟩,⟨by repeat (first | (with_reducible first | exact HI0.out | apply IsS51.alloc | apply IsS51.drewN | apply IsS51.drew | apply IsS51.set_0 | apply IsS51.set_1) | exact HI0.out)⟩,⟨by repeat (first | (with_reducible first | exact HK.out | apply KeepBut.set_ | apply keep_drewN | apply keep_drew | apply keep_alloc) | exact HK.out)⟩,⟨by repeat (first | (with_reducible first | exact HB.out | apply below_alloc | apply pw_below_drewN | apply below_drew1 | refine below_set ?_ (IsS51.ge HI0.out)) | exact HB.out)⟩⟩
    ·rw [if_neg c7] at H
     exact absurd H (by simp)
   ·rw [if_neg c6] at H
    have c6b0 : decide (x8_1 < (s0_3.length : Int)) = false:=decide_eq_false c6
    clear c6
    simp only [Option.some.injEq,Prod.mk.injEq] at H
    obtain ⟨rfl,rfl,rfl⟩:=H
    obtain ⟨ASz14_2,cSz14_2,ASz14_3,cSz14_3,HGz14,hgz14,HSz14_2,HSz14_3⟩:=HI0.out
    have hcz14_0:=cellS51_0 HGz14
    have hcz14_1:=cellS51_1 HGz14
    have hcz14_2:=cellS51_2 HGz14
    have hcz14_3:=cellS51_3 HGz14
    have hfz14_0:=blk_frozen HGz14 0
    have hfz14_1:=blk_frozen HGz14 1
    clear HGz14 hgz14
    go_wp2
    go_ret
    exact ⟨_,by first | rfl | (simp [errW_none,errW_some] <;> rfl) | (simp [*,errW_none,errW_some] <;> rfl),rO HO_7.out,by repeat (first | (with_reducible first | exact HI0.out | apply IsS51.alloc | apply IsS51.drewN | apply IsS51.drew | apply IsS51.set_0 | apply IsS51.set_1) | exact HI0.out),by repeat (first | (with_reducible first | exact HB.out | apply below_alloc | apply pw_below_drewN | apply below_drew1 | refine below_set ?_ (IsS51.ge HI0.out)) | exact HB.out),by repeat (first | (with_reducible first | exact HK.out | apply KeepBut.set_ | apply keep_drewN | apply keep_drew | apply keep_alloc) | exact HK.out)⟩
def spec_FacesOfEdge.f (k : Nat) (a0_0 : Int) (a0_1 : Int) (l0_2 : List (S73)) (l0_3 : List (S103)) (a1 : Int) (a2 : Int) : Option (List Int × Int):=(spec_l05Ok.f k a0_0 a0_1 l0_2 l0_3).bind fun bt273 => (if bt273.1 = true then ((spec_l00In.f a1 0 (wrap64 ((l0_2.length : Int) - 1))).bind fun t276 => (if t276 = true then ((spec_l00In.f a2 0 (wrap64 ((l0_2.length : Int) - 1))).bind fun t277 => (if t277 = true then ((spec_l05OnEdge.f k bt273.2.1 bt273.2.2 l0_2 l0_3 a1 a2).bind fun bt278 => (some (bt278.1,0))) else (some (([] : List Int),2)))) else (some (([] : List Int),2)))) else (some (([] : List Int),1)))
theorem spec_FacesOfEdge.calls (k : Nat) (a0_0 : Int) (a0_1 : Int) (A0_2 : Option Addr) (c0_2 : Nat) (l0_2 : List (S73)) (A0_3 : Option Addr) (c0_3 : Nat) (l0_3 : List (S103)) (a1 : Int) (a2 : Int) (r1 : List Int) (r2 : Int) (w : World) (hr0_2 : Kd.C k73 w A0_2 l0_2.length l0_2) (hc0_2 : l0_2.length ≤ c0_2) (hr0_3 : Kd.C k103 w A0_3 l0_3.length l0_3) (hc0_3 : l0_3.length ≤ c0_3) (h : spec_FacesOfEdge.f k a0_0 a0_1 l0_2 l0_3 a1 a2 = some (r1,r2)) :
  Calls Try.prog 55 #[.agg #[.int .i64 a0_0,.int .i64 a0_1,.slice A0_2 l0_2.length c0_2,.slice A0_3 l0_3.length c0_3],.int .i64 a1,.int .i64 a2] w fun e w' => ∃ v0_ : Value,e = .returned (.tuple #[v0_,.int .i64 r2]) ∧ Kd.R (Kd.int .i64) 2 w' w.heap.size (fun _ => True) v0_ r1 ∧ Below w.heap.size w w':=by
 have hu51:=Try.underlying51
 have HR0_2:=Aside0.mk hr0_2
 have HC0_2:=Aside0.mk hc0_2
 clear hr0_2 hc0_2
 have HR0_3:=Aside0.mk hr0_3
 have HC0_3:=Aside0.mk hc0_3
 clear hr0_3 hc0_3
 have HB:=Aside0.mk (Below.refl w.heap.size w)
 have H : ((spec_l05Ok.f k a0_0 a0_1 l0_2 l0_3).bind fun bt273 => (if bt273.1 = true then ((spec_l00In.f a1 0 (wrap64 ((l0_2.length : Int) - 1))).bind fun t276 => (if t276 = true then ((spec_l00In.f a2 0 (wrap64 ((l0_2.length : Int) - 1))).bind fun t277 => (if t277 = true then ((spec_l05OnEdge.f k bt273.2.1 bt273.2.2 l0_2 l0_3 a1 a2).bind fun bt278 => (some (bt278.1,0))) else (some (([] : List Int),2)))) else (some (([] : List Int),2)))) else (some (([] : List Int),1)))) = some (r1,r2):=h
 clear h
 replace H:=bE.mp H
 obtain ⟨⟨b,x,y⟩,A10,H⟩:=H
 have A1_:=Aside0.mk A10
 clear A10
 cases b with
 | false =>
  replace H : some (([] : List Int),(1 : Int)) = some (r1,r2):=H
  simp only [Option.some.injEq,Prod.mk.injEq] at H
  obtain ⟨rfl,rfl⟩:=H
  go_enter Try.func55,Try.ntmps55
  go_wp2_with (first | ((with_reducible refine gate_dst (N:=3) rfl ?_);refine bx (cs:=#[.int .i64 a0_0,.int .i64 a0_1,.slice A0_2 l0_2.length c0_2,.slice A0_3 l0_3.length c0_3]) (t:=51) ?_;intro gb hg w3 hbox hb;have HI:=Aside0.mk (show IsS51 w w3 gb a0_0 a0_1 l0_2 l0_3 from ⟨A0_2,c0_2,A0_3,c0_3,hbox,Nat.le_of_eq hg.symm,HR0_2.out,HR0_3.out⟩);have n1_:=Aside0.mk (below_step ib hb);clear HB;have HB:=n1_;clear n1_ hbox hb hg) | ((with_reducible refine gate_callee (f:=74) rfl ?_);refine goesL_ _ rfl rfl Try.func74 (by kernel_rfl) rfl #[.pointer (some ⟨gb,0,none⟩)] rfl (by (try simp only [mT,mC,mN]);first | done | rfl) ?_;(with_reducible refine (spec_l05Ok.calls _ gb a0_0 a0_1 l0_2 l0_3 _ _ _ w _ (by repeat (first | exact HI.out | apply IsS51.alloc | apply IsS51.drewN | apply IsS51.drew)) ib A1_.out).mono ?_);rintro e w5 ⟨rfl,hi,hb,hk⟩;refine ⟨_,rfl,?_⟩;have n1_:=Aside0.mk hb;have n2_:=Aside0.mk hi;clear hi hb hk HB HI;have HB:=n1_;have HI:=n2_;clear n1_ n2_;obtain ⟨A2_q,c2_q,A3_q,c3_q,hbx_,_⟩:=HI.out;have hp2_ : w5.cell? ⟨gb,2,none⟩ = some (.slice A2_q l0_2.length c2_q):=(blk_cell hbx_ 2).trans rfl;clear hbx_) | (go_at_call 74;(with_reducible refine (spec_l05Ok.calls _ gb a0_0 a0_1 l0_2 l0_3 _ _ _ w _ (by repeat (first | exact HI.out | apply IsS51.alloc | apply IsS51.drewN | apply IsS51.drew)) ib A1_.out).mono ?_);rintro e w5 ⟨rfl,hi,hb,hk⟩;have n1_:=Aside0.mk hb;have n2_:=Aside0.mk hi;clear hi hb hk HB HI;have HB:=n1_;have HI:=n2_;clear n1_ n2_;obtain ⟨A2_q,c2_q,A3_q,c3_q,hbx_,_⟩:=HI.out;have hp2_ : w5.cell? ⟨gb,2,none⟩ = some (.slice A2_q l0_2.length c2_q):=(blk_cell hbx_ 2).trans rfl;clear hbx_) | ((with_reducible refine gate_callee (f:=58) rfl ?_);refine goesL_ _ rfl rfl Try.func58 (by kernel_rfl) rfl #[.int .i64 a1,.int .i64 0,.int .i64 (wrap64 ((l0_2.length : Int) - 1))] rfl (by (try simp only [mT,mC,mN]);first | done | rfl) ?_;(with_reducible refine (spec_l00In.calls a1 0 (wrap64 ((l0_2.length : Int) - 1)) _ _ A2_.out).mono ?_);rintro e w5 ⟨rfl,⟨nd,rfl⟩⟩;refine ⟨_,rfl,?_⟩;clear A2_) | (go_at_call 58;(with_reducible refine (spec_l00In.calls a1 0 (wrap64 ((l0_2.length : Int) - 1)) _ _ A2_.out).mono ?_);rintro e w5 ⟨rfl,⟨nd,rfl⟩⟩;clear A2_) | ((with_reducible refine gate_callee (f:=58) rfl ?_);refine goesL_ _ rfl rfl Try.func58 (by kernel_rfl) rfl #[.int .i64 a2,.int .i64 0,.int .i64 (wrap64 ((l0_2.length : Int) - 1))] rfl (by (try simp only [mT,mC,mN]);first | done | rfl) ?_;(with_reducible refine (spec_l00In.calls a2 0 (wrap64 ((l0_2.length : Int) - 1)) _ _ A3_.out).mono ?_);rintro e w5 ⟨rfl,⟨nd,rfl⟩⟩;refine ⟨_,rfl,?_⟩;clear A3_) | (go_at_call 58;(with_reducible refine (spec_l00In.calls a2 0 (wrap64 ((l0_2.length : Int) - 1)) _ _ A3_.out).mono ?_);rintro e w5 ⟨rfl,⟨nd,rfl⟩⟩;clear A3_) | ((with_reducible refine gate_callee (f:=95) rfl ?_);refine goesL_ _ rfl rfl Try.func95 (by kernel_rfl) rfl #[.pointer (some ⟨gb,0,none⟩),.int .i64 a1,.int .i64 a2] rfl (by (try simp only [mT,mC,mN]);first | done | rfl) ?_;(with_reducible refine (spec_l05OnEdge.calls k gb _ _ l0_2 l0_3 a1 a2 _ _ _ w _ (by repeat (first | exact HI.out | apply IsS51.alloc | apply IsS51.drewN | apply IsS51.drew)) ib A4_.out).mono ?_);rintro e w5 ⟨vp,rfl,ho,hi,hb,hk⟩;refine ⟨_,rfl,?_⟩;have HO:=Aside0.mk (Kd.R_lower ho (below_size ib));clear ho;have n1_:=Aside0.mk hb;have n2_:=Aside0.mk hi;clear hi hb hk HB HI;have HB:=n1_;have HI:=n2_;clear n1_ n2_;obtain ⟨Ao8,co8,eo8⟩:=Kd.R_slice HO.out;subst eo8) | (go_at_call 95;(with_reducible refine (spec_l05OnEdge.calls k gb _ _ l0_2 l0_3 a1 a2 _ _ _ w _ (by repeat (first | exact HI.out | apply IsS51.alloc | apply IsS51.drewN | apply IsS51.drew)) ib A4_.out).mono ?_);rintro e w5 ⟨vp,rfl,ho,hi,hb,hk⟩;have HO:=Aside0.mk (Kd.R_lower ho (below_size ib));clear ho;have n1_:=Aside0.mk hb;have n2_:=Aside0.mk hi;clear hi hb hk HB HI;have HB:=n1_;have HI:=n2_;clear n1_ n2_;obtain ⟨Ao8,co8,eo8⟩:=Kd.R_slice HO.out;subst eo8))
  go_ret2
  exact ⟨.slice none 0 0,(by first | rfl | (simp;done) | (simp [*];done)),Kd.R_nil _ _ _ _ _,ib⟩
 | true =>
  replace H:=(if_pos rfl).symm.trans H
  obtain ⟨c,A20,H⟩:=bE.mp H
  have A2_:=Aside0.mk A20
  clear A20
  cases c with
  | false =>
   replace H : some (([] : List Int),(2 : Int)) = some (r1,r2):=H
   simp only [Option.some.injEq,Prod.mk.injEq] at H
   obtain ⟨rfl,rfl⟩:=H
   go_enter Try.func55,Try.ntmps55
   go_wp2_with (first | ((with_reducible refine gate_dst (N:=3) rfl ?_);refine bx (cs:=#[.int .i64 a0_0,.int .i64 a0_1,.slice A0_2 l0_2.length c0_2,.slice A0_3 l0_3.length c0_3]) (t:=51) ?_;intro gb hg w3 hbox hb;have HI:=Aside0.mk (show IsS51 w w3 gb a0_0 a0_1 l0_2 l0_3 from ⟨A0_2,c0_2,A0_3,c0_3,hbox,Nat.le_of_eq hg.symm,HR0_2.out,HR0_3.out⟩);have n1_:=Aside0.mk (below_step ib hb);clear HB;have HB:=n1_;clear n1_ hbox hb hg) | ((with_reducible refine gate_callee (f:=74) rfl ?_);refine goesL_ _ rfl rfl Try.func74 (by kernel_rfl) rfl #[.pointer (some ⟨gb,0,none⟩)] rfl (by (try simp only [mT,mC,mN]);first | done | rfl) ?_;(with_reducible refine (spec_l05Ok.calls _ gb a0_0 a0_1 l0_2 l0_3 _ _ _ w _ (by repeat (first | exact HI.out | apply IsS51.alloc | apply IsS51.drewN | apply IsS51.drew)) ib A1_.out).mono ?_);rintro e w5 ⟨rfl,hi,hb,hk⟩;refine ⟨_,rfl,?_⟩;have n1_:=Aside0.mk hb;have n2_:=Aside0.mk hi;clear hi hb hk HB HI;have HB:=n1_;have HI:=n2_;clear n1_ n2_;obtain ⟨A2_q,c2_q,A3_q,c3_q,hbx_,_⟩:=HI.out;have hp2_ : w5.cell? ⟨gb,2,none⟩ = some (.slice A2_q l0_2.length c2_q):=(blk_cell hbx_ 2).trans rfl;clear hbx_) | (go_at_call 74;(with_reducible refine (spec_l05Ok.calls _ gb a0_0 a0_1 l0_2 l0_3 _ _ _ w _ (by repeat (first | exact HI.out | apply IsS51.alloc | apply IsS51.drewN | apply IsS51.drew)) ib A1_.out).mono ?_);rintro e w5 ⟨rfl,hi,hb,hk⟩;have n1_:=Aside0.mk hb;have n2_:=Aside0.mk hi;clear hi hb hk HB HI;have HB:=n1_;have HI:=n2_;clear n1_ n2_;obtain ⟨A2_q,c2_q,A3_q,c3_q,hbx_,_⟩:=HI.out;have hp2_ : w5.cell? ⟨gb,2,none⟩ = some (.slice A2_q l0_2.length c2_q):=(blk_cell hbx_ 2).trans rfl;clear hbx_) | ((with_reducible refine gate_callee (f:=58) rfl ?_);refine goesL_ _ rfl rfl Try.func58 (by kernel_rfl) rfl #[.int .i64 a1,.int .i64 0,.int .i64 (wrap64 ((l0_2.length : Int) - 1))] rfl (by (try simp only [mT,mC,mN]);first | done | rfl) ?_;(with_reducible refine (spec_l00In.calls a1 0 (wrap64 ((l0_2.length : Int) - 1)) _ _ A2_.out).mono ?_);rintro e w5 ⟨rfl,⟨nd,rfl⟩⟩;refine ⟨_,rfl,?_⟩;clear A2_) | (go_at_call 58;(with_reducible refine (spec_l00In.calls a1 0 (wrap64 ((l0_2.length : Int) - 1)) _ _ A2_.out).mono ?_);rintro e w5 ⟨rfl,⟨nd,rfl⟩⟩;clear A2_) | ((with_reducible refine gate_callee (f:=58) rfl ?_);refine goesL_ _ rfl rfl Try.func58 (by kernel_rfl) rfl #[.int .i64 a2,.int .i64 0,.int .i64 (wrap64 ((l0_2.length : Int) - 1))] rfl (by (try simp only [mT,mC,mN]);first | done | rfl) ?_;(with_reducible refine (spec_l00In.calls a2 0 (wrap64 ((l0_2.length : Int) - 1)) _ _ A3_.out).mono ?_);rintro e w5 ⟨rfl,⟨nd,rfl⟩⟩;refine ⟨_,rfl,?_⟩;clear A3_) | (go_at_call 58;(with_reducible refine (spec_l00In.calls a2 0 (wrap64 ((l0_2.length : Int) - 1)) _ _ A3_.out).mono ?_);rintro e w5 ⟨rfl,⟨nd,rfl⟩⟩;clear A3_) | ((with_reducible refine gate_callee (f:=95) rfl ?_);refine goesL_ _ rfl rfl Try.func95 (by kernel_rfl) rfl #[.pointer (some ⟨gb,0,none⟩),.int .i64 a1,.int .i64 a2] rfl (by (try simp only [mT,mC,mN]);first | done | rfl) ?_;(with_reducible refine (spec_l05OnEdge.calls k gb _ _ l0_2 l0_3 a1 a2 _ _ _ w _ (by repeat (first | exact HI.out | apply IsS51.alloc | apply IsS51.drewN | apply IsS51.drew)) ib A4_.out).mono ?_);rintro e w5 ⟨vp,rfl,ho,hi,hb,hk⟩;refine ⟨_,rfl,?_⟩;have HO:=Aside0.mk (Kd.R_lower ho (below_size ib));clear ho;have n1_:=Aside0.mk hb;have n2_:=Aside0.mk hi;clear hi hb hk HB HI;have HB:=n1_;have HI:=n2_;clear n1_ n2_;obtain ⟨Ao8,co8,eo8⟩:=Kd.R_slice HO.out;subst eo8) | (go_at_call 95;(with_reducible refine (spec_l05OnEdge.calls k gb _ _ l0_2 l0_3 a1 a2 _ _ _ w _ (by repeat (first | exact HI.out | apply IsS51.alloc | apply IsS51.drewN | apply IsS51.drew)) ib A4_.out).mono ?_);rintro e w5 ⟨vp,rfl,ho,hi,hb,hk⟩;have HO:=Aside0.mk (Kd.R_lower ho (below_size ib));clear ho;have n1_:=Aside0.mk hb;have n2_:=Aside0.mk hi;clear hi hb hk HB HI;have HB:=n1_;have HI:=n2_;clear n1_ n2_;obtain ⟨Ao8,co8,eo8⟩:=Kd.R_slice HO.out;subst eo8))
   go_ret2
   exact ⟨.slice none 0 0,(by first | rfl | (simp;done) | (simp [*];done)),Kd.R_nil _ _ _ _ _,ib⟩
  | true =>
   replace H:=(if_pos rfl).symm.trans H
   obtain ⟨d,A30,H⟩:=bE.mp H
   have A3_:=Aside0.mk A30
   clear A30
   cases d with
   | false =>
    replace H : some (([] : List Int),(2 : Int)) = some (r1,r2):=H
    simp only [Option.some.injEq,Prod.mk.injEq] at H
    obtain ⟨rfl,rfl⟩:=H
    go_enter Try.func55,Try.ntmps55
    go_wp2_with (first | ((with_reducible refine gate_dst (N:=3) rfl ?_);refine bx (cs:=#[.int .i64 a0_0,.int .i64 a0_1,.slice A0_2 l0_2.length c0_2,.slice A0_3 l0_3.length c0_3]) (t:=51) ?_;intro gb hg w3 hbox hb;have HI:=Aside0.mk (show IsS51 w w3 gb a0_0 a0_1 l0_2 l0_3 from ⟨A0_2,c0_2,A0_3,c0_3,hbox,Nat.le_of_eq hg.symm,HR0_2.out,HR0_3.out⟩);have n1_:=Aside0.mk (below_step ib hb);clear HB;have HB:=n1_;clear n1_ hbox hb hg) | ((with_reducible refine gate_callee (f:=74) rfl ?_);refine goesL_ _ rfl rfl Try.func74 (by kernel_rfl) rfl #[.pointer (some ⟨gb,0,none⟩)] rfl (by (try simp only [mT,mC,mN]);first | done | rfl) ?_;(with_reducible refine (spec_l05Ok.calls _ gb a0_0 a0_1 l0_2 l0_3 _ _ _ w _ (by repeat (first | exact HI.out | apply IsS51.alloc | apply IsS51.drewN | apply IsS51.drew)) ib A1_.out).mono ?_);rintro e w5 ⟨rfl,hi,hb,hk⟩;refine ⟨_,rfl,?_⟩;have n1_:=Aside0.mk hb;have n2_:=Aside0.mk hi;clear hi hb hk HB HI;have HB:=n1_;have HI:=n2_;clear n1_ n2_;obtain ⟨A2_q,c2_q,A3_q,c3_q,hbx_,_⟩:=HI.out;have hp2_ : w5.cell? ⟨gb,2,none⟩ = some (.slice A2_q l0_2.length c2_q):=(blk_cell hbx_ 2).trans rfl;clear hbx_) | (go_at_call 74;(with_reducible refine (spec_l05Ok.calls _ gb a0_0 a0_1 l0_2 l0_3 _ _ _ w _ (by repeat (first | exact HI.out | apply IsS51.alloc | apply IsS51.drewN | apply IsS51.drew)) ib A1_.out).mono ?_);rintro e w5 ⟨rfl,hi,hb,hk⟩;have n1_:=Aside0.mk hb;have n2_:=Aside0.mk hi;clear hi hb hk HB HI;have HB:=n1_;have HI:=n2_;clear n1_ n2_;obtain ⟨A2_q,c2_q,A3_q,c3_q,hbx_,_⟩:=HI.out;have hp2_ : w5.cell? ⟨gb,2,none⟩ = some (.slice A2_q l0_2.length c2_q):=(blk_cell hbx_ 2).trans rfl;clear hbx_) | ((with_reducible refine gate_callee (f:=58) rfl ?_);refine goesL_ _ rfl rfl Try.func58 (by kernel_rfl) rfl #[.int .i64 a1,.int .i64 0,.int .i64 (wrap64 ((l0_2.length : Int) - 1))] rfl (by (try simp only [mT,mC,mN]);first | done | rfl) ?_;(with_reducible refine (spec_l00In.calls a1 0 (wrap64 ((l0_2.length : Int) - 1)) _ _ A2_.out).mono ?_);rintro e w5 ⟨rfl,⟨nd,rfl⟩⟩;refine ⟨_,rfl,?_⟩;clear A2_) | (go_at_call 58;(with_reducible refine (spec_l00In.calls a1 0 (wrap64 ((l0_2.length : Int) - 1)) _ _ A2_.out).mono ?_);rintro e w5 ⟨rfl,⟨nd,rfl⟩⟩;clear A2_) | ((with_reducible refine gate_callee (f:=58) rfl ?_);refine goesL_ _ rfl rfl Try.func58 (by kernel_rfl) rfl #[.int .i64 a2,.int .i64 0,.int .i64 (wrap64 ((l0_2.length : Int) - 1))] rfl (by (try simp only [mT,mC,mN]);first | done | rfl) ?_;(with_reducible refine (spec_l00In.calls a2 0 (wrap64 ((l0_2.length : Int) - 1)) _ _ A3_.out).mono ?_);rintro e w5 ⟨rfl,⟨nd,rfl⟩⟩;refine ⟨_,rfl,?_⟩;clear A3_) | (go_at_call 58;(with_reducible refine (spec_l00In.calls a2 0 (wrap64 ((l0_2.length : Int) - 1)) _ _ A3_.out).mono ?_);rintro e w5 ⟨rfl,⟨nd,rfl⟩⟩;clear A3_) | ((with_reducible refine gate_callee (f:=95) rfl ?_);refine goesL_ _ rfl rfl Try.func95 (by kernel_rfl) rfl #[.pointer (some ⟨gb,0,none⟩),.int .i64 a1,.int .i64 a2] rfl (by (try simp only [mT,mC,mN]);first | done | rfl) ?_;(with_reducible refine (spec_l05OnEdge.calls k gb _ _ l0_2 l0_3 a1 a2 _ _ _ w _ (by repeat (first | exact HI.out | apply IsS51.alloc | apply IsS51.drewN | apply IsS51.drew)) ib A4_.out).mono ?_);rintro e w5 ⟨vp,rfl,ho,hi,hb,hk⟩;refine ⟨_,rfl,?_⟩;have HO:=Aside0.mk (Kd.R_lower ho (below_size ib));clear ho;have n1_:=Aside0.mk hb;have n2_:=Aside0.mk hi;clear hi hb hk HB HI;have HB:=n1_;have HI:=n2_;clear n1_ n2_;obtain ⟨Ao8,co8,eo8⟩:=Kd.R_slice HO.out;subst eo8) | (go_at_call 95;(with_reducible refine (spec_l05OnEdge.calls k gb _ _ l0_2 l0_3 a1 a2 _ _ _ w _ (by repeat (first | exact HI.out | apply IsS51.alloc | apply IsS51.drewN | apply IsS51.drew)) ib A4_.out).mono ?_);rintro e w5 ⟨vp,rfl,ho,hi,hb,hk⟩;have HO:=Aside0.mk (Kd.R_lower ho (below_size ib));clear ho;have n1_:=Aside0.mk hb;have n2_:=Aside0.mk hi;clear hi hb hk HB HI;have HB:=n1_;have HI:=n2_;clear n1_ n2_;obtain ⟨Ao8,co8,eo8⟩:=Kd.R_slice HO.out;subst eo8))
    go_ret2
    exact ⟨.slice none 0 0,(by first | rfl | (simp;done) | (simp [*];done)),Kd.R_nil _ _ _ _ _,ib⟩
   | true =>
    replace H:=(if_pos rfl).symm.trans H
    obtain ⟨⟨q,x3,y3⟩,A40,H⟩:=bE.mp H
    have A4_:=Aside0.mk A40
    clear A40
    simp only [Option.some.injEq,Prod.mk.injEq] at H
    obtain ⟨rfl,rfl⟩:=H
    go_enter Try.func55,Try.ntmps55
    go_wp2_with (first | ((with_reducible refine gate_dst (N:=3) rfl ?_);refine bx (cs:=#[.int .i64 a0_0,.int .i64 a0_1,.slice A0_2 l0_2.length c0_2,.slice A0_3 l0_3.length c0_3]) (t:=51) ?_;intro gb hg w3 hbox hb;have HI:=Aside0.mk (show IsS51 w w3 gb a0_0 a0_1 l0_2 l0_3 from ⟨A0_2,c0_2,A0_3,c0_3,hbox,Nat.le_of_eq hg.symm,HR0_2.out,HR0_3.out⟩);have n1_:=Aside0.mk (below_step ib hb);clear HB;have HB:=n1_;clear n1_ hbox hb hg) | ((with_reducible refine gate_callee (f:=74) rfl ?_);refine goesL_ _ rfl rfl Try.func74 (by kernel_rfl) rfl #[.pointer (some ⟨gb,0,none⟩)] rfl (by (try simp only [mT,mC,mN]);first | done | rfl) ?_;(with_reducible refine (spec_l05Ok.calls _ gb a0_0 a0_1 l0_2 l0_3 _ _ _ w _ (by repeat (first | exact HI.out | apply IsS51.alloc | apply IsS51.drewN | apply IsS51.drew)) ib A1_.out).mono ?_);rintro e w5 ⟨rfl,hi,hb,hk⟩;refine ⟨_,rfl,?_⟩;have n1_:=Aside0.mk hb;have n2_:=Aside0.mk hi;clear hi hb hk HB HI;have HB:=n1_;have HI:=n2_;clear n1_ n2_;obtain ⟨A2_q,c2_q,A3_q,c3_q,hbx_,_⟩:=HI.out;have hp2_ : w5.cell? ⟨gb,2,none⟩ = some (.slice A2_q l0_2.length c2_q):=(blk_cell hbx_ 2).trans rfl;clear hbx_) | (go_at_call 74;(with_reducible refine (spec_l05Ok.calls _ gb a0_0 a0_1 l0_2 l0_3 _ _ _ w _ (by repeat (first | exact HI.out | apply IsS51.alloc | apply IsS51.drewN | apply IsS51.drew)) ib A1_.out).mono ?_);rintro e w5 ⟨rfl,hi,hb,hk⟩;have n1_:=Aside0.mk hb;have n2_:=Aside0.mk hi;clear hi hb hk HB HI;have HB:=n1_;have HI:=n2_;clear n1_ n2_;obtain ⟨A2_q,c2_q,A3_q,c3_q,hbx_,_⟩:=HI.out;have hp2_ : w5.cell? ⟨gb,2,none⟩ = some (.slice A2_q l0_2.length c2_q):=(blk_cell hbx_ 2).trans rfl;clear hbx_) | ((with_reducible refine gate_callee (f:=58) rfl ?_);refine goesL_ _ rfl rfl Try.func58 (by kernel_rfl) rfl #[.int .i64 a1,.int .i64 0,.int .i64 (wrap64 ((l0_2.length : Int) - 1))] rfl (by (try simp only [mT,mC,mN]);first | done | rfl) ?_;(with_reducible refine (spec_l00In.calls a1 0 (wrap64 ((l0_2.length : Int) - 1)) _ _ A2_.out).mono ?_);rintro e w5 ⟨rfl,⟨nd,rfl⟩⟩;refine ⟨_,rfl,?_⟩;clear A2_) | (go_at_call 58;(with_reducible refine (spec_l00In.calls a1 0 (wrap64 ((l0_2.length : Int) - 1)) _ _ A2_.out).mono ?_);rintro e w5 ⟨rfl,⟨nd,rfl⟩⟩;clear A2_) | ((with_reducible refine gate_callee (f:=58) rfl ?_);refine goesL_ _ rfl rfl Try.func58 (by kernel_rfl) rfl #[.int .i64 a2,.int .i64 0,.int .i64 (wrap64 ((l0_2.length : Int) - 1))] rfl (by (try simp only [mT,mC,mN]);first | done | rfl) ?_;(with_reducible refine (spec_l00In.calls a2 0 (wrap64 ((l0_2.length : Int) - 1)) _ _ A3_.out).mono ?_);rintro e w5 ⟨rfl,⟨nd,rfl⟩⟩;refine ⟨_,rfl,?_⟩;clear A3_) | (go_at_call 58;(with_reducible refine (spec_l00In.calls a2 0 (wrap64 ((l0_2.length : Int) - 1)) _ _ A3_.out).mono ?_);rintro e w5 ⟨rfl,⟨nd,rfl⟩⟩;clear A3_) | ((with_reducible refine gate_callee (f:=95) rfl ?_);refine goesL_ _ rfl rfl Try.func95 (by kernel_rfl) rfl #[.pointer (some ⟨gb,0,none⟩),.int .i64 a1,.int .i64 a2] rfl (by (try simp only [mT,mC,mN]);first | done | rfl) ?_;(with_reducible refine (spec_l05OnEdge.calls k gb _ _ l0_2 l0_3 a1 a2 _ _ _ w _ (by repeat (first | exact HI.out | apply IsS51.alloc | apply IsS51.drewN | apply IsS51.drew)) ib A4_.out).mono ?_);rintro e w5 ⟨vp,rfl,ho,hi,hb,hk⟩;refine ⟨_,rfl,?_⟩;have HO:=Aside0.mk (Kd.R_lower ho (below_size ib));clear ho;have n1_:=Aside0.mk hb;have n2_:=Aside0.mk hi;clear hi hb hk HB HI;have HB:=n1_;have HI:=n2_;clear n1_ n2_;obtain ⟨Ao8,co8,eo8⟩:=Kd.R_slice HO.out;subst eo8) | (go_at_call 95;(with_reducible refine (spec_l05OnEdge.calls k gb _ _ l0_2 l0_3 a1 a2 _ _ _ w _ (by repeat (first | exact HI.out | apply IsS51.alloc | apply IsS51.drewN | apply IsS51.drew)) ib A4_.out).mono ?_);rintro e w5 ⟨vp,rfl,ho,hi,hb,hk⟩;have HO:=Aside0.mk (Kd.R_lower ho (below_size ib));clear ho;have n1_:=Aside0.mk hb;have n2_:=Aside0.mk hi;clear hi hb hk HB HI;have HB:=n1_;have HI:=n2_;clear n1_ n2_;obtain ⟨Ao8,co8,eo8⟩:=Kd.R_slice HO.out;subst eo8))
    go_ret2
    exact ⟨_,(by first | rfl | (simp;done) | (simp [*];done)),(rO HO.out),ib⟩
def impl_within.f (a0 : Int) (a1 : Int) (a2 : Int) : Option (Bool):=if a0 ≥ a1 then (some (decide (a0 ≤ a2))) else (some false)
theorem impl_within.calls (a0 : Int) (a1 : Int) (a2 : Int) (r : Bool) (w : World) (h : impl_within.f a0 a1 a2 = some r) :
  Calls Try.prog 62 #[.int .i64 a0,.int .i64 a1,.int .i64 a2] w fun e w' => e = .returned (.bool r) ∧ Drawn0 w w':=by
 have H : (if a0 ≥ a1 then (some (decide (a0 ≤ a2))) else (some false)) = some r:=h
 clear h
 by_cases c4 : a0 ≥ a1
 ·rw [if_pos c4] at H
  have c4b0 : decide (a1 ≤ a0) = true:=decide_eq_true c4
  clear c4
  obtain rfl:=Option.some.inj H
  go_enter Try.func62,Try.ntmps62
  go_wp2
  go_ret
  exact ⟨by first | rfl | (simp;done) | (simp [*];done),by repeat (first | exact Drawn0.refl _ | apply Drawn0.step)⟩
 ·rw [if_neg c4] at H
  have c4b0 : decide (a1 ≤ a0) = false:=decide_eq_false c4
  clear c4
  obtain rfl:=Option.some.inj H
  go_enter Try.func62,Try.ntmps62
  go_wp2
  go_ret
  exact ⟨by first | rfl | (simp;done) | (simp [*];done),by repeat (first | exact Drawn0.refl _ | apply Drawn0.step)⟩
def impl_ValidPoint.f (a0_0 : Int) (a0_1 : Int) : Option (Bool):=(impl_within.f a0_0 0 20000).bind fun t284 => (if t284 = true then ((impl_within.f a0_1 0 20000).bind fun t285 => (some t285)) else (some false))
theorem impl_ValidPoint.calls (a0_0 : Int) (a0_1 : Int) (r : Bool) (w : World) (h : impl_ValidPoint.f a0_0 a0_1 = some r) :
  Calls Try.prog 146 #[.agg #[.int .i64 a0_0,.int .i64 a0_1]] w fun e w' => e = .returned (.bool r) ∧ Below w.heap.size w w':=by
 have hu73:=Try.underlying73
 have HB:=Aside0.mk (Below.refl w.heap.size w)
 have H : ((impl_within.f a0_0 0 20000).bind fun t284 => (if t284 = true then ((impl_within.f a0_1 0 20000).bind fun t285 => (some t285)) else (some false))) = some r:=h
 clear h
 replace H:=bE.mp H
 obtain ⟨t284,A20,H⟩:=H
 replace H : (if t284 = true then ((impl_within.f a0_1 0 20000).bind fun t285 => (some t285)) else (some false)) = some r:=H
 have A2:=Aside0.mk A20
 clear A20
 by_cases c3 : t284 = true
 ·subst c3
  have H1 : ((impl_within.f a0_1 0 20000).bind fun t285 => (some t285)) = some r:=by rw [if_pos rfl] at H;exact H
  clear H
  have H:=H1
  clear H1
  replace H:=bE.mp H
  obtain ⟨t285,A40,H⟩:=H
  replace H : (some t285) = some r:=H
  have A4:=Aside0.mk A40
  clear A40
  obtain rfl:=Option.some.inj H
  go_enter Try.func146,Try.ntmps146
  go_wp2_with (first | ((with_reducible refine gate_dst (N:=1) rfl ?_);refine bx (cs:=#[.int .i64 a0_0,.int .i64 a0_1]) (t:=73) ?_;intro gb283 hg w5 hbox hb;have BK283:=Aside0.mk (hbox);have GW283:=zb hg;have GE283:=zb hg;replace HB:=sb hb;clear hb hbox hg;have hcz6_0:=ck BK283 0;have hcz6_1:=ck BK283 1;have hfz6_0:=blk_frozen BK283.out 0;have hfz6_1:=blk_frozen BK283.out 1) | ((with_reducible refine gate_callee (f:=62) rfl ?_);refine goesL_ (some 5) rfl rfl Try.func62 (by kernel_rfl) rfl #[.int .i64 a0_0,.int .i64 0,.int .i64 20000] rfl (by (try simp only [mT,mC,mN]);first | done | rfl | (simp only [lD,lT];rfl)) ?_;(with_reducible refine (impl_within.calls a0_0 0 20000 true _ A2.out).mono ?_);rintro e w' ⟨rfl,⟨nd,rfl⟩⟩;refine ⟨_,rfl,?_⟩) | (go_at_call 62;(with_reducible refine (impl_within.calls a0_1 0 20000 t285 _ A4.out).mono ?_);rintro e w' ⟨rfl,⟨nd,rfl⟩⟩))
  go_ret
  exact ⟨by first | rfl | (simp [errW_none,errW_some] <;> rfl) | (simp [*,errW_none,errW_some] <;> rfl),ib⟩
 ·replace c3:=Bool.eq_false_iff.mpr c3
  subst c3
  have H1 : (some false) = some r:=by rw [if_neg (show ¬ (false = true) by decide)] at H;exact H
  clear H
  have H:=H1
  clear H1
  obtain rfl:=Option.some.inj H
  go_enter Try.func146,Try.ntmps146
  go_wp2_with (first | ((with_reducible refine gate_dst (N:=1) rfl ?_);refine bx (cs:=#[.int .i64 a0_0,.int .i64 a0_1]) (t:=73) ?_;intro gb283 hg w7 hbox hb;have BK283:=Aside0.mk (hbox);have GW283:=zb hg;have GE283:=zb hg;replace HB:=sb hb;clear hb hbox hg;have hcz8_0:=ck BK283 0;have hcz8_1:=ck BK283 1;have hfz8_0:=blk_frozen BK283.out 0;have hfz8_1:=blk_frozen BK283.out 1) | ((with_reducible refine gate_callee (f:=62) rfl ?_);refine goesL_ (some 5) rfl rfl Try.func62 (by kernel_rfl) rfl #[.int .i64 a0_0,.int .i64 0,.int .i64 20000] rfl (by (try simp only [mT,mC,mN]);first | done | rfl | (simp only [lD,lT];rfl)) ?_;(with_reducible refine (impl_within.calls a0_0 0 20000 false _ A2.out).mono ?_);rintro e w' ⟨rfl,⟨nd,rfl⟩⟩;refine ⟨_,rfl,?_⟩))
  go_ret
  exact ⟨by first | rfl | (simp [errW_none,errW_some] <;> rfl) | (simp [*,errW_none,errW_some] <;> rfl),ib⟩
def impl_validPoints.l0 : Nat → List (S73) → Int → Int → Option (Bool)
 | 0,_,_,_ => none
 | k + 1,x5,x6,x7 => if x7 < x6 then (if 0 ≤ x7 then (if x7 < (x5.length : Int) then ((impl_ValidPoint.f ((rd_T73 x5 x7).f0) ((rd_T73 x5 x7).f1)).bind fun t288 => (if t288 = true then (impl_validPoints.l0 k x5 x6 (wrap64 (x7 + 1))) else (some false))) else (none)) else (none)) else (some true)
def impl_validPoints.f (k : Nat) (l0 : List (S73)) : Option (Bool):=impl_validPoints.l0 k l0 (l0.length : Int) 0
theorem impl_validPoints.calls (k : Nat) (A0 : Option Addr) (c0 : Nat) (l0 : List (S73)) (r : Bool) (w : World) (hr0 : Kd.C k73 w A0 l0.length l0) (hc0 : l0.length ≤ c0) (h : impl_validPoints.f k l0 = some r) :
  Calls Try.prog 104 #[.slice A0 l0.length c0] w fun e w' => e = .returned (.bool r) ∧ Below w.heap.size w w':=by
 have hu73:=Try.underlying73
 have HR0:=Aside0.mk hr0
 have HC0:=Aside0.mk hc0
 clear hr0 hc0
 have HB:=Aside0.mk (Below.refl w.heap.size w)
 have H : (impl_validPoints.l0 k l0 (l0.length : Int) 0) = some r:=h
 clear h
 have H':=Aside0.mk H
 clear H
 go_enter Try.func104,Try.ntmps104
 go_wp2
 go_loopg [7] k (fun kq v7 w' => ∃ (x7_1 : Int),v7 = .int .i64 x7_1 ∧ Aside0 (impl_validPoints.l0 kq l0 (l0.length : Int) x7_1 = some r) ∧ Aside0 (kq ≤ k) ∧ Aside0 (Below w.heap.size w w'))
 case atStart => exact ⟨(0),(by first | rfl | (simp;done) | (simp [*];done)),H',⟨Nat.le_refl _⟩,⟨ib⟩⟩
 case round =>
  clear H'
  try clear c1
  obtain ⟨x7_1,rfl,HA,HK1,HB⟩:=hrel
  cases gk with
  | zero => exact absurd HA.out (by simp [impl_validPoints.l0])
  | succ k1 =>
   have H:=HA.out
   clear HA
   simp only [impl_validPoints.l0] at H
   by_cases c2 : x7_1 < (l0.length : Int)
   ·rw [if_pos c2] at H
    have c2b0 : decide (x7_1 < (l0.length : Int)) = true:=decide_eq_true c2
    clear c2
    by_cases c3 : 0 ≤ x7_1
    ·rw [if_pos c3] at H
     have c3b0 : decide (0 ≤ x7_1) = true:=decide_eq_true c3
     clear c3
     by_cases c4 : x7_1 < (l0.length : Int)
     ·rw [if_pos c4] at H
      have c4b0 : decide (x7_1 < (l0.length : Int)) = true:=decide_eq_true c4
      clear c4
      replace H:=bE.mp H
      obtain ⟨t288,A50,H⟩:=H
      replace H : (if t288 = true then (impl_validPoints.l0 k1 l0 (l0.length : Int) (wrap64 (x7_1 + 1))) else (some false)) = some r:=H
      have A5:=Aside0.mk A50
      clear A50
      by_cases c6 : t288 = true
      ·subst c6
       have H1 : (impl_validPoints.l0 k1 l0 (l0.length : Int) (wrap64 (x7_1 + 1))) = some r:=by rw [if_pos rfl] at H;exact H
       clear H
       have H:=H1
       clear H1
       have H':=Aside0.mk H
       clear H
       have p286 : 0 ≤ (x7_1 : Int):=da
       have q286 : x7_1 < (l0.length : Int):=da
       obtain ⟨ad286,e286,hx286_0,hx286_1⟩:=at_T73 HR0.out x7_1 p286 q286
       cases e286
       replace hx286_0:=cq HB.out hx286_0
       replace hx286_1:=cq HB.out hx286_1
       replace p286:=eq_true p286
       replace q286:=eq_true q286
       go_wp2_with (first | ((with_reducible refine gate_dst (N:=4) rfl ?_);refine bx (cs:=#[.int .i64 0,.int .i64 0]) (t:=73) ?_;intro gb287 hg w7 hbox hb;have BK287:=Aside0.mk (hbox);have GW287:=zb hg;have GE287:=zb hg;replace HB:=sb hb;clear hb hbox hg;have hcz8_0:=ck BK287 0;have hcz8_1:=ck BK287 1;have hfz8_0:=blk_frozen BK287.out 0;have hfz8_1:=blk_frozen BK287.out 1) | ((with_reducible refine gate_callee (f:=146) rfl ?_);refine goesL_ (some 12) rfl rfl Try.func146 (by kernel_rfl) rfl #[.agg #[.int .i64 ((rd_T73 l0 x7_1).f0),.int .i64 ((rd_T73 l0 x7_1).f1)]] rfl (by (try simp only [mT,mC,mN]);first | done | rfl | (simp only [lD,lT];rfl)) ?_;(with_reducible refine (impl_ValidPoint.calls ((rd_T73 l0 x7_1).f0) ((rd_T73 l0 x7_1).f1) true _ A5.out).mono ?_);rintro e w9 ⟨rfl,hb⟩;refine ⟨_,rfl,?_⟩;replace BK287:=Aside0.mk (blk_below (g:=gb287) (o:=.cells #[.int .i64 ((rd_T73 l0 x7_1).f0),.int .i64 ((rd_T73 l0 x7_1).f1)] 73 (0,0)) (by refine bP (cs:=#[.int .i64 ((rd_T73 l0 x7_1).f0),.int .i64 0]) 1 ?_;refine bP (cs:=#[.int .i64 0,.int .i64 0]) 0 ?_;exact bk BK287) hb);replace HB:=sb hb;(try clear hb);(try clear hb2);(try clear hk);(try clear hi)))
       go_roundg k1
       case measure => have:=HK1.out;omega
       case rel => exact ⟨(wrap64 (x7_1 + 1)),(by first | rfl | (simp;done) | (simp [*];done)),H',⟨by have:=HK1.out;omega⟩,⟨ib⟩⟩
      ·replace c6:=Bool.eq_false_iff.mpr c6
       subst c6
       have H1 : (some false) = some r:=by rw [if_neg (show ¬ (false = true) by decide)] at H;exact H
       clear H
       have H:=H1
       clear H1
       obtain rfl:=Option.some.inj H
       have p286 : 0 ≤ (x7_1 : Int):=da
       have q286 : x7_1 < (l0.length : Int):=da
       obtain ⟨ad286,e286,hx286_0,hx286_1⟩:=at_T73 HR0.out x7_1 p286 q286
       cases e286
       replace hx286_0:=cq HB.out hx286_0
       replace hx286_1:=cq HB.out hx286_1
       replace p286:=eq_true p286
       replace q286:=eq_true q286
       go_wp2_with (first | ((with_reducible refine gate_dst (N:=4) rfl ?_);refine bx (cs:=#[.int .i64 0,.int .i64 0]) (t:=73) ?_;intro gb287 hg w10 hbox hb;have BK287:=Aside0.mk (hbox);have GW287:=zb hg;have GE287:=zb hg;replace HB:=sb hb;clear hb hbox hg;have hcz11_0:=ck BK287 0;have hcz11_1:=ck BK287 1;have hfz11_0:=blk_frozen BK287.out 0;have hfz11_1:=blk_frozen BK287.out 1) | ((with_reducible refine gate_callee (f:=146) rfl ?_);refine goesL_ (some 12) rfl rfl Try.func146 (by kernel_rfl) rfl #[.agg #[.int .i64 ((rd_T73 l0 x7_1).f0),.int .i64 ((rd_T73 l0 x7_1).f1)]] rfl (by (try simp only [mT,mC,mN]);first | done | rfl | (simp only [lD,lT];rfl)) ?_;(with_reducible refine (impl_ValidPoint.calls ((rd_T73 l0 x7_1).f0) ((rd_T73 l0 x7_1).f1) false _ A5.out).mono ?_);rintro e w12 ⟨rfl,hb⟩;refine ⟨_,rfl,?_⟩;replace BK287:=Aside0.mk (blk_below (g:=gb287) (o:=.cells #[.int .i64 ((rd_T73 l0 x7_1).f0),.int .i64 ((rd_T73 l0 x7_1).f1)] 73 (0,0)) (by refine bP (cs:=#[.int .i64 ((rd_T73 l0 x7_1).f0),.int .i64 0]) 1 ?_;refine bP (cs:=#[.int .i64 0,.int .i64 0]) 0 ?_;exact bk BK287) hb);replace HB:=sb hb;(try clear hb);(try clear hb2);(try clear hk);(try clear hi)))
       go_ret
       exact ⟨by first | rfl | (simp [errW_none,errW_some] <;> rfl) | (simp [*,errW_none,errW_some] <;> rfl),ib⟩
     ·first | (exfalso;have z_:=of_decide_eq_true c2b0;omega) | (rw [if_neg c4] at H;exact absurd H (by simp))
    ·rw [if_neg c3] at H
     exact absurd H (by simp)
   ·rw [if_neg c2] at H
    have c2b0 : decide (x7_1 < (l0.length : Int)) = false:=decide_eq_false c2
    clear c2
    obtain rfl:=Option.some.inj H
    go_wp2
    go_ret
    exact ⟨by first | rfl | (simp [errW_none,errW_some] <;> rfl) | (simp [*,errW_none,errW_some] <;> rfl),ib⟩
def impl_side.f (a0_0 : Int) (a0_1 : Int) (a1_0 : Int) (a1_1 : Int) (a2_0 : Int) (a2_1 : Int) : Option (Int):=if (wrap64 ((wrap64 ((wrap64 (a1_0 - a0_0)) * (wrap64 (a2_1 - a0_1)))) - (wrap64 ((wrap64 (a1_1 - a0_1)) * (wrap64 (a2_0 - a0_0)))))) > 0 then (some 1) else (if (wrap64 ((wrap64 ((wrap64 (a1_0 - a0_0)) * (wrap64 (a2_1 - a0_1)))) - (wrap64 ((wrap64 (a1_1 - a0_1)) * (wrap64 (a2_0 - a0_0)))))) < 0 then (some (-1)) else (some 0))
theorem impl_side.calls (a0_0 : Int) (a0_1 : Int) (a1_0 : Int) (a1_1 : Int) (a2_0 : Int) (a2_1 : Int) (r : Int) (w : World) (h : impl_side.f a0_0 a0_1 a1_0 a1_1 a2_0 a2_1 = some r) :
  Calls Try.prog 147 #[.agg #[.int .i64 a0_0,.int .i64 a0_1],.agg #[.int .i64 a1_0,.int .i64 a1_1],.agg #[.int .i64 a2_0,.int .i64 a2_1]] w fun e w' => e = .returned (.int .i64 r) ∧ Below w.heap.size w w':=by
 have hu73:=Try.underlying73
 have HB:=Aside0.mk (Below.refl w.heap.size w)
 have H : (if (wrap64 ((wrap64 ((wrap64 (a1_0 - a0_0)) * (wrap64 (a2_1 - a0_1)))) - (wrap64 ((wrap64 (a1_1 - a0_1)) * (wrap64 (a2_0 - a0_0)))))) > 0 then (some 1) else (if (wrap64 ((wrap64 ((wrap64 (a1_0 - a0_0)) * (wrap64 (a2_1 - a0_1)))) - (wrap64 ((wrap64 (a1_1 - a0_1)) * (wrap64 (a2_0 - a0_0)))))) < 0 then (some (-1)) else (some 0))) = some r:=h
 clear h
 by_cases c4 : (wrap64 ((wrap64 ((wrap64 (a1_0 - a0_0)) * (wrap64 (a2_1 - a0_1)))) - (wrap64 ((wrap64 (a1_1 - a0_1)) * (wrap64 (a2_0 - a0_0)))))) > 0
 ·rw [if_pos c4] at H
  have c4b0 : decide (0 < (wrap64 ((wrap64 ((wrap64 (a1_0 - a0_0)) * (wrap64 (a2_1 - a0_1)))) - (wrap64 ((wrap64 (a1_1 - a0_1)) * (wrap64 (a2_0 - a0_0))))))) = true:=decide_eq_true c4
  clear c4
  obtain rfl:=Option.some.inj H
  go_enter Try.func147,Try.ntmps147
  go_wp2_with (first | ((with_reducible refine gate_dst (N:=3) rfl ?_);refine bx (cs:=#[.int .i64 a0_0,.int .i64 a0_1]) (t:=73) ?_;intro gb289 hg w5 hbox hb;have BK289:=Aside0.mk (hbox);have GW289:=zb hg;have GE289:=zb hg;replace HB:=sb hb;clear hb hbox hg) | ((with_reducible refine gate_dst (N:=4) rfl ?_);refine bx (cs:=#[.int .i64 a1_0,.int .i64 a1_1]) (t:=73) ?_;intro gb290 hg w6 hbox hb;have BK290:=Aside0.mk (hbox);have GW290:=zb hg;have GE290:=zb hg;replace HB:=sb hb;have NB289_290:=nl BK289 hg;have NB290_289:=ng BK289 hg;replace BK289:=kb BK289 hb;clear hb hbox hg) | ((with_reducible refine gate_dst (N:=5) rfl ?_);refine bx (cs:=#[.int .i64 a2_0,.int .i64 a2_1]) (t:=73) ?_;intro gb291 hg w7 hbox hb;have BK291:=Aside0.mk (hbox);have GW291:=zb hg;have GE291:=zb hg;replace HB:=sb hb;have NB289_291:=nl BK289 hg;have NB291_289:=ng BK289 hg;replace BK289:=kb BK289 hb;have NB290_291:=nl BK290 hg;have NB291_290:=ng BK290 hg;replace BK290:=kb BK290 hb;clear hb hbox hg;have hnb8:=NB290_289.out;have hnc8:=NB289_290.out;have hnb9:=NB290_291.out;have hnc9:=NB291_290.out;have hcz10_0:=ck BK290 0;have hcz10_1:=ck BK290 1;have hfz10_0:=blk_frozen BK290.out 0;have hfz10_1:=blk_frozen BK290.out 1;have hnb11:=NB289_291.out;have hnc11:=NB291_289.out;have hcz12_0:=ck BK289 0;have hcz12_1:=ck BK289 1;have hfz12_0:=blk_frozen BK289.out 0;have hfz12_1:=blk_frozen BK289.out 1;have hcz13_0:=ck BK291 0;have hcz13_1:=ck BK291 1;have hfz13_0:=blk_frozen BK291.out 0;have hfz13_1:=blk_frozen BK291.out 1))
  go_ret
  exact ⟨by first | rfl | (simp [errW_none,errW_some] <;> rfl) | (simp [*,errW_none,errW_some] <;> rfl),ib⟩
 ·rw [if_neg c4] at H
  have c4b0 : decide (0 < (wrap64 ((wrap64 ((wrap64 (a1_0 - a0_0)) * (wrap64 (a2_1 - a0_1)))) - (wrap64 ((wrap64 (a1_1 - a0_1)) * (wrap64 (a2_0 - a0_0))))))) = false:=decide_eq_false c4
  clear c4
  by_cases c14 : (wrap64 ((wrap64 ((wrap64 (a1_0 - a0_0)) * (wrap64 (a2_1 - a0_1)))) - (wrap64 ((wrap64 (a1_1 - a0_1)) * (wrap64 (a2_0 - a0_0)))))) < 0
  ·rw [if_pos c14] at H
   have c14b0 : decide ((wrap64 ((wrap64 ((wrap64 (a1_0 - a0_0)) * (wrap64 (a2_1 - a0_1)))) - (wrap64 ((wrap64 (a1_1 - a0_1)) * (wrap64 (a2_0 - a0_0)))))) < 0) = true:=decide_eq_true c14
   clear c14
   obtain rfl:=Option.some.inj H
   go_enter Try.func147,Try.ntmps147
   go_wp2_with (first | ((with_reducible refine gate_dst (N:=3) rfl ?_);refine bx (cs:=#[.int .i64 a0_0,.int .i64 a0_1]) (t:=73) ?_;intro gb289 hg w15 hbox hb;have BK289:=Aside0.mk (hbox);have GW289:=zb hg;have GE289:=zb hg;replace HB:=sb hb;clear hb hbox hg) | ((with_reducible refine gate_dst (N:=4) rfl ?_);refine bx (cs:=#[.int .i64 a1_0,.int .i64 a1_1]) (t:=73) ?_;intro gb290 hg w16 hbox hb;have BK290:=Aside0.mk (hbox);have GW290:=zb hg;have GE290:=zb hg;replace HB:=sb hb;have NB289_290:=nl BK289 hg;have NB290_289:=ng BK289 hg;replace BK289:=kb BK289 hb;clear hb hbox hg) | ((with_reducible refine gate_dst (N:=5) rfl ?_);refine bx (cs:=#[.int .i64 a2_0,.int .i64 a2_1]) (t:=73) ?_;intro gb291 hg w17 hbox hb;have BK291:=Aside0.mk (hbox);have GW291:=zb hg;have GE291:=zb hg;replace HB:=sb hb;have NB289_291:=nl BK289 hg;have NB291_289:=ng BK289 hg;replace BK289:=kb BK289 hb;have NB290_291:=nl BK290 hg;have NB291_290:=ng BK290 hg;replace BK290:=kb BK290 hb;clear hb hbox hg;have hnb18:=NB290_289.out;have hnc18:=NB289_290.out;have hnb19:=NB290_291.out;have hnc19:=NB291_290.out;have hcz20_0:=ck BK290 0;have hcz20_1:=ck BK290 1;have hfz20_0:=blk_frozen BK290.out 0;have hfz20_1:=blk_frozen BK290.out 1;have hnb21:=NB289_291.out;have hnc21:=NB291_289.out;have hcz22_0:=ck BK289 0;have hcz22_1:=ck BK289 1;have hfz22_0:=blk_frozen BK289.out 0;have hfz22_1:=blk_frozen BK289.out 1;have hcz23_0:=ck BK291 0;have hcz23_1:=ck BK291 1;have hfz23_0:=blk_frozen BK291.out 0;have hfz23_1:=blk_frozen BK291.out 1))
   go_ret
   exact ⟨by first | rfl | (simp [errW_none,errW_some] <;> rfl) | (simp [*,errW_none,errW_some] <;> rfl),ib⟩
  ·rw [if_neg c14] at H
   have c14b0 : decide ((wrap64 ((wrap64 ((wrap64 (a1_0 - a0_0)) * (wrap64 (a2_1 - a0_1)))) - (wrap64 ((wrap64 (a1_1 - a0_1)) * (wrap64 (a2_0 - a0_0)))))) < 0) = false:=decide_eq_false c14
   clear c14
   obtain rfl:=Option.some.inj H
   go_enter Try.func147,Try.ntmps147
   go_wp2_with (first | ((with_reducible refine gate_dst (N:=3) rfl ?_);refine bx (cs:=#[.int .i64 a0_0,.int .i64 a0_1]) (t:=73) ?_;intro gb289 hg w24 hbox hb;have BK289:=Aside0.mk (hbox);have GW289:=zb hg;have GE289:=zb hg;replace HB:=sb hb;clear hb hbox hg) | ((with_reducible refine gate_dst (N:=4) rfl ?_);refine bx (cs:=#[.int .i64 a1_0,.int .i64 a1_1]) (t:=73) ?_;intro gb290 hg w25 hbox hb;have BK290:=Aside0.mk (hbox);have GW290:=zb hg;have GE290:=zb hg;replace HB:=sb hb;have NB289_290:=nl BK289 hg;have NB290_289:=ng BK289 hg;replace BK289:=kb BK289 hb;clear hb hbox hg) | ((with_reducible refine gate_dst (N:=5) rfl ?_);refine bx (cs:=#[.int .i64 a2_0,.int .i64 a2_1]) (t:=73) ?_;intro gb291 hg w26 hbox hb;have BK291:=Aside0.mk (hbox);have GW291:=zb hg;have GE291:=zb hg;replace HB:=sb hb;have NB289_291:=nl BK289 hg;have NB291_289:=ng BK289 hg;replace BK289:=kb BK289 hb;have NB290_291:=nl BK290 hg;have NB291_290:=ng BK290 hg;replace BK290:=kb BK290 hb;clear hb hbox hg;have hnb27:=NB290_289.out;have hnc27:=NB289_290.out;have hnb28:=NB290_291.out;have hnc28:=NB291_290.out;have hcz29_0:=ck BK290 0;have hcz29_1:=ck BK290 1;have hfz29_0:=blk_frozen BK290.out 0;have hfz29_1:=blk_frozen BK290.out 1;have hnb30:=NB289_291.out;have hnc30:=NB291_289.out;have hcz31_0:=ck BK289 0;have hcz31_1:=ck BK289 1;have hfz31_0:=blk_frozen BK289.out 0;have hfz31_1:=blk_frozen BK289.out 1;have hcz32_0:=ck BK291 0;have hcz32_1:=ck BK291 1;have hfz32_0:=blk_frozen BK291.out 0;have hfz32_1:=blk_frozen BK291.out 1))
   go_ret
   exact ⟨by first | rfl | (simp [errW_none,errW_some] <;> rfl) | (simp [*,errW_none,errW_some] <;> rfl),ib⟩
def impl_on.f (a0_0 : Int) (a0_1 : Int) (a1_0 : Int) (a1_1 : Int) (a2_0 : Int) (a2_1 : Int) : Option (Bool):=(impl_side.f a0_0 a0_1 a1_0 a1_1 a2_0 a2_1).bind fun t295 => (if t295 = 0 then ((impl_within.f a2_0 (mn a0_0 a1_0) (mx a0_0 a1_0)).bind fun t296 => (if t296 = true then ((impl_within.f a2_1 (mn a0_1 a1_1) (mx a0_1 a1_1)).bind fun t297 => (some t297)) else (some false))) else (some false))
theorem impl_on.calls (a0_0 : Int) (a0_1 : Int) (a1_0 : Int) (a1_1 : Int) (a2_0 : Int) (a2_1 : Int) (r : Bool) (w : World) (h : impl_on.f a0_0 a0_1 a1_0 a1_1 a2_0 a2_1 = some r) :
  Calls Try.prog 105 #[.agg #[.int .i64 a0_0,.int .i64 a0_1],.agg #[.int .i64 a1_0,.int .i64 a1_1],.agg #[.int .i64 a2_0,.int .i64 a2_1]] w fun e w' => e = .returned (.bool r) ∧ Below w.heap.size w w':=by
 have hu73:=Try.underlying73
 have HB:=Aside0.mk (Below.refl w.heap.size w)
 have H : ((impl_side.f a0_0 a0_1 a1_0 a1_1 a2_0 a2_1).bind fun t295 => (if t295 = 0 then ((impl_within.f a2_0 (mn a0_0 a1_0) (mx a0_0 a1_0)).bind fun t296 => (if t296 = true then ((impl_within.f a2_1 (mn a0_1 a1_1) (mx a0_1 a1_1)).bind fun t297 => (some t297)) else (some false))) else (some false))) = some r:=h
 clear h
 replace H:=bE.mp H
 obtain ⟨t295,A40,H⟩:=H
 replace H : (if t295 = 0 then ((impl_within.f a2_0 (mn a0_0 a1_0) (mx a0_0 a1_0)).bind fun t296 => (if t296 = true then ((impl_within.f a2_1 (mn a0_1 a1_1) (mx a0_1 a1_1)).bind fun t297 => (some t297)) else (some false))) else (some false)) = some r:=H
 have A4:=Aside0.mk A40
 clear A40
 by_cases c5 : t295 = 0
 ·rw [if_pos c5] at H
  have c5b0 : (t295 == 0) = true:=beq_iff_eq.mpr c5
  have c5b1 : (t295 != 0) = false:=bne_eq_false_iff_eq.mpr c5
  clear c5
  obtain ⟨ji6,hji6⟩ : ∃ j_ : Int,(mn a0_0 a1_0) = j_:=⟨_,rfl⟩
  replace H : ((impl_within.f a2_0 (ji6) (mx a0_0 a1_0)).bind fun t296 => (if t296 = true then ((impl_within.f a2_1 (mn a0_1 a1_1) (mx a0_1 a1_1)).bind fun t297 => (some t297)) else (some false))) = some r:=by first | (rw [hji6] at H;exact H) | (simp only [hji6] at H ⊢;exact H)
  (try rw [hji6] at A4)
  have hji6_ : (if a1_0 < a0_0 then a1_0 else a0_0) = ji6:=hji6
  obtain ⟨ji7,hji7⟩ : ∃ j_ : Int,(mx a0_0 a1_0) = j_:=⟨_,rfl⟩
  replace H : ((impl_within.f a2_0 (ji6) (ji7)).bind fun t296 => (if t296 = true then ((impl_within.f a2_1 (mn a0_1 a1_1) (mx a0_1 a1_1)).bind fun t297 => (some t297)) else (some false))) = some r:=by first | (rw [hji7] at H;exact H) | (simp only [hji7] at H ⊢;exact H)
  (try rw [hji7] at A4)
  have hji7_ : (if a0_0 < a1_0 then a1_0 else a0_0) = ji7:=hji7
  replace H:=bE.mp H
  obtain ⟨t296,A80,H⟩:=H
  replace H : (if t296 = true then ((impl_within.f a2_1 (mn a0_1 a1_1) (mx a0_1 a1_1)).bind fun t297 => (some t297)) else (some false)) = some r:=H
  have A8:=Aside0.mk A80
  clear A80
  by_cases c9 : t296 = true
  ·subst c9
   have H1 : ((impl_within.f a2_1 (mn a0_1 a1_1) (mx a0_1 a1_1)).bind fun t297 => (some t297)) = some r:=by rw [if_pos rfl] at H;exact H
   clear H
   have H:=H1
   clear H1
   obtain ⟨ji10,hji10⟩ : ∃ j_ : Int,(mn a0_1 a1_1) = j_:=⟨_,rfl⟩
   replace H : ((impl_within.f a2_1 (ji10) (mx a0_1 a1_1)).bind fun t297 => (some t297)) = some r:=by first | (rw [hji10] at H;exact H) | (simp only [hji10] at H ⊢;exact H)
   (try rw [hji10] at A4)
   (try rw [hji10] at A8)
   have hji10_ : (if a1_1 < a0_1 then a1_1 else a0_1) = ji10:=hji10
   obtain ⟨ji11,hji11⟩ : ∃ j_ : Int,(mx a0_1 a1_1) = j_:=⟨_,rfl⟩
   replace H : ((impl_within.f a2_1 (ji10) (ji11)).bind fun t297 => (some t297)) = some r:=by first | (rw [hji11] at H;exact H) | (simp only [hji11] at H ⊢;exact H)
   (try rw [hji11] at A4)
   (try rw [hji11] at A8)
   have hji11_ : (if a0_1 < a1_1 then a1_1 else a0_1) = ji11:=hji11
   replace H:=bE.mp H
   obtain ⟨t297,A120,H⟩:=H
   replace H : (some t297) = some r:=H
   have A12:=Aside0.mk A120
   clear A120
   obtain rfl:=Option.some.inj H
   go_enter Try.func105,Try.ntmps105
   go_wp2_with (first | ((with_reducible refine gate_dst (N:=3) rfl ?_);(try (refine gate_guard (by rfl) ?_;dsimp only));refine bx (cs:=#[.int .i64 a0_0,.int .i64 a0_1]) (t:=73) ?_;intro gb292 hg w13 hbox hb;have BK292:=Aside0.mk (hbox);have GW292:=zb hg;have GE292:=zb hg;replace HB:=sb hb;clear hb hbox hg) | ((with_reducible refine gate_dst (N:=4) rfl ?_);(try (refine gate_guard (by rfl) ?_;dsimp only));refine bx (cs:=#[.int .i64 a1_0,.int .i64 a1_1]) (t:=73) ?_;intro gb293 hg w14 hbox hb;have BK293:=Aside0.mk (hbox);have GW293:=zb hg;have GE293:=zb hg;replace HB:=sb hb;have NB292_293:=nl BK292 hg;have NB293_292:=ng BK292 hg;replace BK292:=kb BK292 hb;clear hb hbox hg) | ((with_reducible refine gate_dst (N:=5) rfl ?_);(try (refine gate_guard (by rfl) ?_;dsimp only));refine bx (cs:=#[.int .i64 a2_0,.int .i64 a2_1]) (t:=73) ?_;intro gb294 hg w15 hbox hb;have BK294:=Aside0.mk (hbox);have GW294:=zb hg;have GE294:=zb hg;replace HB:=sb hb;have NB292_294:=nl BK292 hg;have NB294_292:=ng BK292 hg;replace BK292:=kb BK292 hb;have NB293_294:=nl BK293 hg;have NB294_293:=ng BK293 hg;replace BK293:=kb BK293 hb;clear hb hbox hg;have hnb16:=NB292_293.out;have hnc16:=NB293_292.out;have hnb17:=NB292_294.out;have hnc17:=NB294_292.out;have hcz18_0:=ck BK292 0;have hcz18_1:=ck BK292 1;have hfz18_0:=blk_frozen BK292.out 0;have hfz18_1:=blk_frozen BK292.out 1;have hnb19:=NB293_294.out;have hnc19:=NB294_293.out;have hcz20_0:=ck BK293 0;have hcz20_1:=ck BK293 1;have hfz20_0:=blk_frozen BK293.out 0;have hfz20_1:=blk_frozen BK293.out 1;have hcz21_0:=ck BK294 0;have hcz21_1:=ck BK294 1;have hfz21_0:=blk_frozen BK294.out 0;have hfz21_1:=blk_frozen BK294.out 1) | ((with_reducible refine gate_callee (f:=147) rfl ?_);refine goesL_ (some 10) rfl rfl Try.func147 (by kernel_rfl) rfl #[.agg #[.int .i64 a0_0,.int .i64 a0_1],.agg #[.int .i64 a1_0,.int .i64 a1_1],.agg #[.int .i64 a2_0,.int .i64 a2_1]] rfl (by (try simp only [mT,mC,mN]);first | done | rfl | (simp only [lD,lT];rfl)) ?_;(with_reducible refine (impl_side.calls a0_0 a0_1 a1_0 a1_1 a2_0 a2_1 t295 _ A4.out).mono ?_);rintro e w22 ⟨rfl,hb⟩;refine ⟨_,rfl,?_⟩;replace BK292:=kb BK292 hb;replace BK293:=kb BK293 hb;replace BK294:=kb BK294 hb;replace HB:=sb hb;(try clear hb);(try clear hb2);(try clear hk);(try clear hi);have hcz23_0:=ck BK294 0;have hcz23_1:=ck BK294 1;have hfz23_0:=blk_frozen BK294.out 0;have hfz23_1:=blk_frozen BK294.out 1;have hcz24_0:=ck BK292 0;have hcz24_1:=ck BK292 1;have hfz24_0:=blk_frozen BK292.out 0;have hfz24_1:=blk_frozen BK292.out 1;have hcz25_0:=ck BK293 0;have hcz25_1:=ck BK293 1;have hfz25_0:=blk_frozen BK293.out 0;have hfz25_1:=blk_frozen BK293.out 1) | (go_at_call 62;(with_reducible refine (impl_within.calls a2_0 ji6 ji7 true _ A8.out).mono ?_);rintro e w' ⟨rfl,⟨nd,rfl⟩⟩) | (go_at_call 62;(with_reducible refine (impl_within.calls a2_1 ji10 ji11 t297 _ A12.out).mono ?_);rintro e w' ⟨rfl,⟨nd,rfl⟩⟩))
   go_ret
   exact ⟨by first | rfl | (simp [errW_none,errW_some] <;> rfl) | (simp only [← hji6,← hji7,← hji10,← hji11];first | rfl | (simp [errW_none,errW_some] <;> rfl)) | (simp [*,errW_none,errW_some] <;> rfl),ib⟩
  ·replace c9:=Bool.eq_false_iff.mpr c9
   subst c9
   have H1 : (some false) = some r:=by rw [if_neg (show ¬ (false = true) by decide)] at H;exact H
   clear H
   have H:=H1
   clear H1
   obtain rfl:=Option.some.inj H
   go_enter Try.func105,Try.ntmps105
   go_wp2_with (first | ((with_reducible refine gate_dst (N:=3) rfl ?_);(try (refine gate_guard (by rfl) ?_;dsimp only));refine bx (cs:=#[.int .i64 a0_0,.int .i64 a0_1]) (t:=73) ?_;intro gb292 hg w26 hbox hb;have BK292:=Aside0.mk (hbox);have GW292:=zb hg;have GE292:=zb hg;replace HB:=sb hb;clear hb hbox hg) | ((with_reducible refine gate_dst (N:=4) rfl ?_);(try (refine gate_guard (by rfl) ?_;dsimp only));refine bx (cs:=#[.int .i64 a1_0,.int .i64 a1_1]) (t:=73) ?_;intro gb293 hg w27 hbox hb;have BK293:=Aside0.mk (hbox);have GW293:=zb hg;have GE293:=zb hg;replace HB:=sb hb;have NB292_293:=nl BK292 hg;have NB293_292:=ng BK292 hg;replace BK292:=kb BK292 hb;clear hb hbox hg) | ((with_reducible refine gate_dst (N:=5) rfl ?_);(try (refine gate_guard (by rfl) ?_;dsimp only));refine bx (cs:=#[.int .i64 a2_0,.int .i64 a2_1]) (t:=73) ?_;intro gb294 hg w28 hbox hb;have BK294:=Aside0.mk (hbox);have GW294:=zb hg;have GE294:=zb hg;replace HB:=sb hb;have NB292_294:=nl BK292 hg;have NB294_292:=ng BK292 hg;replace BK292:=kb BK292 hb;have NB293_294:=nl BK293 hg;have NB294_293:=ng BK293 hg;replace BK293:=kb BK293 hb;clear hb hbox hg;have hnb29:=NB292_293.out;have hnc29:=NB293_292.out;have hnb30:=NB292_294.out;have hnc30:=NB294_292.out;have hcz31_0:=ck BK292 0;have hcz31_1:=ck BK292 1;have hfz31_0:=blk_frozen BK292.out 0;have hfz31_1:=blk_frozen BK292.out 1;have hnb32:=NB293_294.out;have hnc32:=NB294_293.out;have hcz33_0:=ck BK293 0;have hcz33_1:=ck BK293 1;have hfz33_0:=blk_frozen BK293.out 0;have hfz33_1:=blk_frozen BK293.out 1;have hcz34_0:=ck BK294 0;have hcz34_1:=ck BK294 1;have hfz34_0:=blk_frozen BK294.out 0;have hfz34_1:=blk_frozen BK294.out 1) | ((with_reducible refine gate_callee (f:=147) rfl ?_);refine goesL_ (some 10) rfl rfl Try.func147 (by kernel_rfl) rfl #[.agg #[.int .i64 a0_0,.int .i64 a0_1],.agg #[.int .i64 a1_0,.int .i64 a1_1],.agg #[.int .i64 a2_0,.int .i64 a2_1]] rfl (by (try simp only [mT,mC,mN]);first | done | rfl | (simp only [lD,lT];rfl)) ?_;(with_reducible refine (impl_side.calls a0_0 a0_1 a1_0 a1_1 a2_0 a2_1 t295 _ A4.out).mono ?_);rintro e w35 ⟨rfl,hb⟩;refine ⟨_,rfl,?_⟩;replace BK292:=kb BK292 hb;replace BK293:=kb BK293 hb;replace BK294:=kb BK294 hb;replace HB:=sb hb;(try clear hb);(try clear hb2);(try clear hk);(try clear hi);have hcz36_0:=ck BK294 0;have hcz36_1:=ck BK294 1;have hfz36_0:=blk_frozen BK294.out 0;have hfz36_1:=blk_frozen BK294.out 1;have hcz37_0:=ck BK292 0;have hcz37_1:=ck BK292 1;have hfz37_0:=blk_frozen BK292.out 0;have hfz37_1:=blk_frozen BK292.out 1;have hcz38_0:=ck BK293 0;have hcz38_1:=ck BK293 1;have hfz38_0:=blk_frozen BK293.out 0;have hfz38_1:=blk_frozen BK293.out 1) | (go_at_call 62;(with_reducible refine (impl_within.calls a2_0 ji6 ji7 false _ A8.out).mono ?_);rintro e w' ⟨rfl,⟨nd,rfl⟩⟩))
   go_ret
   exact ⟨by first | rfl | (simp [errW_none,errW_some] <;> rfl) | (simp only [← hji6,← hji7];first | rfl | (simp [errW_none,errW_some] <;> rfl)) | (simp [*,errW_none,errW_some] <;> rfl),ib⟩
 ·rw [if_neg c5] at H
  have c5b0 : (t295 == 0) = false:=beq_eq_false_iff_ne.mpr c5
  have c5b1 : (t295 != 0) = true:=bne_iff_ne.mpr c5
  obtain rfl:=Option.some.inj H
  go_enter Try.func105,Try.ntmps105
  go_wp2_with (first | ((with_reducible refine gate_dst (N:=3) rfl ?_);(try (refine gate_guard (by rfl) ?_;dsimp only));refine bx (cs:=#[.int .i64 a0_0,.int .i64 a0_1]) (t:=73) ?_;intro gb292 hg w39 hbox hb;have BK292:=Aside0.mk (hbox);have GW292:=zb hg;have GE292:=zb hg;replace HB:=sb hb;clear hb hbox hg) | ((with_reducible refine gate_dst (N:=4) rfl ?_);(try (refine gate_guard (by rfl) ?_;dsimp only));refine bx (cs:=#[.int .i64 a1_0,.int .i64 a1_1]) (t:=73) ?_;intro gb293 hg w40 hbox hb;have BK293:=Aside0.mk (hbox);have GW293:=zb hg;have GE293:=zb hg;replace HB:=sb hb;have NB292_293:=nl BK292 hg;have NB293_292:=ng BK292 hg;replace BK292:=kb BK292 hb;clear hb hbox hg) | ((with_reducible refine gate_dst (N:=5) rfl ?_);(try (refine gate_guard (by rfl) ?_;dsimp only));refine bx (cs:=#[.int .i64 a2_0,.int .i64 a2_1]) (t:=73) ?_;intro gb294 hg w41 hbox hb;have BK294:=Aside0.mk (hbox);have GW294:=zb hg;have GE294:=zb hg;replace HB:=sb hb;have NB292_294:=nl BK292 hg;have NB294_292:=ng BK292 hg;replace BK292:=kb BK292 hb;have NB293_294:=nl BK293 hg;have NB294_293:=ng BK293 hg;replace BK293:=kb BK293 hb;clear hb hbox hg;have hnb42:=NB292_293.out;have hnc42:=NB293_292.out;have hnb43:=NB292_294.out;have hnc43:=NB294_292.out;have hcz44_0:=ck BK292 0;have hcz44_1:=ck BK292 1;have hfz44_0:=blk_frozen BK292.out 0;have hfz44_1:=blk_frozen BK292.out 1;have hnb45:=NB293_294.out;have hnc45:=NB294_293.out;have hcz46_0:=ck BK293 0;have hcz46_1:=ck BK293 1;have hfz46_0:=blk_frozen BK293.out 0;have hfz46_1:=blk_frozen BK293.out 1;have hcz47_0:=ck BK294 0;have hcz47_1:=ck BK294 1;have hfz47_0:=blk_frozen BK294.out 0;have hfz47_1:=blk_frozen BK294.out 1) | ((with_reducible refine gate_callee (f:=147) rfl ?_);refine goesL_ (some 10) rfl rfl Try.func147 (by kernel_rfl) rfl #[.agg #[.int .i64 a0_0,.int .i64 a0_1],.agg #[.int .i64 a1_0,.int .i64 a1_1],.agg #[.int .i64 a2_0,.int .i64 a2_1]] rfl (by (try simp only [mT,mC,mN]);first | done | rfl | (simp only [lD,lT];rfl)) ?_;(with_reducible refine (impl_side.calls a0_0 a0_1 a1_0 a1_1 a2_0 a2_1 t295 _ A4.out).mono ?_);rintro e w48 ⟨rfl,hb⟩;refine ⟨_,rfl,?_⟩;replace BK292:=kb BK292 hb;replace BK293:=kb BK293 hb;replace BK294:=kb BK294 hb;replace HB:=sb hb;(try clear hb);(try clear hb2);(try clear hk);(try clear hi)))
  go_ret
  exact ⟨by first | rfl | (simp [errW_none,errW_some] <;> rfl) | (simp [*,errW_none,errW_some] <;> rfl),ib⟩
end Go.Proofs.Ytnnchaggdnlfmaa.PFnExactFacesOfEdge
