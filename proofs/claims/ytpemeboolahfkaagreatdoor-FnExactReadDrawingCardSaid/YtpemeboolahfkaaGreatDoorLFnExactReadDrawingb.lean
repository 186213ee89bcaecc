/- The plain law: what FnExactReadDrawing computes is true at every input. -/
import Derived.Test.YtpemeboolahfkaaGreatDoorLFnExactReadDrawinga
namespace Go.Proofs.YtpemeboolahfkaaGreatDoor.Pure
open Go.RowKit Go.Proofs.YtpemeboolahfkaaGreatDoor.PFnExactReadDrawing Go.Proofs.YtpemeboolahfkaaGreatDoorW.PrintWords Go.Proofs.YtpemeboolahfkaaGreatDoorW.PrintLast Go.Proofs.YtpemeboolahfkaaGreatDoorW.PrintMore
set_option linter.unusedVariables false
set_option linter.unusedSimpArgs false

theorem spec_l02Ok_eq (x y : Int) : spec_l02Ok.f x y = some (okP x y):=by
 unfold spec_l02Ok.f
 simp only [spec_l00In_eq]
 rw [Option.bind_some]
 exact ok_bind x y _ (fun _ => rfl)

theorem spec_meet_eq (a0 a1 b0 b1 c0 c1 d0 d1 : Int) : spec_l03Meet.f a0 a1 b0 b1 c0 c1 d0 d1 = some (touchW a0 a1 b0 b1 c0 c1 d0 d1):=by
 unfold spec_l03Meet.f touchW
 simp only [spec_crosses_eq,spec_on_eq]
 exact touch_fold _ _ _ _ _

theorem area_lock (p : List S36) (hn : p.length ≤ 1000000000) : ∀ (k : Nat) (s i : Int),0 ≤ i → spec_l03Area.l0 k p s i = impl_doubled.l0 k p s p (p.length : Int) i
 | 0,_,_,_ => rfl
 | k + 1,s,i,h0 => by
  simp only [spec_l03Area.l0,impl_doubled.l0]
  by_cases hi : i < (p.length : Int)
  ·rw [w64 (x:=i + 1) (by omega) (by omega),area_lock p hn k _ (i + 1) (by omega)]
   by_cases hz : (p.length : Int) = 0
   ·simp only [hi,h0,hz,if_true,if_false]
    simp
   ·simp only [hi,h0,hz,if_true,if_false]
  ·rw [if_neg hi,if_neg hi]
theorem area_lock_f (p : List S36) (hn : p.length ≤ 1000000000) (k : Nat) : spec_l03Area.f k p = impl_doubled.f k p:=area_lock p hn k 0 0 (Int.le_refl _)
theorem vp_lock (p : List S36) (hn : p.length ≤ 1000000000) : ∀ k : Nat,(∀ i : Int,spec_l03Ok.l1 k p (p.length : Int) i = impl_ValidPolygon.l0 k p (p.length : Int) (p.length : Int) i) ∧
  (∀ (i : Int) (b : Bool) (c0 c1 c2 c3 : Int),spec_l03Ok.j3 k p (p.length : Int) i b c0 c1 c2 c3 = impl_ValidPolygon.j2 k p (p.length : Int) i (p.length : Int) i b c0 c1 c2 c3) ∧
  (∀ (i j c0 c1 c2 c3 : Int),spec_l03Ok.l2 k p (p.length : Int) i j c0 c1 c2 c3 = impl_ValidPolygon.l1 k p (p.length : Int) i j (p.length : Int) i c0 c1 c2 c3)
 | 0 => ⟨fun _ => rfl,fun _ _ _ _ _ _ => rfl,fun _ _ _ _ _ _ => rfl⟩
 | k + 1 => by
  obtain ⟨h1,h2,h3⟩:=vp_lock p hn k
  refine ⟨fun i => ?_,fun i b c0 c1 c2 c3 => ?_,fun i j c0 c1 c2 c3 => ?_⟩
  ·simp only [spec_l03Ok.l1,impl_ValidPolygon.l0,spec_on_eq,impl_on_eq,area_lock_f p hn,h2]
  ·simp only [spec_l03Ok.j3,impl_ValidPolygon.j2,h3]
  ·simp only [spec_l03Ok.l2,impl_ValidPolygon.l1,spec_meet_eq,impl_touching_eq,h1,h3]
theorem spec_ok_loop (p : List S36) (hl : p.length ≤ 24) (K : Nat) (r : Bool) (hr : ∀ k,K ≤ k → spec_l03Ok.l1 k p (p.length : Int) 0 = some r) : ∀ (d k i : Nat),p.length - i ≤ d → K + d + 1 ≤ k → spec_l03Ok.l0 k p (p.length : Int) i = some (((p.drop i).all fun s => okP s.f0 s.f1) && r)
 | d,0,i,h1,h2 => absurd h2 (by omega)
 | d,k + 1,i,h1,h2 => by
  simp only [spec_l03Ok.l0,spec_l02Ok_eq,Option.bind_some]
  by_cases h : i < p.length
  ·rw [if_pos (by omega),if_pos (by omega),if_pos (by omega),w1 (by omega),spec_ok_loop p hl K r hr (d - 1) k (i + 1) (by omega) (by omega),List.drop_eq_getElem_cons h,List.all_cons,rdN]
   have e : p.getD i z36 = p[i]:=by
    rw [List.getD_eq_getElem?_getD,List.getElem?_eq_getElem h]
    rfl
   rw [e]
   cases okP (p[i]).f0 (p[i]).f1 <;> simp
  ·rw [if_neg (by omega),List.drop_eq_nil_of_le (by omega),hr k (by omega)]
   rfl
/-- The reference tells the same. -/
theorem spec_valid_eq (p : List S36) (hl : p.length ≤ 1048576) : ∃ b,(∀ k,1000 ≤ k → spec_l03Ok.f k p = some b) ∧ (∀ k,1000 ≤ k → impl_ValidPolygon.f k p = some b) ∧ (b = true ↔ Valid p):=by
 have j1 : ∀ k,spec_l03Ok.j0 (k + 1) p (p.length : Int) true = some false:=fun k => by simp only [spec_l03Ok.j0,if_true]
 obtain ⟨b,hb,hv⟩:=impl_valid_eq p hl
 refine ⟨b,?_,hb,hv⟩
 have key : ∀ b',(∀ k,1000 ≤ k → spec_l03Ok.f k p = some b') → (b' = true ↔ Valid p) → ∀ k,1000 ≤ k → spec_l03Ok.f k p = some b:=by
  intro b' h1 h2 k hk
  rw [h1 k hk]
  have : b' = b:=by
   rw [Bool.eq_iff_iff,h2,hv]
  rw [this]
 by_cases h1 : p.length < 3
 ·refine key false (fun k hk => ?_) ⟨fun h => (by cases h),fun h => absurd h.1 (by omega)⟩
  obtain ⟨k,rfl⟩ : ∃ m,k = m + 1:=⟨k - 1,by omega⟩
  unfold spec_l03Ok.f
  rw [if_pos (by omega),j1]
 ·by_cases h2 : p.length > 24
  ·refine key false (fun k hk => ?_) ⟨fun h => (by cases h),fun h => absurd h.2.1 (by omega)⟩
   obtain ⟨k,rfl⟩ : ∃ m,k = m + 1:=⟨k - 1,by omega⟩
   unfold spec_l03Ok.f
   rw [if_neg (by omega),decide_eq_true (by omega),j1]
  ·cases hall : (p.all fun s => okP s.f0 s.f1) with
   | false =>
    refine key false (fun k hk => ?_) ⟨fun h => (by cases h),fun h => ?_⟩
    ·obtain ⟨k,rfl⟩ : ∃ m,k = m + 1:=⟨k - 1,by omega⟩
     unfold spec_l03Ok.f
     rw [if_neg (by omega),decide_eq_false (by omega)]
     simp only [spec_l03Ok.j0,Bool.false_eq_true,if_false]
     -- the loop over the points ends before the edges
     have lp : ∀ (d k i : Nat),p.length - i ≤ d → d + 1 ≤ k → ((p.drop i).all fun s => okP s.f0 s.f1) = false → spec_l03Ok.l0 k p (p.length : Int) i = some false:=by
      intro d
      induction d with
      | zero =>
       intro k i h1 h2 h3
       rw [List.drop_eq_nil_of_le (by omega)] at h3
       cases h3
      | succ d ih =>
       intro k i h1 h2 h3
       obtain ⟨k,rfl⟩ : ∃ m,k = m + 1:=⟨k - 1,by omega⟩
       by_cases h : i < p.length
       ·simp only [spec_l03Ok.l0,spec_l02Ok_eq,Option.bind_some]
        rw [if_pos (by omega),if_pos (by omega),if_pos (by omega),w1 (by omega),rdN]
        have e : p.getD i z36 = p[i]:=by
         rw [List.getD_eq_getElem?_getD,List.getElem?_eq_getElem h]
         rfl
        rw [List.drop_eq_getElem_cons h,List.all_cons] at h3
        rw [e]
        cases ho : okP (p[i]).f0 (p[i]).f1 with
        | false => simp
        | true =>
         rw [ho,Bool.true_and] at h3
         rw [if_pos rfl]
         exact ih k (i + 1) (by omega) (by omega) h3
       ·rw [List.drop_eq_nil_of_le (by omega)] at h3
        cases h3
     exact lp p.length k 0 (by omega) (by omega) hall
    ·have:=h.2.2.1
     rw [hall] at this
     cases this
   | true =>
    have hr:=inR_of_all hall
    obtain ⟨r,h3,h4⟩:=impl_vp_outer hr (by omega) (by omega) 24 0 (by omega) (by omega)
    refine key r (fun k hk => ?_) (h4.trans ⟨fun h => ⟨by omega,by omega,hall,fun i hi => h.1 i (by omega) hi,h.2⟩,fun h => ⟨fun m _ hm => h.2.2.2.1 m hm,h.2.2.2.2⟩⟩)
    obtain ⟨k,rfl⟩ : ∃ m,k = m + 1:=⟨k - 1,by omega⟩
    unfold spec_l03Ok.f
    rw [if_neg (by omega),decide_eq_false (by omega)]
    simp only [spec_l03Ok.j0,Bool.false_eq_true,if_false]
    have:=spec_ok_loop p (by omega) 746 r (fun k hk => by rw [(vp_lock p (by omega) k).1];exact h3 k hk) p.length k 0 (by omega) (by omega)
    rw [List.drop_zero,hall,Bool.true_and] at this
    exact this
-- cut here

end Go.Proofs.YtpemeboolahfkaaGreatDoor.Pure
