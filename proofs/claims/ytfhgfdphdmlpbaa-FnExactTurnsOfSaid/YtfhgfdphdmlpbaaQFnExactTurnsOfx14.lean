/- Contracts of functions that FnExactTurnsOf reaches, out of the lines of the kit's print. -/
import Derived.Test.YtfhgfdphdmlpbaaQFnExactTurnsOfx0
import Derived.Test.YtfhgfdphdmlpbaaQFnExactTurnsOfx1
import Derived.Test.YtfhgfdphdmlpbaaQFnExactTurnsOfx12
import Derived.Test.YtfhgfdphdmlpbaaQFnExactTurnsOfx13
namespace Go.Proofs.Ytfhgfdphdmlpbaa.PFnExactTurnsOf
open Go.RowKit Go.Proofs.YtfhgfdphdmlpbaaW.PrintWords Go.Proofs.YtfhgfdphdmlpbaaW.PrintLast Go.Proofs.YtfhgfdphdmlpbaaW.PrintMore
open Bool renaming true → tT, false → fF
open Go.World renaming block_lt_of_cell? → bL
attribute [local go_sem] max2_int min2_int max_two min_two max_three min_three max_four min_four
set_option linter.unusedVariables false
set_option linter.unusedSimpArgs false
attribute [local go_sem high] eqA51
def impl_Tail.l0 (m : Nat) : Nat → List (S51) → Int → Int → Option ((List (S51)))
 | 0, _, _, _ => none
 | k + 1, x0, x2, x3 => if x2 < x3 then (if 0 ≤ x3 then (if x3 < (m : Int) then (if 0 ≤ x2 then (if x2 < (m : Int) then (impl_Tail.l0 m k ((x0.set (x2 + 1 : Int).toNat (⟨(rd_T51 x0 (x3 + 1)).f0, (rd_T51 x0 (x3 + 1)).f1⟩ : S51)).set (x3 + 1 : Int).toNat (⟨(rd_T51 x0 (x2 + 1)).f0, (rd_T51 x0 (x2 + 1)).f1⟩ : S51)) (wrap64 (x2 + 1)) (wrap64 (x3 - 1))) else (none)) else (none)) else (none)) else (none)) else (some x0)
def impl_Tail.f (k : Nat) (m : Nat) (l0 : List (S51)) : Option ((List (S51))) := impl_Tail.l0 m k l0 0 (wrap64 ((m : Int) - 1))
theorem impl_Tail.mono_l (m : Nat) : ∀ k, (∀ y0 y1 y2, LeO (impl_Tail.l0 m k y0 y1 y2) (impl_Tail.l0 m (k + 1) y0 y1 y2))
 | 0 => fun _ _ _ r h => by simp [impl_Tail.l0] at h
 | k + 1 => by
  have ih0 := impl_Tail.mono_l m k
  ·intro y0 y1 y2
   unfold impl_Tail.l0
   repeat' first
   | (with_reducible exact ih0 _ _ _)
   | (with_reducible exact LeO.refl _)
   | (with_reducible exact LeO.none _)
   | (with_reducible refine LeO.ite ?_ ?_)
   | exact ih0 _ _ _
   | exact LeO.none _
   | refine LeO.ite ?_ ?_
theorem impl_Tail.mono (m : Nat) : ∀ a0 k, LeO (impl_Tail.f k m a0) (impl_Tail.f (k + 1) m a0) := by
 intro a0 k
 exact impl_Tail.mono_l m k _ _ _
def impl_Tail.T3 : Bool × List (List Nat × List Nat) := (true, [([], []), ([], []), ([], []), ([], []), ([], []), ([], []), ([4, 5], [4, 5]), ([6], [6]), ([], []), ([], []), ([8, 9], [8, 9]), ([10], [10]), ([0, 1, 0, 1, 4, 5, 6, 7, 11], [0, 1]), ([12, 7, 0, 1, 4, 5, 6, 7, 11], [7, 12]), ([2, 3, 0, 1, 2, 3, 4, 5, 6, 7, 8, 9, 10, 11, 12, 13], [2, 3]), ([14, 11, 13, 0, 1, 2, 3, 4, 5, 6, 7, 8, 9, 10, 11, 12, 13], [11, 14])])
def impl_Tail.B3 : List Nat := [0, 0, 0, 0, 0, 0, 48, 112, 0, 0, 768, 1792, 4083, 8179, 16383, 32767]
theorem impl_Tail.tab3 : rtab .any (opsOf Try.f54 3) = impl_Tail.T3 := by kernel_rfl
theorem impl_Tail.bits3 : waitsOk impl_Tail.T3.2 impl_Tail.B3 = true := by kernel_rfl
set_option maxHeartbeats 8000000 in
set_option maxRecDepth 100000 in
theorem impl_Tail.calls (k : Nat) (P0_ : Nat → Prop) (go co m cm : Nat) (l0 : List (S51)) (r : List (S51)) (w0 w : World) (hB : Below w0.heap.size w0 w) (ho0 : Kd.R k51 51 w w0.heap.size P0_ (.slice (some ⟨go, 0, none⟩) l0.length co) l0) (hm : l0.length = m + 1) (h : impl_Tail.f k m l0 = some r) :
  Calls Try.prog 54 #[.slice (some ⟨go, 2, none⟩) m cm] w fun e w' => e = .returned (.tuple #[]) ∧ Kd.R k51 51 w' w0.heap.size (fun k_ => (P0_ k_ ∨ w.heap.size ≤ k_)) (.slice (some ⟨go, 0, none⟩) l0.length co) r ∧ Below w0.heap.size w0 w' ∧ Kept w w' (fun k_ => P0_ k_) := by
 have hu51 := Try.underlying51
 have HO0 := Aside0.mk (show Kd.R k51 51 w w0.heap.size (fun k_ => (P0_ k_ ∨ w.heap.size ≤ k_)) (.slice (some ⟨go, 0, none⟩) l0.length co) l0 from Kd.R_mono ho0 (fun k_ hk => (.inl hk)))
 have HK := Aside0.mk (Kept.refl w (fun k_ => P0_ k_))
 have HW0 := Aside0.mk hB.size
 have HB := Aside0.mk hB
 have HM := Aside0.mk hm
 have H' : Aside0 (impl_Tail.l0 m k l0 0 (wrap64 ((m : Int) - 1)) = some r) := ⟨h⟩
 clear hB ho0 hm h
 go_enter Try.func54, Try.ntmps54
 go_wp2
 go_loopg [2, 3] k (fun kq v2 v3 w' => ∃ (x0_1 : List (S51)) (x2_1 : Int) (x3_1 : Int), v2 = .int .i64 x2_1 ∧ v3 = .int .i64 x3_1 ∧ Aside0 (impl_Tail.l0 m kq x0_1 x2_1 x3_1 = some r) ∧ Aside0 (kq ≤ k) ∧ Aside0 (Kd.R k51 51 w' w0.heap.size (fun k_ => (P0_ k_ ∨ w.heap.size ≤ k_)) (.slice (some ⟨go, 0, none⟩) l0.length co) x0_1) ∧ Aside0 (Kept w w' (fun k_ => P0_ k_)) ∧ Aside0 (Below w0.heap.size w0 w'))
 case atStart => exact ⟨(l0), (0), (wrap64 ((m : Int) - 1)), (by first | rfl | (simp; done) | (simp [*]; done)), (by first | rfl | (simp; done) | (simp [*]; done)), H', ⟨Nat.le_refl _⟩, ⟨by (with_reducible repeat (first | apply Kd.R_alloc | apply Kd.R_drewN | apply Kd.R_drew)); exact HO0.out⟩, ⟨by repeat (first | (with_reducible first | exact HK.out | apply Kept.alloc | apply Kept.drewN | apply Kept.drew) | exact HK.out)⟩, ⟨by repeat (first | (with_reducible first | exact HB.out | apply below_alloc | apply pw_below_drewN | apply below_drew1) | exact HB.out)⟩⟩
 case round =>
  clear H'
  obtain ⟨x0_1, x2_1, x3_1, rfl, rfl, HA, HK1, HO_0, HK, HB⟩ := hrel
  cases gk with
  | zero => exact absurd HA.out (by simp [impl_Tail.l0])
  | succ k1 =>
   have H := HA.out
   clear HA
   simp only [impl_Tail.l0] at H
   by_cases c3 : x2_1 < x3_1
   ·rw [if_pos c3] at H
    have c3b0 : decide (x2_1 < x3_1) = true := decide_eq_true c3
    by_cases c4 : 0 ≤ x3_1
    ·rw [if_pos c4] at H
     have c4b0 : decide (0 ≤ x3_1) = true := decide_eq_true c4
     by_cases c5 : x3_1 < (m : Int)
     ·rw [if_pos c5] at H
      have c5b0 : decide (x3_1 < (m : Int)) = true := decide_eq_true c5
      by_cases c6 : 0 ≤ x2_1
      ·rw [if_pos c6] at H
       have c6b0 : decide (0 ≤ x2_1) = true := decide_eq_true c6
       by_cases c7 : x2_1 < (m : Int)
       ·rw [if_pos c7] at H
        have c7b0 : decide (x2_1 < (m : Int)) = true := decide_eq_true c7
        obtain ⟨y276, hy276⟩ : ∃ y_ : List (S51), y_ = (x0_1.set (x2_1 + 1 : Int).toNat (⟨(rd_T51 x0_1 (x3_1 + 1)).f0, (rd_T51 x0_1 (x3_1 + 1)).f1⟩ : S51)) := ⟨_, rfl⟩
        rw [← hy276] at H
        obtain ⟨y277, hy277⟩ : ∃ y_ : List (S51), y_ = (y276.set (x3_1 + 1 : Int).toNat (⟨(rd_T51 x0_1 (x2_1 + 1)).f0, (rd_T51 x0_1 (x2_1 + 1)).f1⟩ : S51)) := ⟨_, rfl⟩
        rw [← hy277] at H
        have H' := Aside0.mk H
        clear H
        try go_wp2
        have n0_ := Aside0.mk (Kd.R_drew HO_0.out)
        have n1_ := Aside0.mk (Kept.drew HK.out)
        have n2_ := Aside0.mk (below_drew1 HB.out)
        clear HO_0 HK HB
        have HO_0 := n0_
        have HK := n1_
        have HB := n2_
        clear n0_ n1_ n2_
        have gb8 := (Kd.R_base HO_0.out) go rfl
        have GB8 := Aside0.mk gb8
        clear gb8
        have HMgo8 := Aside0.mk (show (P0_ go ∨ w.heap.size ≤ go) from (HO_0.out.1 _ rfl))
        have hlm := HM.out
        have e2 : (x2_1 + 1).toNat * k51.sz + 0 = 2 + x2_1.toNat * 2 := by show (x2_1 + 1).toNat * 2 + 0 = _; omega
        have e2' : (x2_1 + 1).toNat * k51.sz + 1 = 2 + x2_1.toNat * 2 + 1 := by show (x2_1 + 1).toNat * 2 + 1 = _; omega
        have e3 : (x3_1 + 1).toNat * k51.sz + 0 = 2 + x3_1.toNat * 2 := by show (x3_1 + 1).toNat * 2 + 0 = _; omega
        have e3' : (x3_1 + 1).toNat * k51.sz + 1 = 2 + x3_1.toNat * 2 + 1 := by show (x3_1 + 1).toNat * 2 + 1 = _; omega
        obtain ⟨ce8, hcl8, hM8, hcc8, hfr8⟩ := Kd.R_elem HO_0.out z51 (x2_1 + 1) (by omega) (by omega)
        obtain rfl := k51_openM hM8
        have hx8_0 : wr.drew.cell? ⟨go, 2 + x2_1.toNat * 2, none⟩ = some (.int .i64 ((rd_T51 x0_1 (x2_1 + 1)).f0)) := by have h_ := hcc8 0 _ rfl; rw [e2] at h_; exact h_
        have hx8_1 : wr.drew.cell? ⟨go, 2 + x2_1.toNat * 2 + 1, none⟩ = some (.int .i64 ((rd_T51 x0_1 (x2_1 + 1)).f1)) := by have h_ := hcc8 1 _ rfl; rw [e2'] at h_; exact h_
        have hf8_0 : wr.drew.frozen? ⟨go, 2 + x2_1.toNat * 2, none⟩ = false := by have h_ := hfr8 0; rw [e2] at h_; exact h_
        have hf8_1 : wr.drew.frozen? ⟨go, 2 + x2_1.toNat * 2 + 1, none⟩ = false := by have h_ := hfr8 1; rw [e2'] at h_; exact h_
        obtain ⟨ce7, hcl7, hM7, hcc7, hfr7⟩ := Kd.R_elem HO_0.out z51 (x3_1 + 1) (by omega) (by omega)
        obtain rfl := k51_openM hM7
        have hx7_0 : wr.drew.cell? ⟨go, 2 + x3_1.toNat * 2, none⟩ = some (.int .i64 ((rd_T51 x0_1 (x3_1 + 1)).f0)) := by have h_ := hcc7 0 _ rfl; rw [e3] at h_; exact h_
        have hx7_1 : wr.drew.cell? ⟨go, 2 + x3_1.toNat * 2 + 1, none⟩ = some (.int .i64 ((rd_T51 x0_1 (x3_1 + 1)).f1)) := by have h_ := hcc7 1 _ rfl; rw [e3'] at h_; exact h_
        have hf7_0 : wr.drew.frozen? ⟨go, 2 + x3_1.toNat * 2, none⟩ = false := by have h_ := hfr7 0; rw [e3] at h_; exact h_
        have hf7_1 : wr.drew.frozen? ⟨go, 2 + x3_1.toNat * 2 + 1, none⟩ = false := by have h_ := hfr7 1; rw [e3'] at h_; exact h_
        have hc7 : ∀ (W : World) (u : Value), (W.setCell ⟨go, 2 + x2_1.toNat * 2, none⟩ u).cell? ⟨go, 2 + x3_1.toNat * 2, none⟩ = W.cell? ⟨go, 2 + x3_1.toNat * 2, none⟩ := by intro W u; apply World.cell?_setCell_other; intro e_; injection e_; omega
        have hc7' : ∀ (W : World) (u : Value), (W.setCell ⟨go, 2 + x2_1.toNat * 2 + 1, none⟩ u).cell? ⟨go, 2 + x3_1.toNat * 2 + 1, none⟩ = W.cell? ⟨go, 2 + x3_1.toNat * 2 + 1, none⟩ := by intro W u; apply World.cell?_setCell_other; intro e_; injection e_; omega
        have HP11 := (Kd.R_seg HO_0.out (x2_1 + 1) (by omega) (by omega) (seg := [.int .i64 ((rd_T51 x0_1 (x3_1 + 1)).f0), .int .i64 ((rd_T51 x0_1 (x3_1 + 1)).f1)]) (j := 0) hcl8 hcc8 (show 2 ≤ 2 from by decide) (x' := (⟨(rd_T51 x0_1 (x3_1 + 1)).f0, (rd_T51 x0_1 (x3_1 + 1)).f1⟩ : S51)) (k51_mkM _ _ _ (⟨(rd_T51 x0_1 (x3_1 + 1)).f0, (rd_T51 x0_1 (x3_1 + 1)).f1⟩ : S51)) (fun _ hk => hk)).1
        rw [← hy276, e2] at HP11
        obtain ⟨ce9, hcl9, hM9, hcc9, hfr9⟩ := Kd.R_elem HP11 z51 (x3_1 + 1) (by omega) (by omega)
        obtain rfl := k51_openM hM9
        have hx9_0 : World.cell? _ ⟨go, 2 + x3_1.toNat * 2, none⟩ = some (.int .i64 ((rd_T51 y276 (x3_1 + 1)).f0)) := (congrArg (fun n => World.cell? _ ⟨go, n, none⟩) e3.symm).trans (hcc9 0 _ rfl)
        have hx9_1 : World.cell? _ ⟨go, 2 + x3_1.toNat * 2 + 1, none⟩ = some (.int .i64 ((rd_T51 y276 (x3_1 + 1)).f1)) := (congrArg (fun n => World.cell? _ ⟨go, n, none⟩) e3'.symm).trans (hcc9 1 _ rfl)
        have hf9_0 : World.frozen? _ ⟨go, 2 + x3_1.toNat * 2, none⟩ = false := (congrArg (fun n => World.frozen? _ ⟨go, n, none⟩) e3.symm).trans (hfr9 0)
        have hf9_1 : World.frozen? _ ⟨go, 2 + x3_1.toNat * 2 + 1, none⟩ = false := (congrArg (fun n => World.frozen? _ ⟨go, n, none⟩) e3'.symm).trans (hfr9 1)
        have HP12 := (Kd.R_seg HP11 (x3_1 + 1) (by omega) (by omega) (seg := [.int .i64 ((rd_T51 x0_1 (x2_1 + 1)).f0), .int .i64 ((rd_T51 x0_1 (x2_1 + 1)).f1)]) (j := 0) hcl9 hcc9 (show 2 ≤ 2 from by decide) (x' := (⟨(rd_T51 x0_1 (x2_1 + 1)).f0, (rd_T51 x0_1 (x2_1 + 1)).f1⟩ : S51)) (k51_mkM _ _ _ (⟨(rd_T51 x0_1 (x2_1 + 1)).f0, (rd_T51 x0_1 (x2_1 + 1)).f1⟩ : S51)) (fun _ hk => hk)).1
        rw [← hy277, e3] at HP12
        have HQ11 := Aside0.mk HP11
        have HQ12 := Aside0.mk HP12
        clear HP11 HP12 hcl8 hM8 hcc8 hfr8 hcl7 hM7 hcc7 hfr7 hcl9 hM9 hcc9 hfr9 e2 e2' e3 e3' hlm hy276 hy277
        have p2 := eq_true c6
        have q2 := eq_true c7
        have p3 := eq_true c4
        have q3 := eq_true c5
        clear c3 c4 c5 c6 c7
        refine start_ (n := 16) (S := fun w' => w'.cell? ⟨go, 2 + x3_1.toNat * 2, none⟩ = some (.int .i64 ((rd_T51 x0_1 (x3_1 + 1)).f0)) ∧ w'.cell? ⟨go, 2 + x3_1.toNat * 2 + 1, none⟩ = some (.int .i64 ((rd_T51 x0_1 (x3_1 + 1)).f1)) ∧ w'.cell? ⟨go, 2 + x2_1.toNat * 2, none⟩ = some (.int .i64 ((rd_T51 x0_1 (x2_1 + 1)).f0)) ∧ w'.cell? ⟨go, 2 + x2_1.toNat * 2 + 1, none⟩ = some (.int .i64 ((rd_T51 x0_1 (x2_1 + 1)).f1))) (ds := [13, 15]) #[fF,fF,fF,fF,fF,fF,fF,fF,fF,fF,fF,fF,fF,fF,fF,fF] (by kernel_rfl) rfl rfl ⟨hx7_0, hx7_1, hx8_0, hx8_1⟩ (fun hHeld => ?_); refine with_tabW impl_Tail.tab3 impl_Tail.bits3 (fun HT_ HW_ => ?_)
        generalize wr.drew = w10 at HO_0 HK HB HQ11 HQ12 hf8_0 hf8_1 hf9_0 hf9_1 hf7_0 hf7_1 hx7_0 hx7_1 hx8_0 hx8_1 hx9_0 hx9_1 hHeld ⊢
        refine pu 0 14 HT_ ?_
        refine pu 1 15 HT_ ?_
        refine pu 2 16 HT_ ?_
        refine pu 3 17 HT_ ?_
        refine pu 4 18 HT_ ?_
        refine pu 5 19 HT_ ?_
        refine pu 6 20 HT_ ?_
        refine pu 8 22 HT_ ?_
        refine pu 9 23 HT_ ?_
        refine pu 10 24 HT_ ?_
        refine tk 7 21 HT_ HW_ hHeld ?_
        refine tk 11 25 HT_ HW_ hHeld ?_
        refine pu 12 26 HT_ ?_
        refine last_ (i := 13) (N := none) #[tT,tT,tT,tT,tT,tT,tT,tT,tT,tT,tT,tT,tT,tT,fF,fF] rfl rfl (one_of HT_.out (by kernel_rfl)) (by decide) (fun K hK => ?_)
        refine skip_ (w1 := ?_) (by rfl) rfl ?_ ?_
        rotate_left
        ·go_simp
         rfl
        refine hK.out _ _ ?_
        clear hK K
        refine pu 14 27 HT_ ?_
        refine last_ (i := 15) (N := none) #[tT,tT,tT,tT,tT,tT,tT,tT,tT,tT,tT,tT,tT,tT,tT,tT] rfl rfl (one_of HT_.out (by kernel_rfl)) (by decide) (fun K hK => ?_)
        refine skip_ (w1 := ?_) (by rfl) rfl ?_ ?_
        rotate_left
        ·go_simp
         rfl
        refine hK.out _ _ ?_
        clear hK K
        refine done_ (done_of HT_.out (by kernel_rfl)) ?_
        try go_wp2
        go_roundg k1
        case measure => have := HK1.out; omega
        case rel => exact ⟨(y277), (wrap64 (x2_1 + 1)), (wrap64 (x3_1 - 1)), (by first | rfl | (simp; done) | (simp [*]; done)), (by first | rfl | (simp; done) | (simp [*]; done)), H', ⟨by have := HK1.out; omega⟩, ⟨by (with_reducible repeat (first | apply Kd.R_alloc | apply Kd.R_drewN | apply Kd.R_drew)); exact HQ12.out⟩, ⟨by repeat (first | (with_reducible first | exact HK.out | apply Kept.alloc | apply Kept.drewN | apply Kept.drew | refine Kept.setCell ?_ HMgo8.out _) | exact HK.out)⟩, ⟨by repeat (first | (with_reducible first | exact HB.out | apply below_alloc | apply pw_below_drewN | apply below_drew1 | refine below_set ?_ GB8.out) | exact HB.out)⟩⟩
       ·rw [if_neg c7] at H
        exact absurd H (by simp)
      ·rw [if_neg c6] at H
       exact absurd H (by simp)
     ·rw [if_neg c5] at H
      exact absurd H (by simp)
    ·rw [if_neg c4] at H
     exact absurd H (by simp)
   ·rw [if_neg c3] at H
    have c3b0 : decide (x2_1 < x3_1) = false := decide_eq_false c3
    clear c3
    obtain rfl := Option.some.inj H
    go_wp2
    first | go_end0 | ((try simp only [Exit.inBlock, Exit.then]); refine bodyPost_ret (results_none rfl _ _ _) rfl ?_)
    exact ⟨by first | rfl | (simp; done), (by (with_reducible repeat (first | apply Kd.R_alloc | apply Kd.R_drewN | apply Kd.R_drew)); exact HO_0.out), by repeat (first | (with_reducible first | exact HB.out | apply below_alloc | apply pw_below_drewN | apply below_drew1) | exact HB.out), by repeat (first | (with_reducible first | exact HK.out | apply Kept.alloc | apply Kept.drewN | apply Kept.drew) | exact HK.out)⟩
def impl_turnPoints.g (k : Nat) (y : List (S51)) : Option (List (S51)) := (impl_bounds.f k y).bind fun bt => ((impl_shifted.f k y (wrap64 (-bt.1)) (wrap64 (-bt.2.1))).bind fun t202 => (some t202))
def impl_turnPoints.l0 : Nat → List (S51) → Int → List (S51) → Int → Option ((List (S51)))
 | 0, _, _, _, _ => none
 | k + 1, x0, x1, x5, x13 => if x13 < (x0.length : Int) then (if 0 ≤ x13 then ((impl_Turned.f k ((rd_T51 x0 x13).f0) ((rd_T51 x0 x13).f1) x1).bind fun bt => (if x5.length < 8796093022208 then (impl_turnPoints.l0 k x0 x1 (x5 ++ [(⟨bt.1, bt.2⟩ : S51)]) (wrap64 (x13 + 1))) else (none))) else (none)) else (if x1 > 3 then (if 1 < x5.length then ((impl_Tail.f k (x5.length - 1) x5).bind fun y => (impl_turnPoints.g k y)) else (none)) else (impl_turnPoints.g k x5))
def impl_turnPoints.f (k : Nat) (l0 : List (S51)) (a1 : Int) : Option ((List (S51))) := impl_turnPoints.l0 k l0 a1 (([] : List (S51))) 0
theorem impl_turnPoints.mono_g : ∀ k y, LeO (impl_turnPoints.g k y) (impl_turnPoints.g (k + 1) y) := by
 intro k y
 unfold impl_turnPoints.g
 repeat' first
   | (with_reducible exact impl_bounds.mono _ _)
   | (with_reducible exact impl_shifted.mono _ _ _ _)
   | (with_reducible exact LeO.refl _)
   | (with_reducible refine LeO.bind ?_ (fun _ => ?_))
   | exact impl_bounds.mono _ _
   | exact impl_shifted.mono _ _ _ _
   | refine LeO.bind ?_ (fun _ => ?_)
theorem impl_turnPoints.mono_l : ∀ k, (∀ y0 y1 y2 y3, LeO (impl_turnPoints.l0 k y0 y1 y2 y3) (impl_turnPoints.l0 (k + 1) y0 y1 y2 y3))
 | 0 => fun _ _ _ _ r h => by simp [impl_turnPoints.l0] at h
 | k + 1 => by
  have ih0 := impl_turnPoints.mono_l k
  ·intro y0 y1 y2 y3
   unfold impl_turnPoints.l0
   repeat' first
   | (with_reducible exact ih0 _ _ _ _)
   | (with_reducible exact impl_Turned.mono _ _ _ _)
   | (with_reducible exact impl_Tail.mono _ _ _)
   | (with_reducible exact impl_turnPoints.mono_g _ _)
   | (with_reducible exact LeO.refl _)
   | (with_reducible exact LeO.none _)
   | (with_reducible refine LeO.ite ?_ ?_)
   | (with_reducible refine LeO.bind ?_ (fun _ => ?_))
   | exact ih0 _ _ _ _
   | exact impl_Tail.mono _ _ _
   | exact impl_turnPoints.mono_g _ _
   | exact LeO.none _
   | refine LeO.ite ?_ ?_
   | refine LeO.bind ?_ (fun _ => ?_)
theorem impl_turnPoints.mono : ∀ a0 a1 k, LeO (impl_turnPoints.f k a0 a1) (impl_turnPoints.f (k + 1) a0 a1) := fun a0 a1 k => impl_turnPoints.mono_l k _ _ _ _
set_option maxHeartbeats 8000000 in
set_option maxRecDepth 100000 in
theorem impl_turnPoints.calls (k : Nat) (A0 : Option Addr) (c0 : Nat) (l0 : List (S51)) (a1 : Int) (r : List (S51)) (w : World) (hr0 : Kd.C k51 w A0 l0.length l0) (hc0 : l0.length ≤ c0) (h : impl_turnPoints.f k l0 a1 = some r) :
  Calls Try.prog 29 #[.slice A0 l0.length c0, .int .i64 a1] w fun e w' => ∃ v0_ : Value, e = .returned (v0_) ∧ Kd.R k51 51 w' w.heap.size (fun _ => True) v0_ r ∧ Below w.heap.size w w' := by
 have hu51 := Try.underlying51
 have HR0 := Aside0.mk hr0
 have HC0 := Aside0.mk hc0
 clear hr0 hc0
 have HB := Aside0.mk (Below.refl w.heap.size w)
 have H : (impl_turnPoints.l0 k l0 a1 (([] : List (S51))) 0) = some r := h
 clear h
 obtain ⟨y181, hy181⟩ : ∃ y_ : List (S51), y_ = (([] : List (S51))) := ⟨_, rfl⟩
 replace H : (impl_turnPoints.l0 k l0 a1 y181 0) = some r := by rw [hy181]; exact H
 have Ny181 := Aside0.mk hy181
 clear hy181
 have H' := Aside0.mk H
 clear H
 go_enter Try.func29, Try.ntmps29
 go_wp2_with (first | ((with_reducible refine gate_dst (N := 10) rfl ?_); refine Kd.R_lit k51 _ 51 ?hg (N := 10) ?hd (xs := ([] : List (S51))) (inner := []) (ok := fun _ => True) (okp := fun _ => True) ?hr ?hp (fun _ hk => hk) trivial (Below.refl _ _) (Nat.le_refl _) (by simp) ?_; (case hd => rfl); (case hg => rfl); (case hr => first | (go_simp; done) | (go_simp; rfl)); (case hp => exact (Reps.none _ _)); intro v182 w3 ho4 hb hg_ hnew_; clear hg_ hnew_; (first | rw [← Ny181.out] at ho4 | (simp only [Int.reduceToNat] at ho4; rw [← Ny181.out] at ho4)); have n0_ := Aside0.mk (Kd.R_lower ho4 (below_size ib)); have n1_ := sb hb; clear HB; have HO183 := n0_; have HB := n1_; clear n0_ n1_; clear hb ho4))
 go_loopg [5, 13] k (fun kq v5 v13 w' => ∃ (x5_1 : List (S51)) (x6_1 : Int), v13 = .int .i64 x6_1 ∧ Aside0 (impl_turnPoints.l0 kq l0 a1 x5_1 x6_1 = some r) ∧ Aside0 (kq ≤ k) ∧ Aside0 (Kd.R k51 51 w' w.heap.size (fun _ => True) v5 x5_1) ∧ Aside0 (Below w.heap.size w w'))
 case atStart => exact ⟨(y181), (0), (by first | rfl | (simp; done) | (simp [*]; done)), H', ⟨Nat.le_refl _⟩, ⟨by (with_reducible repeat (first | apply Kd.R_alloc | apply Kd.R_drewN | apply Kd.R_drew)); exact HO183.out⟩, ⟨by repeat (first | (with_reducible first | exact HB.out | apply below_alloc | apply pw_below_drewN | apply below_drew1) | exact HB.out)⟩⟩
 case round =>
  clear H'
  obtain ⟨x5_1, x6_1, rfl, HA, HK1, HO_5, HB⟩ := hrel
  cases gk with
  | zero => exact absurd HA.out (by simp [impl_turnPoints.l0])
  | succ k1 =>
   have H := HA.out
   clear HA
   simp only [impl_turnPoints.l0] at H
   by_cases c5 : x6_1 < (l0.length : Int)
   ·rw [if_pos c5] at H
    have c5b0 : decide (x6_1 < (l0.length : Int)) = true := decide_eq_true c5
    clear c5
    by_cases c15 : 0 ≤ x6_1
    ·rw [if_pos c15] at H
     have c15b0 : decide (0 ≤ x6_1) = true := decide_eq_true c15
     clear c15
     replace H := Option.bind_eq_some_iff.mp H
     obtain ⟨⟨t191, t192⟩, A160, H⟩ := H
     replace H : (if x5_1.length < 8796093022208 then (impl_turnPoints.l0 k1 l0 a1 (x5_1 ++ [(⟨t191, t192⟩ : S51)]) (wrap64 (x6_1 + 1))) else (none)) = some r := H
     have A16 := Aside0.mk A160
     clear A160
     by_cases c8 : x5_1.length < 8796093022208
     ·rw [if_pos c8] at H
      have LMc8 := Aside0.mk c8
      clear c8
      obtain ⟨y8, hy8⟩ : ∃ y_ : List (S51), y_ = (x5_1 ++ [(⟨t191, t192⟩ : S51)]) := ⟨_, rfl⟩
      replace H : (impl_turnPoints.l0 k1 l0 a1 y8 (wrap64 (x6_1 + 1))) = some r := by rw [hy8]; exact H
      have Ny8 := Aside0.mk hy8
      clear hy8
      have H' := Aside0.mk H
      clear H
      have p190 : 0 ≤ (x6_1 : Int) := da
      have q190 : x6_1 < (l0.length : Int) := da
      obtain ⟨ad190, e190, hx190_0, hx190_1⟩ := at_T51 HR0.out x6_1 p190 q190
      cases e190
      replace hx190_0 := (HB.out.cell (bL w _ hx190_0)).trans hx190_0
      replace hx190_1 := (HB.out.cell (bL w _ hx190_1)).trans hx190_1
      replace p190 := eq_true p190
      replace q190 := eq_true q190
      go_wp2_with (first | ((with_reducible refine gate_dst (N := 7) rfl ?_); refine bx (cs := #[.int .i64 0, .int .i64 0]) (t := 51) ?_; intro gb290 hg w10 hbox hb; have n0_ := Aside0.mk (Kd.R_below (Kd.R_elderB (by (with_reducible repeat (first | apply Kd.R_alloc | apply Kd.R_drewN | apply Kd.R_drew)); exact HO_5.out) gb290 (Nat.le_of_eq hg.symm)) hb); have n1_ := sb hb; have n2_ := Aside0.mk (hbox); have n4_ := zb hg; clear HO_5; clear HB; have HO_5 := n0_; have HB := n1_; have BK290 := n2_; have GE290 := n4_; clear n0_ n1_ n2_ n4_; clear hb hbox hg; have hcz11_0 := ck BK290 0; have hcz11_1 := ck BK290 1; have hfz11_0 := blk_frozen BK290.out 0; have hfz11_1 := blk_frozen BK290.out 1) | ((with_reducible refine gate_callee (f := 53) rfl ?_); refine goesL_ (some 20) rfl rfl Try.func53 (by kernel_rfl) rfl #[.agg #[.int .i64 ((rd_T51 l0 x6_1).f0), .int .i64 ((rd_T51 l0 x6_1).f1)], .int .i64 a1] rfl (by (try simp only [List.map_toArray, List.map_cons, List.map_nil]); first | done | rfl) ?_; (with_reducible refine (impl_Turned.calls k1 ((rd_T51 l0 x6_1).f0) ((rd_T51 l0 x6_1).f1) a1 t191 t192 _ A16.out).mono ?_); rintro e w13 ⟨rfl, hb⟩; refine ⟨_, rfl, ?_⟩; have n0_ := Aside0.mk (Kd.R_mono (Kd.R_below (Kd.R_far (p := ⟨gb290, 1, none⟩) (Kd.R_far (p := ⟨gb290, 0, none⟩) HO_5.out (fun _ hk => hk.2) _) (fun _ hk => hk.2) _) hb) (ok' := fun _ => True) (fun _ _ => trivial)); have n1_ := Aside0.mk (below_step (below_set (below_set HB.out GE290.out) GE290.out) hb); clear HO_5; clear HB; have HO_5 := n0_; have HB := n1_; clear n0_ n1_ hb) | ((with_reducible refine gate_builtin (b := .append) (xs := #[.tmp 17, .tmp 21]) rfl ?_); at_builtin; refine Kd.R_append k51 (w0 := w) w.heap.size rfl (.tmp 17) (.tmp 21) 24 51 (.agg #[(.int .i64 0), (.int .i64 0)]) 16 rfl Try.underlying24 info51 rfl (by decide) (by omega) u5 x5_1 (⟨t191, t192⟩ : S51) [.int .i64 t191, .int .i64 t192] (fun _ => True) (fun _ => False) rfl rfl ?aP (fun _ hk => hk.elim) ?aF ?aO ?aB ?aS ?aL ?_; (case aP => exact k51_mkM _ _ _ (⟨t191, t192⟩ : S51)); (case aB => exact ib); (case aF => exact (fun _ _ => trivial)); (case aO => exact (by (with_reducible repeat (first | apply Kd.R_alloc | apply Kd.R_drewN | apply Kd.R_drew)); exact HO_5.out)); (case aS => exact (below_size ib)); (case aL => have := LMc8.out; omega); intro v194 w19 ho hb hg hat; rw [← Ny8.out] at ho; have n0_ := Aside0.mk (hb); have n1_ := Aside0.mk (ho); clear HB; clear HO_5; have HB := n0_; have HO195 := n1_; clear n0_ n1_; clear ho hb hg hat))
      go_roundg k1
      case measure => have := HK1.out; omega
      case rel => exact ⟨(y8), (wrap64 (x6_1 + 1)), (by first | rfl | (simp; done) | (simp [*]; done)), H', ⟨by have := HK1.out; omega⟩, ⟨by (with_reducible repeat (first | apply Kd.R_alloc | apply Kd.R_drewN | apply Kd.R_drew)); exact HO195.out⟩, ⟨by repeat (first | (with_reducible first | exact HB.out | apply below_alloc | apply pw_below_drewN | apply below_drew1) | exact HB.out)⟩⟩
     ·rw [if_neg c8] at H
      exact absurd H (by simp)
    ·rw [if_neg c15] at H
     exact absurd H (by simp)
   ·rw [if_neg c5] at H
    have c5b0 : decide (x6_1 < (l0.length : Int)) = false := decide_eq_false c5
    clear c5
    by_cases c6 : a1 > 3
    ·rw [if_pos c6] at H
     have c6b0 : decide (a1 > 3) = true := decide_eq_true c6
     have c6b1 : decide (3 < a1) = true := decide_eq_true c6
     clear c6
     by_cases c7 : 1 < x5_1.length
     ·rw [if_pos c7] at H
      replace H := Option.bind_eq_some_iff.mp H
      obtain ⟨y9, A170, H⟩ := H
      obtain ⟨m, hm⟩ : ∃ m, x5_1.length = m + 1 := ⟨x5_1.length - 1, by omega⟩
      have A17 := Aside0.mk (show impl_Tail.f k1 m x5_1 = some y9 from by rw [hm] at A170; exact A170)
      clear A170
      have HM := Aside0.mk hm
      replace H : ((impl_bounds.f k1 y9).bind fun bt => ((impl_shifted.f k1 y9 (wrap64 (-bt.1)) (wrap64 (-bt.2.1))).bind fun t202 => (some t202))) = some r := H
      replace H := Option.bind_eq_some_iff.mp H
      obtain ⟨⟨t196, t197, t198, t199⟩, A200, H⟩ := H
      replace H : ((impl_shifted.f k1 y9 (wrap64 (-t196)) (wrap64 (-t197))).bind fun t202 => (some t202)) = some r := H
      have A20 := Aside0.mk A200
      clear A200
      replace H := Option.bind_eq_some_iff.mp H
      obtain ⟨t202, A210, H⟩ := H
      replace H : (some t202) = some r := H
      have A21 := Aside0.mk A210
      clear A210
      obtain rfl := Option.some.inj H
      obtain ⟨go, co, eo, gb9, gl9, cl9, HG9⟩ := Kd.R_form HO_5.out (by omega)
      subst eo
      clear gb9 gl9 HG9
      rw [hm] at HO_5 ⊢
      have hco := (Kd.R_reads' HO_5.out).2.1
      have c7b : (1 : Int) ≤ ((m + 1 : Nat) : Int) := by omega
      have hco1 : ¬ (co = 1) := by omega
      have hco2 : ¬ (1 = co) := by omega
      have hco3 : ¬ ((co : Int) = 1) := by omega
      have hco4 : ¬ ((1 : Int) = (co : Int)) := by omega
      clear hm c7
      go_wp2_with (first | ((with_reducible refine gate_callee (f := 54) rfl ?_); refine goesL_ (some 28) rfl rfl Try.func54 (by kernel_rfl) rfl #[.slice (some ⟨go, 2, none⟩) m (co - 1)] rfl (by (try simp only [List.map_toArray, List.map_cons, List.map_nil]); first | done | rfl) ?_; (with_reducible refine (impl_Tail.calls k1 (fun _ => True) go co m (co - 1) x5_1 y9 w _ ib (by rw [HM.out]; exact HO_5.out) HM.out A17.out).mono ?_); rintro e w15 ⟨rfl, ho0, hb, hk⟩; refine ⟨_, rfl, ?_⟩; have hl_ := (Kd.R_reads' ho0).1; have hl2 : m + 1 = y9.length := HM.out.symm.trans hl_; rw [hl_] at ho0; have n0_ := Aside0.mk (Kd.R_mono (ok' := fun _ => True) ho0 (fun _ _ => trivial)); have n1_ := Aside0.mk hb; clear HO_5 HB ho0 hb hk; have HO_5 := n0_; have HB := n1_; clear n0_ n1_; (try rw [hl2])) | ((with_reducible refine gate_callee (f := 55) rfl ?_); refine goesL_ (some 31) rfl rfl Try.func55 (by kernel_rfl) rfl #[.slice (some ⟨go, 0, none⟩) y9.length co] rfl (by (try simp only [List.map_toArray, List.map_cons, List.map_nil]); first | done | rfl | (simp only [List.length_drop, List.length_take]; rfl)) ?_; (with_reducible refine (impl_bounds.calls k1 _ _ y9 t196 t197 t198 t199 _ ?side1 ?side2 A20.out).mono ?_); (case side1 => repeat (first | exact (Kd.R_reads' HO_5.out).2.2 | (with_reducible refine Kd.C_alloc ?_ _) | (with_reducible refine Kd.C_drewN ?_ _) | (with_reducible refine Kd.C_drew ?_))); (case side2 => exact (Kd.R_reads' HO_5.out).2.1); rintro e w23 ⟨rfl, hb⟩; refine ⟨_, rfl, ?_⟩; have n0_ := Aside0.mk (Kd.R_below (by (with_reducible repeat (first | apply Kd.R_alloc | apply Kd.R_drewN | apply Kd.R_drew)); exact HO_5.out) hb); have n1_ := sb hb; clear HO_5; clear HB; have HO_5 := n0_; have HB := n1_; clear n0_ n1_; (try clear hb); (try clear hb2); (try clear hk); (try clear hi)) | ((with_reducible refine gate_dst (N := 8) rfl ?_); refine bx (cs := #[.int .i64 0, .int .i64 0]) (t := 51) ?_; intro gb200 hg w24 hbox hb; have n0_ := Aside0.mk (Kd.R_below (Kd.R_elderB (by (with_reducible repeat (first | apply Kd.R_alloc | apply Kd.R_drewN | apply Kd.R_drew)); exact HO_5.out) gb200 (Nat.le_of_eq hg.symm)) hb); have n1_ := sb hb; have n2_ := Aside0.mk (hbox); have n3_ := zb hg; have n4_ := zb hg; clear HO_5; clear HB; have HO_5 := n0_; have HB := n1_; have BK200 := n2_; have GW200 := n3_; have GE200 := n4_; clear n0_ n1_ n2_ n3_ n4_; clear hb hbox hg) | ((with_reducible refine gate_dst (N := 9) rfl ?_); refine bx (cs := #[.int .i64 0, .int .i64 0]) (t := 51) ?_; intro gb201 hg w25 hbox hb; have n0_ := Aside0.mk (Kd.R_below (Kd.R_elderB (by (with_reducible repeat (first | apply Kd.R_alloc | apply Kd.R_drewN | apply Kd.R_drew)); exact HO_5.out) gb201 (Nat.le_of_eq hg.symm)) hb); have n1_ := kb BK200 hb; have n2_ := sb hb; have n3_ := Aside0.mk (hbox); have n4_ := zb hg; have n5_ := zb hg; have n6_ := nl BK200 hg; have n7_ := ng BK200 hg; clear HO_5; clear BK200; clear HB; have HO_5 := n0_; have BK200 := n1_; have HB := n2_; have BK201 := n3_; have GW201 := n4_; have GE201 := n5_; have NB200_201 := n6_; have NB201_200 := n7_; clear n0_ n1_ n2_ n3_ n4_ n5_ n6_ n7_; clear hb hbox hg; have hnb26 := NB200_201.out; have hnc26 := NB201_200.out; have hcz27_0 := ck BK200 0; have hcz27_1 := ck BK200 1; have hfz27_0 := blk_frozen BK200.out 0; have hfz27_1 := blk_frozen BK200.out 1; have hcz28_0 := ck BK201 0; have hcz28_1 := ck BK201 1; have hfz28_0 := blk_frozen BK201.out 0; have hfz28_1 := blk_frozen BK201.out 1) | ((with_reducible refine gate_callee (f := 56) rfl ?_); refine goesL_ _ rfl rfl Try.func56 (by kernel_rfl) rfl #[.slice (some ⟨go, 0, none⟩) y9.length co, .int .i64 (wrap64 (-t196)), .int .i64 (wrap64 (-t197))] rfl (by (try simp only [List.map_toArray, List.map_cons, List.map_nil]); first | done | rfl | (simp only [List.length_drop, List.length_take]; rfl)) ?_; (with_reducible refine (impl_shifted.calls k1 _ _ y9 (wrap64 (-t196)) (wrap64 (-t197)) t202 _ ?side1 ?side2 A21.out).mono ?_); (case side1 => refine (Kd.R_reads' (e := 51) (base := w.heap.size) (ok := fun k_ => ((True ∧ k_ ≠ gb200) ∧ k_ ≠ gb201)) (n := y9.length) (c := co) ?_).2.2; exact (by (with_reducible repeat (first | apply Kd.R_alloc | apply Kd.R_drewN | apply Kd.R_drew)); exact (Kd.R_mono (Kd.R_mono (Kd.R_far (p := ⟨gb201, 1, none⟩) (Kd.R_far (p := ⟨gb201, 0, none⟩) (Kd.R_far (p := ⟨gb200, 1, none⟩) (Kd.R_far (p := ⟨gb200, 0, none⟩) (Kd.R_mono (Kd.R_mono HO_5.out (fun k_ hk => (⟨hk, hk.1.2⟩ : _ ∧ k_ ≠ gb200))) (fun k_ hk => (⟨hk, hk.1.2⟩ : _ ∧ k_ ≠ gb201))) (fun _ hk => hk.1.2) (.int .i64 t196)) (fun _ hk => hk.1.2) (.int .i64 t197)) (fun _ hk => hk.2) (.int .i64 t198)) (fun _ hk => hk.2) (.int .i64 t199)) (fun _ h_ => h_.1)) (fun _ h_ => h_.1)))); (case side2 => exact (Kd.R_reads' HO_5.out).2.1); rintro e w29 ⟨v203, rfl, ho0, hb⟩; refine ⟨_, rfl, ?_⟩; have n0_ := Aside0.mk (Kd.R_elder' (by (with_reducible repeat (first | apply Kd.R_alloc | apply Kd.R_drewN | apply Kd.R_drew)); exact (Kd.R_mono (Kd.R_mono (Kd.R_far (p := ⟨gb201, 1, none⟩) (Kd.R_far (p := ⟨gb201, 0, none⟩) (Kd.R_far (p := ⟨gb200, 1, none⟩) (Kd.R_far (p := ⟨gb200, 0, none⟩) (Kd.R_mono (Kd.R_mono HO_5.out (fun k_ hk => (⟨hk, hk.1.2⟩ : _ ∧ k_ ≠ gb200))) (fun k_ hk => (⟨hk, hk.1.2⟩ : _ ∧ k_ ≠ gb201))) (fun _ hk => hk.1.2) (.int .i64 t196)) (fun _ hk => hk.1.2) (.int .i64 t197)) (fun _ hk => hk.2) (.int .i64 t198)) (fun _ hk => hk.2) (.int .i64 t199)) (fun _ h_ => h_.1)) (fun _ h_ => h_.1))) (Kd.R_base ho0) hb); have n1_ := Aside0.mk (Kd.R_lower (Kd.R_newB (Kd.R_newB (Kd.R_new' ho0 (Kd.R_lt (by (with_reducible repeat (first | apply Kd.R_alloc | apply Kd.R_drewN | apply Kd.R_drew)); exact (Kd.R_mono (Kd.R_mono (Kd.R_far (p := ⟨gb201, 1, none⟩) (Kd.R_far (p := ⟨gb201, 0, none⟩) (Kd.R_far (p := ⟨gb200, 1, none⟩) (Kd.R_far (p := ⟨gb200, 0, none⟩) (Kd.R_mono (Kd.R_mono HO_5.out (fun k_ hk => (⟨hk, hk.1.2⟩ : _ ∧ k_ ≠ gb200))) (fun k_ hk => (⟨hk, hk.1.2⟩ : _ ∧ k_ ≠ gb201))) (fun _ hk => hk.1.2) (.int .i64 t196)) (fun _ hk => hk.1.2) (.int .i64 t197)) (fun _ hk => hk.2) (.int .i64 t198)) (fun _ hk => hk.2) (.int .i64 t199)) (fun _ h_ => h_.1)) (fun _ h_ => h_.1))))) (g := gb200) (o := .cells #[.int .i64 t196, .int .i64 t197] 51 (0, 0)) (by refine bF NB200_201.out ?_; refine bF NB200_201.out ?_; refine bP (cs := #[.int .i64 t196, .int .i64 0]) 1 ?_; refine bP (cs := #[.int .i64 0, .int .i64 0]) 0 ?_; exact bk BK200)) (g := gb201) (o := .cells #[.int .i64 t198, .int .i64 t199] 51 (0, 0)) (by refine bP (cs := #[.int .i64 t198, .int .i64 0]) 1 ?_; refine bP (cs := #[.int .i64 0, .int .i64 0]) 0 ?_; refine bF NB201_200.out ?_; refine bF NB201_200.out ?_; exact bk BK201)) (below_size ib)); have n2_ := Aside0.mk (blk_below (g := gb200) (o := .cells #[.int .i64 t196, .int .i64 t197] 51 (0, 0)) (by refine bF NB200_201.out ?_; refine bF NB200_201.out ?_; refine bP (cs := #[.int .i64 t196, .int .i64 0]) 1 ?_; refine bP (cs := #[.int .i64 0, .int .i64 0]) 0 ?_; exact bk BK200) hb); have n3_ := Aside0.mk (blk_below (g := gb201) (o := .cells #[.int .i64 t198, .int .i64 t199] 51 (0, 0)) (by refine bP (cs := #[.int .i64 t198, .int .i64 0]) 1 ?_; refine bP (cs := #[.int .i64 0, .int .i64 0]) 0 ?_; refine bF NB201_200.out ?_; refine bF NB201_200.out ?_; exact bk BK201) hb); have n4_ := sb hb; clear HO_5; clear BK200; clear BK201; clear HB; have HO_5 := n0_; have HO204 := n1_; have BK200 := n2_; have BK201 := n3_; have HB := n4_; clear n0_ n1_ n2_ n3_ n4_; (try clear hb); (try clear hb2); (try clear hk); (try clear hi); (try clear ho0)))
      go_ret
      exact ⟨_, by first | rfl | (simp [errW_none, errW_some] <;> rfl) | (simp [*, errW_none, errW_some] <;> rfl), by (with_reducible repeat (first | apply Kd.R_alloc | apply Kd.R_drewN | apply Kd.R_drew)); exact Kd.R_mono HO204.out (fun _ hk => trivial), by repeat (first | (with_reducible first | exact HB.out | apply below_alloc | apply pw_below_drewN | apply below_drew1 | refine below_set ?_ GE200.out | refine below_set ?_ GE201.out) | exact HB.out)⟩
     ·rw [if_neg c7] at H
      exact absurd H (by simp)
    ·rw [if_neg c6] at H
     have c6b0 : decide (a1 > 3) = false := decide_eq_false c6
     have c6b1 : decide (3 < a1) = false := decide_eq_false c6
     clear c6
     replace H : ((impl_bounds.f k1 x5_1).bind fun bt => ((impl_shifted.f k1 x5_1 (wrap64 (-bt.1)) (wrap64 (-bt.2.1))).bind fun t202 => (some t202))) = some r := H
     replace H := Option.bind_eq_some_iff.mp H
     obtain ⟨⟨t196, t197, t198, t199⟩, A200, H⟩ := H
     replace H : ((impl_shifted.f k1 x5_1 (wrap64 (-t196)) (wrap64 (-t197))).bind fun t202 => (some t202)) = some r := H
     have A20 := Aside0.mk A200
     clear A200
     replace H := Option.bind_eq_some_iff.mp H
     obtain ⟨t202, A210, H⟩ := H
     replace H : (some t202) = some r := H
     have A21 := Aside0.mk A210
     clear A210
     obtain rfl := Option.some.inj H
     obtain ⟨Ao22, co22, eo22⟩ := Kd.R_slice HO_5.out
     subst eo22
     go_wp2_with (first | ((with_reducible refine gate_callee (f := 55) rfl ?_); refine goesL_ (some 31) rfl rfl Try.func55 (by kernel_rfl) rfl #[.slice Ao22 x5_1.length co22] rfl (by (try simp only [List.map_toArray, List.map_cons, List.map_nil]); first | done | rfl | (simp only [List.length_drop, List.length_take]; rfl)) ?_; (with_reducible refine (impl_bounds.calls k1 _ _ x5_1 t196 t197 t198 t199 _ ?side1 ?side2 A20.out).mono ?_); (case side1 => repeat (first | exact (Kd.R_reads' HO_5.out).2.2 | (with_reducible refine Kd.C_alloc ?_ _) | (with_reducible refine Kd.C_drewN ?_ _) | (with_reducible refine Kd.C_drew ?_))); (case side2 => exact (Kd.R_reads' HO_5.out).2.1); rintro e w23 ⟨rfl, hb⟩; refine ⟨_, rfl, ?_⟩; have n0_ := Aside0.mk (Kd.R_below (by (with_reducible repeat (first | apply Kd.R_alloc | apply Kd.R_drewN | apply Kd.R_drew)); exact HO_5.out) hb); have n1_ := sb hb; clear HO_5; clear HB; have HO_5 := n0_; have HB := n1_; clear n0_ n1_; (try clear hb); (try clear hb2); (try clear hk); (try clear hi)) | ((with_reducible refine gate_dst (N := 8) rfl ?_); refine bx (cs := #[.int .i64 0, .int .i64 0]) (t := 51) ?_; intro gb200 hg w24 hbox hb; have n0_ := Aside0.mk (Kd.R_below (Kd.R_elderB (by (with_reducible repeat (first | apply Kd.R_alloc | apply Kd.R_drewN | apply Kd.R_drew)); exact HO_5.out) gb200 (Nat.le_of_eq hg.symm)) hb); have n1_ := sb hb; have n2_ := Aside0.mk (hbox); have n3_ := zb hg; have n4_ := zb hg; clear HO_5; clear HB; have HO_5 := n0_; have HB := n1_; have BK200 := n2_; have GW200 := n3_; have GE200 := n4_; clear n0_ n1_ n2_ n3_ n4_; clear hb hbox hg) | ((with_reducible refine gate_dst (N := 9) rfl ?_); refine bx (cs := #[.int .i64 0, .int .i64 0]) (t := 51) ?_; intro gb201 hg w25 hbox hb; have n0_ := Aside0.mk (Kd.R_below (Kd.R_elderB (by (with_reducible repeat (first | apply Kd.R_alloc | apply Kd.R_drewN | apply Kd.R_drew)); exact HO_5.out) gb201 (Nat.le_of_eq hg.symm)) hb); have n1_ := kb BK200 hb; have n2_ := sb hb; have n3_ := Aside0.mk (hbox); have n4_ := zb hg; have n5_ := zb hg; have n6_ := nl BK200 hg; have n7_ := ng BK200 hg; clear HO_5; clear BK200; clear HB; have HO_5 := n0_; have BK200 := n1_; have HB := n2_; have BK201 := n3_; have GW201 := n4_; have GE201 := n5_; have NB200_201 := n6_; have NB201_200 := n7_; clear n0_ n1_ n2_ n3_ n4_ n5_ n6_ n7_; clear hb hbox hg; have hnb26 := NB200_201.out; have hnc26 := NB201_200.out; have hcz27_0 := ck BK200 0; have hcz27_1 := ck BK200 1; have hfz27_0 := blk_frozen BK200.out 0; have hfz27_1 := blk_frozen BK200.out 1; have hcz28_0 := ck BK201 0; have hcz28_1 := ck BK201 1; have hfz28_0 := blk_frozen BK201.out 0; have hfz28_1 := blk_frozen BK201.out 1) | ((with_reducible refine gate_callee (f := 56) rfl ?_); refine goesL_ _ rfl rfl Try.func56 (by kernel_rfl) rfl #[.slice Ao22 x5_1.length co22, .int .i64 (wrap64 (-t196)), .int .i64 (wrap64 (-t197))] rfl (by (try simp only [List.map_toArray, List.map_cons, List.map_nil]); first | done | rfl | (simp only [List.length_drop, List.length_take]; rfl)) ?_; (with_reducible refine (impl_shifted.calls k1 _ _ x5_1 (wrap64 (-t196)) (wrap64 (-t197)) t202 _ ?side1 ?side2 A21.out).mono ?_); (case side1 => refine (Kd.R_reads' (e := 51) (base := w.heap.size) (ok := fun k_ => ((True ∧ k_ ≠ gb200) ∧ k_ ≠ gb201)) (n := x5_1.length) (c := co22) ?_).2.2; exact (by (with_reducible repeat (first | apply Kd.R_alloc | apply Kd.R_drewN | apply Kd.R_drew)); exact (Kd.R_mono (Kd.R_mono (Kd.R_far (p := ⟨gb201, 1, none⟩) (Kd.R_far (p := ⟨gb201, 0, none⟩) (Kd.R_far (p := ⟨gb200, 1, none⟩) (Kd.R_far (p := ⟨gb200, 0, none⟩) (Kd.R_mono (Kd.R_mono HO_5.out (fun k_ hk => (⟨hk, hk.1.2⟩ : _ ∧ k_ ≠ gb200))) (fun k_ hk => (⟨hk, hk.1.2⟩ : _ ∧ k_ ≠ gb201))) (fun _ hk => hk.1.2) (.int .i64 t196)) (fun _ hk => hk.1.2) (.int .i64 t197)) (fun _ hk => hk.2) (.int .i64 t198)) (fun _ hk => hk.2) (.int .i64 t199)) (fun _ h_ => h_.1)) (fun _ h_ => h_.1)))); (case side2 => exact (Kd.R_reads' HO_5.out).2.1); rintro e w29 ⟨v203, rfl, ho0, hb⟩; refine ⟨_, rfl, ?_⟩; have n0_ := Aside0.mk (Kd.R_elder' (by (with_reducible repeat (first | apply Kd.R_alloc | apply Kd.R_drewN | apply Kd.R_drew)); exact (Kd.R_mono (Kd.R_mono (Kd.R_far (p := ⟨gb201, 1, none⟩) (Kd.R_far (p := ⟨gb201, 0, none⟩) (Kd.R_far (p := ⟨gb200, 1, none⟩) (Kd.R_far (p := ⟨gb200, 0, none⟩) (Kd.R_mono (Kd.R_mono HO_5.out (fun k_ hk => (⟨hk, hk.1.2⟩ : _ ∧ k_ ≠ gb200))) (fun k_ hk => (⟨hk, hk.1.2⟩ : _ ∧ k_ ≠ gb201))) (fun _ hk => hk.1.2) (.int .i64 t196)) (fun _ hk => hk.1.2) (.int .i64 t197)) (fun _ hk => hk.2) (.int .i64 t198)) (fun _ hk => hk.2) (.int .i64 t199)) (fun _ h_ => h_.1)) (fun _ h_ => h_.1))) (Kd.R_base ho0) hb); have n1_ := Aside0.mk (Kd.R_lower (Kd.R_newB (Kd.R_newB (Kd.R_new' ho0 (Kd.R_lt (by (with_reducible repeat (first | apply Kd.R_alloc | apply Kd.R_drewN | apply Kd.R_drew)); exact (Kd.R_mono (Kd.R_mono (Kd.R_far (p := ⟨gb201, 1, none⟩) (Kd.R_far (p := ⟨gb201, 0, none⟩) (Kd.R_far (p := ⟨gb200, 1, none⟩) (Kd.R_far (p := ⟨gb200, 0, none⟩) (Kd.R_mono (Kd.R_mono HO_5.out (fun k_ hk => (⟨hk, hk.1.2⟩ : _ ∧ k_ ≠ gb200))) (fun k_ hk => (⟨hk, hk.1.2⟩ : _ ∧ k_ ≠ gb201))) (fun _ hk => hk.1.2) (.int .i64 t196)) (fun _ hk => hk.1.2) (.int .i64 t197)) (fun _ hk => hk.2) (.int .i64 t198)) (fun _ hk => hk.2) (.int .i64 t199)) (fun _ h_ => h_.1)) (fun _ h_ => h_.1))))) (g := gb200) (o := .cells #[.int .i64 t196, .int .i64 t197] 51 (0, 0)) (by refine bF NB200_201.out ?_; refine bF NB200_201.out ?_; refine bP (cs := #[.int .i64 t196, .int .i64 0]) 1 ?_; refine bP (cs := #[.int .i64 0, .int .i64 0]) 0 ?_; exact bk BK200)) (g := gb201) (o := .cells #[.int .i64 t198, .int .i64 t199] 51 (0, 0)) (by refine bP (cs := #[.int .i64 t198, .int .i64 0]) 1 ?_; refine bP (cs := #[.int .i64 0, .int .i64 0]) 0 ?_; refine bF NB201_200.out ?_; refine bF NB201_200.out ?_; exact bk BK201)) (below_size ib)); have n2_ := Aside0.mk (blk_below (g := gb200) (o := .cells #[.int .i64 t196, .int .i64 t197] 51 (0, 0)) (by refine bF NB200_201.out ?_; refine bF NB200_201.out ?_; refine bP (cs := #[.int .i64 t196, .int .i64 0]) 1 ?_; refine bP (cs := #[.int .i64 0, .int .i64 0]) 0 ?_; exact bk BK200) hb); have n3_ := Aside0.mk (blk_below (g := gb201) (o := .cells #[.int .i64 t198, .int .i64 t199] 51 (0, 0)) (by refine bP (cs := #[.int .i64 t198, .int .i64 0]) 1 ?_; refine bP (cs := #[.int .i64 0, .int .i64 0]) 0 ?_; refine bF NB201_200.out ?_; refine bF NB201_200.out ?_; exact bk BK201) hb); have n4_ := sb hb; clear HO_5; clear BK200; clear BK201; clear HB; have HO_5 := n0_; have HO204 := n1_; have BK200 := n2_; have BK201 := n3_; have HB := n4_; clear n0_ n1_ n2_ n3_ n4_; (try clear hb); (try clear hb2); (try clear hk); (try clear hi); (try clear ho0)))
     go_ret
     exact ⟨_, by first | rfl | (simp [errW_none, errW_some] <;> rfl) | (simp [*, errW_none, errW_some] <;> rfl), by (with_reducible repeat (first | apply Kd.R_alloc | apply Kd.R_drewN | apply Kd.R_drew)); exact Kd.R_mono HO204.out (fun _ hk => trivial), by repeat (first | (with_reducible first | exact HB.out | apply below_alloc | apply pw_below_drewN | apply below_drew1 | refine below_set ?_ GE200.out | refine below_set ?_ GE201.out) | exact HB.out)⟩
def impl_Point_71.l0 : Nat → List (S51) → Int → Int → Int → Int → Option (Int)
 | 0, _, _, _, _, _ => none
 | k + 1, x0, x7, x8, x329000, x329001 => if x8 < x7 then (if 0 ≤ x8 then (if x8 < (x0.length : Int) then (if (x329000 == ((rd_T51 x0 x8).f0) && (x329001 == ((rd_T51 x0 x8).f1))) = true then (some x8) else (impl_Point_71.l0 k x0 x7 (wrap64 (x8 + 1)) x329000 x329001)) else (none)) else (none)) else (some (-1))
def impl_Point_71.f (k : Nat) (l0 : List (S51)) (a1_0 : Int) (a1_1 : Int) : Option (Int) := impl_Point_71.l0 k l0 (l0.length : Int) 0 a1_0 a1_1
theorem impl_Point_71.mono_l : ∀ k, (∀ y0 y1 y2 y3 y4, LeO (impl_Point_71.l0 k y0 y1 y2 y3 y4) (impl_Point_71.l0 (k + 1) y0 y1 y2 y3 y4))
 | 0 => fun _ _ _ _ _ r h => by simp [impl_Point_71.l0] at h
 | k + 1 => by
  have ih0 := impl_Point_71.mono_l k
  ·intro y0 y1 y2 y3 y4
   unfold impl_Point_71.l0
   repeat' first
   | (with_reducible exact ih0 _ _ _ _ _)
   | (with_reducible exact LeO.refl _)
   | (with_reducible exact LeO.none _)
   | (with_reducible refine LeO.ite ?_ ?_)
   | (with_reducible refine LeO.bind ?_ (fun _ => ?_))
   | exact ih0 _ _ _ _ _
   | exact LeO.none _
   | refine LeO.ite ?_ ?_
   | refine LeO.bind ?_ (fun _ => ?_)
theorem impl_Point_71.mono : ∀ a0 a1 a2 k, LeO (impl_Point_71.f k a0 a1 a2) (impl_Point_71.f (k + 1) a0 a1 a2) := by
 intro a0 a1 a2 k
 have ih0 := impl_Point_71.mono_l k
 unfold impl_Point_71.f
 repeat' first
   | (with_reducible exact ih0 _ _ _ _ _)
   | (with_reducible exact LeO.refl _)
   | (with_reducible exact LeO.none _)
   | (with_reducible refine LeO.ite ?_ ?_)
   | (with_reducible refine LeO.bind ?_ (fun _ => ?_))
   | exact ih0 _ _ _ _ _
   | exact LeO.none _
   | refine LeO.ite ?_ ?_
   | refine LeO.bind ?_ (fun _ => ?_)
set_option maxHeartbeats 8000000 in
set_option maxRecDepth 100000 in
theorem impl_Point_71.calls (k : Nat) (A0 : Option Addr) (c0 : Nat) (l0 : List (S51)) (a1_0 : Int) (a1_1 : Int) (r : Int) (w : World) (hr0 : Kd.C k51 w A0 l0.length l0) (hc0 : l0.length ≤ c0) (h : impl_Point_71.f k l0 a1_0 a1_1 = some r) :
  Calls Try.prog 71 #[.slice A0 l0.length c0, .agg #[.int .i64 a1_0, .int .i64 a1_1]] w fun e w' => e = .returned (.int .i64 r) ∧ Below w.heap.size w w' := by
 have hu51 := Try.underlying51
 have HR0 := Aside0.mk hr0
 have HC0 := Aside0.mk hc0
 clear hr0 hc0
 have HB := Aside0.mk (Below.refl w.heap.size w)
 have H : (impl_Point_71.l0 k l0 (l0.length : Int) 0 a1_0 a1_1) = some r := h
 clear h
 have H' := Aside0.mk H
 clear H
 go_enter Try.func71, Try.ntmps71
 go_wp2_with (first | ((with_reducible refine gate_dst (N := 3) rfl ?_); refine bx (cs := #[.int .i64 a1_0, .int .i64 a1_1]) (t := 51) ?_; intro gb328 hg w3 hbox hb; have n0_ := sb hb; have n1_ := Aside0.mk (hbox); have n2_ := zb hg; have n3_ := zb hg; clear HB; have HB := n0_; have BK328 := n1_; have GW328 := n2_; have GE328 := n3_; clear n0_ n1_ n2_ n3_; clear hb hbox hg))
 repeat (go_quiet (first | ((with_reducible refine gate_dst (N := 3) rfl ?_); refine bx (cs := #[.int .i64 a1_0, .int .i64 a1_1]) (t := 51) ?_; intro gb328 hg w3 hbox hb; have n0_ := sb hb; have n1_ := Aside0.mk (hbox); have n2_ := zb hg; have n3_ := zb hg; clear HB; have HB := n0_; have BK328 := n1_; have GW328 := n2_; have GE328 := n3_; clear n0_ n1_ n2_ n3_; clear hb hbox hg)); try go_wp2_with (first | ((with_reducible refine gate_dst (N := 3) rfl ?_); refine bx (cs := #[.int .i64 a1_0, .int .i64 a1_1]) (t := 51) ?_; intro gb328 hg w3 hbox hb; have n0_ := sb hb; have n1_ := Aside0.mk (hbox); have n2_ := zb hg; have n3_ := zb hg; clear HB; have HB := n0_; have BK328 := n1_; have GW328 := n2_; have GE328 := n3_; clear n0_ n1_ n2_ n3_; clear hb hbox hg)))
 go_loopg [8] k (fun kq v8 w' => ∃ (x8_1 : Int), v8 = .int .i64 x8_1 ∧ Aside0 (impl_Point_71.l0 kq l0 (l0.length : Int) x8_1 a1_0 a1_1 = some r) ∧ Aside0 (kq ≤ k) ∧ Aside0 (w'.heap[gb328]? = some (.cells #[.int .i64 a1_0, .int .i64 a1_1] 51 (0, 0))) ∧ Aside0 (Below w.heap.size w w'))
 case atStart => exact ⟨(0), (by first | rfl | (simp; done) | (simp [*]; done)), H', ⟨Nat.le_refl _⟩, ⟨by exact bk BK328⟩, ⟨by repeat (first | (with_reducible first | exact HB.out | apply below_alloc | apply pw_below_drewN | apply below_drew1 | refine below_set ?_ GE328.out) | exact HB.out)⟩⟩
 case round =>
  clear H'
  try clear p2
  obtain ⟨x8_1, rfl, HA, HK1, BK328, HB⟩ := hrel
  cases gk with
  | zero => exact absurd HA.out (by simp [impl_Point_71.l0])
  | succ k1 =>
   have H := HA.out
   clear HA
   simp only [impl_Point_71.l0] at H
   by_cases c4 : x8_1 < (l0.length : Int)
   ·rw [if_pos c4] at H
    have c4b0 : decide (x8_1 < (l0.length : Int)) = true := decide_eq_true c4
    clear c4
    by_cases c5 : 0 ≤ x8_1
    ·rw [if_pos c5] at H
     have c5b0 : decide (0 ≤ x8_1) = true := decide_eq_true c5
     clear c5
     by_cases c6 : x8_1 < (l0.length : Int)
     ·rw [if_pos c6] at H
      have c6b0 : decide (x8_1 < (l0.length : Int)) = true := decide_eq_true c6
      clear c6
      by_cases c7 : (a1_0 == ((rd_T51 l0 x8_1).f0) && (a1_1 == ((rd_T51 l0 x8_1).f1))) = true
      ·rw [if_pos c7] at H
       have c7b0 : (a1_0 == ((rd_T51 l0 x8_1).f0) && (a1_1 == ((rd_T51 l0 x8_1).f1))) = true := c7
       (try (have c7b1 : decide (a1_0 = ((rd_T51 l0 x8_1).f0) && (a1_1 == ((rd_T51 l0 x8_1).f1))) = true := by simpa using c7))
       (try (have c7b2 : (a1_0 == ((rd_T51 l0 x8_1).f0) && (a1_1 == ((rd_T51 l0 x8_1).f1))) = true := by simpa using c7))
       clear c7
       obtain rfl := Option.some.inj H
       have hcz8_0 : wr.cell? ⟨gb328, 0, none⟩ = some (.int .i64 a1_0) := (blk_cell BK328.out 0).trans rfl
       have hcz8_1 : wr.cell? ⟨gb328, 1, none⟩ = some (.int .i64 a1_1) := (blk_cell BK328.out 1).trans rfl
       have hfz8_0 := blk_frozen BK328.out 0
       have hfz8_1 := blk_frozen BK328.out 1
       have p329 : 0 ≤ (x8_1 : Int) := da
       have q329 : x8_1 < (l0.length : Int) := da
       obtain ⟨ad329, e329, hx329_0, hx329_1⟩ := at_T51 HR0.out x8_1 p329 q329
       cases e329
       replace hx329_0 := (HB.out.cell (bL w _ hx329_0)).trans hx329_0
       replace hx329_1 := (HB.out.cell (bL w _ hx329_1)).trans hx329_1
       replace p329 := eq_true p329
       replace q329 := eq_true q329
       go_wp2
       repeat (go_quiet (fail); try go_wp2)
       go_ret
       exact ⟨by first | rfl | (simp [errW_none, errW_some] <;> rfl) | (simp [*, errW_none, errW_some] <;> rfl), by repeat (first | (with_reducible first | exact HB.out | apply below_alloc | apply pw_below_drewN | apply below_drew1 | refine below_set ?_ GE328.out) | exact HB.out)⟩
      ·rw [if_neg c7] at H
       have c7b0 : (a1_0 == ((rd_T51 l0 x8_1).f0) && (a1_1 == ((rd_T51 l0 x8_1).f1))) = false := by simpa using c7
       (try (have c7b1 : decide (a1_0 = ((rd_T51 l0 x8_1).f0) && (a1_1 == ((rd_T51 l0 x8_1).f1))) = false := by simpa using c7))
       (try (have c7b2 : (a1_0 == ((rd_T51 l0 x8_1).f0) && (a1_1 == ((rd_T51 l0 x8_1).f1))) = false := by simpa using c7))
       (try (have c7b3 : ¬ (a1_0 = ((rd_T51 l0 x8_1).f0) && (a1_1 == ((rd_T51 l0 x8_1).f1))) := by simpa using c7))
       clear c7
       have H' := Aside0.mk H
       clear H
       have hcz9_0 : wr.cell? ⟨gb328, 0, none⟩ = some (.int .i64 a1_0) := (blk_cell BK328.out 0).trans rfl
       have hcz9_1 : wr.cell? ⟨gb328, 1, none⟩ = some (.int .i64 a1_1) := (blk_cell BK328.out 1).trans rfl
       have hfz9_0 := blk_frozen BK328.out 0
       have hfz9_1 := blk_frozen BK328.out 1
       have p329 : 0 ≤ (x8_1 : Int) := da
       have q329 : x8_1 < (l0.length : Int) := da
       obtain ⟨ad329, e329, hx329_0, hx329_1⟩ := at_T51 HR0.out x8_1 p329 q329
       cases e329
       replace hx329_0 := (HB.out.cell (bL w _ hx329_0)).trans hx329_0
       replace hx329_1 := (HB.out.cell (bL w _ hx329_1)).trans hx329_1
       replace p329 := eq_true p329
       replace q329 := eq_true q329
       go_wp2
       repeat (go_quiet (fail); try go_wp2)
       go_roundg k1
       case measure => have := HK1.out; omega
       case rel => exact ⟨(wrap64 (x8_1 + 1)), (by first | rfl | (simp; done) | (simp [*]; done)), H', ⟨by have := HK1.out; omega⟩, ⟨by exact bk BK328⟩, ⟨by repeat (first | (with_reducible first | exact HB.out | apply below_alloc | apply pw_below_drewN | apply below_drew1 | refine below_set ?_ GE328.out) | exact HB.out)⟩⟩
     ·first | (exfalso; have z_ := of_decide_eq_true c4b0; omega) | (rw [if_neg c6] at H; exact absurd H (by simp))
    ·rw [if_neg c5] at H
     exact absurd H (by simp)
   ·rw [if_neg c4] at H
    have c4b0 : decide (x8_1 < (l0.length : Int)) = false := decide_eq_false c4
    clear c4
    obtain rfl := Option.some.inj H
    go_wp2
    repeat (go_quiet (fail); try go_wp2)
    go_ret
    exact ⟨by first | rfl | (simp [errW_none, errW_some] <;> rfl) | (simp [*, errW_none, errW_some] <;> rfl), by repeat (first | (with_reducible first | exact HB.out | apply below_alloc | apply pw_below_drewN | apply below_drew1 | refine below_set ?_ GE328.out) | exact HB.out)⟩
def impl_startOf.f (k : Nat) (l0 : List (S51)) (a1_0 : Int) (a1_1 : Int) : Option (Int) := (impl_Point_71.f k l0 a1_0 a1_1).bind fun t331 => (some t331)
theorem impl_startOf.mono : ∀ a0 a1 a2 k, LeO (impl_startOf.f k a0 a1 a2) (impl_startOf.f (k + 1) a0 a1 a2) := by
 intro a0 a1 a2 k
 unfold impl_startOf.f
 repeat' first
   | (with_reducible exact impl_Point_71.mono _ _ _ _)
   | (with_reducible exact LeO.refl _)
   | (with_reducible exact LeO.none _)
   | (with_reducible refine LeO.ite ?_ ?_)
   | (with_reducible refine LeO.bind ?_ (fun _ => ?_))
   | exact impl_Point_71.mono _ _ _ _
   | exact LeO.none _
   | refine LeO.ite ?_ ?_
   | refine LeO.bind ?_ (fun _ => ?_)
set_option maxHeartbeats 8000000 in
set_option maxRecDepth 100000 in
theorem impl_startOf.calls (k : Nat) (A0 : Option Addr) (c0 : Nat) (l0 : List (S51)) (a1_0 : Int) (a1_1 : Int) (r : Int) (w : World) (hr0 : Kd.C k51 w A0 l0.length l0) (hc0 : l0.length ≤ c0) (h : impl_startOf.f k l0 a1_0 a1_1 = some r) :
  Calls Try.prog 59 #[.slice A0 l0.length c0, .agg #[.int .i64 a1_0, .int .i64 a1_1]] w fun e w' => e = .returned (.int .i64 r) ∧ Below w.heap.size w w' := by
 have hu51 := Try.underlying51
 have HR0 := Aside0.mk hr0
 have HC0 := Aside0.mk hc0
 clear hr0 hc0
 have HB := Aside0.mk (Below.refl w.heap.size w)
 have H : ((impl_Point_71.f k l0 a1_0 a1_1).bind fun t331 => (some t331)) = some r := h
 clear h
 replace H := Option.bind_eq_some_iff.mp H
 obtain ⟨t331, A30, H⟩ := H
 replace H : (some t331) = some r := H
 have A3 := Aside0.mk A30
 clear A30
 obtain rfl := Option.some.inj H
 go_enter Try.func59, Try.ntmps59
 go_wp2_with (first | ((with_reducible refine gate_dst (N := 3) rfl ?_); refine bx (cs := #[.int .i64 a1_0, .int .i64 a1_1]) (t := 51) ?_; intro gb330 hg w4 hbox hb; have n0_ := sb hb; have n1_ := Aside0.mk (hbox); have n2_ := zb hg; have n3_ := zb hg; clear HB; have HB := n0_; have BK330 := n1_; have GW330 := n2_; have GE330 := n3_; clear n0_ n1_ n2_ n3_; clear hb hbox hg; have hcz5_0 := ck BK330 0; have hcz5_1 := ck BK330 1; have hfz5_0 := blk_frozen BK330.out 0; have hfz5_1 := blk_frozen BK330.out 1) | ((with_reducible refine gate_callee (f := 71) rfl ?_); refine goesL_ (some 7) rfl rfl Try.func71 (by kernel_rfl) rfl #[.slice A0 l0.length c0, .agg #[.int .i64 a1_0, .int .i64 a1_1]] rfl (by (try simp only [List.map_toArray, List.map_cons, List.map_nil]); first | done | rfl | (simp only [List.length_drop, List.length_take]; rfl)) ?_; (with_reducible refine (impl_Point_71.calls k _ _ l0 a1_0 a1_1 t331 _ ?side1 ?side2 A3.out).mono ?_); (case side1 => repeat (first | exact (Kd.C_below HR0.out HB.out) | (with_reducible refine Kd.C_alloc ?_ _) | (with_reducible refine Kd.C_drewN ?_ _) | (with_reducible refine Kd.C_drew ?_))); (case side2 => exact HC0.out); rintro e w6 ⟨rfl, hb⟩; refine ⟨_, rfl, ?_⟩; have n0_ := kb BK330 hb; have n1_ := sb hb; clear BK330; clear HB; have BK330 := n0_; have HB := n1_; clear n0_ n1_; (try clear hb); (try clear hb2); (try clear hk); (try clear hi)))
 go_ret
 exact ⟨by first | rfl | (simp [errW_none, errW_some] <;> rfl) | (simp [*, errW_none, errW_some] <;> rfl), by repeat (first | (with_reducible first | exact HB.out | apply below_alloc | apply pw_below_drewN | apply below_drew1 | refine below_set ?_ GE330.out) | exact HB.out)⟩
end Go.Proofs.Ytfhgfdphdmlpbaa.PFnExactTurnsOf
