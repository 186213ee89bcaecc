/- Contracts of functions that FnExactUncoveredArea reaches, out of the lines of the kit's print. -/
import Derived.Test.YtlfifbalakgfeaaQFnExactUncoveredAreax0
import Derived.Test.YtlfifbalakgfeaaQFnExactUncoveredAreax1
import Derived.Test.YtlfifbalakgfeaaQFnExactUncoveredAreax4
import Derived.Test.YtlfifbalakgfeaaQFnExactUncoveredAreax5
import Derived.Test.YtlfifbalakgfeaaQFnExactUncoveredAreax9
namespace Go.Proofs.Ytlfifbalakgfeaa.PFnExactUncoveredArea
open Go.RowKit Go.Proofs.YtlfifbalakgfeaaW.PrintWords Go.Proofs.YtlfifbalakgfeaaW.PrintLast Go.Proofs.YtlfifbalakgfeaaW.PrintMore
open Bool renaming true → tT, false → fF
open Go.World renaming block_lt_of_cell? → bL
attribute [local go_sem] max2_int min2_int max_two min_two max_three min_three max_four min_four
set_option linter.unusedVariables false
set_option linter.unusedSimpArgs false
attribute [local go_sem high] eqA48
mutual
def spec_l05Ok.j0 : Nat → Bool → Int → Int → List (S48) → List (S67) → Option (Bool × Int × Int)
 | 0, _, _, _, _, _ => none
 | k + 1, x32, x1000, x1001, x1002, x1003 => if x32 = true then (some (false, x1000, x1001)) else (spec_l05Ok.l0 k 0 x1000 x1001 x1002 x1003)
def spec_l05Ok.l0 : Nat → Int → Int → Int → List (S48) → List (S67) → Option (Bool × Int × Int)
 | 0, _, _, _, _, _ => none
 | k + 1, x3, x1000, x1001, x1002, x1003 => if x3 < (x1003.length : Int) then (if 0 ≤ x3 then ((spec_l01Name.f k ((rd_T67 x1003 x3).f0)).bind fun t244 => (if t244 = true then (if x3 > 0 then (if 0 ≤ (wrap64 (x3 - 1)) then (if (wrap64 (x3 - 1)) < (x1003.length : Int) then (spec_l05Ok.j2 k x3 (!(Op.bytesLess (((rd_T67 x1003 (wrap64 (x3 - 1))).f0).toList) (((rd_T67 x1003 x3).f0).toList))) x1000 x1001 x1002 x1003) else (none)) else (none)) else (spec_l05Ok.j2 k x3 false x1000 x1001 x1002 x1003)) else (spec_l05Ok.j2 k x3 true x1000 x1001 x1002 x1003))) else (none)) else (some (true, x1000, x1001))
def spec_l05Ok.j2 : Nat → Int → Bool → Int → Int → List (S48) → List (S67) → Option (Bool × Int × Int)
 | 0, _, _, _, _, _, _ => none
 | k + 1, x3, x75, x1000, x1001, x1002, x1003 => if x75 = true then (some (false, x1000, x1001)) else (if 0 ≤ x3 then (if x3 < (x1003.length : Int) then ((spec_l05Ring.f k x1000 x1001 x1002 x1003 ((rd_T67 x1003 x3).f1)).bind fun bt248 => (if bt248.2.1 = true then ((spec_l03Ok.f k bt248.1).bind fun t254 => (if t254 = true then (spec_l05Ok.l0 k (wrap64 (x3 + 1)) bt248.2.2.1 bt248.2.2.2 x1002 x1003) else (some (false, bt248.2.2.1, bt248.2.2.2)))) else (some (false, bt248.2.2.1, bt248.2.2.2)))) else (none)) else (none))
end
def spec_l05Ok.f (k : Nat) (s0_0 : Int) (s0_1 : Int) (s0_2 : List (S48)) (s0_3 : List (S67)) : Option (Bool × Int × Int) := (spec_l00In.f s0_0 10 20000).bind fun t238 => (if t238 = true then ((spec_l00In.f s0_1 10 20000).bind fun t239 => (if t239 = true then ((spec_l05Points.f k s0_0 s0_1 s0_2 s0_3).bind fun bt240 => (if bt240.1 = true then (spec_l05Ok.j0 k (decide ((s0_3.length : Int) > 24)) bt240.2.1 bt240.2.2 s0_2 s0_3) else (spec_l05Ok.j0 k true bt240.2.1 bt240.2.2 s0_2 s0_3))) else (spec_l05Ok.j0 k true s0_0 s0_1 s0_2 s0_3))) else (spec_l05Ok.j0 k true s0_0 s0_1 s0_2 s0_3))
theorem spec_l05Ok.mono_l : ∀ k, (∀ y0 y1 y2 y3 y4, LeO (spec_l05Ok.j0 k y0 y1 y2 y3 y4) (spec_l05Ok.j0 (k + 1) y0 y1 y2 y3 y4)) ∧ (∀ y0 y1 y2 y3 y4, LeO (spec_l05Ok.l0 k y0 y1 y2 y3 y4) (spec_l05Ok.l0 (k + 1) y0 y1 y2 y3 y4)) ∧ (∀ y0 y1 y2 y3 y4 y5, LeO (spec_l05Ok.j2 k y0 y1 y2 y3 y4 y5) (spec_l05Ok.j2 (k + 1) y0 y1 y2 y3 y4 y5))
 | 0 => ⟨fun _ _ _ _ _ r h => by simp [spec_l05Ok.j0] at h, fun _ _ _ _ _ r h => by simp [spec_l05Ok.l0] at h, fun _ _ _ _ _ _ r h => by simp [spec_l05Ok.j2] at h⟩
 | k + 1 => by
  obtain ⟨ih0, ih1, ih2⟩ := spec_l05Ok.mono_l k
  refine ⟨?_, ?_, ?_⟩
  ·intro y0 y1 y2 y3 y4
   unfold spec_l05Ok.j0
   repeat' first
   | (with_reducible exact ih0 _ _ _ _ _)
   | (with_reducible exact ih1 _ _ _ _ _)
   | (with_reducible exact ih2 _ _ _ _ _ _)
   | (with_reducible exact spec_l01Name.mono _ _)
   | (with_reducible exact spec_l03Ok.mono _ _)
   | (with_reducible exact spec_l05Points.mono _ _ _ _ _)
   | (with_reducible exact spec_l05Ring.mono _ _ _ _ _ _)
   | (with_reducible exact LeO.refl _)
   | (with_reducible exact LeO.none _)
   | (with_reducible refine LeO.ite ?_ ?_)
   | (with_reducible refine LeO.bind ?_ (fun _ => ?_))
   | exact ih0 _ _ _ _ _
   | exact ih1 _ _ _ _ _
   | exact ih2 _ _ _ _ _ _
   | exact spec_l01Name.mono _ _
   | exact spec_l03Ok.mono _ _
   | exact spec_l05Points.mono _ _ _ _ _
   | exact spec_l05Ring.mono _ _ _ _ _ _
   | exact LeO.none _
   | refine LeO.ite ?_ ?_
   | refine LeO.bind ?_ (fun _ => ?_)
  ·intro y0 y1 y2 y3 y4
   unfold spec_l05Ok.l0
   repeat' first
   | (with_reducible exact ih0 _ _ _ _ _)
   | (with_reducible exact ih1 _ _ _ _ _)
   | (with_reducible exact ih2 _ _ _ _ _ _)
   | (with_reducible exact spec_l01Name.mono _ _)
   | (with_reducible exact spec_l03Ok.mono _ _)
   | (with_reducible exact spec_l05Points.mono _ _ _ _ _)
   | (with_reducible exact spec_l05Ring.mono _ _ _ _ _ _)
   | (with_reducible exact LeO.refl _)
   | (with_reducible exact LeO.none _)
   | (with_reducible refine LeO.ite ?_ ?_)
   | (with_reducible refine LeO.bind ?_ (fun _ => ?_))
   | exact ih0 _ _ _ _ _
   | exact ih1 _ _ _ _ _
   | exact ih2 _ _ _ _ _ _
   | exact spec_l01Name.mono _ _
   | exact spec_l03Ok.mono _ _
   | exact spec_l05Points.mono _ _ _ _ _
   | exact spec_l05Ring.mono _ _ _ _ _ _
   | exact LeO.none _
   | refine LeO.ite ?_ ?_
   | refine LeO.bind ?_ (fun _ => ?_)
  ·intro y0 y1 y2 y3 y4 y5
   unfold spec_l05Ok.j2
   repeat' first
   | (with_reducible exact ih0 _ _ _ _ _)
   | (with_reducible exact ih1 _ _ _ _ _)
   | (with_reducible exact ih2 _ _ _ _ _ _)
   | (with_reducible exact spec_l01Name.mono _ _)
   | (with_reducible exact spec_l03Ok.mono _ _)
   | (with_reducible exact spec_l05Points.mono _ _ _ _ _)
   | (with_reducible exact spec_l05Ring.mono _ _ _ _ _ _)
   | (with_reducible exact LeO.refl _)
   | (with_reducible exact LeO.none _)
   | (with_reducible refine LeO.ite ?_ ?_)
   | (with_reducible refine LeO.bind ?_ (fun _ => ?_))
   | exact ih0 _ _ _ _ _
   | exact ih1 _ _ _ _ _
   | exact ih2 _ _ _ _ _ _
   | exact spec_l01Name.mono _ _
   | exact spec_l03Ok.mono _ _
   | exact spec_l05Points.mono _ _ _ _ _
   | exact spec_l05Ring.mono _ _ _ _ _ _
   | exact LeO.none _
   | refine LeO.ite ?_ ?_
   | refine LeO.bind ?_ (fun _ => ?_)
theorem spec_l05Ok.mono : ∀ a0 a1 a2 a3 k, LeO (spec_l05Ok.f k a0 a1 a2 a3) (spec_l05Ok.f (k + 1) a0 a1 a2 a3) := by
 intro a0 a1 a2 a3 k
 obtain ⟨ih0, ih1, ih2⟩ := spec_l05Ok.mono_l k
 unfold spec_l05Ok.f
 repeat' first
   | (with_reducible exact ih0 _ _ _ _ _)
   | (with_reducible exact ih1 _ _ _ _ _)
   | (with_reducible exact ih2 _ _ _ _ _ _)
   | (with_reducible exact spec_l01Name.mono _ _)
   | (with_reducible exact spec_l03Ok.mono _ _)
   | (with_reducible exact spec_l05Points.mono _ _ _ _ _)
   | (with_reducible exact spec_l05Ring.mono _ _ _ _ _ _)
   | (with_reducible exact LeO.refl _)
   | (with_reducible exact LeO.none _)
   | (with_reducible refine LeO.ite ?_ ?_)
   | (with_reducible refine LeO.bind ?_ (fun _ => ?_))
   | exact ih0 _ _ _ _ _
   | exact ih1 _ _ _ _ _
   | exact ih2 _ _ _ _ _ _
   | exact spec_l01Name.mono _ _
   | exact spec_l03Ok.mono _ _
   | exact spec_l05Points.mono _ _ _ _ _
   | exact spec_l05Ring.mono _ _ _ _ _ _
   | exact LeO.none _
   | refine LeO.ite ?_ ?_
   | refine LeO.bind ?_ (fun _ => ?_)
set_option maxHeartbeats 8000000 in
set_option maxRecDepth 100000 in
theorem spec_l05Ok.calls (k : Nat) (g : Nat) (s0_0 : Int) (s0_1 : Int) (s0_2 : List (S48)) (s0_3 : List (S67)) (r1 : Bool) (r2 : Int) (r3 : Int) (w0 w : World) (hI : IsS31 w0 w g s0_0 s0_1 s0_2 s0_3) (hB : Below w0.heap.size w0 w) (h : spec_l05Ok.f k s0_0 s0_1 s0_2 s0_3 = some (r1, r2, r3)) :
  Calls Try.prog 37 #[.pointer (some ⟨g, 0, none⟩)] w fun e w' => e = .returned (.bool r1) ∧ IsS31 w0 w' g r2 r3 s0_2 s0_3 ∧ Below w0.heap.size w0 w' ∧ KeepBut w w' g none := by
 have HI0 := Aside0.mk hI
 have HK := Aside0.mk (KeepBut.refl w g none)
 have HL := Aside0.mk hB.size
 clear hI
 have HW0 := Aside0.mk hB.size
 have HB := Aside0.mk hB
 clear hB
 have H : ((spec_l00In.f s0_0 10 20000).bind fun t238 => (if t238 = true then ((spec_l00In.f s0_1 10 20000).bind fun t239 => (if t239 = true then ((spec_l05Points.f k s0_0 s0_1 s0_2 s0_3).bind fun bt240 => (if bt240.1 = true then (spec_l05Ok.j0 k (decide ((s0_3.length : Int) > 24)) bt240.2.1 bt240.2.2 s0_2 s0_3) else (spec_l05Ok.j0 k true bt240.2.1 bt240.2.2 s0_2 s0_3))) else (spec_l05Ok.j0 k true s0_0 s0_1 s0_2 s0_3))) else (spec_l05Ok.j0 k true s0_0 s0_1 s0_2 s0_3))) = some (r1, r2, r3) := h
 clear h
 obtain ⟨A2, c2, A3, c3, hblk, hge, hr2, hr3⟩ := HI0.out
 have q0 : w.cell? ⟨g, 0, none⟩ = some (.int .i64 s0_0) := cellS31_0 hblk
 have q1 : w.cell? ⟨g, 1, none⟩ = some (.int .i64 s0_1) := cellS31_1 hblk
 clear hblk hge hr2 hr3 A2 c2 A3 c3
 replace H := Option.bind_eq_some_iff.mp H
 obtain ⟨t1, A10, H⟩ := H
 have A1_ := Aside0.mk A10
 clear A10
 have zero : ∀ (b : Bool) (y : Int) (z : Int), spec_l05Ok.j0 0 b y z s0_2 s0_3 = some (r1, r2, r3) → False := fun b y z h => by simp [spec_l05Ok.j0] at h
 have one : ∀ (k : Nat) (y : Int) (z : Int), spec_l05Ok.j0 k true y z s0_2 s0_3 = some (r1, r2, r3) → r1 = false ∧ r2 = y ∧ r3 = z := fun k y z h => by
  cases k with
  | zero => exact (zero _ _ _ h).elim
  | succ k => simp only [spec_l05Ok.j0, if_true, Option.some.injEq, Prod.mk.injEq] at h; exact ⟨h.1.symm, h.2.1.symm, h.2.2.symm⟩
 cases t1 with
 | false =>
  replace H := (show (spec_l05Ok.j0 k true s0_0 s0_1 s0_2 s0_3) = some (r1, r2, r3) from by first | exact H | simpa using H)
  obtain ⟨rfl, rfl, rfl⟩ := one _ _ _ H
  clear zero one H
  go_enter Try.func37, Try.ntmps37
  go_wp2_with (first | ((with_reducible refine gate_callee (f := 61) rfl ?_); refine goesL_ (some 10) rfl rfl Try.func61 (by kernel_rfl) rfl #[.int .i64 s0_0, .int .i64 10, .int .i64 20000] rfl (by (try simp only [List.map_toArray, List.map_cons, List.map_nil]); first | done | rfl) ?_; (with_reducible refine (spec_l00In.calls _ _ _ _ _ A1_.out).mono ?_); rintro e w5 ⟨rfl, ⟨nd, rfl⟩⟩; refine ⟨_, rfl, ?_⟩) | (go_at_call 61; (with_reducible refine (spec_l00In.calls _ _ _ _ _ A1_.out).mono ?_); rintro e w5 ⟨rfl, ⟨nd, rfl⟩⟩))
  go_ret
  exact ⟨(by first | rfl | (simp; done) | (simp [*]; done)), (by repeat (first | exact HI0.out | apply IsS31.drewN | apply IsS31.drew)), (by repeat (first | exact HB.out | apply pw_below_drewN | apply below_drew1)), (by repeat (first | exact HK.out | apply keep_drewN | apply keep_drew))⟩
 | true =>
  replace H := (show ((spec_l00In.f s0_1 10 20000).bind fun t239 => (if t239 = true then ((spec_l05Points.f k s0_0 s0_1 s0_2 s0_3).bind fun bt240 => (if bt240.1 = true then (spec_l05Ok.j0 k (decide ((s0_3.length : Int) > 24)) bt240.2.1 bt240.2.2 s0_2 s0_3) else (spec_l05Ok.j0 k true bt240.2.1 bt240.2.2 s0_2 s0_3))) else (spec_l05Ok.j0 k true s0_0 s0_1 s0_2 s0_3))) = some (r1, r2, r3) from by first | exact H | simpa using H)
  replace H := Option.bind_eq_some_iff.mp H
  obtain ⟨t2, A20, H⟩ := H
  have A2_ := Aside0.mk A20
  clear A20
  cases t2 with
  | false =>
   replace H := (show (spec_l05Ok.j0 k true s0_0 s0_1 s0_2 s0_3) = some (r1, r2, r3) from by first | exact H | simpa using H)
   obtain ⟨rfl, rfl, rfl⟩ := one _ _ _ H
   clear zero one H
   go_enter Try.func37, Try.ntmps37
   go_wp2_with (first | ((with_reducible refine gate_callee (f := 61) rfl ?_); refine goesL_ (some 10) rfl rfl Try.func61 (by kernel_rfl) rfl #[.int .i64 s0_0, .int .i64 10, .int .i64 20000] rfl (by (try simp only [List.map_toArray, List.map_cons, List.map_nil]); first | done | rfl) ?_; (with_reducible refine (spec_l00In.calls _ _ _ _ _ A1_.out).mono ?_); rintro e w5 ⟨rfl, ⟨nd, rfl⟩⟩; refine ⟨_, rfl, ?_⟩) | (go_at_call 61; (with_reducible refine (spec_l00In.calls _ _ _ _ _ A1_.out).mono ?_); rintro e w5 ⟨rfl, ⟨nd, rfl⟩⟩) | ((with_reducible refine gate_callee (f := 61) rfl ?_); refine goesL_ (some 17) rfl rfl Try.func61 (by kernel_rfl) rfl #[.int .i64 s0_1, .int .i64 10, .int .i64 20000] rfl (by (try simp only [List.map_toArray, List.map_cons, List.map_nil]); first | done | rfl) ?_; (with_reducible refine (spec_l00In.calls _ _ _ _ _ A2_.out).mono ?_); rintro e w5 ⟨rfl, ⟨nd, rfl⟩⟩; refine ⟨_, rfl, ?_⟩) | (go_at_call 61; (with_reducible refine (spec_l00In.calls _ _ _ _ _ A2_.out).mono ?_); rintro e w5 ⟨rfl, ⟨nd, rfl⟩⟩))
   go_ret
   exact ⟨(by first | rfl | (simp; done) | (simp [*]; done)), (by repeat (first | exact HI0.out | apply IsS31.drewN | apply IsS31.drew)), (by repeat (first | exact HB.out | apply pw_below_drewN | apply below_drew1)), (by repeat (first | exact HK.out | apply keep_drewN | apply keep_drew))⟩
  | true =>
   replace H := (show ((spec_l05Points.f k s0_0 s0_1 s0_2 s0_3).bind fun bt240 => (if bt240.1 = true then (spec_l05Ok.j0 k (decide ((s0_3.length : Int) > 24)) bt240.2.1 bt240.2.2 s0_2 s0_3) else (spec_l05Ok.j0 k true bt240.2.1 bt240.2.2 s0_2 s0_3))) = some (r1, r2, r3) from by first | exact H | simpa using H)
   replace H := Option.bind_eq_some_iff.mp H
   obtain ⟨⟨t3, a0, a1⟩, A30, H⟩ := H
   have A3_ := Aside0.mk A30
   clear A30
   cases t3 with
   | false =>
    replace H := (show (spec_l05Ok.j0 k true a0 a1 s0_2 s0_3) = some (r1, r2, r3) from by first | exact H | simpa using H)
    obtain ⟨rfl, rfl, rfl⟩ := one _ _ _ H
    clear zero one H
    go_enter Try.func37, Try.ntmps37
    go_wp2_with (first | ((with_reducible refine gate_callee (f := 61) rfl ?_); refine goesL_ (some 10) rfl rfl Try.func61 (by kernel_rfl) rfl #[.int .i64 s0_0, .int .i64 10, .int .i64 20000] rfl (by (try simp only [List.map_toArray, List.map_cons, List.map_nil]); first | done | rfl) ?_; (with_reducible refine (spec_l00In.calls _ _ _ _ _ A1_.out).mono ?_); rintro e w5 ⟨rfl, ⟨nd, rfl⟩⟩; refine ⟨_, rfl, ?_⟩) | (go_at_call 61; (with_reducible refine (spec_l00In.calls _ _ _ _ _ A1_.out).mono ?_); rintro e w5 ⟨rfl, ⟨nd, rfl⟩⟩) | ((with_reducible refine gate_callee (f := 61) rfl ?_); refine goesL_ (some 17) rfl rfl Try.func61 (by kernel_rfl) rfl #[.int .i64 s0_1, .int .i64 10, .int .i64 20000] rfl (by (try simp only [List.map_toArray, List.map_cons, List.map_nil]); first | done | rfl) ?_; (with_reducible refine (spec_l00In.calls _ _ _ _ _ A2_.out).mono ?_); rintro e w5 ⟨rfl, ⟨nd, rfl⟩⟩; refine ⟨_, rfl, ?_⟩) | (go_at_call 61; (with_reducible refine (spec_l00In.calls _ _ _ _ _ A2_.out).mono ?_); rintro e w5 ⟨rfl, ⟨nd, rfl⟩⟩) | ((with_reducible refine gate_callee (f := 66) rfl ?_); refine goesL_ (some 22) rfl rfl Try.func66 (by kernel_rfl) rfl #[.pointer (some ⟨g, 0, none⟩)] rfl (by (try simp only [List.map_toArray, List.map_cons, List.map_nil]); first | done | rfl) ?_; (with_reducible refine (spec_l05Points.calls _ g s0_0 s0_1 s0_2 s0_3 _ _ _ w0 _ (by repeat (first | exact HI0.out | apply IsS31.drewN | apply IsS31.drew)) (by repeat (first | exact HB.out | apply pw_below_drewN | apply below_drew1)) A3_.out).mono ?_); rintro e w5 ⟨rfl, hi, hb, hk⟩; refine ⟨_, rfl, ?_⟩; have n0_ := Aside0.mk hi; have n1_ := Aside0.mk hb; have n2_ : Aside0 (KeepBut w w5 g none) := ⟨KeepBut.trans (by repeat (first | exact HK.out | apply keep_drewN | apply keep_drew)) hk (.inl rfl)⟩; clear hi hb hk HI0 HB HK; have HI0 := n0_; have HB := n1_; have HK := n2_; clear n0_ n1_ n2_; obtain ⟨A2, c2, A3, c3, hblk, hge, hr2, hr3⟩ := HI0.out; have q3 : w5.cell? ⟨g, 3, none⟩ = _ := cellS31_3 hblk; clear hblk hge hr2 hr3) | (go_at_call 66; (with_reducible refine (spec_l05Points.calls _ g s0_0 s0_1 s0_2 s0_3 _ _ _ w0 _ (by repeat (first | exact HI0.out | apply IsS31.drewN | apply IsS31.drew)) (by repeat (first | exact HB.out | apply pw_below_drewN | apply below_drew1)) A3_.out).mono ?_); rintro e w5 ⟨rfl, hi, hb, hk⟩; have n0_ := Aside0.mk hi; have n1_ := Aside0.mk hb; have n2_ : Aside0 (KeepBut w w5 g none) := ⟨KeepBut.trans (by repeat (first | exact HK.out | apply keep_drewN | apply keep_drew)) hk (.inl rfl)⟩; clear hi hb hk HI0 HB HK; have HI0 := n0_; have HB := n1_; have HK := n2_; clear n0_ n1_ n2_; obtain ⟨A2, c2, A3, c3, hblk, hge, hr2, hr3⟩ := HI0.out; have q3 : w5.cell? ⟨g, 3, none⟩ = _ := cellS31_3 hblk; clear hblk hge hr2 hr3))
    go_ret
    exact ⟨(by first | rfl | (simp; done) | (simp [*]; done)), (by repeat (first | exact HI0.out | apply IsS31.drewN | apply IsS31.drew)), (by repeat (first | exact HB.out | apply pw_below_drewN | apply below_drew1)), (by repeat (first | exact HK.out | apply keep_drewN | apply keep_drew))⟩
   | true =>
    replace H := (show (spec_l05Ok.j0 k (decide ((s0_3.length : Int) > 24)) a0 a1 s0_2 s0_3) = some (r1, r2, r3) from by first | exact H | simpa using H)
    by_cases c1 : (s0_3.length : Int) > 24
    ·have c1b : decide (24 < (s0_3.length : Int)) = true := decide_eq_true c1
     rw [decide_eq_true c1] at H
     obtain ⟨rfl, rfl, rfl⟩ := one _ _ _ H
     clear zero one H c1
     go_enter Try.func37, Try.ntmps37
     go_wp2_with (first | ((with_reducible refine gate_callee (f := 61) rfl ?_); refine goesL_ (some 10) rfl rfl Try.func61 (by kernel_rfl) rfl #[.int .i64 s0_0, .int .i64 10, .int .i64 20000] rfl (by (try simp only [List.map_toArray, List.map_cons, List.map_nil]); first | done | rfl) ?_; (with_reducible refine (spec_l00In.calls _ _ _ _ _ A1_.out).mono ?_); rintro e w5 ⟨rfl, ⟨nd, rfl⟩⟩; refine ⟨_, rfl, ?_⟩) | (go_at_call 61; (with_reducible refine (spec_l00In.calls _ _ _ _ _ A1_.out).mono ?_); rintro e w5 ⟨rfl, ⟨nd, rfl⟩⟩) | ((with_reducible refine gate_callee (f := 61) rfl ?_); refine goesL_ (some 17) rfl rfl Try.func61 (by kernel_rfl) rfl #[.int .i64 s0_1, .int .i64 10, .int .i64 20000] rfl (by (try simp only [List.map_toArray, List.map_cons, List.map_nil]); first | done | rfl) ?_; (with_reducible refine (spec_l00In.calls _ _ _ _ _ A2_.out).mono ?_); rintro e w5 ⟨rfl, ⟨nd, rfl⟩⟩; refine ⟨_, rfl, ?_⟩) | (go_at_call 61; (with_reducible refine (spec_l00In.calls _ _ _ _ _ A2_.out).mono ?_); rintro e w5 ⟨rfl, ⟨nd, rfl⟩⟩) | ((with_reducible refine gate_callee (f := 66) rfl ?_); refine goesL_ (some 22) rfl rfl Try.func66 (by kernel_rfl) rfl #[.pointer (some ⟨g, 0, none⟩)] rfl (by (try simp only [List.map_toArray, List.map_cons, List.map_nil]); first | done | rfl) ?_; (with_reducible refine (spec_l05Points.calls _ g s0_0 s0_1 s0_2 s0_3 _ _ _ w0 _ (by repeat (first | exact HI0.out | apply IsS31.drewN | apply IsS31.drew)) (by repeat (first | exact HB.out | apply pw_below_drewN | apply below_drew1)) A3_.out).mono ?_); rintro e w5 ⟨rfl, hi, hb, hk⟩; refine ⟨_, rfl, ?_⟩; have n0_ := Aside0.mk hi; have n1_ := Aside0.mk hb; have n2_ : Aside0 (KeepBut w w5 g none) := ⟨KeepBut.trans (by repeat (first | exact HK.out | apply keep_drewN | apply keep_drew)) hk (.inl rfl)⟩; clear hi hb hk HI0 HB HK; have HI0 := n0_; have HB := n1_; have HK := n2_; clear n0_ n1_ n2_; obtain ⟨A2, c2, A3, c3, hblk, hge, hr2, hr3⟩ := HI0.out; have q3 : w5.cell? ⟨g, 3, none⟩ = _ := cellS31_3 hblk; clear hblk hge hr2 hr3) | (go_at_call 66; (with_reducible refine (spec_l05Points.calls _ g s0_0 s0_1 s0_2 s0_3 _ _ _ w0 _ (by repeat (first | exact HI0.out | apply IsS31.drewN | apply IsS31.drew)) (by repeat (first | exact HB.out | apply pw_below_drewN | apply below_drew1)) A3_.out).mono ?_); rintro e w5 ⟨rfl, hi, hb, hk⟩; have n0_ := Aside0.mk hi; have n1_ := Aside0.mk hb; have n2_ : Aside0 (KeepBut w w5 g none) := ⟨KeepBut.trans (by repeat (first | exact HK.out | apply keep_drewN | apply keep_drew)) hk (.inl rfl)⟩; clear hi hb hk HI0 HB HK; have HI0 := n0_; have HB := n1_; have HK := n2_; clear n0_ n1_ n2_; obtain ⟨A2, c2, A3, c3, hblk, hge, hr2, hr3⟩ := HI0.out; have q3 : w5.cell? ⟨g, 3, none⟩ = _ := cellS31_3 hblk; clear hblk hge hr2 hr3))
     go_ret
     exact ⟨(by first | rfl | (simp; done) | (simp [*]; done)), (by repeat (first | exact HI0.out | apply IsS31.drewN | apply IsS31.drew)), (by repeat (first | exact HB.out | apply pw_below_drewN | apply below_drew1)), (by repeat (first | exact HK.out | apply keep_drewN | apply keep_drew))⟩
    ·have c1b : decide (24 < (s0_3.length : Int)) = false := decide_eq_false c1
     rw [decide_eq_false c1] at H
     cases k with
     | zero => exact (zero _ _ _ H).elim
     | succ k =>
     simp only [spec_l05Ok.j0, Bool.false_eq_true, if_false] at H
     have H' := Aside0.mk H
     clear zero one H c1
     go_enter Try.func37, Try.ntmps37
     go_wp2_with (first | ((with_reducible refine gate_callee (f := 61) rfl ?_); refine goesL_ (some 10) rfl rfl Try.func61 (by kernel_rfl) rfl #[.int .i64 s0_0, .int .i64 10, .int .i64 20000] rfl (by (try simp only [List.map_toArray, List.map_cons, List.map_nil]); first | done | rfl) ?_; (with_reducible refine (spec_l00In.calls _ _ _ _ _ A1_.out).mono ?_); rintro e w5 ⟨rfl, ⟨nd, rfl⟩⟩; refine ⟨_, rfl, ?_⟩) | (go_at_call 61; (with_reducible refine (spec_l00In.calls _ _ _ _ _ A1_.out).mono ?_); rintro e w5 ⟨rfl, ⟨nd, rfl⟩⟩) | ((with_reducible refine gate_callee (f := 61) rfl ?_); refine goesL_ (some 17) rfl rfl Try.func61 (by kernel_rfl) rfl #[.int .i64 s0_1, .int .i64 10, .int .i64 20000] rfl (by (try simp only [List.map_toArray, List.map_cons, List.map_nil]); first | done | rfl) ?_; (with_reducible refine (spec_l00In.calls _ _ _ _ _ A2_.out).mono ?_); rintro e w5 ⟨rfl, ⟨nd, rfl⟩⟩; refine ⟨_, rfl, ?_⟩) | (go_at_call 61; (with_reducible refine (spec_l00In.calls _ _ _ _ _ A2_.out).mono ?_); rintro e w5 ⟨rfl, ⟨nd, rfl⟩⟩) | ((with_reducible refine gate_callee (f := 66) rfl ?_); refine goesL_ (some 22) rfl rfl Try.func66 (by kernel_rfl) rfl #[.pointer (some ⟨g, 0, none⟩)] rfl (by (try simp only [List.map_toArray, List.map_cons, List.map_nil]); first | done | rfl) ?_; (with_reducible refine (spec_l05Points.calls _ g s0_0 s0_1 s0_2 s0_3 _ _ _ w0 _ (by repeat (first | exact HI0.out | apply IsS31.drewN | apply IsS31.drew)) (by repeat (first | exact HB.out | apply pw_below_drewN | apply below_drew1)) A3_.out).mono ?_); rintro e w5 ⟨rfl, hi, hb, hk⟩; refine ⟨_, rfl, ?_⟩; have n0_ := Aside0.mk hi; have n1_ := Aside0.mk hb; have n2_ : Aside0 (KeepBut w w5 g none) := ⟨KeepBut.trans (by repeat (first | exact HK.out | apply keep_drewN | apply keep_drew)) hk (.inl rfl)⟩; clear hi hb hk HI0 HB HK; have HI0 := n0_; have HB := n1_; have HK := n2_; clear n0_ n1_ n2_; obtain ⟨A2, c2, A3, c3, hblk, hge, hr2, hr3⟩ := HI0.out; have q3 : w5.cell? ⟨g, 3, none⟩ = _ := cellS31_3 hblk; clear hblk hge hr2 hr3) | (go_at_call 66; (with_reducible refine (spec_l05Points.calls _ g s0_0 s0_1 s0_2 s0_3 _ _ _ w0 _ (by repeat (first | exact HI0.out | apply IsS31.drewN | apply IsS31.drew)) (by repeat (first | exact HB.out | apply pw_below_drewN | apply below_drew1)) A3_.out).mono ?_); rintro e w5 ⟨rfl, hi, hb, hk⟩; have n0_ := Aside0.mk hi; have n1_ := Aside0.mk hb; have n2_ : Aside0 (KeepBut w w5 g none) := ⟨KeepBut.trans (by repeat (first | exact HK.out | apply keep_drewN | apply keep_drew)) hk (.inl rfl)⟩; clear hi hb hk HI0 HB HK; have HI0 := n0_; have HB := n1_; have HK := n2_; clear n0_ n1_ n2_; obtain ⟨A2, c2, A3, c3, hblk, hge, hr2, hr3⟩ := HI0.out; have q3 : w5.cell? ⟨g, 3, none⟩ = _ := cellS31_3 hblk; clear hblk hge hr2 hr3))
     clear q0 q1 q3
     go_loopg [3] k (fun kq v3 w' => ∃ (x3 : Int) (b0 b1 : Int), v3 = .int .i64 x3 ∧ Aside0 (spec_l05Ok.l0 kq x3 b0 b1 s0_2 s0_3 = some (r1, r2, r3)) ∧ Aside0 (kq ≤ k) ∧ Aside0 (IsS31 w0 w' g b0 b1 s0_2 s0_3) ∧ Aside0 (Below w0.heap.size w0 w') ∧ Aside0 (KeepBut w w' g none))
     case atStart => exact ⟨0, a0, a1, rfl, H', ⟨Nat.le_refl _⟩, ⟨(by repeat (first | exact HI0.out | apply IsS31.drewN | apply IsS31.drew))⟩, ⟨(by repeat (first | exact HB.out | apply pw_below_drewN | apply below_drew1))⟩, ⟨(by repeat (first | exact HK.out | apply keep_drewN | apply keep_drew))⟩⟩
     case round =>
      clear H' HI0 HB HK
      obtain ⟨x3, b0, b1, rfl, HA, HK1, HI0, HB, HK⟩ := hrel
      cases gk with
      | zero => exact absurd HA.out (by simp [spec_l05Ok.l0])
      | succ k1 =>
       have H := HA.out
       clear HA
       simp only [spec_l05Ok.l0] at H
       obtain ⟨A2, c2, A3, c3, hblk, hge, hr2, hr3⟩ := HI0.out
       have q3 : wr.cell? ⟨g, 3, none⟩ = some (.slice A3 s0_3.length c3) := cellS31_3 hblk
       clear hblk hr2
       by_cases c3_ : x3 < (s0_3.length : Int)
       ·rw [if_pos c3_] at H
        have c3b : decide (x3 < (s0_3.length : Int)) = true := decide_eq_true c3_
        by_cases c4_ : 0 ≤ x3
        ·rw [if_pos c4_] at H
         have c4b : decide (0 ≤ x3) = true := decide_eq_true c4_
         obtain ⟨adf, Ar, cr, ef, y0_, y1_, hcr, hrr⟩ := at_T67 hr3 x3 c4_ c3_
         cases ef
         have C3 := Aside0.mk c3_
         have C4 := Aside0.mk c4_
         replace c3_ := eq_true c3_
         replace c4_ := eq_true c4_
         have y0 := (HB.out.cell (bL w0 _ y0_)).trans y0_
         have y1 := (HB.out.cell (bL w0 _ y1_)).trans y1_
         have Y1 := Aside0.mk y1_
         have Q3 := Aside0.mk q3
         clear y0_ y1_ y1
         replace H := Option.bind_eq_some_iff.mp H
         obtain ⟨t4, A40, H⟩ := H
         have A4_ := Aside0.mk A40
         clear A40
         have jz : ∀ (b : Bool), spec_l05Ok.j2 0 x3 b b0 b1 s0_2 s0_3 = some (r1, r2, r3) → False := fun b h => by simp [spec_l05Ok.j2] at h
         have jt : ∀ (k : Nat), spec_l05Ok.j2 k x3 true b0 b1 s0_2 s0_3 = some (r1, r2, r3) → r1 = false ∧ r2 = b0 ∧ r3 = b1 := fun k h => by
          cases k with
          | zero => exact (jz _ h).elim
          | succ k => simp only [spec_l05Ok.j2, if_true, Option.some.injEq, Prod.mk.injEq] at h; exact ⟨h.1.symm, h.2.1.symm, h.2.2.symm⟩
         cases t4 with
         | false =>
          replace H := (show (spec_l05Ok.j2 k1 x3 true b0 b1 s0_2 s0_3) = some (r1, r2, r3) from by first | exact H | simpa using H)
          obtain ⟨rfl, rfl, rfl⟩ := jt _ H
          clear jz jt H
          go_wp2
          go_quiet (with_reducible exact Calls.quiet_of ((spec_l01Name.calls _ _ _ _ A4_.out).mono fun e w' h => ⟨h.1, h.2.out⟩))
          go_wp2
          go_ret
          exact ⟨(by first | rfl | (simp; done) | (simp [*]; done)), (by repeat (first | exact HI0.out | apply IsS31.drewN | apply IsS31.drew)), (by repeat (first | exact HB.out | apply pw_below_drewN | apply below_drew1)), (by repeat (first | exact HK.out | apply keep_drewN | apply keep_drew))⟩
         | true =>
          replace H := (show ((if x3 > 0 then (if 0 ≤ (wrap64 (x3 - 1)) then (if (wrap64 (x3 - 1)) < (s0_3.length : Int) then (spec_l05Ok.j2 k1 x3 (!(Op.bytesLess (((rd_T67 s0_3 (wrap64 (x3 - 1))).f0).toList) (((rd_T67 s0_3 x3).f0).toList))) b0 b1 s0_2 s0_3) else (none)) else (none)) else (spec_l05Ok.j2 k1 x3 false b0 b1 s0_2 s0_3))) = some (r1, r2, r3) from by first | exact H | simpa using H)
          by_cases c5_ : x3 > 0
          ·rw [if_pos c5_] at H
           have c5b : decide (0 < x3) = true := decide_eq_true c5_
           clear c5_
           obtain ⟨ji, hji⟩ : ∃ j_ : Int, wrap64 (x3 - 1) = j_ := ⟨_, rfl⟩
           rw [hji] at H
           have hjr : IntKind.i64.wrap (x3 - 1) = ji := by first | (rw [i64_w]; exact hji) | exact hji
           by_cases c6_ : 0 ≤ ji
           ·rw [if_pos c6_] at H
            have c6b : decide (0 ≤ ji) = true := decide_eq_true c6_
            by_cases c7_ : ji < (s0_3.length : Int)
            ·rw [if_pos c7_] at H
             have c7b : decide (ji < (s0_3.length : Int)) = true := decide_eq_true c7_
             obtain ⟨adf2, Ar2, cr2, ef2, z0_, z1_, _, _⟩ := at_T67 hr3 ji c6_ c7_
             cases ef2
             replace c6_ := eq_true c6_
             replace c7_ := eq_true c7_
             have z0 := (HB.out.cell (bL w0 _ z0_)).trans z0_
             clear z0_ z1_
             cases c8_ : Op.bytesLess (((rd_T67 s0_3 ji).f0).toList) (((rd_T67 s0_3 x3).f0).toList) with
             | false =>
              rw [c8_] at H
              obtain ⟨rfl, rfl, rfl⟩ := jt _ H
              clear jz jt H
              go_wp2
              go_quiet (with_reducible exact Calls.quiet_of ((spec_l01Name.calls _ _ _ _ A4_.out).mono fun e w' h => ⟨h.1, h.2.out⟩))
              go_wp2
              go_ret
              exact ⟨(by first | rfl | (simp; done) | (simp [*]; done)), (by repeat (first | exact HI0.out | apply IsS31.drewN | apply IsS31.drew)), (by repeat (first | exact HB.out | apply pw_below_drewN | apply below_drew1)), (by repeat (first | exact HK.out | apply keep_drewN | apply keep_drew))⟩
             | true =>
              rw [c8_] at H
              replace H := (show (spec_l05Ok.j2 k1 x3 false b0 b1 s0_2 s0_3) = some (r1, r2, r3) from by first | exact H | simpa using H)
              cases k1 with
              | zero => exact (jz _ H).elim
              | succ k2 =>
              simp only [spec_l05Ok.j2, Bool.false_eq_true, if_false] at H
              rw [if_pos C4.out, if_pos C3.out] at H
              clear jz jt
              replace H := Option.bind_eq_some_iff.mp H
              obtain ⟨⟨pl, t5, d0, d1⟩, A50, H⟩ := H
              have A5_ := Aside0.mk A50
              clear A50
              have ne_ : ∀ ad, Ar = some ad → 0 < (rd_T67 s0_3 x3).f1.length → ad.block ≠ g := fun ad hA hn => by
               obtain ⟨ad', e, hx⟩ := Kd.at_int hrr 0 (by omega) (by omega)
               rw [hA] at e
               cases e
               have := bL w0 _ hx
               rw [add_block] at this
               omega
              have go1 : True := trivial
              go_wp2
              go_quiet (with_reducible exact Calls.quiet_of ((spec_l01Name.calls _ _ _ _ A4_.out).mono fun e w' h => ⟨h.1, h.2.out⟩))
              have y1 := (HB.out.cell (bL w0 _ Y1.out)).trans Y1.out
              cases t5 with
              | false =>
               replace H := (show (some (false, d0, d1)) = some (r1, r2, r3) from by first | exact H | simpa using H)
               simp only [Option.some.injEq, Prod.mk.injEq] at H
               obtain ⟨rfl, rfl, rfl⟩ := H
               go_wp2_with (first | ((with_reducible refine gate_callee (f := 68) rfl ?_); refine goesL_ (some 86) rfl rfl Try.func68 (by kernel_rfl) rfl #[.pointer (some ⟨g, 0, none⟩), .slice Ar (rd_T67 s0_3 x3).f1.length cr] rfl (by (try simp only [List.map_toArray, List.map_cons, List.map_nil]); first | done | rfl) ?_; (with_reducible refine (spec_l05Ring.calls _ g b0 b1 s0_2 s0_3 Ar cr (rd_T67 s0_3 x3).f1 _ _ _ _ w0 _ (by repeat (first | exact HI0.out | apply IsS31.drewN | apply IsS31.drew)) (by repeat (first | exact HB.out | apply pw_below_drewN | apply below_drew1)) (Kd.C_below hrr (by repeat (first | exact HB.out | apply pw_below_drewN | apply below_drew1))) hcr ne_ A5_.out).mono ?_); rintro e w5 ⟨v0_, rfl, ho, hi, hb, hk⟩; refine ⟨_, rfl, ?_⟩; have n0_ := Aside0.mk hi; have n1_ := Aside0.mk hb; have n2_ : Aside0 (KeepBut w w5 g none) := ⟨KeepBut.trans (by repeat (first | exact HK.out | apply keep_drewN | apply keep_drew)) hk (.inl rfl)⟩; obtain ⟨Ao_, co_, eo_⟩ := Kd.R_slice ho; subst eo_; have HO_ := Aside0.mk (Kd.R_reads' ho); clear ho hi hb hk HI0 HB HK; have HI0 := n0_; have HB := n1_; have HK := n2_; clear n0_ n1_ n2_) | (go_at_call 68; (with_reducible refine (spec_l05Ring.calls _ g b0 b1 s0_2 s0_3 Ar cr (rd_T67 s0_3 x3).f1 _ _ _ _ w0 _ (by repeat (first | exact HI0.out | apply IsS31.drewN | apply IsS31.drew)) (by repeat (first | exact HB.out | apply pw_below_drewN | apply below_drew1)) (Kd.C_below hrr (by repeat (first | exact HB.out | apply pw_below_drewN | apply below_drew1))) hcr ne_ A5_.out).mono ?_); rintro e w5 ⟨v0_, rfl, ho, hi, hb, hk⟩; have n0_ := Aside0.mk hi; have n1_ := Aside0.mk hb; have n2_ : Aside0 (KeepBut w w5 g none) := ⟨KeepBut.trans (by repeat (first | exact HK.out | apply keep_drewN | apply keep_drew)) hk (.inl rfl)⟩; obtain ⟨Ao_, co_, eo_⟩ := Kd.R_slice ho; subst eo_; have HO_ := Aside0.mk (Kd.R_reads' ho); clear ho hi hb hk HI0 HB HK; have HI0 := n0_; have HB := n1_; have HK := n2_; clear n0_ n1_ n2_))
               go_ret
               exact ⟨(by first | rfl | (simp; done) | (simp [*]; done)), (by repeat (first | exact HI0.out | apply IsS31.drewN | apply IsS31.drew)), (by repeat (first | exact HB.out | apply pw_below_drewN | apply below_drew1)), (by repeat (first | exact HK.out | apply keep_drewN | apply keep_drew))⟩
              | true =>
               replace H := (show ((spec_l03Ok.f k2 pl).bind fun t254 => (if t254 = true then (spec_l05Ok.l0 k2 (wrap64 (x3 + 1)) d0 d1 s0_2 s0_3) else (some (false, d0, d1)))) = some (r1, r2, r3) from by first | exact H | simpa using H)
               replace H := Option.bind_eq_some_iff.mp H
               obtain ⟨t6, A60, H⟩ := H
               have A6_ := Aside0.mk A60
               clear A60
               cases t6 with
               | false =>
                replace H := (show (some (false, d0, d1)) = some (r1, r2, r3) from by first | exact H | simpa using H)
                simp only [Option.some.injEq, Prod.mk.injEq] at H
                obtain ⟨rfl, rfl, rfl⟩ := H
                go_wp2_with (first | ((with_reducible refine gate_callee (f := 68) rfl ?_); refine goesL_ (some 86) rfl rfl Try.func68 (by kernel_rfl) rfl #[.pointer (some ⟨g, 0, none⟩), .slice Ar (rd_T67 s0_3 x3).f1.length cr] rfl (by (try simp only [List.map_toArray, List.map_cons, List.map_nil]); first | done | rfl) ?_; (with_reducible refine (spec_l05Ring.calls _ g b0 b1 s0_2 s0_3 Ar cr (rd_T67 s0_3 x3).f1 _ _ _ _ w0 _ (by repeat (first | exact HI0.out | apply IsS31.drewN | apply IsS31.drew)) (by repeat (first | exact HB.out | apply pw_below_drewN | apply below_drew1)) (Kd.C_below hrr (by repeat (first | exact HB.out | apply pw_below_drewN | apply below_drew1))) hcr ne_ A5_.out).mono ?_); rintro e w5 ⟨v0_, rfl, ho, hi, hb, hk⟩; refine ⟨_, rfl, ?_⟩; have n0_ := Aside0.mk hi; have n1_ := Aside0.mk hb; have n2_ : Aside0 (KeepBut w w5 g none) := ⟨KeepBut.trans (by repeat (first | exact HK.out | apply keep_drewN | apply keep_drew)) hk (.inl rfl)⟩; obtain ⟨Ao_, co_, eo_⟩ := Kd.R_slice ho; subst eo_; have HO_ := Aside0.mk (Kd.R_reads' ho); clear ho hi hb hk HI0 HB HK; have HI0 := n0_; have HB := n1_; have HK := n2_; clear n0_ n1_ n2_) | (go_at_call 68; (with_reducible refine (spec_l05Ring.calls _ g b0 b1 s0_2 s0_3 Ar cr (rd_T67 s0_3 x3).f1 _ _ _ _ w0 _ (by repeat (first | exact HI0.out | apply IsS31.drewN | apply IsS31.drew)) (by repeat (first | exact HB.out | apply pw_below_drewN | apply below_drew1)) (Kd.C_below hrr (by repeat (first | exact HB.out | apply pw_below_drewN | apply below_drew1))) hcr ne_ A5_.out).mono ?_); rintro e w5 ⟨v0_, rfl, ho, hi, hb, hk⟩; have n0_ := Aside0.mk hi; have n1_ := Aside0.mk hb; have n2_ : Aside0 (KeepBut w w5 g none) := ⟨KeepBut.trans (by repeat (first | exact HK.out | apply keep_drewN | apply keep_drew)) hk (.inl rfl)⟩; obtain ⟨Ao_, co_, eo_⟩ := Kd.R_slice ho; subst eo_; have HO_ := Aside0.mk (Kd.R_reads' ho); clear ho hi hb hk HI0 HB HK; have HI0 := n0_; have HB := n1_; have HK := n2_; clear n0_ n1_ n2_) | ((with_reducible refine gate_callee (f := 69) rfl ?_); refine goesL_ (some 93) rfl rfl Try.func69 (by kernel_rfl) rfl #[.slice Ao_ pl.length co_] rfl (by (try simp only [List.map_toArray, List.map_cons, List.map_nil]); first | done | rfl) ?_; (with_reducible refine (spec_l03Ok.calls _ Ao_ co_ pl _ _ (by repeat (first | exact HO_.out.2.2 | (with_reducible refine Kd.C_drewN ?_ _) | (with_reducible refine Kd.C_drew ?_))) HO_.out.2.1 A6_.out).mono ?_); rintro e w5 ⟨rfl, hb⟩; refine ⟨_, rfl, ?_⟩; have n0_ := Aside0.mk (IsS31.below (by repeat (first | exact HI0.out | apply IsS31.drewN | apply IsS31.drew)) hb); have n1_ := Aside0.mk (below_step (by repeat (first | exact HB.out | apply pw_below_drewN | apply below_drew1)) hb); have n2_ : Aside0 (KeepBut w w5 g none) := ⟨KeepBut.trans (by repeat (first | exact HK.out | apply keep_drewN | apply keep_drew)) (KeepBut.of_below hb g none) (.inl rfl)⟩; clear hb HI0 HB HK; have HI0 := n0_; have HB := n1_; have HK := n2_; clear n0_ n1_ n2_) | (go_at_call 69; (with_reducible refine (spec_l03Ok.calls _ Ao_ co_ pl _ _ (by repeat (first | exact HO_.out.2.2 | (with_reducible refine Kd.C_drewN ?_ _) | (with_reducible refine Kd.C_drew ?_))) HO_.out.2.1 A6_.out).mono ?_); rintro e w5 ⟨rfl, hb⟩; have n0_ := Aside0.mk (IsS31.below (by repeat (first | exact HI0.out | apply IsS31.drewN | apply IsS31.drew)) hb); have n1_ := Aside0.mk (below_step (by repeat (first | exact HB.out | apply pw_below_drewN | apply below_drew1)) hb); have n2_ : Aside0 (KeepBut w w5 g none) := ⟨KeepBut.trans (by repeat (first | exact HK.out | apply keep_drewN | apply keep_drew)) (KeepBut.of_below hb g none) (.inl rfl)⟩; clear hb HI0 HB HK; have HI0 := n0_; have HB := n1_; have HK := n2_; clear n0_ n1_ n2_))
                go_ret
                exact ⟨(by first | rfl | (simp; done) | (simp [*]; done)), (by repeat (first | exact HI0.out | apply IsS31.drewN | apply IsS31.drew)), (by repeat (first | exact HB.out | apply pw_below_drewN | apply below_drew1)), (by repeat (first | exact HK.out | apply keep_drewN | apply keep_drew))⟩
               | true =>
                replace H := (show (spec_l05Ok.l0 k2 (wrap64 (x3 + 1)) d0 d1 s0_2 s0_3) = some (r1, r2, r3) from by first | exact H | simpa using H)
                have H' := Aside0.mk H
                clear H
                go_wp2_with (first | ((with_reducible refine gate_callee (f := 68) rfl ?_); refine goesL_ (some 86) rfl rfl Try.func68 (by kernel_rfl) rfl #[.pointer (some ⟨g, 0, none⟩), .slice Ar (rd_T67 s0_3 x3).f1.length cr] rfl (by (try simp only [List.map_toArray, List.map_cons, List.map_nil]); first | done | rfl) ?_; (with_reducible refine (spec_l05Ring.calls _ g b0 b1 s0_2 s0_3 Ar cr (rd_T67 s0_3 x3).f1 _ _ _ _ w0 _ (by repeat (first | exact HI0.out | apply IsS31.drewN | apply IsS31.drew)) (by repeat (first | exact HB.out | apply pw_below_drewN | apply below_drew1)) (Kd.C_below hrr (by repeat (first | exact HB.out | apply pw_below_drewN | apply below_drew1))) hcr ne_ A5_.out).mono ?_); rintro e w5 ⟨v0_, rfl, ho, hi, hb, hk⟩; refine ⟨_, rfl, ?_⟩; have n0_ := Aside0.mk hi; have n1_ := Aside0.mk hb; have n2_ : Aside0 (KeepBut w w5 g none) := ⟨KeepBut.trans (by repeat (first | exact HK.out | apply keep_drewN | apply keep_drew)) hk (.inl rfl)⟩; obtain ⟨Ao_, co_, eo_⟩ := Kd.R_slice ho; subst eo_; have HO_ := Aside0.mk (Kd.R_reads' ho); clear ho hi hb hk HI0 HB HK; have HI0 := n0_; have HB := n1_; have HK := n2_; clear n0_ n1_ n2_) | (go_at_call 68; (with_reducible refine (spec_l05Ring.calls _ g b0 b1 s0_2 s0_3 Ar cr (rd_T67 s0_3 x3).f1 _ _ _ _ w0 _ (by repeat (first | exact HI0.out | apply IsS31.drewN | apply IsS31.drew)) (by repeat (first | exact HB.out | apply pw_below_drewN | apply below_drew1)) (Kd.C_below hrr (by repeat (first | exact HB.out | apply pw_below_drewN | apply below_drew1))) hcr ne_ A5_.out).mono ?_); rintro e w5 ⟨v0_, rfl, ho, hi, hb, hk⟩; have n0_ := Aside0.mk hi; have n1_ := Aside0.mk hb; have n2_ : Aside0 (KeepBut w w5 g none) := ⟨KeepBut.trans (by repeat (first | exact HK.out | apply keep_drewN | apply keep_drew)) hk (.inl rfl)⟩; obtain ⟨Ao_, co_, eo_⟩ := Kd.R_slice ho; subst eo_; have HO_ := Aside0.mk (Kd.R_reads' ho); clear ho hi hb hk HI0 HB HK; have HI0 := n0_; have HB := n1_; have HK := n2_; clear n0_ n1_ n2_) | ((with_reducible refine gate_callee (f := 69) rfl ?_); refine goesL_ (some 93) rfl rfl Try.func69 (by kernel_rfl) rfl #[.slice Ao_ pl.length co_] rfl (by (try simp only [List.map_toArray, List.map_cons, List.map_nil]); first | done | rfl) ?_; (with_reducible refine (spec_l03Ok.calls _ Ao_ co_ pl _ _ (by repeat (first | exact HO_.out.2.2 | (with_reducible refine Kd.C_drewN ?_ _) | (with_reducible refine Kd.C_drew ?_))) HO_.out.2.1 A6_.out).mono ?_); rintro e w5 ⟨rfl, hb⟩; refine ⟨_, rfl, ?_⟩; have n0_ := Aside0.mk (IsS31.below (by repeat (first | exact HI0.out | apply IsS31.drewN | apply IsS31.drew)) hb); have n1_ := Aside0.mk (below_step (by repeat (first | exact HB.out | apply pw_below_drewN | apply below_drew1)) hb); have n2_ : Aside0 (KeepBut w w5 g none) := ⟨KeepBut.trans (by repeat (first | exact HK.out | apply keep_drewN | apply keep_drew)) (KeepBut.of_below hb g none) (.inl rfl)⟩; clear hb HI0 HB HK; have HI0 := n0_; have HB := n1_; have HK := n2_; clear n0_ n1_ n2_) | (go_at_call 69; (with_reducible refine (spec_l03Ok.calls _ Ao_ co_ pl _ _ (by repeat (first | exact HO_.out.2.2 | (with_reducible refine Kd.C_drewN ?_ _) | (with_reducible refine Kd.C_drew ?_))) HO_.out.2.1 A6_.out).mono ?_); rintro e w5 ⟨rfl, hb⟩; have n0_ := Aside0.mk (IsS31.below (by repeat (first | exact HI0.out | apply IsS31.drewN | apply IsS31.drew)) hb); have n1_ := Aside0.mk (below_step (by repeat (first | exact HB.out | apply pw_below_drewN | apply below_drew1)) hb); have n2_ : Aside0 (KeepBut w w5 g none) := ⟨KeepBut.trans (by repeat (first | exact HK.out | apply keep_drewN | apply keep_drew)) (KeepBut.of_below hb g none) (.inl rfl)⟩; clear hb HI0 HB HK; have HI0 := n0_; have HB := n1_; have HK := n2_; clear n0_ n1_ n2_))
                go_roundg k2
                case measure => have := HK1.out; omega
                case rel => exact ⟨(wrap64 (x3 + 1)), d0, d1, (by first | rfl | (simp; done) | (simp [*]; done)), H', ⟨by have := HK1.out; omega⟩, ⟨(by repeat (first | exact HI0.out | apply IsS31.drewN | apply IsS31.drew))⟩, ⟨(by repeat (first | exact HB.out | apply pw_below_drewN | apply below_drew1))⟩, ⟨(by repeat (first | exact HK.out | apply keep_drewN | apply keep_drew))⟩⟩
            ·rw [if_neg c7_] at H
             exact absurd H (by simp)
           ·rw [if_neg c6_] at H
            exact absurd H (by simp)
          ·rw [if_neg c5_] at H
           have c5b : decide (0 < x3) = false := decide_eq_false c5_
           clear c5_
           replace H := (show (spec_l05Ok.j2 k1 x3 false b0 b1 s0_2 s0_3) = some (r1, r2, r3) from by first | exact H | simpa using H)
           cases k1 with
           | zero => exact (jz _ H).elim
           | succ k2 =>
           simp only [spec_l05Ok.j2, Bool.false_eq_true, if_false] at H
           rw [if_pos C4.out, if_pos C3.out] at H
           clear jz jt
           replace H := Option.bind_eq_some_iff.mp H
           obtain ⟨⟨pl, t5, d0, d1⟩, A50, H⟩ := H
           have A5_ := Aside0.mk A50
           clear A50
           have ne_ : ∀ ad, Ar = some ad → 0 < (rd_T67 s0_3 x3).f1.length → ad.block ≠ g := fun ad hA hn => by
            obtain ⟨ad', e, hx⟩ := Kd.at_int hrr 0 (by omega) (by omega)
            rw [hA] at e
            cases e
            have := bL w0 _ hx
            rw [add_block] at this
            omega
           have go1 : True := trivial
           go_wp2
           go_quiet (with_reducible exact Calls.quiet_of ((spec_l01Name.calls _ _ _ _ A4_.out).mono fun e w' h => ⟨h.1, h.2.out⟩))
           have y1 := (HB.out.cell (bL w0 _ Y1.out)).trans Y1.out
           cases t5 with
           | false =>
            replace H := (show (some (false, d0, d1)) = some (r1, r2, r3) from by first | exact H | simpa using H)
            simp only [Option.some.injEq, Prod.mk.injEq] at H
            obtain ⟨rfl, rfl, rfl⟩ := H
            go_wp2_with (first | ((with_reducible refine gate_callee (f := 68) rfl ?_); refine goesL_ (some 86) rfl rfl Try.func68 (by kernel_rfl) rfl #[.pointer (some ⟨g, 0, none⟩), .slice Ar (rd_T67 s0_3 x3).f1.length cr] rfl (by (try simp only [List.map_toArray, List.map_cons, List.map_nil]); first | done | rfl) ?_; (with_reducible refine (spec_l05Ring.calls _ g b0 b1 s0_2 s0_3 Ar cr (rd_T67 s0_3 x3).f1 _ _ _ _ w0 _ (by repeat (first | exact HI0.out | apply IsS31.drewN | apply IsS31.drew)) (by repeat (first | exact HB.out | apply pw_below_drewN | apply below_drew1)) (Kd.C_below hrr (by repeat (first | exact HB.out | apply pw_below_drewN | apply below_drew1))) hcr ne_ A5_.out).mono ?_); rintro e w5 ⟨v0_, rfl, ho, hi, hb, hk⟩; refine ⟨_, rfl, ?_⟩; have n0_ := Aside0.mk hi; have n1_ := Aside0.mk hb; have n2_ : Aside0 (KeepBut w w5 g none) := ⟨KeepBut.trans (by repeat (first | exact HK.out | apply keep_drewN | apply keep_drew)) hk (.inl rfl)⟩; obtain ⟨Ao_, co_, eo_⟩ := Kd.R_slice ho; subst eo_; have HO_ := Aside0.mk (Kd.R_reads' ho); clear ho hi hb hk HI0 HB HK; have HI0 := n0_; have HB := n1_; have HK := n2_; clear n0_ n1_ n2_) | (go_at_call 68; (with_reducible refine (spec_l05Ring.calls _ g b0 b1 s0_2 s0_3 Ar cr (rd_T67 s0_3 x3).f1 _ _ _ _ w0 _ (by repeat (first | exact HI0.out | apply IsS31.drewN | apply IsS31.drew)) (by repeat (first | exact HB.out | apply pw_below_drewN | apply below_drew1)) (Kd.C_below hrr (by repeat (first | exact HB.out | apply pw_below_drewN | apply below_drew1))) hcr ne_ A5_.out).mono ?_); rintro e w5 ⟨v0_, rfl, ho, hi, hb, hk⟩; have n0_ := Aside0.mk hi; have n1_ := Aside0.mk hb; have n2_ : Aside0 (KeepBut w w5 g none) := ⟨KeepBut.trans (by repeat (first | exact HK.out | apply keep_drewN | apply keep_drew)) hk (.inl rfl)⟩; obtain ⟨Ao_, co_, eo_⟩ := Kd.R_slice ho; subst eo_; have HO_ := Aside0.mk (Kd.R_reads' ho); clear ho hi hb hk HI0 HB HK; have HI0 := n0_; have HB := n1_; have HK := n2_; clear n0_ n1_ n2_))
            go_ret
            exact ⟨(by first | rfl | (simp; done) | (simp [*]; done)), (by repeat (first | exact HI0.out | apply IsS31.drewN | apply IsS31.drew)), (by repeat (first | exact HB.out | apply pw_below_drewN | apply below_drew1)), (by repeat (first | exact HK.out | apply keep_drewN | apply keep_drew))⟩
           | true =>
            replace H := (show ((spec_l03Ok.f k2 pl).bind fun t254 => (if t254 = true then (spec_l05Ok.l0 k2 (wrap64 (x3 + 1)) d0 d1 s0_2 s0_3) else (some (false, d0, d1)))) = some (r1, r2, r3) from by first | exact H | simpa using H)
            replace H := Option.bind_eq_some_iff.mp H
            obtain ⟨t6, A60, H⟩ := H
            have A6_ := Aside0.mk A60
            clear A60
            cases t6 with
            | false =>
             replace H := (show (some (false, d0, d1)) = some (r1, r2, r3) from by first | exact H | simpa using H)
             simp only [Option.some.injEq, Prod.mk.injEq] at H
             obtain ⟨rfl, rfl, rfl⟩ := H
             go_wp2_with (first | ((with_reducible refine gate_callee (f := 68) rfl ?_); refine goesL_ (some 86) rfl rfl Try.func68 (by kernel_rfl) rfl #[.pointer (some ⟨g, 0, none⟩), .slice Ar (rd_T67 s0_3 x3).f1.length cr] rfl (by (try simp only [List.map_toArray, List.map_cons, List.map_nil]); first | done | rfl) ?_; (with_reducible refine (spec_l05Ring.calls _ g b0 b1 s0_2 s0_3 Ar cr (rd_T67 s0_3 x3).f1 _ _ _ _ w0 _ (by repeat (first | exact HI0.out | apply IsS31.drewN | apply IsS31.drew)) (by repeat (first | exact HB.out | apply pw_below_drewN | apply below_drew1)) (Kd.C_below hrr (by repeat (first | exact HB.out | apply pw_below_drewN | apply below_drew1))) hcr ne_ A5_.out).mono ?_); rintro e w5 ⟨v0_, rfl, ho, hi, hb, hk⟩; refine ⟨_, rfl, ?_⟩; have n0_ := Aside0.mk hi; have n1_ := Aside0.mk hb; have n2_ : Aside0 (KeepBut w w5 g none) := ⟨KeepBut.trans (by repeat (first | exact HK.out | apply keep_drewN | apply keep_drew)) hk (.inl rfl)⟩; obtain ⟨Ao_, co_, eo_⟩ := Kd.R_slice ho; subst eo_; have HO_ := Aside0.mk (Kd.R_reads' ho); clear ho hi hb hk HI0 HB HK; have HI0 := n0_; have HB := n1_; have HK := n2_; clear n0_ n1_ n2_) | (go_at_call 68; (with_reducible refine (spec_l05Ring.calls _ g b0 b1 s0_2 s0_3 Ar cr (rd_T67 s0_3 x3).f1 _ _ _ _ w0 _ (by repeat (first | exact HI0.out | apply IsS31.drewN | apply IsS31.drew)) (by repeat (first | exact HB.out | apply pw_below_drewN | apply below_drew1)) (Kd.C_below hrr (by repeat (first | exact HB.out | apply pw_below_drewN | apply below_drew1))) hcr ne_ A5_.out).mono ?_); rintro e w5 ⟨v0_, rfl, ho, hi, hb, hk⟩; have n0_ := Aside0.mk hi; have n1_ := Aside0.mk hb; have n2_ : Aside0 (KeepBut w w5 g none) := ⟨KeepBut.trans (by repeat (first | exact HK.out | apply keep_drewN | apply keep_drew)) hk (.inl rfl)⟩; obtain ⟨Ao_, co_, eo_⟩ := Kd.R_slice ho; subst eo_; have HO_ := Aside0.mk (Kd.R_reads' ho); clear ho hi hb hk HI0 HB HK; have HI0 := n0_; have HB := n1_; have HK := n2_; clear n0_ n1_ n2_) | ((with_reducible refine gate_callee (f := 69) rfl ?_); refine goesL_ (some 93) rfl rfl Try.func69 (by kernel_rfl) rfl #[.slice Ao_ pl.length co_] rfl (by (try simp only [List.map_toArray, List.map_cons, List.map_nil]); first | done | rfl) ?_; (with_reducible refine (spec_l03Ok.calls _ Ao_ co_ pl _ _ (by repeat (first | exact HO_.out.2.2 | (with_reducible refine Kd.C_drewN ?_ _) | (with_reducible refine Kd.C_drew ?_))) HO_.out.2.1 A6_.out).mono ?_); rintro e w5 ⟨rfl, hb⟩; refine ⟨_, rfl, ?_⟩; have n0_ := Aside0.mk (IsS31.below (by repeat (first | exact HI0.out | apply IsS31.drewN | apply IsS31.drew)) hb); have n1_ := Aside0.mk (below_step (by repeat (first | exact HB.out | apply pw_below_drewN | apply below_drew1)) hb); have n2_ : Aside0 (KeepBut w w5 g none) := ⟨KeepBut.trans (by repeat (first | exact HK.out | apply keep_drewN | apply keep_drew)) (KeepBut.of_below hb g none) (.inl rfl)⟩; clear hb HI0 HB HK; have HI0 := n0_; have HB := n1_; have HK := n2_; clear n0_ n1_ n2_) | (go_at_call 69; (with_reducible refine (spec_l03Ok.calls _ Ao_ co_ pl _ _ (by repeat (first | exact HO_.out.2.2 | (with_reducible refine Kd.C_drewN ?_ _) | (with_reducible refine Kd.C_drew ?_))) HO_.out.2.1 A6_.out).mono ?_); rintro e w5 ⟨rfl, hb⟩; have n0_ := Aside0.mk (IsS31.below (by repeat (first | exact HI0.out | apply IsS31.drewN | apply IsS31.drew)) hb); have n1_ := Aside0.mk (below_step (by repeat (first | exact HB.out | apply pw_below_drewN | apply below_drew1)) hb); have n2_ : Aside0 (KeepBut w w5 g none) := ⟨KeepBut.trans (by repeat (first | exact HK.out | apply keep_drewN | apply keep_drew)) (KeepBut.of_below hb g none) (.inl rfl)⟩; clear hb HI0 HB HK; have HI0 := n0_; have HB := n1_; have HK := n2_; clear n0_ n1_ n2_))
             go_ret
             exact ⟨(by first | rfl | (simp; done) | (simp [*]; done)), (by repeat (first | exact HI0.out | apply IsS31.drewN | apply IsS31.drew)), (by repeat (first | exact HB.out | apply pw_below_drewN | apply below_drew1)), (by repeat (first | exact HK.out | apply keep_drewN | apply keep_drew))⟩
            | true =>
             replace H := (show (spec_l05Ok.l0 k2 (wrap64 (x3 + 1)) d0 d1 s0_2 s0_3) = some (r1, r2, r3) from by first | exact H | simpa using H)
             have H' := Aside0.mk H
             clear H
             go_wp2_with (first | ((with_reducible refine gate_callee (f := 68) rfl ?_); refine goesL_ (some 86) rfl rfl Try.func68 (by kernel_rfl) rfl #[.pointer (some ⟨g, 0, none⟩), .slice Ar (rd_T67 s0_3 x3).f1.length cr] rfl (by (try simp only [List.map_toArray, List.map_cons, List.map_nil]); first | done | rfl) ?_; (with_reducible refine (spec_l05Ring.calls _ g b0 b1 s0_2 s0_3 Ar cr (rd_T67 s0_3 x3).f1 _ _ _ _ w0 _ (by repeat (first | exact HI0.out | apply IsS31.drewN | apply IsS31.drew)) (by repeat (first | exact HB.out | apply pw_below_drewN | apply below_drew1)) (Kd.C_below hrr (by repeat (first | exact HB.out | apply pw_below_drewN | apply below_drew1))) hcr ne_ A5_.out).mono ?_); rintro e w5 ⟨v0_, rfl, ho, hi, hb, hk⟩; refine ⟨_, rfl, ?_⟩; have n0_ := Aside0.mk hi; have n1_ := Aside0.mk hb; have n2_ : Aside0 (KeepBut w w5 g none) := ⟨KeepBut.trans (by repeat (first | exact HK.out | apply keep_drewN | apply keep_drew)) hk (.inl rfl)⟩; obtain ⟨Ao_, co_, eo_⟩ := Kd.R_slice ho; subst eo_; have HO_ := Aside0.mk (Kd.R_reads' ho); clear ho hi hb hk HI0 HB HK; have HI0 := n0_; have HB := n1_; have HK := n2_; clear n0_ n1_ n2_) | (go_at_call 68; (with_reducible refine (spec_l05Ring.calls _ g b0 b1 s0_2 s0_3 Ar cr (rd_T67 s0_3 x3).f1 _ _ _ _ w0 _ (by repeat (first | exact HI0.out | apply IsS31.drewN | apply IsS31.drew)) (by repeat (first | exact HB.out | apply pw_below_drewN | apply below_drew1)) (Kd.C_below hrr (by repeat (first | exact HB.out | apply pw_below_drewN | apply below_drew1))) hcr ne_ A5_.out).mono ?_); rintro e w5 ⟨v0_, rfl, ho, hi, hb, hk⟩; have n0_ := Aside0.mk hi; have n1_ := Aside0.mk hb; have n2_ : Aside0 (KeepBut w w5 g none) := ⟨KeepBut.trans (by repeat (first | exact HK.out | apply keep_drewN | apply keep_drew)) hk (.inl rfl)⟩; obtain ⟨Ao_, co_, eo_⟩ := Kd.R_slice ho; subst eo_; have HO_ := Aside0.mk (Kd.R_reads' ho); clear ho hi hb hk HI0 HB HK; have HI0 := n0_; have HB := n1_; have HK := n2_; clear n0_ n1_ n2_) | ((with_reducible refine gate_callee (f := 69) rfl ?_); refine goesL_ (some 93) rfl rfl Try.func69 (by kernel_rfl) rfl #[.slice Ao_ pl.length co_] rfl (by (try simp only [List.map_toArray, List.map_cons, List.map_nil]); first | done | rfl) ?_; (with_reducible refine (spec_l03Ok.calls _ Ao_ co_ pl _ _ (by repeat (first | exact HO_.out.2.2 | (with_reducible refine Kd.C_drewN ?_ _) | (with_reducible refine Kd.C_drew ?_))) HO_.out.2.1 A6_.out).mono ?_); rintro e w5 ⟨rfl, hb⟩; refine ⟨_, rfl, ?_⟩; have n0_ := Aside0.mk (IsS31.below (by repeat (first | exact HI0.out | apply IsS31.drewN | apply IsS31.drew)) hb); have n1_ := Aside0.mk (below_step (by repeat (first | exact HB.out | apply pw_below_drewN | apply below_drew1)) hb); have n2_ : Aside0 (KeepBut w w5 g none) := ⟨KeepBut.trans (by repeat (first | exact HK.out | apply keep_drewN | apply keep_drew)) (KeepBut.of_below hb g none) (.inl rfl)⟩; clear hb HI0 HB HK; have HI0 := n0_; have HB := n1_; have HK := n2_; clear n0_ n1_ n2_) | (go_at_call 69; (with_reducible refine (spec_l03Ok.calls _ Ao_ co_ pl _ _ (by repeat (first | exact HO_.out.2.2 | (with_reducible refine Kd.C_drewN ?_ _) | (with_reducible refine Kd.C_drew ?_))) HO_.out.2.1 A6_.out).mono ?_); rintro e w5 ⟨rfl, hb⟩; have n0_ := Aside0.mk (IsS31.below (by repeat (first | exact HI0.out | apply IsS31.drewN | apply IsS31.drew)) hb); have n1_ := Aside0.mk (below_step (by repeat (first | exact HB.out | apply pw_below_drewN | apply below_drew1)) hb); have n2_ : Aside0 (KeepBut w w5 g none) := ⟨KeepBut.trans (by repeat (first | exact HK.out | apply keep_drewN | apply keep_drew)) (KeepBut.of_below hb g none) (.inl rfl)⟩; clear hb HI0 HB HK; have HI0 := n0_; have HB := n1_; have HK := n2_; clear n0_ n1_ n2_))
             go_roundg k2
             case measure => have := HK1.out; omega
             case rel => exact ⟨(wrap64 (x3 + 1)), d0, d1, (by first | rfl | (simp; done) | (simp [*]; done)), H', ⟨by have := HK1.out; omega⟩, ⟨(by repeat (first | exact HI0.out | apply IsS31.drewN | apply IsS31.drew))⟩, ⟨(by repeat (first | exact HB.out | apply pw_below_drewN | apply below_drew1))⟩, ⟨(by repeat (first | exact HK.out | apply keep_drewN | apply keep_drew))⟩⟩
        ·rw [if_neg c4_] at H
         exact absurd H (by simp)
       ·rw [if_neg c3_] at H
        have c3b : decide (x3 < (s0_3.length : Int)) = false := decide_eq_false c3_
        clear c3_
        simp only [Option.some.injEq, Prod.mk.injEq] at H
        obtain ⟨rfl, rfl, rfl⟩ := H
        go_wp2
        go_ret
        exact ⟨(by first | rfl | (simp; done) | (simp [*]; done)), (by repeat (first | exact HI0.out | apply IsS31.drewN | apply IsS31.drew)), (by repeat (first | exact HB.out | apply pw_below_drewN | apply below_drew1)), (by repeat (first | exact HK.out | apply keep_drewN | apply keep_drew))⟩
def spec_l05Polygon.f (k : Nat) (s0_0 : Int) (s0_1 : Int) (s0_2 : List (S48)) (s0_3 : List (S67)) (a1 : Int) : Option ((List (S48)) × Int × Int) := if 0 ≤ a1 then (if a1 < (s0_3.length : Int) then ((spec_l05Ring.f k s0_0 s0_1 s0_2 s0_3 ((rd_T67 s0_3 a1).f1)).bind fun bt256 => (some (bt256.1, bt256.2.2.1, bt256.2.2.2))) else (none)) else (none)
theorem spec_l05Polygon.mono : ∀ a0 a1 a2 a3 a4 k, LeO (spec_l05Polygon.f k a0 a1 a2 a3 a4) (spec_l05Polygon.f (k + 1) a0 a1 a2 a3 a4) := by
 intro a0 a1 a2 a3 a4 k
 unfold spec_l05Polygon.f
 repeat' first
   | (with_reducible exact spec_l05Ring.mono _ _ _ _ _ _)
   | (with_reducible exact LeO.refl _)
   | (with_reducible exact LeO.none _)
   | (with_reducible refine LeO.ite ?_ ?_)
   | (with_reducible refine LeO.bind ?_ (fun _ => ?_))
   | exact spec_l05Ring.mono _ _ _ _ _ _
   | exact LeO.none _
   | refine LeO.ite ?_ ?_
   | refine LeO.bind ?_ (fun _ => ?_)
set_option maxHeartbeats 8000000 in
set_option maxRecDepth 100000 in
theorem spec_l05Polygon.calls (k : Nat) (g : Nat) (s0_0 : Int) (s0_1 : Int) (s0_2 : List (S48)) (s0_3 : List (S67)) (a1 : Int) (r1 : List (S48)) (r2 : Int) (r3 : Int) (w0 w : World) (hI : IsS31 w0 w g s0_0 s0_1 s0_2 s0_3) (hB : Below w0.heap.size w0 w) (h : spec_l05Polygon.f k s0_0 s0_1 s0_2 s0_3 a1 = some (r1, r2, r3)) :
  Calls Try.prog 48 #[.pointer (some ⟨g, 0, none⟩), .int .i64 a1] w fun e w' => ∃ v0_ : Value, e = .returned (v0_) ∧ Kd.R k48 48 w' w.heap.size (fun _ => True) v0_ r1 ∧ IsS31 w0 w' g r2 r3 s0_2 s0_3 ∧ Below w0.heap.size w0 w' ∧ KeepBut w w' g none := by
 have HI0 := Aside0.mk hI
 have HK := Aside0.mk (KeepBut.refl w g none)
 have HL := Aside0.mk hB.size
 clear hI
 have HW0 := Aside0.mk hB.size
 have HB := Aside0.mk hB
 clear hB
 have H : (if 0 ≤ a1 then (if a1 < (s0_3.length : Int) then ((spec_l05Ring.f k s0_0 s0_1 s0_2 s0_3 ((rd_T67 s0_3 a1).f1)).bind fun bt256 => (some (bt256.1, bt256.2.2.1, bt256.2.2.2))) else (none)) else (none)) = some (r1, r2, r3) := h
 clear h
 by_cases c3 : 0 ≤ a1
 ·rw [if_pos c3] at H
  have c3b0 : decide (0 ≤ a1) = true := decide_eq_true c3
  clear c3
  by_cases c4 : a1 < (s0_3.length : Int)
  ·rw [if_pos c4] at H
   have c4b0 : decide (a1 < (s0_3.length : Int)) = true := decide_eq_true c4
   clear c4
   replace H := Option.bind_eq_some_iff.mp H
   obtain ⟨⟨t256, t259, t260, t261⟩, A50, H⟩ := H
   replace H : (some (t256, t260, t261)) = some (r1, r2, r3) := H
   have A5 := Aside0.mk A50
   clear A50
   simp only [Option.some.injEq, Prod.mk.injEq] at H
   obtain ⟨rfl, rfl, rfl⟩ := H
   obtain ⟨ASz6_2, cSz6_2, ASz6_3, cSz6_3, HGz6, hgz6, HSz6_2, HSz6_3⟩ := HI0.out
   have hcz6_0 := cellS31_0 HGz6
   have hcz6_1 := cellS31_1 HGz6
   have hcz6_2 := cellS31_2 HGz6
   have hcz6_3 := cellS31_3 HGz6
   have hfz6_0 := blk_frozen HGz6 0
   have hfz6_1 := blk_frozen HGz6 1
   clear HGz6 hgz6
   have p255 : 0 ≤ (a1 : Int) := da
   have q255 : a1 < (s0_3.length : Int) := da
   obtain ⟨ad255, A255_1, c255_1, e255, hx255_0, hx255_1, hl255_1, hi255_1⟩ := at_T67 HSz6_3 a1 p255 q255
   cases e255
   replace hx255_0 := pw_cell_below HB.out hx255_0
   replace hx255_1 := pw_cell_below HB.out hx255_1
   have hf255_1 := Kd.far_C 0 hi255_1 (IsS31.ge HI0.out)
   have HR255_1 := Aside0.mk (Kd.C_below hi255_1 HB.out)
   have HC255_1 := Aside0.mk hl255_1
   clear hi255_1 hl255_1
   replace p255 := eq_true p255
   replace q255 := eq_true q255
   go_enter Try.func48, Try.ntmps48
   go_wp2_with (first | ((with_reducible refine gate_callee (f := 68) rfl ?_); refine goesL_ (some 17) rfl rfl Try.func68 (by kernel_rfl) rfl #[.pointer (some ⟨g, 0, none⟩), .slice A255_1 ((rd_T67 s0_3 a1).f1).length c255_1] rfl (by (try simp only [List.map_toArray, List.map_cons, List.map_nil]); first | done | rfl | (simp only [List.length_drop, List.length_take]; rfl)) ?_; (with_reducible refine (spec_l05Ring.calls k g s0_0 s0_1 s0_2 s0_3 _ _ ((rd_T67 s0_3 a1).f1) t256 t259 t260 t261 w0 _ ?side1 ?side2 ?side3 ?side4 ?side5 A5.out).mono ?_); (case side1 => repeat (first | (with_reducible first | exact HI0.out | apply IsS31.alloc | apply IsS31.drewN | apply IsS31.drew | apply IsS31.set_0 | apply IsS31.set_1) | exact HI0.out)); (case side2 => repeat (first | (with_reducible first | exact HB.out | apply below_alloc | apply pw_below_drewN | apply below_drew1 | refine below_set ?_ (IsS31.ge HI0.out)) | exact HB.out)); (case side3 => exact Kd.C_keep 0 HR255_1.out (by repeat (first | (with_reducible first | exact HK.out | apply KeepBut.set_ | apply keep_drewN | apply keep_drew | apply keep_alloc) | exact HK.out)) hf255_1); (case side4 => exact HC255_1.out); (case side5 => exact hf255_1); rintro e w7 ⟨v257, rfl, ho0, hi, hb, hk⟩; refine ⟨_, rfl, ?_⟩; have n0_ := Aside0.mk (Kd.R_lower ho0 (keep_size (w := w) (g := g) (row := none) (by repeat (first | (with_reducible first | exact HK.out | apply KeepBut.set_ | apply keep_drewN | apply keep_drew | apply keep_alloc) | exact HK.out)))); have n1_ := Aside0.mk (KeepBut.trans (by repeat (first | (with_reducible first | exact HK.out | apply KeepBut.set_ | apply keep_drewN | apply keep_drew | apply keep_alloc) | exact HK.out)) hk (.inl rfl)); have n2_ := Aside0.mk (hb); have n3_ := Aside0.mk (hi); clear HK; clear HB; clear HI0; have HO258 := n0_; have HK := n1_; have HB := n2_; have HI0 := n3_; clear n0_ n1_ n2_ n3_; (try clear hb); (try clear hb2); (try clear hk); (try clear hi); (try clear ho0)))
   go_ret
   exact ⟨_, by first | rfl | (simp [errW_none, errW_some] <;> rfl) | (simp [*, errW_none, errW_some] <;> rfl), by (with_reducible repeat (first | apply Kd.R_alloc | apply Kd.R_drewN | apply Kd.R_drew)); exact HO258.out, by repeat (first | (with_reducible first | exact HI0.out | apply IsS31.alloc | apply IsS31.drewN | apply IsS31.drew | apply IsS31.set_0 | apply IsS31.set_1) | exact HI0.out), by repeat (first | (with_reducible first | exact HB.out | apply below_alloc | apply pw_below_drewN | apply below_drew1 | refine below_set ?_ (IsS31.ge HI0.out)) | exact HB.out), by repeat (first | (with_reducible first | exact HK.out | apply KeepBut.set_ | apply keep_drewN | apply keep_drew | apply keep_alloc) | exact HK.out)⟩
  ·rw [if_neg c4] at H
   exact absurd H (by simp)
 ·rw [if_neg c3] at H
  exact absurd H (by simp)
def spec_l05Rest.l0 : Nat → Int → Int → Int → Int → List (S48) → List (S67) → Option (Int × Int × Int)
 | 0, _, _, _, _, _, _ => none
 | k + 1, x3, x4, x1000, x1001, x1002, x1003 => if x4 < (x1003.length : Int) then ((spec_l05Polygon.f k x1000 x1001 x1002 x1003 x4).bind fun bt262 => ((spec_l03Area.f k bt262.1).bind fun t267 => (spec_l05Rest.l0 k (wrap64 (x3 - t267)) (wrap64 (x4 + 1)) bt262.2.1 bt262.2.2 x1002 x1003))) else (some (x3, x1000, x1001))
def spec_l05Rest.f (k : Nat) (s0_0 : Int) (s0_1 : Int) (s0_2 : List (S48)) (s0_3 : List (S67)) : Option (Int × Int × Int) := spec_l05Rest.l0 k (wrap64 ((wrap64 (2 * s0_0)) * s0_1)) 0 s0_0 s0_1 s0_2 s0_3
theorem spec_l05Rest.mono_l : ∀ k, (∀ y0 y1 y2 y3 y4 y5, LeO (spec_l05Rest.l0 k y0 y1 y2 y3 y4 y5) (spec_l05Rest.l0 (k + 1) y0 y1 y2 y3 y4 y5))
 | 0 => fun _ _ _ _ _ _ r h => by simp [spec_l05Rest.l0] at h
 | k + 1 => by
  have ih0 := spec_l05Rest.mono_l k
  ·intro y0 y1 y2 y3 y4 y5
   unfold spec_l05Rest.l0
   repeat' first
   | (with_reducible exact ih0 _ _ _ _ _ _)
   | (with_reducible exact spec_l03Area.mono _ _)
   | (with_reducible exact spec_l05Polygon.mono _ _ _ _ _ _)
   | (with_reducible exact LeO.refl _)
   | (with_reducible exact LeO.none _)
   | (with_reducible refine LeO.ite ?_ ?_)
   | (with_reducible refine LeO.bind ?_ (fun _ => ?_))
   | exact ih0 _ _ _ _ _ _
   | exact spec_l03Area.mono _ _
   | exact spec_l05Polygon.mono _ _ _ _ _ _
   | exact LeO.none _
   | refine LeO.ite ?_ ?_
   | refine LeO.bind ?_ (fun _ => ?_)
theorem spec_l05Rest.mono : ∀ a0 a1 a2 a3 k, LeO (spec_l05Rest.f k a0 a1 a2 a3) (spec_l05Rest.f (k + 1) a0 a1 a2 a3) := by
 intro a0 a1 a2 a3 k
 have ih0 := spec_l05Rest.mono_l k
 unfold spec_l05Rest.f
 repeat' first
   | (with_reducible exact ih0 _ _ _ _ _ _)
   | (with_reducible exact spec_l03Area.mono _ _)
   | (with_reducible exact spec_l05Polygon.mono _ _ _ _ _ _)
   | (with_reducible exact LeO.refl _)
   | (with_reducible exact LeO.none _)
   | (with_reducible refine LeO.ite ?_ ?_)
   | (with_reducible refine LeO.bind ?_ (fun _ => ?_))
   | exact ih0 _ _ _ _ _ _
   | exact spec_l03Area.mono _ _
   | exact spec_l05Polygon.mono _ _ _ _ _ _
   | exact LeO.none _
   | refine LeO.ite ?_ ?_
   | refine LeO.bind ?_ (fun _ => ?_)
set_option maxHeartbeats 8000000 in
set_option maxRecDepth 100000 in
theorem spec_l05Rest.calls (k : Nat) (g : Nat) (s0_0 : Int) (s0_1 : Int) (s0_2 : List (S48)) (s0_3 : List (S67)) (r1 : Int) (r2 : Int) (r3 : Int) (w0 w : World) (hI : IsS31 w0 w g s0_0 s0_1 s0_2 s0_3) (hB : Below w0.heap.size w0 w) (h : spec_l05Rest.f k s0_0 s0_1 s0_2 s0_3 = some (r1, r2, r3)) :
  Calls Try.prog 53 #[.pointer (some ⟨g, 0, none⟩)] w fun e w' => e = .returned (.int .i64 r1) ∧ IsS31 w0 w' g r2 r3 s0_2 s0_3 ∧ Below w0.heap.size w0 w' ∧ KeepBut w w' g none := by
 have HI0 := Aside0.mk hI
 have HK := Aside0.mk (KeepBut.refl w g none)
 have HL := Aside0.mk hB.size
 clear hI
 have HW0 := Aside0.mk hB.size
 have HB := Aside0.mk hB
 clear hB
 have H : (spec_l05Rest.l0 k (wrap64 ((wrap64 (2 * s0_0)) * s0_1)) 0 s0_0 s0_1 s0_2 s0_3) = some (r1, r2, r3) := h
 clear h
 have H' := Aside0.mk H
 clear H
 obtain ⟨ASz2_2, cSz2_2, ASz2_3, cSz2_3, HGz2, hgz2, HSz2_2, HSz2_3⟩ := HI0.out
 have hcz2_0 := cellS31_0 HGz2
 have hcz2_1 := cellS31_1 HGz2
 have hcz2_2 := cellS31_2 HGz2
 have hcz2_3 := cellS31_3 HGz2
 have hfz2_0 := blk_frozen HGz2 0
 have hfz2_1 := blk_frozen HGz2 1
 clear HGz2 hgz2
 go_enter Try.func53, Try.ntmps53
 go_wp2
 repeat (go_quiet (fail); try go_wp2)
 go_loopg [3, 4] k (fun kq v3 v4 w' => ∃ (x3_1 : Int) (x4_1 : Int) (x1000_1 : Int) (x1001_1 : Int), v3 = .int .i64 x3_1 ∧ v4 = .int .i64 x4_1 ∧ Aside0 (spec_l05Rest.l0 kq x3_1 x4_1 x1000_1 x1001_1 s0_2 s0_3 = some (r1, r2, r3)) ∧ Aside0 (kq ≤ k) ∧ Aside0 (IsS31 w0 w' g x1000_1 x1001_1 s0_2 s0_3) ∧ Aside0 (KeepBut w w' g none) ∧ Aside0 (Below w0.heap.size w0 w'))
 case atStart => exact ⟨(wrap64 ((wrap64 (2 * s0_0)) * s0_1)), (0), (s0_0), (s0_1), (by first | rfl | (simp; done) | (simp [*]; done)), (by first | rfl | (simp; done) | (simp [*]; done)), H', ⟨Nat.le_refl _⟩, ⟨by repeat (first | (with_reducible first | exact HI0.out | apply IsS31.alloc | apply IsS31.drewN | apply IsS31.drew | apply IsS31.set_0 | apply IsS31.set_1) | exact HI0.out)⟩, ⟨by repeat (first | (with_reducible first | exact HK.out | apply KeepBut.set_ | apply keep_drewN | apply keep_drew | apply keep_alloc) | exact HK.out)⟩, ⟨by repeat (first | (with_reducible first | exact HB.out | apply below_alloc | apply pw_below_drewN | apply below_drew1 | refine below_set ?_ (IsS31.ge HI0.out)) | exact HB.out)⟩⟩
 case round =>
  clear H'
  try clear p2
  try clear hcz2_0
  try clear hcz2_1
  try clear hcz2_2
  try clear hcz2_3
  try clear hfz2_0
  try clear hfz2_1
  obtain ⟨x3_1, x4_1, x1000_1, x1001_1, rfl, rfl, HA, HK1, HI0, HK, HB⟩ := hrel
  cases gk with
  | zero => exact absurd HA.out (by simp [spec_l05Rest.l0])
  | succ k1 =>
   have H := HA.out
   clear HA
   simp only [spec_l05Rest.l0] at H
   by_cases c3 : x4_1 < (s0_3.length : Int)
   ·rw [if_pos c3] at H
    have c3b0 : decide (x4_1 < (s0_3.length : Int)) = true := decide_eq_true c3
    clear c3
    replace H := Option.bind_eq_some_iff.mp H
    obtain ⟨⟨t262, t265, t266⟩, A40, H⟩ := H
    replace H : ((spec_l03Area.f k1 t262).bind fun t267 => (spec_l05Rest.l0 k1 (wrap64 (x3_1 - t267)) (wrap64 (x4_1 + 1)) t265 t266 s0_2 s0_3)) = some (r1, r2, r3) := H
    have A4 := Aside0.mk A40
    clear A40
    replace H := Option.bind_eq_some_iff.mp H
    obtain ⟨t267, A50, H⟩ := H
    replace H : (spec_l05Rest.l0 k1 (wrap64 (x3_1 - t267)) (wrap64 (x4_1 + 1)) t265 t266 s0_2 s0_3) = some (r1, r2, r3) := H
    have A5 := Aside0.mk A50
    clear A50
    have H' := Aside0.mk H
    clear H
    obtain ⟨ASz6_2, cSz6_2, ASz6_3, cSz6_3, HGz6, hgz6, HSz6_2, HSz6_3⟩ := HI0.out
    have hcz6_0 := cellS31_0 HGz6
    have hcz6_1 := cellS31_1 HGz6
    have hcz6_2 := cellS31_2 HGz6
    have hcz6_3 := cellS31_3 HGz6
    have hfz6_0 := blk_frozen HGz6 0
    have hfz6_1 := blk_frozen HGz6 1
    clear HGz6 hgz6
    go_wp2_with (first | (go_at_call 48; (with_reducible refine (spec_l05Polygon.calls k1 g x1000_1 x1001_1 s0_2 s0_3 x4_1 t262 t265 t266 w0 _ ?side1 ?side2 A4.out).mono ?_); (case side1 => repeat (first | (with_reducible first | exact HI0.out | apply IsS31.alloc | apply IsS31.drewN | apply IsS31.drew | apply IsS31.set_0 | apply IsS31.set_1) | exact HI0.out)); (case side2 => repeat (first | (with_reducible first | exact HB.out | apply below_alloc | apply pw_below_drewN | apply below_drew1 | refine below_set ?_ (IsS31.ge HI0.out)) | exact HB.out)); rintro e w7 ⟨v263, rfl, ho0, hi, hb, hk⟩; have n0_ := Aside0.mk (Kd.R_lower ho0 (keep_size (w := w) (g := g) (row := none) (by repeat (first | (with_reducible first | exact HK.out | apply KeepBut.set_ | apply keep_drewN | apply keep_drew | apply keep_alloc) | exact HK.out)))); have n1_ := Aside0.mk (KeepBut.trans (by repeat (first | (with_reducible first | exact HK.out | apply KeepBut.set_ | apply keep_drewN | apply keep_drew | apply keep_alloc) | exact HK.out)) hk (.inl rfl)); have n2_ := Aside0.mk (hb); have n3_ := Aside0.mk (hi); clear HK; clear HB; clear HI0; have HO264 := n0_; have HK := n1_; have HB := n2_; have HI0 := n3_; clear n0_ n1_ n2_ n3_; (try clear hb); (try clear hb2); (try clear hk); (try clear hi); (try clear ho0); obtain ⟨Ao8, co8, eo8⟩ := Kd.R_slice HO264.out; subst eo8) | (go_at_call 78; (with_reducible refine (spec_l03Area.calls k1 _ _ t262 t267 _ ?side1 ?side2 A5.out).mono ?_); (case side1 => repeat (first | exact (Kd.R_reads' HO264.out).2.2 | (with_reducible refine Kd.C_alloc ?_ _) | (with_reducible refine Kd.C_drewN ?_ _) | (with_reducible refine Kd.C_drew ?_))); (case side2 => exact (Kd.R_reads' HO264.out).2.1); rintro e w9 ⟨rfl, hb⟩; have n0_ := Aside0.mk (Kd.R_below (by (with_reducible repeat (first | apply Kd.R_alloc | apply Kd.R_drewN | apply Kd.R_drew)); exact HO264.out) hb); have n1_ := Aside0.mk (IsS31.below (by repeat (first | (with_reducible first | exact HI0.out | apply IsS31.alloc | apply IsS31.drewN | apply IsS31.drew | apply IsS31.set_0 | apply IsS31.set_1) | exact HI0.out)) hb); have n2_ := Aside0.mk (KeepBut.trans (by repeat (first | (with_reducible first | exact HK.out | apply KeepBut.set_ | apply keep_drewN | apply keep_drew | apply keep_alloc) | exact HK.out)) (KeepBut.of_below hb g none) (.inl rfl)); have n3_ := Aside0.mk (below_step (by repeat (first | (with_reducible first | exact HB.out | apply below_alloc | apply pw_below_drewN | apply below_drew1 | refine below_set ?_ (IsS31.ge HI0.out)) | exact HB.out)) hb); clear HO264; clear HI0; clear HK; clear HB; have HO264 := n0_; have HI0 := n1_; have HK := n2_; have HB := n3_; clear n0_ n1_ n2_ n3_; (try clear hb); (try clear hb2); (try clear hk); (try clear hi)))
    repeat (go_quiet (first | (go_at_call 48; (with_reducible refine (spec_l05Polygon.calls k1 g x1000_1 x1001_1 s0_2 s0_3 x4_1 t262 t265 t266 w0 _ ?side1 ?side2 A4.out).mono ?_); (case side1 => repeat (first | (with_reducible first | exact HI0.out | apply IsS31.alloc | apply IsS31.drewN | apply IsS31.drew | apply IsS31.set_0 | apply IsS31.set_1) | exact HI0.out)); (case side2 => repeat (first | (with_reducible first | exact HB.out | apply below_alloc | apply pw_below_drewN | apply below_drew1 | refine below_set ?_ (IsS31.ge HI0.out)) | exact HB.out)); rintro e w7 ⟨v263, rfl, ho0, hi, hb, hk⟩; have n0_ := Aside0.mk (Kd.R_lower ho0 (keep_size (w := w) (g := g) (row := none) (by repeat (first | (with_reducible first | exact HK.out | apply KeepBut.set_ | apply keep_drewN | apply keep_drew | apply keep_alloc) | exact HK.out)))); have n1_ := Aside0.mk (KeepBut.trans (by repeat (first | (with_reducible first | exact HK.out | apply KeepBut.set_ | apply keep_drewN | apply keep_drew | apply keep_alloc) | exact HK.out)) hk (.inl rfl)); have n2_ := Aside0.mk (hb); have n3_ := Aside0.mk (hi); clear HK; clear HB; clear HI0; have HO264 := n0_; have HK := n1_; have HB := n2_; have HI0 := n3_; clear n0_ n1_ n2_ n3_; (try clear hb); (try clear hb2); (try clear hk); (try clear hi); (try clear ho0); obtain ⟨Ao8, co8, eo8⟩ := Kd.R_slice HO264.out; subst eo8) | (go_at_call 78; (with_reducible refine (spec_l03Area.calls k1 _ _ t262 t267 _ ?side1 ?side2 A5.out).mono ?_); (case side1 => repeat (first | exact (Kd.R_reads' HO264.out).2.2 | (with_reducible refine Kd.C_alloc ?_ _) | (with_reducible refine Kd.C_drewN ?_ _) | (with_reducible refine Kd.C_drew ?_))); (case side2 => exact (Kd.R_reads' HO264.out).2.1); rintro e w9 ⟨rfl, hb⟩; have n0_ := Aside0.mk (Kd.R_below (by (with_reducible repeat (first | apply Kd.R_alloc | apply Kd.R_drewN | apply Kd.R_drew)); exact HO264.out) hb); have n1_ := Aside0.mk (IsS31.below (by repeat (first | (with_reducible first | exact HI0.out | apply IsS31.alloc | apply IsS31.drewN | apply IsS31.drew | apply IsS31.set_0 | apply IsS31.set_1) | exact HI0.out)) hb); have n2_ := Aside0.mk (KeepBut.trans (by repeat (first | (with_reducible first | exact HK.out | apply KeepBut.set_ | apply keep_drewN | apply keep_drew | apply keep_alloc) | exact HK.out)) (KeepBut.of_below hb g none) (.inl rfl)); have n3_ := Aside0.mk (below_step (by repeat (first | (with_reducible first | exact HB.out | apply below_alloc | apply pw_below_drewN | apply below_drew1 | refine below_set ?_ (IsS31.ge HI0.out)) | exact HB.out)) hb); clear HO264; clear HI0; clear HK; clear HB; have HO264 := n0_; have HI0 := n1_; have HK := n2_; have HB := n3_; clear n0_ n1_ n2_ n3_; (try clear hb); (try clear hb2); (try clear hk); (try clear hi))); try go_wp2_with (first | (go_at_call 48; (with_reducible refine (spec_l05Polygon.calls k1 g x1000_1 x1001_1 s0_2 s0_3 x4_1 t262 t265 t266 w0 _ ?side1 ?side2 A4.out).mono ?_); (case side1 => repeat (first | (with_reducible first | exact HI0.out | apply IsS31.alloc | apply IsS31.drewN | apply IsS31.drew | apply IsS31.set_0 | apply IsS31.set_1) | exact HI0.out)); (case side2 => repeat (first | (with_reducible first | exact HB.out | apply below_alloc | apply pw_below_drewN | apply below_drew1 | refine below_set ?_ (IsS31.ge HI0.out)) | exact HB.out)); rintro e w7 ⟨v263, rfl, ho0, hi, hb, hk⟩; have n0_ := Aside0.mk (Kd.R_lower ho0 (keep_size (w := w) (g := g) (row := none) (by repeat (first | (with_reducible first | exact HK.out | apply KeepBut.set_ | apply keep_drewN | apply keep_drew | apply keep_alloc) | exact HK.out)))); have n1_ := Aside0.mk (KeepBut.trans (by repeat (first | (with_reducible first | exact HK.out | apply KeepBut.set_ | apply keep_drewN | apply keep_drew | apply keep_alloc) | exact HK.out)) hk (.inl rfl)); have n2_ := Aside0.mk (hb); have n3_ := Aside0.mk (hi); clear HK; clear HB; clear HI0; have HO264 := n0_; have HK := n1_; have HB := n2_; have HI0 := n3_; clear n0_ n1_ n2_ n3_; (try clear hb); (try clear hb2); (try clear hk); (try clear hi); (try clear ho0); obtain ⟨Ao8, co8, eo8⟩ := Kd.R_slice HO264.out; subst eo8) | (go_at_call 78; (with_reducible refine (spec_l03Area.calls k1 _ _ t262 t267 _ ?side1 ?side2 A5.out).mono ?_); (case side1 => repeat (first | exact (Kd.R_reads' HO264.out).2.2 | (with_reducible refine Kd.C_alloc ?_ _) | (with_reducible refine Kd.C_drewN ?_ _) | (with_reducible refine Kd.C_drew ?_))); (case side2 => exact (Kd.R_reads' HO264.out).2.1); rintro e w9 ⟨rfl, hb⟩; have n0_ := Aside0.mk (Kd.R_below (by (with_reducible repeat (first | apply Kd.R_alloc | apply Kd.R_drewN | apply Kd.R_drew)); exact HO264.out) hb); have n1_ := Aside0.mk (IsS31.below (by repeat (first | (with_reducible first | exact HI0.out | apply IsS31.alloc | apply IsS31.drewN | apply IsS31.drew | apply IsS31.set_0 | apply IsS31.set_1) | exact HI0.out)) hb); have n2_ := Aside0.mk (KeepBut.trans (by repeat (first | (with_reducible first | exact HK.out | apply KeepBut.set_ | apply keep_drewN | apply keep_drew | apply keep_alloc) | exact HK.out)) (KeepBut.of_below hb g none) (.inl rfl)); have n3_ := Aside0.mk (below_step (by repeat (first | (with_reducible first | exact HB.out | apply below_alloc | apply pw_below_drewN | apply below_drew1 | refine below_set ?_ (IsS31.ge HI0.out)) | exact HB.out)) hb); clear HO264; clear HI0; clear HK; clear HB; have HO264 := n0_; have HI0 := n1_; have HK := n2_; have HB := n3_; clear n0_ n1_ n2_ n3_; (try clear hb); (try clear hb2); (try clear hk); (try clear hi))))
    go_roundg k1
    case measure => have := HK1.out; omega
    case rel => exact ⟨(wrap64 (x3_1 - t267)), (wrap64 (x4_1 + 1)), (t265), (t266), (by first | rfl | (simp; done) | (simp [*]; done)), (by first | rfl | (simp; done) | (simp [*]; done)), H', ⟨by have := HK1.out; omega⟩, ⟨by repeat (first | (with_reducible first | exact HI0.out | apply IsS31.alloc | apply IsS31.drewN | apply IsS31.drew | apply IsS31.set_0 | apply IsS31.set_1) | exact HI0.out)⟩, ⟨by repeat (first | (with_reducible first | exact HK.out | apply KeepBut.set_ | apply keep_drewN | apply keep_drew | apply keep_alloc) | exact HK.out)⟩, ⟨by repeat (first | (with_reducible first | exact HB.out | apply below_alloc | apply pw_below_drewN | apply below_drew1 | refine below_set ?_ (IsS31.ge HI0.out)) | exact HB.out)⟩⟩
   ·rw [if_neg c3] at H
    have c3b0 : decide (x4_1 < (s0_3.length : Int)) = false := decide_eq_false c3
    clear c3
    simp only [Option.some.injEq, Prod.mk.injEq] at H
    obtain ⟨rfl, rfl, rfl⟩ := H
    obtain ⟨ASz10_2, cSz10_2, ASz10_3, cSz10_3, HGz10, hgz10, HSz10_2, HSz10_3⟩ := HI0.out
    have hcz10_0 := cellS31_0 HGz10
    have hcz10_1 := cellS31_1 HGz10
    have hcz10_2 := cellS31_2 HGz10
    have hcz10_3 := cellS31_3 HGz10
    have hfz10_0 := blk_frozen HGz10 0
    have hfz10_1 := blk_frozen HGz10 1
    clear HGz10 hgz10
    go_wp2
    repeat (go_quiet (fail); try go_wp2)
    go_ret
    exact ⟨by first | rfl | (simp [errW_none, errW_some] <;> rfl) | (simp [*, errW_none, errW_some] <;> rfl), by repeat (first | (with_reducible first | exact HI0.out | apply IsS31.alloc | apply IsS31.drewN | apply IsS31.drew | apply IsS31.set_0 | apply IsS31.set_1) | exact HI0.out), by repeat (first | (with_reducible first | exact HB.out | apply below_alloc | apply pw_below_drewN | apply below_drew1 | refine below_set ?_ (IsS31.ge HI0.out)) | exact HB.out), by repeat (first | (with_reducible first | exact HK.out | apply KeepBut.set_ | apply keep_drewN | apply keep_drew | apply keep_alloc) | exact HK.out)⟩
def spec_UncoveredArea.f (k : Nat) (a0_0 : Int) (a0_1 : Int) (l0_2 : List (S48)) (l0_3 : List (S67)) : Option (Int × Int) := (spec_l05Ok.f k a0_0 a0_1 l0_2 l0_3).bind fun bt269 => (if bt269.1 = true then ((spec_l05Rest.f k bt269.2.1 bt269.2.2 l0_2 l0_3).bind fun bt272 => (some (bt272.1, 0))) else (some (0, 1)))
theorem spec_UncoveredArea.mono : ∀ a0 a1 a2 a3 k, LeO (spec_UncoveredArea.f k a0 a1 a2 a3) (spec_UncoveredArea.f (k + 1) a0 a1 a2 a3) := by
 intro a0 a1 a2 a3 k
 unfold spec_UncoveredArea.f
 repeat' first
   | (with_reducible exact spec_l05Ok.mono _ _ _ _ _)
   | (with_reducible exact spec_l05Rest.mono _ _ _ _ _)
   | (with_reducible exact LeO.refl _)
   | (with_reducible exact LeO.none _)
   | (with_reducible refine LeO.ite ?_ ?_)
   | (with_reducible refine LeO.bind ?_ (fun _ => ?_))
   | exact spec_l05Ok.mono _ _ _ _ _
   | exact spec_l05Rest.mono _ _ _ _ _
   | exact LeO.none _
   | refine LeO.ite ?_ ?_
   | refine LeO.bind ?_ (fun _ => ?_)
set_option maxHeartbeats 8000000 in
set_option maxRecDepth 100000 in
theorem spec_UncoveredArea.calls (k : Nat) (a0_0 : Int) (a0_1 : Int) (A0_2 : Option Addr) (c0_2 : Nat) (l0_2 : List (S48)) (A0_3 : Option Addr) (c0_3 : Nat) (l0_3 : List (S67)) (r1 : Int) (r2 : Int) (w : World) (hr0_2 : Kd.C k48 w A0_2 l0_2.length l0_2) (hc0_2 : l0_2.length ≤ c0_2) (hr0_3 : Kd.C k67 w A0_3 l0_3.length l0_3) (hc0_3 : l0_3.length ≤ c0_3) (h : spec_UncoveredArea.f k a0_0 a0_1 l0_2 l0_3 = some (r1, r2)) :
  Calls Try.prog 23 #[.agg #[.int .i64 a0_0, .int .i64 a0_1, .slice A0_2 l0_2.length c0_2, .slice A0_3 l0_3.length c0_3]] w fun e w' => e = .returned (.tuple #[.int .i64 r1, .int .i64 r2]) ∧ Below w.heap.size w w' := by
 have hu31 := Try.underlying31
 have HR0_2 := Aside0.mk hr0_2
 have HC0_2 := Aside0.mk hc0_2
 clear hr0_2 hc0_2
 have HR0_3 := Aside0.mk hr0_3
 have HC0_3 := Aside0.mk hc0_3
 clear hr0_3 hc0_3
 have HB := Aside0.mk (Below.refl w.heap.size w)
 have H : ((spec_l05Ok.f k a0_0 a0_1 l0_2 l0_3).bind fun bt269 => (if bt269.1 = true then ((spec_l05Rest.f k bt269.2.1 bt269.2.2 l0_2 l0_3).bind fun bt272 => (some (bt272.1, 0))) else (some (0, 1)))) = some (r1, r2) := h
 clear h
 replace H := Option.bind_eq_some_iff.mp H
 obtain ⟨⟨b, x, y⟩, A10, H⟩ := H
 have A1_ := Aside0.mk A10
 clear A10
 cases b with
 | true =>
  replace H : ((spec_l05Rest.f k x y l0_2 l0_3).bind fun bt => (some (bt.1, 0))) = some (r1, r2) := by simpa using H
  replace H := Option.bind_eq_some_iff.mp H
  obtain ⟨⟨q, x2, y2⟩, A20, H⟩ := H
  have A2_ := Aside0.mk A20
  clear A20
  simp only [Option.some.injEq, Prod.mk.injEq] at H
  obtain ⟨rfl, rfl⟩ := H
  go_enter Try.func23, Try.ntmps23
  go_wp2_with (first | ((with_reducible refine gate_dst (N := 1) rfl ?_); refine bx (cs := #[.int .i64 a0_0, .int .i64 a0_1, .slice A0_2 l0_2.length c0_2, .slice A0_3 l0_3.length c0_3]) (t := 31) ?_; intro gb hg w3 hbox hb; have HI := Aside0.mk (show IsS31 w w3 gb a0_0 a0_1 l0_2 l0_3 from ⟨A0_2, c0_2, A0_3, c0_3, hbox, Nat.le_of_eq hg.symm, HR0_2.out, HR0_3.out⟩); have n1_ := Aside0.mk (below_step ib hb); clear HB; have HB := n1_; clear n1_ hbox hb hg) | ((with_reducible refine gate_callee (f := 37) rfl ?_); refine goesL_ _ rfl rfl Try.func37 (by kernel_rfl) rfl #[.pointer (some ⟨gb, 0, none⟩)] rfl (by (try simp only [List.map_toArray, List.map_cons, List.map_nil]); first | done | rfl) ?_; (with_reducible refine (spec_l05Ok.calls _ gb a0_0 a0_1 l0_2 l0_3 _ _ _ w _ (by repeat (first | exact HI.out | apply IsS31.alloc | apply IsS31.drewN | apply IsS31.drew)) ib A1_.out).mono ?_); rintro e w5 ⟨rfl, hi, hb, hk⟩; refine ⟨_, rfl, ?_⟩; have n1_ := Aside0.mk hb; have n2_ := Aside0.mk hi; clear hi hb hk HB HI; have HB := n1_; have HI := n2_; clear n1_ n2_) | (go_at_call 37; (with_reducible refine (spec_l05Ok.calls _ gb a0_0 a0_1 l0_2 l0_3 _ _ _ w _ (by repeat (first | exact HI.out | apply IsS31.alloc | apply IsS31.drewN | apply IsS31.drew)) ib A1_.out).mono ?_); rintro e w5 ⟨rfl, hi, hb, hk⟩; have n1_ := Aside0.mk hb; have n2_ := Aside0.mk hi; clear hi hb hk HB HI; have HB := n1_; have HI := n2_; clear n1_ n2_) | ((with_reducible refine gate_callee (f := 53) rfl ?_); refine goesL_ _ rfl rfl Try.func53 (by kernel_rfl) rfl #[.pointer (some ⟨gb, 0, none⟩)] rfl (by (try simp only [List.map_toArray, List.map_cons, List.map_nil]); first | done | rfl) ?_; (with_reducible refine (spec_l05Rest.calls _ gb _ _ l0_2 l0_3 _ _ _ w _ (by repeat (first | exact HI.out | apply IsS31.alloc | apply IsS31.drewN | apply IsS31.drew)) ib A2_.out).mono ?_); rintro e w5 ⟨rfl, hi, hb, hk⟩; refine ⟨_, rfl, ?_⟩; have n1_ := Aside0.mk hb; have n2_ := Aside0.mk hi; clear hi hb hk HB HI; have HB := n1_; have HI := n2_; clear n1_ n2_) | (go_at_call 53; (with_reducible refine (spec_l05Rest.calls _ gb _ _ l0_2 l0_3 _ _ _ w _ (by repeat (first | exact HI.out | apply IsS31.alloc | apply IsS31.drewN | apply IsS31.drew)) ib A2_.out).mono ?_); rintro e w5 ⟨rfl, hi, hb, hk⟩; have n1_ := Aside0.mk hb; have n2_ := Aside0.mk hi; clear hi hb hk HB HI; have HB := n1_; have HI := n2_; clear n1_ n2_))
  go_ret2
  exact ⟨(by first | rfl | (simp; done) | (simp [*]; done)), ib⟩
 | false =>
  replace H : some ((0 : Int), (1 : Int)) = some (r1, r2) := H
  simp only [Option.some.injEq, Prod.mk.injEq] at H
  obtain ⟨rfl, rfl⟩ := H
  go_enter Try.func23, Try.ntmps23
  go_wp2_with (first | ((with_reducible refine gate_dst (N := 1) rfl ?_); refine bx (cs := #[.int .i64 a0_0, .int .i64 a0_1, .slice A0_2 l0_2.length c0_2, .slice A0_3 l0_3.length c0_3]) (t := 31) ?_; intro gb hg w3 hbox hb; have HI := Aside0.mk (show IsS31 w w3 gb a0_0 a0_1 l0_2 l0_3 from ⟨A0_2, c0_2, A0_3, c0_3, hbox, Nat.le_of_eq hg.symm, HR0_2.out, HR0_3.out⟩); have n1_ := Aside0.mk (below_step ib hb); clear HB; have HB := n1_; clear n1_ hbox hb hg) | ((with_reducible refine gate_callee (f := 37) rfl ?_); refine goesL_ _ rfl rfl Try.func37 (by kernel_rfl) rfl #[.pointer (some ⟨gb, 0, none⟩)] rfl (by (try simp only [List.map_toArray, List.map_cons, List.map_nil]); first | done | rfl) ?_; (with_reducible refine (spec_l05Ok.calls _ gb a0_0 a0_1 l0_2 l0_3 _ _ _ w _ (by repeat (first | exact HI.out | apply IsS31.alloc | apply IsS31.drewN | apply IsS31.drew)) ib A1_.out).mono ?_); rintro e w5 ⟨rfl, hi, hb, hk⟩; refine ⟨_, rfl, ?_⟩; have n1_ := Aside0.mk hb; have n2_ := Aside0.mk hi; clear hi hb hk HB HI; have HB := n1_; have HI := n2_; clear n1_ n2_) | (go_at_call 37; (with_reducible refine (spec_l05Ok.calls _ gb a0_0 a0_1 l0_2 l0_3 _ _ _ w _ (by repeat (first | exact HI.out | apply IsS31.alloc | apply IsS31.drewN | apply IsS31.drew)) ib A1_.out).mono ?_); rintro e w5 ⟨rfl, hi, hb, hk⟩; have n1_ := Aside0.mk hb; have n2_ := Aside0.mk hi; clear hi hb hk HB HI; have HB := n1_; have HI := n2_; clear n1_ n2_) | ((with_reducible refine gate_callee (f := 53) rfl ?_); refine goesL_ _ rfl rfl Try.func53 (by kernel_rfl) rfl #[.pointer (some ⟨gb, 0, none⟩)] rfl (by (try simp only [List.map_toArray, List.map_cons, List.map_nil]); first | done | rfl) ?_; (with_reducible refine (spec_l05Rest.calls _ gb _ _ l0_2 l0_3 _ _ _ w _ (by repeat (first | exact HI.out | apply IsS31.alloc | apply IsS31.drewN | apply IsS31.drew)) ib A2_.out).mono ?_); rintro e w5 ⟨rfl, hi, hb, hk⟩; refine ⟨_, rfl, ?_⟩; have n1_ := Aside0.mk hb; have n2_ := Aside0.mk hi; clear hi hb hk HB HI; have HB := n1_; have HI := n2_; clear n1_ n2_) | (go_at_call 53; (with_reducible refine (spec_l05Rest.calls _ gb _ _ l0_2 l0_3 _ _ _ w _ (by repeat (first | exact HI.out | apply IsS31.alloc | apply IsS31.drewN | apply IsS31.drew)) ib A2_.out).mono ?_); rintro e w5 ⟨rfl, hi, hb, hk⟩; have n1_ := Aside0.mk hb; have n2_ := Aside0.mk hi; clear hi hb hk HB HI; have HB := n1_; have HI := n2_; clear n1_ n2_))
  go_ret2
  exact ⟨(by first | rfl | (simp; done) | (simp [*]; done)), ib⟩
def impl_within.f (a0 : Int) (a1 : Int) (a2 : Int) : Option (Bool) := if a0 ≥ a1 then (some (decide (a0 ≤ a2))) else (some false)
set_option maxHeartbeats 8000000 in
set_option maxRecDepth 100000 in
theorem impl_within.calls (a0 : Int) (a1 : Int) (a2 : Int) (r : Bool) (w : World) (h : impl_within.f a0 a1 a2 = some r) :
  Calls Try.prog 40 #[.int .i64 a0, .int .i64 a1, .int .i64 a2] w fun e w' => e = .returned (.bool r) ∧ Drawn0 w w' := by
 have H : (if a0 ≥ a1 then (some (decide (a0 ≤ a2))) else (some false)) = some r := h
 clear h
 by_cases c4 : a0 ≥ a1
 ·rw [if_pos c4] at H
  have c4b0 : decide (a1 ≤ a0) = true := decide_eq_true c4
  clear c4
  obtain rfl := Option.some.inj H
  go_enter Try.func40, Try.ntmps40
  go_wp2
  go_ret
  exact ⟨by first | rfl | (simp; done) | (simp [*]; done), by repeat (first | exact Drawn0.refl _ | apply Drawn0.step)⟩
 ·rw [if_neg c4] at H
  have c4b0 : decide (a1 ≤ a0) = false := decide_eq_false c4
  clear c4
  obtain rfl := Option.some.inj H
  go_enter Try.func40, Try.ntmps40
  go_wp2
  go_ret
  exact ⟨by first | rfl | (simp; done) | (simp [*]; done), by repeat (first | exact Drawn0.refl _ | apply Drawn0.step)⟩
def impl_Point_71.l0 : Nat → List (S48) → Int → Int → Int → Int → Option (Int)
 | 0, _, _, _, _, _ => none
 | k + 1, x0, x7, x8, x276000, x276001 => if x8 < x7 then (if 0 ≤ x8 then (if x8 < (x0.length : Int) then (if (x276000 == ((rd_T48 x0 x8).f0) && (x276001 == ((rd_T48 x0 x8).f1))) = true then (some x8) else (impl_Point_71.l0 k x0 x7 (wrap64 (x8 + 1)) x276000 x276001)) else (none)) else (none)) else (some (-1))
def impl_Point_71.f (k : Nat) (l0 : List (S48)) (a1_0 : Int) (a1_1 : Int) : Option (Int) := impl_Point_71.l0 k l0 (l0.length : Int) 0 a1_0 a1_1
theorem impl_Point_71.mono_l : ∀ k, (∀ y0 y1 y2 y3 y4, LeO (impl_Point_71.l0 k y0 y1 y2 y3 y4) (impl_Point_71.l0 (k + 1) y0 y1 y2 y3 y4))
 | 0 => fun _ _ _ _ _ r h => by simp [impl_Point_71.l0] at h
 | k + 1 => by
  have ih0 := impl_Point_71.mono_l k
  ·intro y0 y1 y2 y3 y4
   unfold impl_Point_71.l0
   repeat' first
   | (with_reducible exact ih0 _ _ _ _ _)
   | (with_reducible exact LeO.refl _)
   | (with_reducible exact LeO.none _)
   | (with_reducible refine LeO.ite ?_ ?_)
   | (with_reducible refine LeO.bind ?_ (fun _ => ?_))
   | exact ih0 _ _ _ _ _
   | exact LeO.none _
   | refine LeO.ite ?_ ?_
   | refine LeO.bind ?_ (fun _ => ?_)
theorem impl_Point_71.mono : ∀ a0 a1 a2 k, LeO (impl_Point_71.f k a0 a1 a2) (impl_Point_71.f (k + 1) a0 a1 a2) := by
 intro a0 a1 a2 k
 have ih0 := impl_Point_71.mono_l k
 unfold impl_Point_71.f
 repeat' first
   | (with_reducible exact ih0 _ _ _ _ _)
   | (with_reducible exact LeO.refl _)
   | (with_reducible exact LeO.none _)
   | (with_reducible refine LeO.ite ?_ ?_)
   | (with_reducible refine LeO.bind ?_ (fun _ => ?_))
   | exact ih0 _ _ _ _ _
   | exact LeO.none _
   | refine LeO.ite ?_ ?_
   | refine LeO.bind ?_ (fun _ => ?_)
set_option maxHeartbeats 8000000 in
set_option maxRecDepth 100000 in
theorem impl_Point_71.calls (k : Nat) (A0 : Option Addr) (c0 : Nat) (l0 : List (S48)) (a1_0 : Int) (a1_1 : Int) (r : Int) (w : World) (hr0 : Kd.C k48 w A0 l0.length l0) (hc0 : l0.length ≤ c0) (h : impl_Point_71.f k l0 a1_0 a1_1 = some r) :
  Calls Try.prog 71 #[.slice A0 l0.length c0, .agg #[.int .i64 a1_0, .int .i64 a1_1]] w fun e w' => e = .returned (.int .i64 r) ∧ Below w.heap.size w w' := by
 have hu48 := Try.underlying48
 have HR0 := Aside0.mk hr0
 have HC0 := Aside0.mk hc0
 clear hr0 hc0
 have HB := Aside0.mk (Below.refl w.heap.size w)
 have H : (impl_Point_71.l0 k l0 (l0.length : Int) 0 a1_0 a1_1) = some r := h
 clear h
 have H' := Aside0.mk H
 clear H
 go_enter Try.func71, Try.ntmps71
 go_wp2_with (first | ((with_reducible refine gate_dst (N := 3) rfl ?_); refine bx (cs := #[.int .i64 a1_0, .int .i64 a1_1]) (t := 48) ?_; intro gb275 hg w3 hbox hb; have n0_ := sb hb; have n1_ := Aside0.mk (hbox); have n2_ := zb hg; have n3_ := zb hg; clear HB; have HB := n0_; have BK275 := n1_; have GW275 := n2_; have GE275 := n3_; clear n0_ n1_ n2_ n3_; clear hb hbox hg))
 repeat (go_quiet (first | ((with_reducible refine gate_dst (N := 3) rfl ?_); refine bx (cs := #[.int .i64 a1_0, .int .i64 a1_1]) (t := 48) ?_; intro gb275 hg w3 hbox hb; have n0_ := sb hb; have n1_ := Aside0.mk (hbox); have n2_ := zb hg; have n3_ := zb hg; clear HB; have HB := n0_; have BK275 := n1_; have GW275 := n2_; have GE275 := n3_; clear n0_ n1_ n2_ n3_; clear hb hbox hg)); try go_wp2_with (first | ((with_reducible refine gate_dst (N := 3) rfl ?_); refine bx (cs := #[.int .i64 a1_0, .int .i64 a1_1]) (t := 48) ?_; intro gb275 hg w3 hbox hb; have n0_ := sb hb; have n1_ := Aside0.mk (hbox); have n2_ := zb hg; have n3_ := zb hg; clear HB; have HB := n0_; have BK275 := n1_; have GW275 := n2_; have GE275 := n3_; clear n0_ n1_ n2_ n3_; clear hb hbox hg)))
 go_loopg [8] k (fun kq v8 w' => ∃ (x8_1 : Int), v8 = .int .i64 x8_1 ∧ Aside0 (impl_Point_71.l0 kq l0 (l0.length : Int) x8_1 a1_0 a1_1 = some r) ∧ Aside0 (kq ≤ k) ∧ Aside0 (w'.heap[gb275]? = some (.cells #[.int .i64 a1_0, .int .i64 a1_1] 48 (0, 0))) ∧ Aside0 (Below w.heap.size w w'))
 case atStart => exact ⟨(0), (by first | rfl | (simp; done) | (simp [*]; done)), H', ⟨Nat.le_refl _⟩, ⟨by exact bk BK275⟩, ⟨by repeat (first | (with_reducible first | exact HB.out | apply below_alloc | apply pw_below_drewN | apply below_drew1 | refine below_set ?_ GE275.out) | exact HB.out)⟩⟩
 case round =>
  clear H'
  try clear p2
  obtain ⟨x8_1, rfl, HA, HK1, BK275, HB⟩ := hrel
  cases gk with
  | zero => exact absurd HA.out (by simp [impl_Point_71.l0])
  | succ k1 =>
   have H := HA.out
   clear HA
   simp only [impl_Point_71.l0] at H
   by_cases c4 : x8_1 < (l0.length : Int)
   ·rw [if_pos c4] at H
    have c4b0 : decide (x8_1 < (l0.length : Int)) = true := decide_eq_true c4
    clear c4
    by_cases c5 : 0 ≤ x8_1
    ·rw [if_pos c5] at H
     have c5b0 : decide (0 ≤ x8_1) = true := decide_eq_true c5
     clear c5
     by_cases c6 : x8_1 < (l0.length : Int)
     ·rw [if_pos c6] at H
      have c6b0 : decide (x8_1 < (l0.length : Int)) = true := decide_eq_true c6
      clear c6
      by_cases c7 : (a1_0 == ((rd_T48 l0 x8_1).f0) && (a1_1 == ((rd_T48 l0 x8_1).f1))) = true
      ·rw [if_pos c7] at H
       have c7b0 : (a1_0 == ((rd_T48 l0 x8_1).f0) && (a1_1 == ((rd_T48 l0 x8_1).f1))) = true := c7
       (try (have c7b1 : decide (a1_0 = ((rd_T48 l0 x8_1).f0) && (a1_1 == ((rd_T48 l0 x8_1).f1))) = true := by simpa using c7))
       (try (have c7b2 : (a1_0 == ((rd_T48 l0 x8_1).f0) && (a1_1 == ((rd_T48 l0 x8_1).f1))) = true := by simpa using c7))
       clear c7
       obtain rfl := Option.some.inj H
       have hcz8_0 : wr.cell? ⟨gb275, 0, none⟩ = some (.int .i64 a1_0) := (blk_cell BK275.out 0).trans rfl
       have hcz8_1 : wr.cell? ⟨gb275, 1, none⟩ = some (.int .i64 a1_1) := (blk_cell BK275.out 1).trans rfl
       have hfz8_0 := blk_frozen BK275.out 0
       have hfz8_1 := blk_frozen BK275.out 1
       have p276 : 0 ≤ (x8_1 : Int) := da
       have q276 : x8_1 < (l0.length : Int) := da
       obtain ⟨ad276, e276, hx276_0, hx276_1⟩ := at_T48 HR0.out x8_1 p276 q276
       cases e276
       replace hx276_0 := (HB.out.cell (bL w _ hx276_0)).trans hx276_0
       replace hx276_1 := (HB.out.cell (bL w _ hx276_1)).trans hx276_1
       replace p276 := eq_true p276
       replace q276 := eq_true q276
       go_wp2
       repeat (go_quiet (fail); try go_wp2)
       go_ret
       exact ⟨by first | rfl | (simp [errW_none, errW_some] <;> rfl) | (simp [*, errW_none, errW_some] <;> rfl), by repeat (first | (with_reducible first | exact HB.out | apply below_alloc | apply pw_below_drewN | apply below_drew1 | refine below_set ?_ GE275.out) | exact HB.out)⟩
      ·rw [if_neg c7] at H
       have c7b0 : (a1_0 == ((rd_T48 l0 x8_1).f0) && (a1_1 == ((rd_T48 l0 x8_1).f1))) = false := by simpa using c7
       (try (have c7b1 : decide (a1_0 = ((rd_T48 l0 x8_1).f0) && (a1_1 == ((rd_T48 l0 x8_1).f1))) = false := by simpa using c7))
       (try (have c7b2 : (a1_0 == ((rd_T48 l0 x8_1).f0) && (a1_1 == ((rd_T48 l0 x8_1).f1))) = false := by simpa using c7))
       (try (have c7b3 : ¬ (a1_0 = ((rd_T48 l0 x8_1).f0) && (a1_1 == ((rd_T48 l0 x8_1).f1))) := by simpa using c7))
       clear c7
       have H' := Aside0.mk H
       clear H
       have hcz9_0 : wr.cell? ⟨gb275, 0, none⟩ = some (.int .i64 a1_0) := (blk_cell BK275.out 0).trans rfl
       have hcz9_1 : wr.cell? ⟨gb275, 1, none⟩ = some (.int .i64 a1_1) := (blk_cell BK275.out 1).trans rfl
       have hfz9_0 := blk_frozen BK275.out 0
       have hfz9_1 := blk_frozen BK275.out 1
       have p276 : 0 ≤ (x8_1 : Int) := da
       have q276 : x8_1 < (l0.length : Int) := da
       obtain ⟨ad276, e276, hx276_0, hx276_1⟩ := at_T48 HR0.out x8_1 p276 q276
       cases e276
       replace hx276_0 := (HB.out.cell (bL w _ hx276_0)).trans hx276_0
       replace hx276_1 := (HB.out.cell (bL w _ hx276_1)).trans hx276_1
       replace p276 := eq_true p276
       replace q276 := eq_true q276
       go_wp2
       repeat (go_quiet (fail); try go_wp2)
       go_roundg k1
       case measure => have := HK1.out; omega
       case rel => exact ⟨(wrap64 (x8_1 + 1)), (by first | rfl | (simp; done) | (simp [*]; done)), H', ⟨by have := HK1.out; omega⟩, ⟨by exact bk BK275⟩, ⟨by repeat (first | (with_reducible first | exact HB.out | apply below_alloc | apply pw_below_drewN | apply below_drew1 | refine below_set ?_ GE275.out) | exact HB.out)⟩⟩
     ·first | (exfalso; have z_ := of_decide_eq_true c4b0; omega) | (rw [if_neg c6] at H; exact absurd H (by simp))
    ·rw [if_neg c5] at H
     exact absurd H (by simp)
   ·rw [if_neg c4] at H
    have c4b0 : decide (x8_1 < (l0.length : Int)) = false := decide_eq_false c4
    clear c4
    obtain rfl := Option.some.inj H
    go_wp2
    repeat (go_quiet (fail); try go_wp2)
    go_ret
    exact ⟨by first | rfl | (simp [errW_none, errW_some] <;> rfl) | (simp [*, errW_none, errW_some] <;> rfl), by repeat (first | (with_reducible first | exact HB.out | apply below_alloc | apply pw_below_drewN | apply below_drew1 | refine below_set ?_ GE275.out) | exact HB.out)⟩
def impl_Point_41.f (k : Nat) (l0 : List (S48)) (a1_0 : Int) (a1_1 : Int) : Option (Bool) := (impl_Point_71.f k l0 a1_0 a1_1).bind fun t278 => (some (decide (t278 ≥ 0)))
theorem impl_Point_41.mono : ∀ a0 a1 a2 k, LeO (impl_Point_41.f k a0 a1 a2) (impl_Point_41.f (k + 1) a0 a1 a2) := by
 intro a0 a1 a2 k
 unfold impl_Point_41.f
 repeat' first
   | (with_reducible exact impl_Point_71.mono _ _ _ _)
   | (with_reducible exact LeO.refl _)
   | (with_reducible exact LeO.none _)
   | (with_reducible refine LeO.ite ?_ ?_)
   | (with_reducible refine LeO.bind ?_ (fun _ => ?_))
   | exact impl_Point_71.mono _ _ _ _
   | exact LeO.none _
   | refine LeO.ite ?_ ?_
   | refine LeO.bind ?_ (fun _ => ?_)
set_option maxHeartbeats 8000000 in
set_option maxRecDepth 100000 in
theorem impl_Point_41.calls (k : Nat) (A0 : Option Addr) (c0 : Nat) (l0 : List (S48)) (a1_0 : Int) (a1_1 : Int) (r : Bool) (w : World) (hr0 : Kd.C k48 w A0 l0.length l0) (hc0 : l0.length ≤ c0) (h : impl_Point_41.f k l0 a1_0 a1_1 = some r) :
  Calls Try.prog 41 #[.slice A0 l0.length c0, .agg #[.int .i64 a1_0, .int .i64 a1_1]] w fun e w' => e = .returned (.bool r) ∧ Below w.heap.size w w' := by
 have hu48 := Try.underlying48
 have HR0 := Aside0.mk hr0
 have HC0 := Aside0.mk hc0
 clear hr0 hc0
 have HB := Aside0.mk (Below.refl w.heap.size w)
 have H : ((impl_Point_71.f k l0 a1_0 a1_1).bind fun t278 => (some (decide (t278 ≥ 0)))) = some r := h
 clear h
 replace H := Option.bind_eq_some_iff.mp H
 obtain ⟨t278, A30, H⟩ := H
 replace H : (some (decide (t278 ≥ 0))) = some r := H
 have A3 := Aside0.mk A30
 clear A30
 obtain rfl := Option.some.inj H
 go_enter Try.func41, Try.ntmps41
 go_wp2_with (first | ((with_reducible refine gate_dst (N := 3) rfl ?_); refine bx (cs := #[.int .i64 a1_0, .int .i64 a1_1]) (t := 48) ?_; intro gb277 hg w4 hbox hb; have n0_ := sb hb; have n1_ := Aside0.mk (hbox); have n2_ := zb hg; have n3_ := zb hg; clear HB; have HB := n0_; have BK277 := n1_; have GW277 := n2_; have GE277 := n3_; clear n0_ n1_ n2_ n3_; clear hb hbox hg; have hcz5_0 := ck BK277 0; have hcz5_1 := ck BK277 1; have hfz5_0 := blk_frozen BK277.out 0; have hfz5_1 := blk_frozen BK277.out 1) | ((with_reducible refine gate_callee (f := 71) rfl ?_); refine goesL_ (some 7) rfl rfl Try.func71 (by kernel_rfl) rfl #[.slice A0 l0.length c0, .agg #[.int .i64 a1_0, .int .i64 a1_1]] rfl (by (try simp only [List.map_toArray, List.map_cons, List.map_nil]); first | done | rfl | (simp only [List.length_drop, List.length_take]; rfl)) ?_; (with_reducible refine (impl_Point_71.calls k _ _ l0 a1_0 a1_1 t278 _ ?side1 ?side2 A3.out).mono ?_); (case side1 => repeat (first | exact (Kd.C_below HR0.out HB.out) | (with_reducible refine Kd.C_alloc ?_ _) | (with_reducible refine Kd.C_drewN ?_ _) | (with_reducible refine Kd.C_drew ?_))); (case side2 => exact HC0.out); rintro e w6 ⟨rfl, hb⟩; refine ⟨_, rfl, ?_⟩; have n0_ := kb BK277 hb; have n1_ := sb hb; clear BK277; clear HB; have BK277 := n0_; have HB := n1_; clear n0_ n1_; (try clear hb); (try clear hb2); (try clear hk); (try clear hi)))
 go_ret
 exact ⟨by first | rfl | (simp [errW_none, errW_some] <;> rfl) | (simp [*, errW_none, errW_some] <;> rfl), by repeat (first | (with_reducible first | exact HB.out | apply below_alloc | apply pw_below_drewN | apply below_drew1 | refine below_set ?_ GE277.out) | exact HB.out)⟩
end Go.Proofs.Ytlfifbalakgfeaa.PFnExactUncoveredArea
