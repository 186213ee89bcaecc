/- Contracts of functions that FnExactFaceAt reaches, out of the lines of the kit's print. -/
import Derived.Test.YtlfifbalakgfeaaQFnExactFaceAtx0
import Derived.Test.YtlfifbalakgfeaaQFnExactFaceAtx4
import Derived.Test.YtlfifbalakgfeaaQFnExactFaceAtx5
import Derived.Test.YtlfifbalakgfeaaQFnExactFaceAtx7
import Derived.Test.YtlfifbalakgfeaaQFnExactFaceAtx9
namespace Go.Proofs.Ytlfifbalakgfeaa.PFnExactFaceAt
open Go.RowKit Go.Proofs.YtlfifbalakgfeaaW.PrintWords Go.Proofs.YtlfifbalakgfeaaW.PrintLast Go.Proofs.YtlfifbalakgfeaaW.PrintMore
open Bool renaming true → tT, false → fF
open Go.World renaming block_lt_of_cell? → bL
attribute [local go_sem] max2_int min2_int max_two min_two max_three min_three max_four min_four
set_option linter.unusedVariables false
set_option linter.unusedSimpArgs false
mutual
def spec_l05Ok.j0 : Nat → Bool → Int → Int → List (S48) → List (S67) → Option (Bool × Int × Int)
 | 0, _, _, _, _, _ => none
 | k + 1, x32, x1000, x1001, x1002, x1003 => if x32 = true then (some (false, x1000, x1001)) else (spec_l05Ok.l0 k 0 x1000 x1001 x1002 x1003)
def spec_l05Ok.l0 : Nat → Int → Int → Int → List (S48) → List (S67) → Option (Bool × Int × Int)
 | 0, _, _, _, _, _ => none
 | k + 1, x3, x1000, x1001, x1002, x1003 => if x3 < (x1003.length : Int) then (if 0 ≤ x3 then ((spec_l01Name.f k ((rd_T67 x1003 x3).f0)).bind fun t244 => (if t244 = true then (if x3 > 0 then (if 0 ≤ (wrap64 (x3 - 1)) then (if (wrap64 (x3 - 1)) < (x1003.length : Int) then (spec_l05Ok.j2 k x3 (!(Op.bytesLess (((rd_T67 x1003 (wrap64 (x3 - 1))).f0).toList) (((rd_T67 x1003 x3).f0).toList))) x1000 x1001 x1002 x1003) else (none)) else (none)) else (spec_l05Ok.j2 k x3 false x1000 x1001 x1002 x1003)) else (spec_l05Ok.j2 k x3 true x1000 x1001 x1002 x1003))) else (none)) else (some (true, x1000, x1001))
def spec_l05Ok.j2 : Nat → Int → Bool → Int → Int → List (S48) → List (S67) → Option (Bool × Int × Int)
 | 0, _, _, _, _, _, _ => none
 | k + 1, x3, x75, x1000, x1001, x1002, x1003 => if x75 = true then (some (false, x1000, x1001)) else (if 0 ≤ x3 then (if x3 < (x1003.length : Int) then ((spec_l05Ring.f k x1000 x1001 x1002 x1003 ((rd_T67 x1003 x3).f1)).bind fun bt248 => (if bt248.2.1 = true then ((spec_l03Ok.f k bt248.1).bind fun t254 => (if t254 = true then (spec_l05Ok.l0 k (wrap64 (x3 + 1)) bt248.2.2.1 bt248.2.2.2 x1002 x1003) else (some (false, bt248.2.2.1, bt248.2.2.2)))) else (some (false, bt248.2.2.1, bt248.2.2.2)))) else (none)) else (none))
end
def spec_l05Ok.f (k : Nat) (s0_0 : Int) (s0_1 : Int) (s0_2 : List (S48)) (s0_3 : List (S67)) : Option (Bool × Int × Int) := (spec_l00In.f s0_0 10 20000).bind fun t238 => (if t238 = true then ((spec_l00In.f s0_1 10 20000).bind fun t239 => (if t239 = true then ((spec_l05Points.f k s0_0 s0_1 s0_2 s0_3).bind fun bt240 => (if bt240.1 = true then (spec_l05Ok.j0 k (decide ((s0_3.length : Int) > 24)) bt240.2.1 bt240.2.2 s0_2 s0_3) else (spec_l05Ok.j0 k true bt240.2.1 bt240.2.2 s0_2 s0_3))) else (spec_l05Ok.j0 k true s0_0 s0_1 s0_2 s0_3))) else (spec_l05Ok.j0 k true s0_0 s0_1 s0_2 s0_3))
theorem spec_l05Ok.mono_l : ∀ k, (∀ y0 y1 y2 y3 y4, LeO (spec_l05Ok.j0 k y0 y1 y2 y3 y4) (spec_l05Ok.j0 (k + 1) y0 y1 y2 y3 y4)) ∧ (∀ y0 y1 y2 y3 y4, LeO (spec_l05Ok.l0 k y0 y1 y2 y3 y4) (spec_l05Ok.l0 (k + 1) y0 y1 y2 y3 y4)) ∧ (∀ y0 y1 y2 y3 y4 y5, LeO (spec_l05Ok.j2 k y0 y1 y2 y3 y4 y5) (spec_l05Ok.j2 (k + 1) y0 y1 y2 y3 y4 y5))
 | 0 => ⟨fun _ _ _ _ _ r h => by simp [spec_l05Ok.j0] at h, fun _ _ _ _ _ r h => by simp [spec_l05Ok.l0] at h, fun _ _ _ _ _ _ r h => by simp [spec_l05Ok.j2] at h⟩
 | k + 1 => by
  obtain ⟨ih0, ih1, ih2⟩ := spec_l05Ok.mono_l k
  refine ⟨?_, ?_, ?_⟩
  ·intro y0 y1 y2 y3 y4
   unfold spec_l05Ok.j0
   repeat' first
   | (with_reducible exact ih0 _ _ _ _ _)
   | (with_reducible exact ih1 _ _ _ _ _)
   | (with_reducible exact ih2 _ _ _ _ _ _)
   | (with_reducible exact spec_l01Name.mono _ _)
   | (with_reducible exact spec_l03Ok.mono _ _)
   | (with_reducible exact spec_l05Points.mono _ _ _ _ _)
   | (with_reducible exact spec_l05Ring.mono _ _ _ _ _ _)
   | (with_reducible exact LeO.refl _)
   | (with_reducible exact LeO.none _)
   | (with_reducible refine LeO.ite ?_ ?_)
   | (with_reducible refine LeO.bind ?_ (fun _ => ?_))
   | exact ih0 _ _ _ _ _
   | exact ih1 _ _ _ _ _
   | exact ih2 _ _ _ _ _ _
   | exact spec_l01Name.mono _ _
   | exact spec_l03Ok.mono _ _
   | exact spec_l05Points.mono _ _ _ _ _
   | exact spec_l05Ring.mono _ _ _ _ _ _
   | exact LeO.none _
   | refine LeO.ite ?_ ?_
   | refine LeO.bind ?_ (fun _ => ?_)
  ·intro y0 y1 y2 y3 y4
   unfold spec_l05Ok.l0
   repeat' first
   | (with_reducible exact ih0 _ _ _ _ _)
   | (with_reducible exact ih1 _ _ _ _ _)
   | (with_reducible exact ih2 _ _ _ _ _ _)
   | (with_reducible exact spec_l01Name.mono _ _)
   | (with_reducible exact spec_l03Ok.mono _ _)
   | (with_reducible exact spec_l05Points.mono _ _ _ _ _)
   | (with_reducible exact spec_l05Ring.mono _ _ _ _ _ _)
   | (with_reducible exact LeO.refl _)
   | (with_reducible exact LeO.none _)
   | (with_reducible refine LeO.ite ?_ ?_)
   | (with_reducible refine LeO.bind ?_ (fun _ => ?_))
   | exact ih0 _ _ _ _ _
   | exact ih1 _ _ _ _ _
   | exact ih2 _ _ _ _ _ _
   | exact spec_l01Name.mono _ _
   | exact spec_l03Ok.mono _ _
   | exact spec_l05Points.mono _ _ _ _ _
   | exact spec_l05Ring.mono _ _ _ _ _ _
   | exact LeO.none _
   | refine LeO.ite ?_ ?_
   | refine LeO.bind ?_ (fun _ => ?_)
  ·intro y0 y1 y2 y3 y4 y5
   unfold spec_l05Ok.j2
   repeat' first
   | (with_reducible exact ih0 _ _ _ _ _)
   | (with_reducible exact ih1 _ _ _ _ _)
   | (with_reducible exact ih2 _ _ _ _ _ _)
   | (with_reducible exact spec_l01Name.mono _ _)
   | (with_reducible exact spec_l03Ok.mono _ _)
   | (with_reducible exact spec_l05Points.mono _ _ _ _ _)
   | (with_reducible exact spec_l05Ring.mono _ _ _ _ _ _)
   | (with_reducible exact LeO.refl _)
   | (with_reducible exact LeO.none _)
   | (with_reducible refine LeO.ite ?_ ?_)
   | (with_reducible refine LeO.bind ?_ (fun _ => ?_))
   | exact ih0 _ _ _ _ _
   | exact ih1 _ _ _ _ _
   | exact ih2 _ _ _ _ _ _
   | exact spec_l01Name.mono _ _
   | exact spec_l03Ok.mono _ _
   | exact spec_l05Points.mono _ _ _ _ _
   | exact spec_l05Ring.mono _ _ _ _ _ _
   | exact LeO.none _
   | refine LeO.ite ?_ ?_
   | refine LeO.bind ?_ (fun _ => ?_)
theorem spec_l05Ok.mono : ∀ a0 a1 a2 a3 k, LeO (spec_l05Ok.f k a0 a1 a2 a3) (spec_l05Ok.f (k + 1) a0 a1 a2 a3) := by
 intro a0 a1 a2 a3 k
 obtain ⟨ih0, ih1, ih2⟩ := spec_l05Ok.mono_l k
 unfold spec_l05Ok.f
 repeat' first
   | (with_reducible exact ih0 _ _ _ _ _)
   | (with_reducible exact ih1 _ _ _ _ _)
   | (with_reducible exact ih2 _ _ _ _ _ _)
   | (with_reducible exact spec_l01Name.mono _ _)
   | (with_reducible exact spec_l03Ok.mono _ _)
   | (with_reducible exact spec_l05Points.mono _ _ _ _ _)
   | (with_reducible exact spec_l05Ring.mono _ _ _ _ _ _)
   | (with_reducible exact LeO.refl _)
   | (with_reducible exact LeO.none _)
   | (with_reducible refine LeO.ite ?_ ?_)
   | (with_reducible refine LeO.bind ?_ (fun _ => ?_))
   | exact ih0 _ _ _ _ _
   | exact ih1 _ _ _ _ _
   | exact ih2 _ _ _ _ _ _
   | exact spec_l01Name.mono _ _
   | exact spec_l03Ok.mono _ _
   | exact spec_l05Points.mono _ _ _ _ _
   | exact spec_l05Ring.mono _ _ _ _ _ _
   | exact LeO.none _
   | refine LeO.ite ?_ ?_
   | refine LeO.bind ?_ (fun _ => ?_)
set_option maxHeartbeats 8000000 in
set_option maxRecDepth 100000 in
theorem spec_l05Ok.calls (k : Nat) (g : Nat) (s0_0 : Int) (s0_1 : Int) (s0_2 : List (S48)) (s0_3 : List (S67)) (r1 : Bool) (r2 : Int) (r3 : Int) (w0 w : World) (hI : IsS31 w0 w g s0_0 s0_1 s0_2 s0_3) (hB : Below w0.heap.size w0 w) (h : spec_l05Ok.f k s0_0 s0_1 s0_2 s0_3 = some (r1, r2, r3)) :
  Calls Try.prog 37 #[.pointer (some ⟨g, 0, none⟩)] w fun e w' => e = .returned (.bool r1) ∧ IsS31 w0 w' g r2 r3 s0_2 s0_3 ∧ Below w0.heap.size w0 w' ∧ KeepBut w w' g none := by
 have HI0 := Aside0.mk hI
 have HK := Aside0.mk (KeepBut.refl w g none)
 have HL := Aside0.mk hB.size
 clear hI
 have HW0 := Aside0.mk hB.size
 have HB := Aside0.mk hB
 clear hB
 have H : ((spec_l00In.f s0_0 10 20000).bind fun t238 => (if t238 = true then ((spec_l00In.f s0_1 10 20000).bind fun t239 => (if t239 = true then ((spec_l05Points.f k s0_0 s0_1 s0_2 s0_3).bind fun bt240 => (if bt240.1 = true then (spec_l05Ok.j0 k (decide ((s0_3.length : Int) > 24)) bt240.2.1 bt240.2.2 s0_2 s0_3) else (spec_l05Ok.j0 k true bt240.2.1 bt240.2.2 s0_2 s0_3))) else (spec_l05Ok.j0 k true s0_0 s0_1 s0_2 s0_3))) else (spec_l05Ok.j0 k true s0_0 s0_1 s0_2 s0_3))) = some (r1, r2, r3) := h
 clear h
 obtain ⟨A2, c2, A3, c3, hblk, hge, hr2, hr3⟩ := HI0.out
 have q0 : w.cell? ⟨g, 0, none⟩ = some (.int .i64 s0_0) := cellS31_0 hblk
 have q1 : w.cell? ⟨g, 1, none⟩ = some (.int .i64 s0_1) := cellS31_1 hblk
 clear hblk hge hr2 hr3 A2 c2 A3 c3
 replace H := Option.bind_eq_some_iff.mp H
 obtain ⟨t1, A10, H⟩ := H
 have A1_ := Aside0.mk A10
 clear A10
 have zero : ∀ (b : Bool) (y : Int) (z : Int), spec_l05Ok.j0 0 b y z s0_2 s0_3 = some (r1, r2, r3) → False := fun b y z h => by simp [spec_l05Ok.j0] at h
 have one : ∀ (k : Nat) (y : Int) (z : Int), spec_l05Ok.j0 k true y z s0_2 s0_3 = some (r1, r2, r3) → r1 = false ∧ r2 = y ∧ r3 = z := fun k y z h => by
  cases k with
  | zero => exact (zero _ _ _ h).elim
  | succ k => simp only [spec_l05Ok.j0, if_true, Option.some.injEq, Prod.mk.injEq] at h; exact ⟨h.1.symm, h.2.1.symm, h.2.2.symm⟩
 cases t1 with
 | false =>
  replace H := (show (spec_l05Ok.j0 k true s0_0 s0_1 s0_2 s0_3) = some (r1, r2, r3) from by first | exact H | simpa using H)
  obtain ⟨rfl, rfl, rfl⟩ := one _ _ _ H
  clear zero one H
  go_enter Try.func37, Try.ntmps37
  go_wp2_with (first | ((with_reducible refine gate_callee (f := 61) rfl ?_); refine goesL_ (some 10) rfl rfl Try.func61 (by kernel_rfl) rfl #[.int .i64 s0_0, .int .i64 10, .int .i64 20000] rfl (by (try simp only [List.map_toArray, List.map_cons, List.map_nil]); first | done | rfl) ?_; (with_reducible refine (spec_l00In.calls _ _ _ _ _ A1_.out).mono ?_); rintro e w5 ⟨rfl, ⟨nd, rfl⟩⟩; refine ⟨_, rfl, ?_⟩) | (go_at_call 61; (with_reducible refine (spec_l00In.calls _ _ _ _ _ A1_.out).mono ?_); rintro e w5 ⟨rfl, ⟨nd, rfl⟩⟩))
  go_ret
  exact ⟨(by first | rfl | (simp; done) | (simp [*]; done)), (by repeat (first | exact HI0.out | apply IsS31.drewN | apply IsS31.drew)), (by repeat (first | exact HB.out | apply pw_below_drewN | apply below_drew1)), (by repeat (first | exact HK.out | apply keep_drewN | apply keep_drew))⟩
 | true =>
  replace H := (show ((spec_l00In.f s0_1 10 20000).bind fun t239 => (if t239 = true then ((spec_l05Points.f k s0_0 s0_1 s0_2 s0_3).bind fun bt240 => (if bt240.1 = true then (spec_l05Ok.j0 k (decide ((s0_3.length : Int) > 24)) bt240.2.1 bt240.2.2 s0_2 s0_3) else (spec_l05Ok.j0 k true bt240.2.1 bt240.2.2 s0_2 s0_3))) else (spec_l05Ok.j0 k true s0_0 s0_1 s0_2 s0_3))) = some (r1, r2, r3) from by first | exact H | simpa using H)
  replace H := Option.bind_eq_some_iff.mp H
  obtain ⟨t2, A20, H⟩ := H
  have A2_ := Aside0.mk A20
  clear A20
  cases t2 with
  | false =>
   replace H := (show (spec_l05Ok.j0 k true s0_0 s0_1 s0_2 s0_3) = some (r1, r2, r3) from by first | exact H | simpa using H)
   obtain ⟨rfl, rfl, rfl⟩ := one _ _ _ H
   clear zero one H
   go_enter Try.func37, Try.ntmps37
   go_wp2_with (first | ((with_reducible refine gate_callee (f := 61) rfl ?_); refine goesL_ (some 10) rfl rfl Try.func61 (by kernel_rfl) rfl #[.int .i64 s0_0, .int .i64 10, .int .i64 20000] rfl (by (try simp only [List.map_toArray, List.map_cons, List.map_nil]); first | done | rfl) ?_; (with_reducible refine (spec_l00In.calls _ _ _ _ _ A1_.out).mono ?_); rintro e w5 ⟨rfl, ⟨nd, rfl⟩⟩; refine ⟨_, rfl, ?_⟩) | (go_at_call 61; (with_reducible refine (spec_l00In.calls _ _ _ _ _ A1_.out).mono ?_); rintro e w5 ⟨rfl, ⟨nd, rfl⟩⟩) | ((with_reducible refine gate_callee (f := 61) rfl ?_); refine goesL_ (some 17) rfl rfl Try.func61 (by kernel_rfl) rfl #[.int .i64 s0_1, .int .i64 10, .int .i64 20000] rfl (by (try simp only [List.map_toArray, List.map_cons, List.map_nil]); first | done | rfl) ?_; (with_reducible refine (spec_l00In.calls _ _ _ _ _ A2_.out).mono ?_); rintro e w5 ⟨rfl, ⟨nd, rfl⟩⟩; refine ⟨_, rfl, ?_⟩) | (go_at_call 61; (with_reducible refine (spec_l00In.calls _ _ _ _ _ A2_.out).mono ?_); rintro e w5 ⟨rfl, ⟨nd, rfl⟩⟩))
   go_ret
   exact ⟨(by first | rfl | (simp; done) | (simp [*]; done)), (by repeat (first | exact HI0.out | apply IsS31.drewN | apply IsS31.drew)), (by repeat (first | exact HB.out | apply pw_below_drewN | apply below_drew1)), (by repeat (first | exact HK.out | apply keep_drewN | apply keep_drew))⟩
  | true =>
   replace H := (show ((spec_l05Points.f k s0_0 s0_1 s0_2 s0_3).bind fun bt240 => (if bt240.1 = true then (spec_l05Ok.j0 k (decide ((s0_3.length : Int) > 24)) bt240.2.1 bt240.2.2 s0_2 s0_3) else (spec_l05Ok.j0 k true bt240.2.1 bt240.2.2 s0_2 s0_3))) = some (r1, r2, r3) from by first | exact H | simpa using H)
   replace H := Option.bind_eq_some_iff.mp H
   obtain ⟨⟨t3, a0, a1⟩, A30, H⟩ := H
   have A3_ := Aside0.mk A30
   clear A30
   cases t3 with
   | false =>
    replace H := (show (spec_l05Ok.j0 k true a0 a1 s0_2 s0_3) = some (r1, r2, r3) from by first | exact H | simpa using H)
    obtain ⟨rfl, rfl, rfl⟩ := one _ _ _ H
    clear zero one H
    go_enter Try.func37, Try.ntmps37
    go_wp2_with (first | ((with_reducible refine gate_callee (f := 61) rfl ?_); refine goesL_ (some 10) rfl rfl Try.func61 (by kernel_rfl) rfl #[.int .i64 s0_0, .int .i64 10, .int .i64 20000] rfl (by (try simp only [List.map_toArray, List.map_cons, List.map_nil]); first | done | rfl) ?_; (with_reducible refine (spec_l00In.calls _ _ _ _ _ A1_.out).mono ?_); rintro e w5 ⟨rfl, ⟨nd, rfl⟩⟩; refine ⟨_, rfl, ?_⟩) | (go_at_call 61; (with_reducible refine (spec_l00In.calls _ _ _ _ _ A1_.out).mono ?_); rintro e w5 ⟨rfl, ⟨nd, rfl⟩⟩) | ((with_reducible refine gate_callee (f := 61) rfl ?_); refine goesL_ (some 17) rfl rfl Try.func61 (by kernel_rfl) rfl #[.int .i64 s0_1, .int .i64 10, .int .i64 20000] rfl (by (try simp only [List.map_toArray, List.map_cons, List.map_nil]); first | done | rfl) ?_; (with_reducible refine (spec_l00In.calls _ _ _ _ _ A2_.out).mono ?_); rintro e w5 ⟨rfl, ⟨nd, rfl⟩⟩; refine ⟨_, rfl, ?_⟩) | (go_at_call 61; (with_reducible refine (spec_l00In.calls _ _ _ _ _ A2_.out).mono ?_); rintro e w5 ⟨rfl, ⟨nd, rfl⟩⟩) | ((with_reducible refine gate_callee (f := 66) rfl ?_); refine goesL_ (some 22) rfl rfl Try.func66 (by kernel_rfl) rfl #[.pointer (some ⟨g, 0, none⟩)] rfl (by (try simp only [List.map_toArray, List.map_cons, List.map_nil]); first | done | rfl) ?_; (with_reducible refine (spec_l05Points.calls _ g s0_0 s0_1 s0_2 s0_3 _ _ _ w0 _ (by repeat (first | exact HI0.out | apply IsS31.drewN | apply IsS31.drew)) (by repeat (first | exact HB.out | apply pw_below_drewN | apply below_drew1)) A3_.out).mono ?_); rintro e w5 ⟨rfl, hi, hb, hk⟩; refine ⟨_, rfl, ?_⟩; have n0_ := Aside0.mk hi; have n1_ := Aside0.mk hb; have n2_ : Aside0 (KeepBut w w5 g none) := ⟨KeepBut.trans (by repeat (first | exact HK.out | apply keep_drewN | apply keep_drew)) hk (.inl rfl)⟩; clear hi hb hk HI0 HB HK; have HI0 := n0_; have HB := n1_; have HK := n2_; clear n0_ n1_ n2_; obtain ⟨A2, c2, A3, c3, hblk, hge, hr2, hr3⟩ := HI0.out; have q3 : w5.cell? ⟨g, 3, none⟩ = _ := cellS31_3 hblk; clear hblk hge hr2 hr3) | (go_at_call 66; (with_reducible refine (spec_l05Points.calls _ g s0_0 s0_1 s0_2 s0_3 _ _ _ w0 _ (by repeat (first | exact HI0.out | apply IsS31.drewN | apply IsS31.drew)) (by repeat (first | exact HB.out | apply pw_below_drewN | apply below_drew1)) A3_.out).mono ?_); rintro e w5 ⟨rfl, hi, hb, hk⟩; have n0_ := Aside0.mk hi; have n1_ := Aside0.mk hb; have n2_ : Aside0 (KeepBut w w5 g none) := ⟨KeepBut.trans (by repeat (first | exact HK.out | apply keep_drewN | apply keep_drew)) hk (.inl rfl)⟩; clear hi hb hk HI0 HB HK; have HI0 := n0_; have HB := n1_; have HK := n2_; clear n0_ n1_ n2_; obtain ⟨A2, c2, A3, c3, hblk, hge, hr2, hr3⟩ := HI0.out; have q3 : w5.cell? ⟨g, 3, none⟩ = _ := cellS31_3 hblk; clear hblk hge hr2 hr3))
    go_ret
    exact ⟨(by first | rfl | (simp; done) | (simp [*]; done)), (by repeat (first | exact HI0.out | apply IsS31.drewN | apply IsS31.drew)), (by repeat (first | exact HB.out | apply pw_below_drewN | apply below_drew1)), (by repeat (first | exact HK.out | apply keep_drewN | apply keep_drew))⟩
   | true =>
    replace H := (show (spec_l05Ok.j0 k (decide ((s0_3.length : Int) > 24)) a0 a1 s0_2 s0_3) = some (r1, r2, r3) from by first | exact H | simpa using H)
    by_cases c1 : (s0_3.length : Int) > 24
    ·have c1b : decide (24 < (s0_3.length : Int)) = true := decide_eq_true c1
     rw [decide_eq_true c1] at H
     obtain ⟨rfl, rfl, rfl⟩ := one _ _ _ H
     clear zero one H c1
     go_enter Try.func37, Try.ntmps37
     go_wp2_with (first | ((with_reducible refine gate_callee (f := 61) rfl ?_); refine goesL_ (some 10) rfl rfl Try.func61 (by kernel_rfl) rfl #[.int .i64 s0_0, .int .i64 10, .int .i64 20000] rfl (by (try simp only [List.map_toArray, List.map_cons, List.map_nil]); first | done | rfl) ?_; (with_reducible refine (spec_l00In.calls _ _ _ _ _ A1_.out).mono ?_); rintro e w5 ⟨rfl, ⟨nd, rfl⟩⟩; refine ⟨_, rfl, ?_⟩) | (go_at_call 61; (with_reducible refine (spec_l00In.calls _ _ _ _ _ A1_.out).mono ?_); rintro e w5 ⟨rfl, ⟨nd, rfl⟩⟩) | ((with_reducible refine gate_callee (f := 61) rfl ?_); refine goesL_ (some 17) rfl rfl Try.func61 (by kernel_rfl) rfl #[.int .i64 s0_1, .int .i64 10, .int .i64 20000] rfl (by (try simp only [List.map_toArray, List.map_cons, List.map_nil]); first | done | rfl) ?_; (with_reducible refine (spec_l00In.calls _ _ _ _ _ A2_.out).mono ?_); rintro e w5 ⟨rfl, ⟨nd, rfl⟩⟩; refine ⟨_, rfl, ?_⟩) | (go_at_call 61; (with_reducible refine (spec_l00In.calls _ _ _ _ _ A2_.out).mono ?_); rintro e w5 ⟨rfl, ⟨nd, rfl⟩⟩) | ((with_reducible refine gate_callee (f := 66) rfl ?_); refine goesL_ (some 22) rfl rfl Try.func66 (by kernel_rfl) rfl #[.pointer (some ⟨g, 0, none⟩)] rfl (by (try simp only [List.map_toArray, List.map_cons, List.map_nil]); first | done | rfl) ?_; (with_reducible refine (spec_l05Points.calls _ g s0_0 s0_1 s0_2 s0_3 _ _ _ w0 _ (by repeat (first | exact HI0.out | apply IsS31.drewN | apply IsS31.drew)) (by repeat (first | exact HB.out | apply pw_below_drewN | apply below_drew1)) A3_.out).mono ?_); rintro e w5 ⟨rfl, hi, hb, hk⟩; refine ⟨_, rfl, ?_⟩; have n0_ := Aside0.mk hi; have n1_ := Aside0.mk hb; have n2_ : Aside0 (KeepBut w w5 g none) := ⟨KeepBut.trans (by repeat (first | exact HK.out | apply keep_drewN | apply keep_drew)) hk (.inl rfl)⟩; clear hi hb hk HI0 HB HK; have HI0 := n0_; have HB := n1_; have HK := n2_; clear n0_ n1_ n2_; obtain ⟨A2, c2, A3, c3, hblk, hge, hr2, hr3⟩ := HI0.out; have q3 : w5.cell? ⟨g, 3, none⟩ = _ := cellS31_3 hblk; clear hblk hge hr2 hr3) | (go_at_call 66; (with_reducible refine (spec_l05Points.calls _ g s0_0 s0_1 s0_2 s0_3 _ _ _ w0 _ (by repeat (first | exact HI0.out | apply IsS31.drewN | apply IsS31.drew)) (by repeat (first | exact HB.out | apply pw_below_drewN | apply below_drew1)) A3_.out).mono ?_); rintro e w5 ⟨rfl, hi, hb, hk⟩; have n0_ := Aside0.mk hi; have n1_ := Aside0.mk hb; have n2_ : Aside0 (KeepBut w w5 g none) := ⟨KeepBut.trans (by repeat (first | exact HK.out | apply keep_drewN | apply keep_drew)) hk (.inl rfl)⟩; clear hi hb hk HI0 HB HK; have HI0 := n0_; have HB := n1_; have HK := n2_; clear n0_ n1_ n2_; obtain ⟨A2, c2, A3, c3, hblk, hge, hr2, hr3⟩ := HI0.out; have q3 : w5.cell? ⟨g, 3, none⟩ = _ := cellS31_3 hblk; clear hblk hge hr2 hr3))
     go_ret
     exact ⟨(by first | rfl | (simp; done) | (simp [*]; done)), (by repeat (first | exact HI0.out | apply IsS31.drewN | apply IsS31.drew)), (by repeat (first | exact HB.out | apply pw_below_drewN | apply below_drew1)), (by repeat (first | exact HK.out | apply keep_drewN | apply keep_drew))⟩
    ·have c1b : decide (24 < (s0_3.length : Int)) = false := decide_eq_false c1
     rw [decide_eq_false c1] at H
     cases k with
     | zero => exact (zero _ _ _ H).elim
     | succ k =>
     simp only [spec_l05Ok.j0, Bool.false_eq_true, if_false] at H
     have H' := Aside0.mk H
     clear zero one H c1
     go_enter Try.func37, Try.ntmps37
     go_wp2_with (first | ((with_reducible refine gate_callee (f := 61) rfl ?_); refine goesL_ (some 10) rfl rfl Try.func61 (by kernel_rfl) rfl #[.int .i64 s0_0, .int .i64 10, .int .i64 20000] rfl (by (try simp only [List.map_toArray, List.map_cons, List.map_nil]); first | done | rfl) ?_; (with_reducible refine (spec_l00In.calls _ _ _ _ _ A1_.out).mono ?_); rintro e w5 ⟨rfl, ⟨nd, rfl⟩⟩; refine ⟨_, rfl, ?_⟩) | (go_at_call 61; (with_reducible refine (spec_l00In.calls _ _ _ _ _ A1_.out).mono ?_); rintro e w5 ⟨rfl, ⟨nd, rfl⟩⟩) | ((with_reducible refine gate_callee (f := 61) rfl ?_); refine goesL_ (some 17) rfl rfl Try.func61 (by kernel_rfl) rfl #[.int .i64 s0_1, .int .i64 10, .int .i64 20000] rfl (by (try simp only [List.map_toArray, List.map_cons, List.map_nil]); first | done | rfl) ?_; (with_reducible refine (spec_l00In.calls _ _ _ _ _ A2_.out).mono ?_); rintro e w5 ⟨rfl, ⟨nd, rfl⟩⟩; refine ⟨_, rfl, ?_⟩) | (go_at_call 61; (with_reducible refine (spec_l00In.calls _ _ _ _ _ A2_.out).mono ?_); rintro e w5 ⟨rfl, ⟨nd, rfl⟩⟩) | ((with_reducible refine gate_callee (f := 66) rfl ?_); refine goesL_ (some 22) rfl rfl Try.func66 (by kernel_rfl) rfl #[.pointer (some ⟨g, 0, none⟩)] rfl (by (try simp only [List.map_toArray, List.map_cons, List.map_nil]); first | done | rfl) ?_; (with_reducible refine (spec_l05Points.calls _ g s0_0 s0_1 s0_2 s0_3 _ _ _ w0 _ (by repeat (first | exact HI0.out | apply IsS31.drewN | apply IsS31.drew)) (by repeat (first | exact HB.out | apply pw_below_drewN | apply below_drew1)) A3_.out).mono ?_); rintro e w5 ⟨rfl, hi, hb, hk⟩; refine ⟨_, rfl, ?_⟩; have n0_ := Aside0.mk hi; have n1_ := Aside0.mk hb; have n2_ : Aside0 (KeepBut w w5 g none) := ⟨KeepBut.trans (by repeat (first | exact HK.out | apply keep_drewN | apply keep_drew)) hk (.inl rfl)⟩; clear hi hb hk HI0 HB HK; have HI0 := n0_; have HB := n1_; have HK := n2_; clear n0_ n1_ n2_; obtain ⟨A2, c2, A3, c3, hblk, hge, hr2, hr3⟩ := HI0.out; have q3 : w5.cell? ⟨g, 3, none⟩ = _ := cellS31_3 hblk; clear hblk hge hr2 hr3) | (go_at_call 66; (with_reducible refine (spec_l05Points.calls _ g s0_0 s0_1 s0_2 s0_3 _ _ _ w0 _ (by repeat (first | exact HI0.out | apply IsS31.drewN | apply IsS31.drew)) (by repeat (first | exact HB.out | apply pw_below_drewN | apply below_drew1)) A3_.out).mono ?_); rintro e w5 ⟨rfl, hi, hb, hk⟩; have n0_ := Aside0.mk hi; have n1_ := Aside0.mk hb; have n2_ : Aside0 (KeepBut w w5 g none) := ⟨KeepBut.trans (by repeat (first | exact HK.out | apply keep_drewN | apply keep_drew)) hk (.inl rfl)⟩; clear hi hb hk HI0 HB HK; have HI0 := n0_; have HB := n1_; have HK := n2_; clear n0_ n1_ n2_; obtain ⟨A2, c2, A3, c3, hblk, hge, hr2, hr3⟩ := HI0.out; have q3 : w5.cell? ⟨g, 3, none⟩ = _ := cellS31_3 hblk; clear hblk hge hr2 hr3))
     clear q0 q1 q3
     go_loopg [3] k (fun kq v3 w' => ∃ (x3 : Int) (b0 b1 : Int), v3 = .int .i64 x3 ∧ Aside0 (spec_l05Ok.l0 kq x3 b0 b1 s0_2 s0_3 = some (r1, r2, r3)) ∧ Aside0 (kq ≤ k) ∧ Aside0 (IsS31 w0 w' g b0 b1 s0_2 s0_3) ∧ Aside0 (Below w0.heap.size w0 w') ∧ Aside0 (KeepBut w w' g none))
     case atStart => exact ⟨0, a0, a1, rfl, H', ⟨Nat.le_refl _⟩, ⟨(by repeat (first | exact HI0.out | apply IsS31.drewN | apply IsS31.drew))⟩, ⟨(by repeat (first | exact HB.out | apply pw_below_drewN | apply below_drew1))⟩, ⟨(by repeat (first | exact HK.out | apply keep_drewN | apply keep_drew))⟩⟩
     case round =>
      clear H' HI0 HB HK
      obtain ⟨x3, b0, b1, rfl, HA, HK1, HI0, HB, HK⟩ := hrel
      cases gk with
      | zero => exact absurd HA.out (by simp [spec_l05Ok.l0])
      | succ k1 =>
       have H := HA.out
       clear HA
       simp only [spec_l05Ok.l0] at H
       obtain ⟨A2, c2, A3, c3, hblk, hge, hr2, hr3⟩ := HI0.out
       have q3 : wr.cell? ⟨g, 3, none⟩ = some (.slice A3 s0_3.length c3) := cellS31_3 hblk
       clear hblk hr2
       by_cases c3_ : x3 < (s0_3.length : Int)
       ·rw [if_pos c3_] at H
        have c3b : decide (x3 < (s0_3.length : Int)) = true := decide_eq_true c3_
        by_cases c4_ : 0 ≤ x3
        ·rw [if_pos c4_] at H
         have c4b : decide (0 ≤ x3) = true := decide_eq_true c4_
         obtain ⟨adf, Ar, cr, ef, y0_, y1_, hcr, hrr⟩ := at_T67 hr3 x3 c4_ c3_
         cases ef
         have C3 := Aside0.mk c3_
         have C4 := Aside0.mk c4_
         replace c3_ := eq_true c3_
         replace c4_ := eq_true c4_
         have y0 := (HB.out.cell (bL w0 _ y0_)).trans y0_
         have y1 := (HB.out.cell (bL w0 _ y1_)).trans y1_
         have Y1 := Aside0.mk y1_
         have Q3 := Aside0.mk q3
         clear y0_ y1_ y1
         replace H := Option.bind_eq_some_iff.mp H
         obtain ⟨t4, A40, H⟩ := H
         have A4_ := Aside0.mk A40
         clear A40
         have jz : ∀ (b : Bool), spec_l05Ok.j2 0 x3 b b0 b1 s0_2 s0_3 = some (r1, r2, r3) → False := fun b h => by simp [spec_l05Ok.j2] at h
         have jt : ∀ (k : Nat), spec_l05Ok.j2 k x3 true b0 b1 s0_2 s0_3 = some (r1, r2, r3) → r1 = false ∧ r2 = b0 ∧ r3 = b1 := fun k h => by
          cases k with
          | zero => exact (jz _ h).elim
          | succ k => simp only [spec_l05Ok.j2, if_true, Option.some.injEq, Prod.mk.injEq] at h; exact ⟨h.1.symm, h.2.1.symm, h.2.2.symm⟩
         cases t4 with
         | false =>
          replace H := (show (spec_l05Ok.j2 k1 x3 true b0 b1 s0_2 s0_3) = some (r1, r2, r3) from by first | exact H | simpa using H)
          obtain ⟨rfl, rfl, rfl⟩ := jt _ H
          clear jz jt H
          go_wp2
          go_quiet (with_reducible exact Calls.quiet_of ((spec_l01Name.calls _ _ _ _ A4_.out).mono fun e w' h => ⟨h.1, h.2.out⟩))
          go_wp2
          go_ret
          exact ⟨(by first | rfl | (simp; done) | (simp [*]; done)), (by repeat (first | exact HI0.out | apply IsS31.drewN | apply IsS31.drew)), (by repeat (first | exact HB.out | apply pw_below_drewN | apply below_drew1)), (by repeat (first | exact HK.out | apply keep_drewN | apply keep_drew))⟩
         | true =>
          replace H := (show ((if x3 > 0 then (if 0 ≤ (wrap64 (x3 - 1)) then (if (wrap64 (x3 - 1)) < (s0_3.length : Int) then (spec_l05Ok.j2 k1 x3 (!(Op.bytesLess (((rd_T67 s0_3 (wrap64 (x3 - 1))).f0).toList) (((rd_T67 s0_3 x3).f0).toList))) b0 b1 s0_2 s0_3) else (none)) else (none)) else (spec_l05Ok.j2 k1 x3 false b0 b1 s0_2 s0_3))) = some (r1, r2, r3) from by first | exact H | simpa using H)
          by_cases c5_ : x3 > 0
          ·rw [if_pos c5_] at H
           have c5b : decide (0 < x3) = true := decide_eq_true c5_
           clear c5_
           obtain ⟨ji, hji⟩ : ∃ j_ : Int, wrap64 (x3 - 1) = j_ := ⟨_, rfl⟩
           rw [hji] at H
           have hjr : IntKind.i64.wrap (x3 - 1) = ji := by first | (rw [i64_w]; exact hji) | exact hji
           by_cases c6_ : 0 ≤ ji
           ·rw [if_pos c6_] at H
            have c6b : decide (0 ≤ ji) = true := decide_eq_true c6_
            by_cases c7_ : ji < (s0_3.length : Int)
            ·rw [if_pos c7_] at H
             have c7b : decide (ji < (s0_3.length : Int)) = true := decide_eq_true c7_
             obtain ⟨adf2, Ar2, cr2, ef2, z0_, z1_, _, _⟩ := at_T67 hr3 ji c6_ c7_
             cases ef2
             replace c6_ := eq_true c6_
             replace c7_ := eq_true c7_
             have z0 := (HB.out.cell (bL w0 _ z0_)).trans z0_
             clear z0_ z1_
             cases c8_ : Op.bytesLess (((rd_T67 s0_3 ji).f0).toList) (((rd_T67 s0_3 x3).f0).toList) with
             | false =>
              rw [c8_] at H
              obtain ⟨rfl, rfl, rfl⟩ := jt _ H
              clear jz jt H
              go_wp2
              go_quiet (with_reducible exact Calls.quiet_of ((spec_l01Name.calls _ _ _ _ A4_.out).mono fun e w' h => ⟨h.1, h.2.out⟩))
              go_wp2
              go_ret
              exact ⟨(by first | rfl | (simp; done) | (simp [*]; done)), (by repeat (first | exact HI0.out | apply IsS31.drewN | apply IsS31.drew)), (by repeat (first | exact HB.out | apply pw_below_drewN | apply below_drew1)), (by repeat (first | exact HK.out | apply keep_drewN | apply keep_drew))⟩
             | true =>
              rw [c8_] at H
              replace H := (show (spec_l05Ok.j2 k1 x3 false b0 b1 s0_2 s0_3) = some (r1, r2, r3) from by first | exact H | simpa using H)
              cases k1 with
              | zero => exact (jz _ H).elim
              | succ k2 =>
              simp only [spec_l05Ok.j2, Bool.false_eq_true, if_false] at H
              rw [if_pos C4.out, if_pos C3.out] at H
              clear jz jt
              replace H := Option.bind_eq_some_iff.mp H
              obtain ⟨⟨pl, t5, d0, d1⟩, A50, H⟩ := H
              have A5_ := Aside0.mk A50
              clear A50
              have ne_ : ∀ ad, Ar = some ad → 0 < (rd_T67 s0_3 x3).f1.length → ad.block ≠ g := fun ad hA hn => by
               obtain ⟨ad', e, hx⟩ := Kd.at_int hrr 0 (by omega) (by omega)
               rw [hA] at e
               cases e
               have := bL w0 _ hx
               rw [add_block] at this
               omega
              have go1 : True := trivial
              go_wp2
              go_quiet (with_reducible exact Calls.quiet_of ((spec_l01Name.calls _ _ _ _ A4_.out).mono fun e w' h => ⟨h.1, h.2.out⟩))
              have y1 := (HB.out.cell (bL w0 _ Y1.out)).trans Y1.out
              cases t5 with
              | false =>
               replace H := (show (some (false, d0, d1)) = some (r1, r2, r3) from by first | exact H | simpa using H)
               simp only [Option.some.injEq, Prod.mk.injEq] at H
               obtain ⟨rfl, rfl, rfl⟩ := H
               go_wp2_with (first | ((with_reducible refine gate_callee (f := 68) rfl ?_); refine goesL_ (some 86) rfl rfl Try.func68 (by kernel_rfl) rfl #[.pointer (some ⟨g, 0, none⟩), .slice Ar (rd_T67 s0_3 x3).f1.length cr] rfl (by (try simp only [List.map_toArray, List.map_cons, List.map_nil]); first | done | rfl) ?_; (with_reducible refine (spec_l05Ring.calls _ g b0 b1 s0_2 s0_3 Ar cr (rd_T67 s0_3 x3).f1 _ _ _ _ w0 _ (by repeat (first | exact HI0.out | apply IsS31.drewN | apply IsS31.drew)) (by repeat (first | exact HB.out | apply pw_below_drewN | apply below_drew1)) (Kd.C_below hrr (by repeat (first | exact HB.out | apply pw_below_drewN | apply below_drew1))) hcr ne_ A5_.out).mono ?_); rintro e w5 ⟨v0_, rfl, ho, hi, hb, hk⟩; refine ⟨_, rfl, ?_⟩; have n0_ := Aside0.mk hi; have n1_ := Aside0.mk hb; have n2_ : Aside0 (KeepBut w w5 g none) := ⟨KeepBut.trans (by repeat (first | exact HK.out | apply keep_drewN | apply keep_drew)) hk (.inl rfl)⟩; obtain ⟨Ao_, co_, eo_⟩ := Kd.R_slice ho; subst eo_; have HO_ := Aside0.mk (Kd.R_reads' ho); clear ho hi hb hk HI0 HB HK; have HI0 := n0_; have HB := n1_; have HK := n2_; clear n0_ n1_ n2_) | (go_at_call 68; (with_reducible refine (spec_l05Ring.calls _ g b0 b1 s0_2 s0_3 Ar cr (rd_T67 s0_3 x3).f1 _ _ _ _ w0 _ (by repeat (first | exact HI0.out | apply IsS31.drewN | apply IsS31.drew)) (by repeat (first | exact HB.out | apply pw_below_drewN | apply below_drew1)) (Kd.C_below hrr (by repeat (first | exact HB.out | apply pw_below_drewN | apply below_drew1))) hcr ne_ A5_.out).mono ?_); rintro e w5 ⟨v0_, rfl, ho, hi, hb, hk⟩; have n0_ := Aside0.mk hi; have n1_ := Aside0.mk hb; have n2_ : Aside0 (KeepBut w w5 g none) := ⟨KeepBut.trans (by repeat (first | exact HK.out | apply keep_drewN | apply keep_drew)) hk (.inl rfl)⟩; obtain ⟨Ao_, co_, eo_⟩ := Kd.R_slice ho; subst eo_; have HO_ := Aside0.mk (Kd.R_reads' ho); clear ho hi hb hk HI0 HB HK; have HI0 := n0_; have HB := n1_; have HK := n2_; clear n0_ n1_ n2_))
               go_ret
               exact ⟨(by first | rfl | (simp; done) | (simp [*]; done)), (by repeat (first | exact HI0.out | apply IsS31.drewN | apply IsS31.drew)), (by repeat (first | exact HB.out | apply pw_below_drewN | apply below_drew1)), (by repeat (first | exact HK.out | apply keep_drewN | apply keep_drew))⟩
              | true =>
               replace H := (show ((spec_l03Ok.f k2 pl).bind fun t254 => (if t254 = true then (spec_l05Ok.l0 k2 (wrap64 (x3 + 1)) d0 d1 s0_2 s0_3) else (some (false, d0, d1)))) = some (r1, r2, r3) from by first | exact H | simpa using H)
               replace H := Option.bind_eq_some_iff.mp H
               obtain ⟨t6, A60, H⟩ := H
               have A6_ := Aside0.mk A60
               clear A60
               cases t6 with
               | false =>
                replace H := (show (some (false, d0, d1)) = some (r1, r2, r3) from by first | exact H | simpa using H)
                simp only [Option.some.injEq, Prod.mk.injEq] at H
                obtain ⟨rfl, rfl, rfl⟩ := H
                go_wp2_with (first | ((with_reducible refine gate_callee (f := 68) rfl ?_); refine goesL_ (some 86) rfl rfl Try.func68 (by kernel_rfl) rfl #[.pointer (some ⟨g, 0, none⟩), .slice Ar (rd_T67 s0_3 x3).f1.length cr] rfl (by (try simp only [List.map_toArray, List.map_cons, List.map_nil]); first | done | rfl) ?_; (with_reducible refine (spec_l05Ring.calls _ g b0 b1 s0_2 s0_3 Ar cr (rd_T67 s0_3 x3).f1 _ _ _ _ w0 _ (by repeat (first | exact HI0.out | apply IsS31.drewN | apply IsS31.drew)) (by repeat (first | exact HB.out | apply pw_below_drewN | apply below_drew1)) (Kd.C_below hrr (by repeat (first | exact HB.out | apply pw_below_drewN | apply below_drew1))) hcr ne_ A5_.out).mono ?_); rintro e w5 ⟨v0_, rfl, ho, hi, hb, hk⟩; refine ⟨_, rfl, ?_⟩; have n0_ := Aside0.mk hi; have n1_ := Aside0.mk hb; have n2_ : Aside0 (KeepBut w w5 g none) := ⟨KeepBut.trans (by repeat (first | exact HK.out | apply keep_drewN | apply keep_drew)) hk (.inl rfl)⟩; obtain ⟨Ao_, co_, eo_⟩ := Kd.R_slice ho; subst eo_; have HO_ := Aside0.mk (Kd.R_reads' ho); clear ho hi hb hk HI0 HB HK; have HI0 := n0_; have HB := n1_; have HK := n2_; clear n0_ n1_ n2_) | (go_at_call 68; (with_reducible refine (spec_l05Ring.calls _ g b0 b1 s0_2 s0_3 Ar cr (rd_T67 s0_3 x3).f1 _ _ _ _ w0 _ (by repeat (first | exact HI0.out | apply IsS31.drewN | apply IsS31.drew)) (by repeat (first | exact HB.out | apply pw_below_drewN | apply below_drew1)) (Kd.C_below hrr (by repeat (first | exact HB.out | apply pw_below_drewN | apply below_drew1))) hcr ne_ A5_.out).mono ?_); rintro e w5 ⟨v0_, rfl, ho, hi, hb, hk⟩; have n0_ := Aside0.mk hi; have n1_ := Aside0.mk hb; have n2_ : Aside0 (KeepBut w w5 g none) := ⟨KeepBut.trans (by repeat (first | exact HK.out | apply keep_drewN | apply keep_drew)) hk (.inl rfl)⟩; obtain ⟨Ao_, co_, eo_⟩ := Kd.R_slice ho; subst eo_; have HO_ := Aside0.mk (Kd.R_reads' ho); clear ho hi hb hk HI0 HB HK; have HI0 := n0_; have HB := n1_; have HK := n2_; clear n0_ n1_ n2_) | ((with_reducible refine gate_callee (f := 69) rfl ?_); refine goesL_ (some 93) rfl rfl Try.func69 (by kernel_rfl) rfl #[.slice Ao_ pl.length co_] rfl (by (try simp only [List.map_toArray, List.map_cons, List.map_nil]); first | done | rfl) ?_; (with_reducible refine (spec_l03Ok.calls _ Ao_ co_ pl _ _ (by repeat (first | exact HO_.out.2.2 | (with_reducible refine Kd.C_drewN ?_ _) | (with_reducible refine Kd.C_drew ?_))) HO_.out.2.1 A6_.out).mono ?_); rintro e w5 ⟨rfl, hb⟩; refine ⟨_, rfl, ?_⟩; have n0_ := Aside0.mk (IsS31.below (by repeat (first | exact HI0.out | apply IsS31.drewN | apply IsS31.drew)) hb); have n1_ := Aside0.mk (below_step (by repeat (first | exact HB.out | apply pw_below_drewN | apply below_drew1)) hb); have n2_ : Aside0 (KeepBut w w5 g none) := ⟨KeepBut.trans (by repeat (first | exact HK.out | apply keep_drewN | apply keep_drew)) (KeepBut.of_below hb g none) (.inl rfl)⟩; clear hb HI0 HB HK; have HI0 := n0_; have HB := n1_; have HK := n2_; clear n0_ n1_ n2_) | (go_at_call 69; (with_reducible refine (spec_l03Ok.calls _ Ao_ co_ pl _ _ (by repeat (first | exact HO_.out.2.2 | (with_reducible refine Kd.C_drewN ?_ _) | (with_reducible refine Kd.C_drew ?_))) HO_.out.2.1 A6_.out).mono ?_); rintro e w5 ⟨rfl, hb⟩; have n0_ := Aside0.mk (IsS31.below (by repeat (first | exact HI0.out | apply IsS31.drewN | apply IsS31.drew)) hb); have n1_ := Aside0.mk (below_step (by repeat (first | exact HB.out | apply pw_below_drewN | apply below_drew1)) hb); have n2_ : Aside0 (KeepBut w w5 g none) := ⟨KeepBut.trans (by repeat (first | exact HK.out | apply keep_drewN | apply keep_drew)) (KeepBut.of_below hb g none) (.inl rfl)⟩; clear hb HI0 HB HK; have HI0 := n0_; have HB := n1_; have HK := n2_; clear n0_ n1_ n2_))
                go_ret
                exact ⟨(by first | rfl | (simp; done) | (simp [*]; done)), (by repeat (first | exact HI0.out | apply IsS31.drewN | apply IsS31.drew)), (by repeat (first | exact HB.out | apply pw_below_drewN | apply below_drew1)), (by repeat (first | exact HK.out | apply keep_drewN | apply keep_drew))⟩
               | true =>
                replace H := (show (spec_l05Ok.l0 k2 (wrap64 (x3 + 1)) d0 d1 s0_2 s0_3) = some (r1, r2, r3) from by first | exact H | simpa using H)
                have H' := Aside0.mk H
                clear H
                go_wp2_with (first | ((with_reducible refine gate_callee (f := 68) rfl ?_); refine goesL_ (some 86) rfl rfl Try.func68 (by kernel_rfl) rfl #[.pointer (some ⟨g, 0, none⟩), .slice Ar (rd_T67 s0_3 x3).f1.length cr] rfl (by (try simp only [List.map_toArray, List.map_cons, List.map_nil]); first | done | rfl) ?_; (with_reducible refine (spec_l05Ring.calls _ g b0 b1 s0_2 s0_3 Ar cr (rd_T67 s0_3 x3).f1 _ _ _ _ w0 _ (by repeat (first | exact HI0.out | apply IsS31.drewN | apply IsS31.drew)) (by repeat (first | exact HB.out | apply pw_below_drewN | apply below_drew1)) (Kd.C_below hrr (by repeat (first | exact HB.out | apply pw_below_drewN | apply below_drew1))) hcr ne_ A5_.out).mono ?_); rintro e w5 ⟨v0_, rfl, ho, hi, hb, hk⟩; refine ⟨_, rfl, ?_⟩; have n0_ := Aside0.mk hi; have n1_ := Aside0.mk hb; have n2_ : Aside0 (KeepBut w w5 g none) := ⟨KeepBut.trans (by repeat (first | exact HK.out | apply keep_drewN | apply keep_drew)) hk (.inl rfl)⟩; obtain ⟨Ao_, co_, eo_⟩ := Kd.R_slice ho; subst eo_; have HO_ := Aside0.mk (Kd.R_reads' ho); clear ho hi hb hk HI0 HB HK; have HI0 := n0_; have HB := n1_; have HK := n2_; clear n0_ n1_ n2_) | (go_at_call 68; (with_reducible refine (spec_l05Ring.calls _ g b0 b1 s0_2 s0_3 Ar cr (rd_T67 s0_3 x3).f1 _ _ _ _ w0 _ (by repeat (first | exact HI0.out | apply IsS31.drewN | apply IsS31.drew)) (by repeat (first | exact HB.out | apply pw_below_drewN | apply below_drew1)) (Kd.C_below hrr (by repeat (first | exact HB.out | apply pw_below_drewN | apply below_drew1))) hcr ne_ A5_.out).mono ?_); rintro e w5 ⟨v0_, rfl, ho, hi, hb, hk⟩; have n0_ := Aside0.mk hi; have n1_ := Aside0.mk hb; have n2_ : Aside0 (KeepBut w w5 g none) := ⟨KeepBut.trans (by repeat (first | exact HK.out | apply keep_drewN | apply keep_drew)) hk (.inl rfl)⟩; obtain ⟨Ao_, co_, eo_⟩ := Kd.R_slice ho; subst eo_; have HO_ := Aside0.mk (Kd.R_reads' ho); clear ho hi hb hk HI0 HB HK; have HI0 := n0_; have HB := n1_; have HK := n2_; clear n0_ n1_ n2_) | ((with_reducible refine gate_callee (f := 69) rfl ?_); refine goesL_ (some 93) rfl rfl Try.func69 (by kernel_rfl) rfl #[.slice Ao_ pl.length co_] rfl (by (try simp only [List.map_toArray, List.map_cons, List.map_nil]); first | done | rfl) ?_; (with_reducible refine (spec_l03Ok.calls _ Ao_ co_ pl _ _ (by repeat (first | exact HO_.out.2.2 | (with_reducible refine Kd.C_drewN ?_ _) | (with_reducible refine Kd.C_drew ?_))) HO_.out.2.1 A6_.out).mono ?_); rintro e w5 ⟨rfl, hb⟩; refine ⟨_, rfl, ?_⟩; have n0_ := Aside0.mk (IsS31.below (by repeat (first | exact HI0.out | apply IsS31.drewN | apply IsS31.drew)) hb); have n1_ := Aside0.mk (below_step (by repeat (first | exact HB.out | apply pw_below_drewN | apply below_drew1)) hb); have n2_ : Aside0 (KeepBut w w5 g none) := ⟨KeepBut.trans (by repeat (first | exact HK.out | apply keep_drewN | apply keep_drew)) (KeepBut.of_below hb g none) (.inl rfl)⟩; clear hb HI0 HB HK; have HI0 := n0_; have HB := n1_; have HK := n2_; clear n0_ n1_ n2_) | (go_at_call 69; (with_reducible refine (spec_l03Ok.calls _ Ao_ co_ pl _ _ (by repeat (first | exact HO_.out.2.2 | (with_reducible refine Kd.C_drewN ?_ _) | (with_reducible refine Kd.C_drew ?_))) HO_.out.2.1 A6_.out).mono ?_); rintro e w5 ⟨rfl, hb⟩; have n0_ := Aside0.mk (IsS31.below (by repeat (first | exact HI0.out | apply IsS31.drewN | apply IsS31.drew)) hb); have n1_ := Aside0.mk (below_step (by repeat (first | exact HB.out | apply pw_below_drewN | apply below_drew1)) hb); have n2_ : Aside0 (KeepBut w w5 g none) := ⟨KeepBut.trans (by repeat (first | exact HK.out | apply keep_drewN | apply keep_drew)) (KeepBut.of_below hb g none) (.inl rfl)⟩; clear hb HI0 HB HK; have HI0 := n0_; have HB := n1_; have HK := n2_; clear n0_ n1_ n2_))
                go_roundg k2
                case measure => have := HK1.out; omega
                case rel => exact ⟨(wrap64 (x3 + 1)), d0, d1, (by first | rfl | (simp; done) | (simp [*]; done)), H', ⟨by have := HK1.out; omega⟩, ⟨(by repeat (first | exact HI0.out | apply IsS31.drewN | apply IsS31.drew))⟩, ⟨(by repeat (first | exact HB.out | apply pw_below_drewN | apply below_drew1))⟩, ⟨(by repeat (first | exact HK.out | apply keep_drewN | apply keep_drew))⟩⟩
            ·rw [if_neg c7_] at H
             exact absurd H (by simp)
           ·rw [if_neg c6_] at H
            exact absurd H (by simp)
          ·rw [if_neg c5_] at H
           have c5b : decide (0 < x3) = false := decide_eq_false c5_
           clear c5_
           replace H := (show (spec_l05Ok.j2 k1 x3 false b0 b1 s0_2 s0_3) = some (r1, r2, r3) from by first | exact H | simpa using H)
           cases k1 with
           | zero => exact (jz _ H).elim
           | succ k2 =>
           simp only [spec_l05Ok.j2, Bool.false_eq_true, if_false] at H
           rw [if_pos C4.out, if_pos C3.out] at H
           clear jz jt
           replace H := Option.bind_eq_some_iff.mp H
           obtain ⟨⟨pl, t5, d0, d1⟩, A50, H⟩ := H
           have A5_ := Aside0.mk A50
           clear A50
           have ne_ : ∀ ad, Ar = some ad → 0 < (rd_T67 s0_3 x3).f1.length → ad.block ≠ g := fun ad hA hn => by
            obtain ⟨ad', e, hx⟩ := Kd.at_int hrr 0 (by omega) (by omega)
            rw [hA] at e
            cases e
            have := bL w0 _ hx
            rw [add_block] at this
            omega
           have go1 : True := trivial
           go_wp2
           go_quiet (with_reducible exact Calls.quiet_of ((spec_l01Name.calls _ _ _ _ A4_.out).mono fun e w' h => ⟨h.1, h.2.out⟩))
           have y1 := (HB.out.cell (bL w0 _ Y1.out)).trans Y1.out
           cases t5 with
           | false =>
            replace H := (show (some (false, d0, d1)) = some (r1, r2, r3) from by first | exact H | simpa using H)
            simp only [Option.some.injEq, Prod.mk.injEq] at H
            obtain ⟨rfl, rfl, rfl⟩ := H
            go_wp2_with (first | ((with_reducible refine gate_callee (f := 68) rfl ?_); refine goesL_ (some 86) rfl rfl Try.func68 (by kernel_rfl) rfl #[.pointer (some ⟨g, 0, none⟩), .slice Ar (rd_T67 s0_3 x3).f1.length cr] rfl (by (try simp only [List.map_toArray, List.map_cons, List.map_nil]); first | done | rfl) ?_; (with_reducible refine (spec_l05Ring.calls _ g b0 b1 s0_2 s0_3 Ar cr (rd_T67 s0_3 x3).f1 _ _ _ _ w0 _ (by repeat (first | exact HI0.out | apply IsS31.drewN | apply IsS31.drew)) (by repeat (first | exact HB.out | apply pw_below_drewN | apply below_drew1)) (Kd.C_below hrr (by repeat (first | exact HB.out | apply pw_below_drewN | apply below_drew1))) hcr ne_ A5_.out).mono ?_); rintro e w5 ⟨v0_, rfl, ho, hi, hb, hk⟩; refine ⟨_, rfl, ?_⟩; have n0_ := Aside0.mk hi; have n1_ := Aside0.mk hb; have n2_ : Aside0 (KeepBut w w5 g none) := ⟨KeepBut.trans (by repeat (first | exact HK.out | apply keep_drewN | apply keep_drew)) hk (.inl rfl)⟩; obtain ⟨Ao_, co_, eo_⟩ := Kd.R_slice ho; subst eo_; have HO_ := Aside0.mk (Kd.R_reads' ho); clear ho hi hb hk HI0 HB HK; have HI0 := n0_; have HB := n1_; have HK := n2_; clear n0_ n1_ n2_) | (go_at_call 68; (with_reducible refine (spec_l05Ring.calls _ g b0 b1 s0_2 s0_3 Ar cr (rd_T67 s0_3 x3).f1 _ _ _ _ w0 _ (by repeat (first | exact HI0.out | apply IsS31.drewN | apply IsS31.drew)) (by repeat (first | exact HB.out | apply pw_below_drewN | apply below_drew1)) (Kd.C_below hrr (by repeat (first | exact HB.out | apply pw_below_drewN | apply below_drew1))) hcr ne_ A5_.out).mono ?_); rintro e w5 ⟨v0_, rfl, ho, hi, hb, hk⟩; have n0_ := Aside0.mk hi; have n1_ := Aside0.mk hb; have n2_ : Aside0 (KeepBut w w5 g none) := ⟨KeepBut.trans (by repeat (first | exact HK.out | apply keep_drewN | apply keep_drew)) hk (.inl rfl)⟩; obtain ⟨Ao_, co_, eo_⟩ := Kd.R_slice ho; subst eo_; have HO_ := Aside0.mk (Kd.R_reads' ho); clear ho hi hb hk HI0 HB HK; have HI0 := n0_; have HB := n1_; have HK := n2_; clear n0_ n1_ n2_))
            go_ret
            exact ⟨(by first | rfl | (simp; done) | (simp [*]; done)), (by repeat (first | exact HI0.out | apply IsS31.drewN | apply IsS31.drew)), (by repeat (first | exact HB.out | apply pw_below_drewN | apply below_drew1)), (by repeat (first | exact HK.out | apply keep_drewN | apply keep_drew))⟩
           | true =>
            replace H := (show ((spec_l03Ok.f k2 pl).bind fun t254 => (if t254 = true then (spec_l05Ok.l0 k2 (wrap64 (x3 + 1)) d0 d1 s0_2 s0_3) else (some (false, d0, d1)))) = some (r1, r2, r3) from by first | exact H | simpa using H)
            replace H := Option.bind_eq_some_iff.mp H
            obtain ⟨t6, A60, H⟩ := H
            have A6_ := Aside0.mk A60
            clear A60
            cases t6 with
            | false =>
             replace H := (show (some (false, d0, d1)) = some (r1, r2, r3) from by first | exact H | simpa using H)
             simp only [Option.some.injEq, Prod.mk.injEq] at H
             obtain ⟨rfl, rfl, rfl⟩ := H
             go_wp2_with (first | ((with_reducible refine gate_callee (f := 68) rfl ?_); refine goesL_ (some 86) rfl rfl Try.func68 (by kernel_rfl) rfl #[.pointer (some ⟨g, 0, none⟩), .slice Ar (rd_T67 s0_3 x3).f1.length cr] rfl (by (try simp only [List.map_toArray, List.map_cons, List.map_nil]); first | done | rfl) ?_; (with_reducible refine (spec_l05Ring.calls _ g b0 b1 s0_2 s0_3 Ar cr (rd_T67 s0_3 x3).f1 _ _ _ _ w0 _ (by repeat (first | exact HI0.out | apply IsS31.drewN | apply IsS31.drew)) (by repeat (first | exact HB.out | apply pw_below_drewN | apply below_drew1)) (Kd.C_below hrr (by repeat (first | exact HB.out | apply pw_below_drewN | apply below_drew1))) hcr ne_ A5_.out).mono ?_); rintro e w5 ⟨v0_, rfl, ho, hi, hb, hk⟩; refine ⟨_, rfl, ?_⟩; have n0_ := Aside0.mk hi; have n1_ := Aside0.mk hb; have n2_ : Aside0 (KeepBut w w5 g none) := ⟨KeepBut.trans (by repeat (first | exact HK.out | apply keep_drewN | apply keep_drew)) hk (.inl rfl)⟩; obtain ⟨Ao_, co_, eo_⟩ := Kd.R_slice ho; subst eo_; have HO_ := Aside0.mk (Kd.R_reads' ho); clear ho hi hb hk HI0 HB HK; have HI0 := n0_; have HB := n1_; have HK := n2_; clear n0_ n1_ n2_) | (go_at_call 68; (with_reducible refine (spec_l05Ring.calls _ g b0 b1 s0_2 s0_3 Ar cr (rd_T67 s0_3 x3).f1 _ _ _ _ w0 _ (by repeat (first | exact HI0.out | apply IsS31.drewN | apply IsS31.drew)) (by repeat (first | exact HB.out | apply pw_below_drewN | apply below_drew1)) (Kd.C_below hrr (by repeat (first | exact HB.out | apply pw_below_drewN | apply below_drew1))) hcr ne_ A5_.out).mono ?_); rintro e w5 ⟨v0_, rfl, ho, hi, hb, hk⟩; have n0_ := Aside0.mk hi; have n1_ := Aside0.mk hb; have n2_ : Aside0 (KeepBut w w5 g none) := ⟨KeepBut.trans (by repeat (first | exact HK.out | apply keep_drewN | apply keep_drew)) hk (.inl rfl)⟩; obtain ⟨Ao_, co_, eo_⟩ := Kd.R_slice ho; subst eo_; have HO_ := Aside0.mk (Kd.R_reads' ho); clear ho hi hb hk HI0 HB HK; have HI0 := n0_; have HB := n1_; have HK := n2_; clear n0_ n1_ n2_) | ((with_reducible refine gate_callee (f := 69) rfl ?_); refine goesL_ (some 93) rfl rfl Try.func69 (by kernel_rfl) rfl #[.slice Ao_ pl.length co_] rfl (by (try simp only [List.map_toArray, List.map_cons, List.map_nil]); first | done | rfl) ?_; (with_reducible refine (spec_l03Ok.calls _ Ao_ co_ pl _ _ (by repeat (first | exact HO_.out.2.2 | (with_reducible refine Kd.C_drewN ?_ _) | (with_reducible refine Kd.C_drew ?_))) HO_.out.2.1 A6_.out).mono ?_); rintro e w5 ⟨rfl, hb⟩; refine ⟨_, rfl, ?_⟩; have n0_ := Aside0.mk (IsS31.below (by repeat (first | exact HI0.out | apply IsS31.drewN | apply IsS31.drew)) hb); have n1_ := Aside0.mk (below_step (by repeat (first | exact HB.out | apply pw_below_drewN | apply below_drew1)) hb); have n2_ : Aside0 (KeepBut w w5 g none) := ⟨KeepBut.trans (by repeat (first | exact HK.out | apply keep_drewN | apply keep_drew)) (KeepBut.of_below hb g none) (.inl rfl)⟩; clear hb HI0 HB HK; have HI0 := n0_; have HB := n1_; have HK := n2_; clear n0_ n1_ n2_) | (go_at_call 69; (with_reducible refine (spec_l03Ok.calls _ Ao_ co_ pl _ _ (by repeat (first | exact HO_.out.2.2 | (with_reducible refine Kd.C_drewN ?_ _) | (with_reducible refine Kd.C_drew ?_))) HO_.out.2.1 A6_.out).mono ?_); rintro e w5 ⟨rfl, hb⟩; have n0_ := Aside0.mk (IsS31.below (by repeat (first | exact HI0.out | apply IsS31.drewN | apply IsS31.drew)) hb); have n1_ := Aside0.mk (below_step (by repeat (first | exact HB.out | apply pw_below_drewN | apply below_drew1)) hb); have n2_ : Aside0 (KeepBut w w5 g none) := ⟨KeepBut.trans (by repeat (first | exact HK.out | apply keep_drewN | apply keep_drew)) (KeepBut.of_below hb g none) (.inl rfl)⟩; clear hb HI0 HB HK; have HI0 := n0_; have HB := n1_; have HK := n2_; clear n0_ n1_ n2_))
             go_ret
             exact ⟨(by first | rfl | (simp; done) | (simp [*]; done)), (by repeat (first | exact HI0.out | apply IsS31.drewN | apply IsS31.drew)), (by repeat (first | exact HB.out | apply pw_below_drewN | apply below_drew1)), (by repeat (first | exact HK.out | apply keep_drewN | apply keep_drew))⟩
            | true =>
             replace H := (show (spec_l05Ok.l0 k2 (wrap64 (x3 + 1)) d0 d1 s0_2 s0_3) = some (r1, r2, r3) from by first | exact H | simpa using H)
             have H' := Aside0.mk H
             clear H
             go_wp2_with (first | ((with_reducible refine gate_callee (f := 68) rfl ?_); refine goesL_ (some 86) rfl rfl Try.func68 (by kernel_rfl) rfl #[.pointer (some ⟨g, 0, none⟩), .slice Ar (rd_T67 s0_3 x3).f1.length cr] rfl (by (try simp only [List.map_toArray, List.map_cons, List.map_nil]); first | done | rfl) ?_; (with_reducible refine (spec_l05Ring.calls _ g b0 b1 s0_2 s0_3 Ar cr (rd_T67 s0_3 x3).f1 _ _ _ _ w0 _ (by repeat (first | exact HI0.out | apply IsS31.drewN | apply IsS31.drew)) (by repeat (first | exact HB.out | apply pw_below_drewN | apply below_drew1)) (Kd.C_below hrr (by repeat (first | exact HB.out | apply pw_below_drewN | apply below_drew1))) hcr ne_ A5_.out).mono ?_); rintro e w5 ⟨v0_, rfl, ho, hi, hb, hk⟩; refine ⟨_, rfl, ?_⟩; have n0_ := Aside0.mk hi; have n1_ := Aside0.mk hb; have n2_ : Aside0 (KeepBut w w5 g none) := ⟨KeepBut.trans (by repeat (first | exact HK.out | apply keep_drewN | apply keep_drew)) hk (.inl rfl)⟩; obtain ⟨Ao_, co_, eo_⟩ := Kd.R_slice ho; subst eo_; have HO_ := Aside0.mk (Kd.R_reads' ho); clear ho hi hb hk HI0 HB HK; have HI0 := n0_; have HB := n1_; have HK := n2_; clear n0_ n1_ n2_) | (go_at_call 68; (with_reducible refine (spec_l05Ring.calls _ g b0 b1 s0_2 s0_3 Ar cr (rd_T67 s0_3 x3).f1 _ _ _ _ w0 _ (by repeat (first | exact HI0.out | apply IsS31.drewN | apply IsS31.drew)) (by repeat (first | exact HB.out | apply pw_below_drewN | apply below_drew1)) (Kd.C_below hrr (by repeat (first | exact HB.out | apply pw_below_drewN | apply below_drew1))) hcr ne_ A5_.out).mono ?_); rintro e w5 ⟨v0_, rfl, ho, hi, hb, hk⟩; have n0_ := Aside0.mk hi; have n1_ := Aside0.mk hb; have n2_ : Aside0 (KeepBut w w5 g none) := ⟨KeepBut.trans (by repeat (first | exact HK.out | apply keep_drewN | apply keep_drew)) hk (.inl rfl)⟩; obtain ⟨Ao_, co_, eo_⟩ := Kd.R_slice ho; subst eo_; have HO_ := Aside0.mk (Kd.R_reads' ho); clear ho hi hb hk HI0 HB HK; have HI0 := n0_; have HB := n1_; have HK := n2_; clear n0_ n1_ n2_) | ((with_reducible refine gate_callee (f := 69) rfl ?_); refine goesL_ (some 93) rfl rfl Try.func69 (by kernel_rfl) rfl #[.slice Ao_ pl.length co_] rfl (by (try simp only [List.map_toArray, List.map_cons, List.map_nil]); first | done | rfl) ?_; (with_reducible refine (spec_l03Ok.calls _ Ao_ co_ pl _ _ (by repeat (first | exact HO_.out.2.2 | (with_reducible refine Kd.C_drewN ?_ _) | (with_reducible refine Kd.C_drew ?_))) HO_.out.2.1 A6_.out).mono ?_); rintro e w5 ⟨rfl, hb⟩; refine ⟨_, rfl, ?_⟩; have n0_ := Aside0.mk (IsS31.below (by repeat (first | exact HI0.out | apply IsS31.drewN | apply IsS31.drew)) hb); have n1_ := Aside0.mk (below_step (by repeat (first | exact HB.out | apply pw_below_drewN | apply below_drew1)) hb); have n2_ : Aside0 (KeepBut w w5 g none) := ⟨KeepBut.trans (by repeat (first | exact HK.out | apply keep_drewN | apply keep_drew)) (KeepBut.of_below hb g none) (.inl rfl)⟩; clear hb HI0 HB HK; have HI0 := n0_; have HB := n1_; have HK := n2_; clear n0_ n1_ n2_) | (go_at_call 69; (with_reducible refine (spec_l03Ok.calls _ Ao_ co_ pl _ _ (by repeat (first | exact HO_.out.2.2 | (with_reducible refine Kd.C_drewN ?_ _) | (with_reducible refine Kd.C_drew ?_))) HO_.out.2.1 A6_.out).mono ?_); rintro e w5 ⟨rfl, hb⟩; have n0_ := Aside0.mk (IsS31.below (by repeat (first | exact HI0.out | apply IsS31.drewN | apply IsS31.drew)) hb); have n1_ := Aside0.mk (below_step (by repeat (first | exact HB.out | apply pw_below_drewN | apply below_drew1)) hb); have n2_ : Aside0 (KeepBut w w5 g none) := ⟨KeepBut.trans (by repeat (first | exact HK.out | apply keep_drewN | apply keep_drew)) (KeepBut.of_below hb g none) (.inl rfl)⟩; clear hb HI0 HB HK; have HI0 := n0_; have HB := n1_; have HK := n2_; clear n0_ n1_ n2_))
             go_roundg k2
             case measure => have := HK1.out; omega
             case rel => exact ⟨(wrap64 (x3 + 1)), d0, d1, (by first | rfl | (simp; done) | (simp [*]; done)), H', ⟨by have := HK1.out; omega⟩, ⟨(by repeat (first | exact HI0.out | apply IsS31.drewN | apply IsS31.drew))⟩, ⟨(by repeat (first | exact HB.out | apply pw_below_drewN | apply below_drew1))⟩, ⟨(by repeat (first | exact HK.out | apply keep_drewN | apply keep_drew))⟩⟩
        ·rw [if_neg c4_] at H
         exact absurd H (by simp)
       ·rw [if_neg c3_] at H
        have c3b : decide (x3 < (s0_3.length : Int)) = false := decide_eq_false c3_
        clear c3_
        simp only [Option.some.injEq, Prod.mk.injEq] at H
        obtain ⟨rfl, rfl, rfl⟩ := H
        go_wp2
        go_ret
        exact ⟨(by first | rfl | (simp; done) | (simp [*]; done)), (by repeat (first | exact HI0.out | apply IsS31.drewN | apply IsS31.drew)), (by repeat (first | exact HB.out | apply pw_below_drewN | apply below_drew1)), (by repeat (first | exact HK.out | apply keep_drewN | apply keep_drew))⟩
def spec_l05Polygon.f (k : Nat) (s0_0 : Int) (s0_1 : Int) (s0_2 : List (S48)) (s0_3 : List (S67)) (a1 : Int) : Option ((List (S48)) × Int × Int) := if 0 ≤ a1 then (if a1 < (s0_3.length : Int) then ((spec_l05Ring.f k s0_0 s0_1 s0_2 s0_3 ((rd_T67 s0_3 a1).f1)).bind fun bt256 => (some (bt256.1, bt256.2.2.1, bt256.2.2.2))) else (none)) else (none)
theorem spec_l05Polygon.mono : ∀ a0 a1 a2 a3 a4 k, LeO (spec_l05Polygon.f k a0 a1 a2 a3 a4) (spec_l05Polygon.f (k + 1) a0 a1 a2 a3 a4) := by
 intro a0 a1 a2 a3 a4 k
 unfold spec_l05Polygon.f
 repeat' first
   | (with_reducible exact spec_l05Ring.mono _ _ _ _ _ _)
   | (with_reducible exact LeO.refl _)
   | (with_reducible exact LeO.none _)
   | (with_reducible refine LeO.ite ?_ ?_)
   | (with_reducible refine LeO.bind ?_ (fun _ => ?_))
   | exact spec_l05Ring.mono _ _ _ _ _ _
   | exact LeO.none _
   | refine LeO.ite ?_ ?_
   | refine LeO.bind ?_ (fun _ => ?_)
set_option maxHeartbeats 8000000 in
set_option maxRecDepth 100000 in
theorem spec_l05Polygon.calls (k : Nat) (g : Nat) (s0_0 : Int) (s0_1 : Int) (s0_2 : List (S48)) (s0_3 : List (S67)) (a1 : Int) (r1 : List (S48)) (r2 : Int) (r3 : Int) (w0 w : World) (hI : IsS31 w0 w g s0_0 s0_1 s0_2 s0_3) (hB : Below w0.heap.size w0 w) (h : spec_l05Polygon.f k s0_0 s0_1 s0_2 s0_3 a1 = some (r1, r2, r3)) :
  Calls Try.prog 48 #[.pointer (some ⟨g, 0, none⟩), .int .i64 a1] w fun e w' => ∃ v0_ : Value, e = .returned (v0_) ∧ Kd.R k48 48 w' w.heap.size (fun _ => True) v0_ r1 ∧ IsS31 w0 w' g r2 r3 s0_2 s0_3 ∧ Below w0.heap.size w0 w' ∧ KeepBut w w' g none := by
 have HI0 := Aside0.mk hI
 have HK := Aside0.mk (KeepBut.refl w g none)
 have HL := Aside0.mk hB.size
 clear hI
 have HW0 := Aside0.mk hB.size
 have HB := Aside0.mk hB
 clear hB
 have H : (if 0 ≤ a1 then (if a1 < (s0_3.length : Int) then ((spec_l05Ring.f k s0_0 s0_1 s0_2 s0_3 ((rd_T67 s0_3 a1).f1)).bind fun bt256 => (some (bt256.1, bt256.2.2.1, bt256.2.2.2))) else (none)) else (none)) = some (r1, r2, r3) := h
 clear h
 by_cases c3 : 0 ≤ a1
 ·rw [if_pos c3] at H
  have c3b0 : decide (0 ≤ a1) = true := decide_eq_true c3
  clear c3
  by_cases c4 : a1 < (s0_3.length : Int)
  ·rw [if_pos c4] at H
   have c4b0 : decide (a1 < (s0_3.length : Int)) = true := decide_eq_true c4
   clear c4
   replace H := Option.bind_eq_some_iff.mp H
   obtain ⟨⟨t256, t259, t260, t261⟩, A50, H⟩ := H
   replace H : (some (t256, t260, t261)) = some (r1, r2, r3) := H
   have A5 := Aside0.mk A50
   clear A50
   simp only [Option.some.injEq, Prod.mk.injEq] at H
   obtain ⟨rfl, rfl, rfl⟩ := H
   obtain ⟨ASz6_2, cSz6_2, ASz6_3, cSz6_3, HGz6, hgz6, HSz6_2, HSz6_3⟩ := HI0.out
   have hcz6_0 := cellS31_0 HGz6
   have hcz6_1 := cellS31_1 HGz6
   have hcz6_2 := cellS31_2 HGz6
   have hcz6_3 := cellS31_3 HGz6
   have hfz6_0 := blk_frozen HGz6 0
   have hfz6_1 := blk_frozen HGz6 1
   clear HGz6 hgz6
   have p255 : 0 ≤ (a1 : Int) := da
   have q255 : a1 < (s0_3.length : Int) := da
   obtain ⟨ad255, A255_1, c255_1, e255, hx255_0, hx255_1, hl255_1, hi255_1⟩ := at_T67 HSz6_3 a1 p255 q255
   cases e255
   replace hx255_0 := pw_cell_below HB.out hx255_0
   replace hx255_1 := pw_cell_below HB.out hx255_1
   have hf255_1 := Kd.far_C 0 hi255_1 (IsS31.ge HI0.out)
   have HR255_1 := Aside0.mk (Kd.C_below hi255_1 HB.out)
   have HC255_1 := Aside0.mk hl255_1
   clear hi255_1 hl255_1
   replace p255 := eq_true p255
   replace q255 := eq_true q255
   go_enter Try.func48, Try.ntmps48
   go_wp2_with (first | ((with_reducible refine gate_callee (f := 68) rfl ?_); refine goesL_ (some 17) rfl rfl Try.func68 (by kernel_rfl) rfl #[.pointer (some ⟨g, 0, none⟩), .slice A255_1 ((rd_T67 s0_3 a1).f1).length c255_1] rfl (by (try simp only [List.map_toArray, List.map_cons, List.map_nil]); first | done | rfl | (simp only [List.length_drop, List.length_take]; rfl)) ?_; (with_reducible refine (spec_l05Ring.calls k g s0_0 s0_1 s0_2 s0_3 _ _ ((rd_T67 s0_3 a1).f1) t256 t259 t260 t261 w0 _ ?side1 ?side2 ?side3 ?side4 ?side5 A5.out).mono ?_); (case side1 => repeat (first | (with_reducible first | exact HI0.out | apply IsS31.alloc | apply IsS31.drewN | apply IsS31.drew | apply IsS31.set_0 | apply IsS31.set_1) | exact HI0.out)); (case side2 => repeat (first | (with_reducible first | exact HB.out | apply below_alloc | apply pw_below_drewN | apply below_drew1 | refine below_set ?_ (IsS31.ge HI0.out)) | exact HB.out)); (case side3 => exact Kd.C_keep 0 HR255_1.out (by repeat (first | (with_reducible first | exact HK.out | apply KeepBut.set_ | apply keep_drewN | apply keep_drew | apply keep_alloc) | exact HK.out)) hf255_1); (case side4 => exact HC255_1.out); (case side5 => exact hf255_1); rintro e w7 ⟨v257, rfl, ho0, hi, hb, hk⟩; refine ⟨_, rfl, ?_⟩; have n0_ := Aside0.mk (Kd.R_lower ho0 (keep_size (w := w) (g := g) (row := none) (by repeat (first | (with_reducible first | exact HK.out | apply KeepBut.set_ | apply keep_drewN | apply keep_drew | apply keep_alloc) | exact HK.out)))); have n1_ := Aside0.mk (KeepBut.trans (by repeat (first | (with_reducible first | exact HK.out | apply KeepBut.set_ | apply keep_drewN | apply keep_drew | apply keep_alloc) | exact HK.out)) hk (.inl rfl)); have n2_ := Aside0.mk (hb); have n3_ := Aside0.mk (hi); clear HK; clear HB; clear HI0; have HO258 := n0_; have HK := n1_; have HB := n2_; have HI0 := n3_; clear n0_ n1_ n2_ n3_; (try clear hb); (try clear hb2); (try clear hk); (try clear hi); (try clear ho0)))
   go_ret
   exact ⟨_, by first | rfl | (simp [errW_none, errW_some] <;> rfl) | (simp [*, errW_none, errW_some] <;> rfl), by (with_reducible repeat (first | apply Kd.R_alloc | apply Kd.R_drewN | apply Kd.R_drew)); exact HO258.out, by repeat (first | (with_reducible first | exact HI0.out | apply IsS31.alloc | apply IsS31.drewN | apply IsS31.drew | apply IsS31.set_0 | apply IsS31.set_1) | exact HI0.out), by repeat (first | (with_reducible first | exact HB.out | apply below_alloc | apply pw_below_drewN | apply below_drew1 | refine below_set ?_ (IsS31.ge HI0.out)) | exact HB.out), by repeat (first | (with_reducible first | exact HK.out | apply KeepBut.set_ | apply keep_drewN | apply keep_drew | apply keep_alloc) | exact HK.out)⟩
  ·rw [if_neg c4] at H
   exact absurd H (by simp)
 ·rw [if_neg c3] at H
  exact absurd H (by simp)
def spec_l03Inside.l0 : Nat → List (S48) → Int → Int → Int → Int → Option (Int)
 | 0, _, _, _, _, _ => none
 | k + 1, x0, x5, x6, x263000, x263001 => if x6 < (x0.length : Int) then (if 0 ≤ x6 then (if (x0.length : Int) = 0 then (none) else (if 0 ≤ (Int.tmod (wrap64 (x6 + 1)) (x0.length : Int)) then (if (Int.tmod (wrap64 (x6 + 1)) (x0.length : Int)) < (x0.length : Int) then ((spec_l02On.f ((rd_T48 x0 x6).f0) ((rd_T48 x0 x6).f1) ((rd_T48 x0 (Int.tmod (wrap64 (x6 + 1)) (x0.length : Int))).f0) ((rd_T48 x0 (Int.tmod (wrap64 (x6 + 1)) (x0.length : Int))).f1) x263000 x263001).bind fun t267 => (if t267 = true then (some 0) else (if ((rd_T48 x0 x6).f1) ≤ x263001 then (if ((rd_T48 x0 (Int.tmod (wrap64 (x6 + 1)) (x0.length : Int))).f1) > x263001 then ((spec_l02Side.f ((rd_T48 x0 x6).f0) ((rd_T48 x0 x6).f1) ((rd_T48 x0 (Int.tmod (wrap64 (x6 + 1)) (x0.length : Int))).f0) ((rd_T48 x0 (Int.tmod (wrap64 (x6 + 1)) (x0.length : Int))).f1) x263000 x263001).bind fun t268 => (if t268 > 0 then (spec_l03Inside.l0 k x0 (wrap64 (-x5)) (wrap64 (x6 + 1)) x263000 x263001) else (if ((rd_T48 x0 (Int.tmod (wrap64 (x6 + 1)) (x0.length : Int))).f1) ≤ x263001 then (if ((rd_T48 x0 x6).f1) > x263001 then ((spec_l02Side.f ((rd_T48 x0 x6).f0) ((rd_T48 x0 x6).f1) ((rd_T48 x0 (Int.tmod (wrap64 (x6 + 1)) (x0.length : Int))).f0) ((rd_T48 x0 (Int.tmod (wrap64 (x6 + 1)) (x0.length : Int))).f1) x263000 x263001).bind fun t269 => (if t269 < 0 then (spec_l03Inside.l0 k x0 (wrap64 (-x5)) (wrap64 (x6 + 1)) x263000 x263001) else (spec_l03Inside.l0 k x0 x5 (wrap64 (x6 + 1)) x263000 x263001))) else (spec_l03Inside.l0 k x0 x5 (wrap64 (x6 + 1)) x263000 x263001)) else (spec_l03Inside.l0 k x0 x5 (wrap64 (x6 + 1)) x263000 x263001)))) else (if ((rd_T48 x0 (Int.tmod (wrap64 (x6 + 1)) (x0.length : Int))).f1) ≤ x263001 then (if ((rd_T48 x0 x6).f1) > x263001 then ((spec_l02Side.f ((rd_T48 x0 x6).f0) ((rd_T48 x0 x6).f1) ((rd_T48 x0 (Int.tmod (wrap64 (x6 + 1)) (x0.length : Int))).f0) ((rd_T48 x0 (Int.tmod (wrap64 (x6 + 1)) (x0.length : Int))).f1) x263000 x263001).bind fun t270 => (if t270 < 0 then (spec_l03Inside.l0 k x0 (wrap64 (-x5)) (wrap64 (x6 + 1)) x263000 x263001) else (spec_l03Inside.l0 k x0 x5 (wrap64 (x6 + 1)) x263000 x263001))) else (spec_l03Inside.l0 k x0 x5 (wrap64 (x6 + 1)) x263000 x263001)) else (spec_l03Inside.l0 k x0 x5 (wrap64 (x6 + 1)) x263000 x263001))) else (if ((rd_T48 x0 (Int.tmod (wrap64 (x6 + 1)) (x0.length : Int))).f1) ≤ x263001 then (if ((rd_T48 x0 x6).f1) > x263001 then ((spec_l02Side.f ((rd_T48 x0 x6).f0) ((rd_T48 x0 x6).f1) ((rd_T48 x0 (Int.tmod (wrap64 (x6 + 1)) (x0.length : Int))).f0) ((rd_T48 x0 (Int.tmod (wrap64 (x6 + 1)) (x0.length : Int))).f1) x263000 x263001).bind fun t271 => (if t271 < 0 then (spec_l03Inside.l0 k x0 (wrap64 (-x5)) (wrap64 (x6 + 1)) x263000 x263001) else (spec_l03Inside.l0 k x0 x5 (wrap64 (x6 + 1)) x263000 x263001))) else (spec_l03Inside.l0 k x0 x5 (wrap64 (x6 + 1)) x263000 x263001)) else (spec_l03Inside.l0 k x0 x5 (wrap64 (x6 + 1)) x263000 x263001))))) else (none)) else (none))) else (none)) else (some x5)
def spec_l03Inside.f (k : Nat) (l0 : List (S48)) (a1_0 : Int) (a1_1 : Int) : Option (Int) := spec_l03Inside.l0 k l0 (-1) 0 a1_0 a1_1
theorem spec_l03Inside.mono_l : ∀ k, (∀ y0 y1 y2 y3 y4, LeO (spec_l03Inside.l0 k y0 y1 y2 y3 y4) (spec_l03Inside.l0 (k + 1) y0 y1 y2 y3 y4))
 | 0 => fun _ _ _ _ _ r h => by simp [spec_l03Inside.l0] at h
 | k + 1 => by
  have ih0 := spec_l03Inside.mono_l k
  ·intro y0 y1 y2 y3 y4
   unfold spec_l03Inside.l0
   repeat' first
   | (with_reducible exact ih0 _ _ _ _ _)
   | (with_reducible exact LeO.refl _)
   | (with_reducible exact LeO.none _)
   | (with_reducible refine LeO.ite ?_ ?_)
   | (with_reducible refine LeO.bind ?_ (fun _ => ?_))
   | exact ih0 _ _ _ _ _
   | exact LeO.none _
   | refine LeO.ite ?_ ?_
   | refine LeO.bind ?_ (fun _ => ?_)
theorem spec_l03Inside.mono : ∀ a0 a1 a2 k, LeO (spec_l03Inside.f k a0 a1 a2) (spec_l03Inside.f (k + 1) a0 a1 a2) := by
 intro a0 a1 a2 k
 have ih0 := spec_l03Inside.mono_l k
 unfold spec_l03Inside.f
 repeat' first
   | (with_reducible exact ih0 _ _ _ _ _)
   | (with_reducible exact LeO.refl _)
   | (with_reducible exact LeO.none _)
   | (with_reducible refine LeO.ite ?_ ?_)
   | (with_reducible refine LeO.bind ?_ (fun _ => ?_))
   | exact ih0 _ _ _ _ _
   | exact LeO.none _
   | refine LeO.ite ?_ ?_
   | refine LeO.bind ?_ (fun _ => ?_)
set_option maxHeartbeats 8000000 in
set_option maxRecDepth 100000 in
theorem spec_l03Inside.calls (k : Nat) (A0 : Option Addr) (c0 : Nat) (l0 : List (S48)) (a1_0 : Int) (a1_1 : Int) (r : Int) (w : World) (hr0 : Kd.C k48 w A0 l0.length l0) (hc0 : l0.length ≤ c0) (h : spec_l03Inside.f k l0 a1_0 a1_1 = some r) :
  Calls Try.prog 56 #[.slice A0 l0.length c0, .agg #[.int .i64 a1_0, .int .i64 a1_1]] w fun e w' => e = .returned (.int .i64 r) ∧ Below w.heap.size w w' := by
 have hu48 := Try.underlying48
 have HR0 := Aside0.mk hr0
 have HC0 := Aside0.mk hc0
 clear hr0 hc0
 have HB := Aside0.mk (Below.refl w.heap.size w)
 have H : (spec_l03Inside.l0 k l0 (-1) 0 a1_0 a1_1) = some r := h
 clear h
 have H' := Aside0.mk H
 clear H
 go_enter Try.func56, Try.ntmps56
 go_wp2_with (first | ((with_reducible refine gate_dst (N := 3) rfl ?_); refine bx (cs := #[.int .i64 a1_0, .int .i64 a1_1]) (t := 48) ?_; intro gb262 hg w3 hbox hb; have n0_ := sb hb; have n1_ := Aside0.mk (hbox); have n2_ := zb hg; have n3_ := zb hg; clear HB; have HB := n0_; have BK262 := n1_; have GW262 := n2_; have GE262 := n3_; clear n0_ n1_ n2_ n3_; clear hb hbox hg))
 go_loopg [5, 6] k (fun kq v5 v6 w' => ∃ (x5_1 : Int) (x6_1 : Int), v5 = .int .i64 x5_1 ∧ v6 = .int .i64 x6_1 ∧ Aside0 (spec_l03Inside.l0 kq l0 x5_1 x6_1 a1_0 a1_1 = some r) ∧ Aside0 (kq ≤ k) ∧ Aside0 (w'.heap[gb262]? = some (.cells #[.int .i64 a1_0, .int .i64 a1_1] 48 (0, 0))) ∧ Aside0 (Below w.heap.size w w'))
 case atStart => exact ⟨((-1)), (0), (by first | rfl | (simp; done) | (simp [*]; done)), (by first | rfl | (simp; done) | (simp [*]; done)), H', ⟨Nat.le_refl _⟩, ⟨by exact bk BK262⟩, ⟨by repeat (first | (with_reducible first | exact HB.out | apply below_alloc | apply pw_below_drewN | apply below_drew1 | refine below_set ?_ GE262.out) | exact HB.out)⟩⟩
 case round =>
  clear H'
  try clear p2
  obtain ⟨x5_1, x6_1, rfl, rfl, HA, HK1, BK262, HB⟩ := hrel
  cases gk with
  | zero => exact absurd HA.out (by simp [spec_l03Inside.l0])
  | succ k1 =>
   have H := HA.out
   clear HA
   simp only [spec_l03Inside.l0] at H
   by_cases c4 : x6_1 < (l0.length : Int)
   ·rw [if_pos c4] at H
    have c4b0 : decide (x6_1 < (l0.length : Int)) = true := decide_eq_true c4
    clear c4
    by_cases c5 : 0 ≤ x6_1
    ·rw [if_pos c5] at H
     have c5b0 : decide (0 ≤ x6_1) = true := decide_eq_true c5
     clear c5
     by_cases c6 : (l0.length : Int) = 0
     ·rw [if_pos c6] at H
      exact absurd H (by simp)
     ·rw [if_neg c6] at H
      have c6b0 : ((l0.length : Int) == 0) = false := beq_eq_false_iff_ne.mpr c6
      have c6b1 : ((l0.length : Int) != 0) = true := bne_iff_ne.mpr c6
      have c6b2 : ¬ (l0 = []) := fun h_ => c6 (by rw [h_]; rfl)
      obtain ⟨ji7, hji7⟩ : ∃ j_ : Int, (Int.tmod (wrap64 (x6_1 + 1)) (l0.length : Int)) = j_ := ⟨_, rfl⟩
      replace H : (if 0 ≤ (ji7) then (if (ji7) < (l0.length : Int) then ((spec_l02On.f ((rd_T48 l0 x6_1).f0) ((rd_T48 l0 x6_1).f1) ((rd_T48 l0 (ji7)).f0) ((rd_T48 l0 (ji7)).f1) a1_0 a1_1).bind fun t267 => (if t267 = true then (some 0) else (if ((rd_T48 l0 x6_1).f1) ≤ a1_1 then (if ((rd_T48 l0 (ji7)).f1) > a1_1 then ((spec_l02Side.f ((rd_T48 l0 x6_1).f0) ((rd_T48 l0 x6_1).f1) ((rd_T48 l0 (ji7)).f0) ((rd_T48 l0 (ji7)).f1) a1_0 a1_1).bind fun t268 => (if t268 > 0 then (spec_l03Inside.l0 k1 l0 (wrap64 (-x5_1)) (wrap64 (x6_1 + 1)) a1_0 a1_1) else (if ((rd_T48 l0 (ji7)).f1) ≤ a1_1 then (if ((rd_T48 l0 x6_1).f1) > a1_1 then ((spec_l02Side.f ((rd_T48 l0 x6_1).f0) ((rd_T48 l0 x6_1).f1) ((rd_T48 l0 (ji7)).f0) ((rd_T48 l0 (ji7)).f1) a1_0 a1_1).bind fun t269 => (if t269 < 0 then (spec_l03Inside.l0 k1 l0 (wrap64 (-x5_1)) (wrap64 (x6_1 + 1)) a1_0 a1_1) else (spec_l03Inside.l0 k1 l0 x5_1 (wrap64 (x6_1 + 1)) a1_0 a1_1))) else (spec_l03Inside.l0 k1 l0 x5_1 (wrap64 (x6_1 + 1)) a1_0 a1_1)) else (spec_l03Inside.l0 k1 l0 x5_1 (wrap64 (x6_1 + 1)) a1_0 a1_1)))) else (if ((rd_T48 l0 (ji7)).f1) ≤ a1_1 then (if ((rd_T48 l0 x6_1).f1) > a1_1 then ((spec_l02Side.f ((rd_T48 l0 x6_1).f0) ((rd_T48 l0 x6_1).f1) ((rd_T48 l0 (ji7)).f0) ((rd_T48 l0 (ji7)).f1) a1_0 a1_1).bind fun t270 => (if t270 < 0 then (spec_l03Inside.l0 k1 l0 (wrap64 (-x5_1)) (wrap64 (x6_1 + 1)) a1_0 a1_1) else (spec_l03Inside.l0 k1 l0 x5_1 (wrap64 (x6_1 + 1)) a1_0 a1_1))) else (spec_l03Inside.l0 k1 l0 x5_1 (wrap64 (x6_1 + 1)) a1_0 a1_1)) else (spec_l03Inside.l0 k1 l0 x5_1 (wrap64 (x6_1 + 1)) a1_0 a1_1))) else (if ((rd_T48 l0 (ji7)).f1) ≤ a1_1 then (if ((rd_T48 l0 x6_1).f1) > a1_1 then ((spec_l02Side.f ((rd_T48 l0 x6_1).f0) ((rd_T48 l0 x6_1).f1) ((rd_T48 l0 (ji7)).f0) ((rd_T48 l0 (ji7)).f1) a1_0 a1_1).bind fun t271 => (if t271 < 0 then (spec_l03Inside.l0 k1 l0 (wrap64 (-x5_1)) (wrap64 (x6_1 + 1)) a1_0 a1_1) else (spec_l03Inside.l0 k1 l0 x5_1 (wrap64 (x6_1 + 1)) a1_0 a1_1))) else (spec_l03Inside.l0 k1 l0 x5_1 (wrap64 (x6_1 + 1)) a1_0 a1_1)) else (spec_l03Inside.l0 k1 l0 x5_1 (wrap64 (x6_1 + 1)) a1_0 a1_1))))) else (none)) else (none)) = some r := by first | (rw [hji7] at H; exact H) | (simp only [hji7] at H ⊢; exact H)
      by_cases c8 : 0 ≤ (ji7)
      ·rw [if_pos c8] at H
       have c8b0 : decide (0 ≤ (ji7)) = true := decide_eq_true c8
       clear c8
       by_cases c9 : (ji7) < (l0.length : Int)
       ·rw [if_pos c9] at H
        have c9b0 : decide ((ji7) < (l0.length : Int)) = true := decide_eq_true c9
        clear c9
        replace H := Option.bind_eq_some_iff.mp H
        obtain ⟨t267, A100, H⟩ := H
        replace H : (if t267 = true then (some 0) else (if ((rd_T48 l0 x6_1).f1) ≤ a1_1 then (if ((rd_T48 l0 (ji7)).f1) > a1_1 then ((spec_l02Side.f ((rd_T48 l0 x6_1).f0) ((rd_T48 l0 x6_1).f1) ((rd_T48 l0 (ji7)).f0) ((rd_T48 l0 (ji7)).f1) a1_0 a1_1).bind fun t268 => (if t268 > 0 then (spec_l03Inside.l0 k1 l0 (wrap64 (-x5_1)) (wrap64 (x6_1 + 1)) a1_0 a1_1) else (if ((rd_T48 l0 (ji7)).f1) ≤ a1_1 then (if ((rd_T48 l0 x6_1).f1) > a1_1 then ((spec_l02Side.f ((rd_T48 l0 x6_1).f0) ((rd_T48 l0 x6_1).f1) ((rd_T48 l0 (ji7)).f0) ((rd_T48 l0 (ji7)).f1) a1_0 a1_1).bind fun t269 => (if t269 < 0 then (spec_l03Inside.l0 k1 l0 (wrap64 (-x5_1)) (wrap64 (x6_1 + 1)) a1_0 a1_1) else (spec_l03Inside.l0 k1 l0 x5_1 (wrap64 (x6_1 + 1)) a1_0 a1_1))) else (spec_l03Inside.l0 k1 l0 x5_1 (wrap64 (x6_1 + 1)) a1_0 a1_1)) else (spec_l03Inside.l0 k1 l0 x5_1 (wrap64 (x6_1 + 1)) a1_0 a1_1)))) else (if ((rd_T48 l0 (ji7)).f1) ≤ a1_1 then (if ((rd_T48 l0 x6_1).f1) > a1_1 then ((spec_l02Side.f ((rd_T48 l0 x6_1).f0) ((rd_T48 l0 x6_1).f1) ((rd_T48 l0 (ji7)).f0) ((rd_T48 l0 (ji7)).f1) a1_0 a1_1).bind fun t270 => (if t270 < 0 then (spec_l03Inside.l0 k1 l0 (wrap64 (-x5_1)) (wrap64 (x6_1 + 1)) a1_0 a1_1) else (spec_l03Inside.l0 k1 l0 x5_1 (wrap64 (x6_1 + 1)) a1_0 a1_1))) else (spec_l03Inside.l0 k1 l0 x5_1 (wrap64 (x6_1 + 1)) a1_0 a1_1)) else (spec_l03Inside.l0 k1 l0 x5_1 (wrap64 (x6_1 + 1)) a1_0 a1_1))) else (if ((rd_T48 l0 (ji7)).f1) ≤ a1_1 then (if ((rd_T48 l0 x6_1).f1) > a1_1 then ((spec_l02Side.f ((rd_T48 l0 x6_1).f0) ((rd_T48 l0 x6_1).f1) ((rd_T48 l0 (ji7)).f0) ((rd_T48 l0 (ji7)).f1) a1_0 a1_1).bind fun t271 => (if t271 < 0 then (spec_l03Inside.l0 k1 l0 (wrap64 (-x5_1)) (wrap64 (x6_1 + 1)) a1_0 a1_1) else (spec_l03Inside.l0 k1 l0 x5_1 (wrap64 (x6_1 + 1)) a1_0 a1_1))) else (spec_l03Inside.l0 k1 l0 x5_1 (wrap64 (x6_1 + 1)) a1_0 a1_1)) else (spec_l03Inside.l0 k1 l0 x5_1 (wrap64 (x6_1 + 1)) a1_0 a1_1)))) = some r := H
        have A10 := Aside0.mk A100
        clear A100
        by_cases c11 : t267 = true
        ·subst c11
         have H1 : (some 0) = some r := by rw [if_pos rfl] at H; exact H
         clear H
         have H := H1
         clear H1
         obtain rfl := Option.some.inj H
         have p263 : 0 ≤ (x6_1 : Int) := da
         have q263 : x6_1 < (l0.length : Int) := da
         obtain ⟨ad263, e263, hx263_0, hx263_1⟩ := at_T48 HR0.out x6_1 p263 q263
         cases e263
         replace hx263_0 := (HB.out.cell (bL w _ hx263_0)).trans hx263_0
         replace hx263_1 := (HB.out.cell (bL w _ hx263_1)).trans hx263_1
         replace p263 := eq_true p263
         replace q263 := eq_true q263
         go_wp2_with (first | ((with_reducible refine gate_dst (N := 7) rfl ?_); refine bx (cs := #[.int .i64 0, .int .i64 0]) (t := 48) ?_; intro gb264 hg w12 hbox hb; have n0_ := kb BK262 hb; have n1_ := sb hb; have n2_ := Aside0.mk (hbox); have n3_ := zb hg; have n4_ := zb hg; have n5_ := nl BK262 hg; have n6_ := ng BK262 hg; clear BK262; clear HB; have BK262 := n0_; have HB := n1_; have BK264 := n2_; have GW264 := n3_; have GE264 := n4_; have NB262_264 := n5_; have NB264_262 := n6_; clear n0_ n1_ n2_ n3_ n4_ n5_ n6_; clear hb hbox hg; have hnb13 := NB264_262.out; have hnc13 := NB262_264.out; have hcz14_0 := ck BK264 0; have hcz14_1 := ck BK264 1; have hfz14_0 := blk_frozen BK264.out 0; have hfz14_1 := blk_frozen BK264.out 1; have p265 : 0 ≤ ((ji7) : Int) := da; have q265 : (ji7) < (l0.length : Int) := da; obtain ⟨ad265, e265, hx265_0, hx265_1⟩ := at_T48 HR0.out (ji7) p265 q265; obtain rfl : ad263 = ad265 := (by injection e265); have hn265_0 : ad263.block ≠ gb264 := nw hx265_0 GW264; have hn265_1 : ad263.block ≠ gb264 := nw hx265_0 GW264; replace hx265_0 := (HB.out.cell (bL w _ hx265_0)).trans hx265_0; replace hx265_1 := (HB.out.cell (bL w _ hx265_1)).trans hx265_1; replace hx265_0 := cf hn265_0 hx265_0 0 (.int .i64 ((rd_T48 l0 x6_1).f0)); replace hx265_1 := cf hn265_0 hx265_1 0 (.int .i64 ((rd_T48 l0 x6_1).f0)); replace hx265_0 := cf hn265_1 hx265_0 1 (.int .i64 ((rd_T48 l0 x6_1).f1)); replace hx265_1 := cf hn265_1 hx265_1 1 (.int .i64 ((rd_T48 l0 x6_1).f1)); clear hn265_0; clear hn265_1; replace p265 := eq_true p265; replace q265 := eq_true q265) | ((with_reducible refine gate_dst (N := 8) rfl ?_); refine bx (cs := #[.int .i64 0, .int .i64 0]) (t := 48) ?_; intro gb266 hg w15 hbox hb; have z0_ := mz hb (g := gb262) (o := .cells #[.int .i64 a1_0, .int .i64 a1_1] 48 (0, 0)) (by refine bF NB262_264.out ?_; refine bF NB262_264.out ?_; exact bk BK262); have n0_ := kc z0_ hb; have z1_ := mz hb (g := gb264) (o := .cells #[.int .i64 ((rd_T48 l0 x6_1).f0), .int .i64 ((rd_T48 l0 x6_1).f1)] 48 (0, 0)) (by refine bP (cs := #[.int .i64 ((rd_T48 l0 x6_1).f0), .int .i64 0]) 1 ?_; refine bP (cs := #[.int .i64 0, .int .i64 0]) 0 ?_; exact bk BK264); have n1_ := kc z1_ hb; have n2_ := sb hb; have n3_ := Aside0.mk (hbox); have n4_ := zb hg; have n5_ := zb hg; have n6_ := nm z0_ hg; have n7_ := nn z0_ hg; have n8_ := nm z1_ hg; have n9_ := nn z1_ hg; clear BK262; clear BK264; clear HB; have BK262 := n0_; have BK264 := n1_; have HB := n2_; have BK266 := n3_; have GW266 := n4_; have GE266 := n5_; have NB262_266 := n6_; have NB266_262 := n7_; have NB264_266 := n8_; have NB266_264 := n9_; clear z0_ z1_ n0_ n1_ n2_ n3_ n4_ n5_ n6_ n7_ n8_ n9_; clear hb hbox hg; have hnb16 := NB266_262.out; have hnc16 := NB262_266.out; have hnb17 := NB266_264.out; have hnc17 := NB264_266.out; have hcz18_0 := ck BK266 0; have hcz18_1 := ck BK266 1; have hfz18_0 := blk_frozen BK266.out 0; have hfz18_1 := blk_frozen BK266.out 1; have hcz19_0 := ck BK264 0; have hcz19_1 := ck BK264 1; have hfz19_0 := blk_frozen BK264.out 0; have hfz19_1 := blk_frozen BK264.out 1; have hcz20_0 := ck BK262 0; have hcz20_1 := ck BK262 1; have hfz20_0 := blk_frozen BK262.out 0; have hfz20_1 := blk_frozen BK262.out 1) | ((with_reducible refine gate_callee (f := 79) rfl ?_); refine goesL_ (some 30) rfl rfl Try.func79 (by kernel_rfl) rfl #[.agg #[.int .i64 ((rd_T48 l0 x6_1).f0), .int .i64 ((rd_T48 l0 x6_1).f1)], .agg #[.int .i64 ((rd_T48 l0 (ji7)).f0), .int .i64 ((rd_T48 l0 (ji7)).f1)], .agg #[.int .i64 a1_0, .int .i64 a1_1]] rfl (by (try simp only [List.map_toArray, List.map_cons, List.map_nil]); first | done | (simp only [hji7]; rfl) | rfl | (simp only [List.length_drop, List.length_take]; rfl)) ?_; (with_reducible refine (spec_l02On.calls ((rd_T48 l0 x6_1).f0) ((rd_T48 l0 x6_1).f1) ((rd_T48 l0 (ji7)).f0) ((rd_T48 l0 (ji7)).f1) a1_0 a1_1 true _ A10.out).mono ?_); rintro e w21 ⟨rfl, hb⟩; refine ⟨_, rfl, ?_⟩; have n0_ := Aside0.mk (blk_below (g := gb262) (o := .cells #[.int .i64 a1_0, .int .i64 a1_1] 48 (0, 0)) (by refine bF NB262_266.out ?_; refine bF NB262_266.out ?_; exact bk BK262) hb); have n1_ := Aside0.mk (blk_below (g := gb264) (o := .cells #[.int .i64 ((rd_T48 l0 x6_1).f0), .int .i64 ((rd_T48 l0 x6_1).f1)] 48 (0, 0)) (by refine bF NB264_266.out ?_; refine bF NB264_266.out ?_; exact bk BK264) hb); have n2_ := Aside0.mk (blk_below (g := gb266) (o := .cells #[.int .i64 ((rd_T48 l0 (ji7)).f0), .int .i64 ((rd_T48 l0 (ji7)).f1)] 48 (0, 0)) (by refine bP (cs := #[.int .i64 ((rd_T48 l0 (ji7)).f0), .int .i64 0]) 1 ?_; refine bP (cs := #[.int .i64 0, .int .i64 0]) 0 ?_; exact bk BK266) hb); have n3_ := sb hb; clear BK262; clear BK264; clear BK266; clear HB; have BK262 := n0_; have BK264 := n1_; have BK266 := n2_; have HB := n3_; clear n0_ n1_ n2_ n3_; (try clear hb); (try clear hb2); (try clear hk); (try clear hi)))
         go_ret
         exact ⟨by first | rfl | (simp [errW_none, errW_some] <;> rfl) | (simp only [← hji7]; first | rfl | (simp [errW_none, errW_some] <;> rfl)) | (simp [*, errW_none, errW_some] <;> rfl), by repeat (first | (with_reducible first | exact HB.out | apply below_alloc | apply pw_below_drewN | apply below_drew1 | refine below_set ?_ GE262.out | refine below_set ?_ GE264.out | refine below_set ?_ GE266.out) | exact HB.out)⟩
        ·replace c11 := Bool.eq_false_iff.mpr c11
         subst c11
         have H1 : (if ((rd_T48 l0 x6_1).f1) ≤ a1_1 then (if ((rd_T48 l0 (ji7)).f1) > a1_1 then ((spec_l02Side.f ((rd_T48 l0 x6_1).f0) ((rd_T48 l0 x6_1).f1) ((rd_T48 l0 (ji7)).f0) ((rd_T48 l0 (ji7)).f1) a1_0 a1_1).bind fun t268 => (if t268 > 0 then (spec_l03Inside.l0 k1 l0 (wrap64 (-x5_1)) (wrap64 (x6_1 + 1)) a1_0 a1_1) else (if ((rd_T48 l0 (ji7)).f1) ≤ a1_1 then (if ((rd_T48 l0 x6_1).f1) > a1_1 then ((spec_l02Side.f ((rd_T48 l0 x6_1).f0) ((rd_T48 l0 x6_1).f1) ((rd_T48 l0 (ji7)).f0) ((rd_T48 l0 (ji7)).f1) a1_0 a1_1).bind fun t269 => (if t269 < 0 then (spec_l03Inside.l0 k1 l0 (wrap64 (-x5_1)) (wrap64 (x6_1 + 1)) a1_0 a1_1) else (spec_l03Inside.l0 k1 l0 x5_1 (wrap64 (x6_1 + 1)) a1_0 a1_1))) else (spec_l03Inside.l0 k1 l0 x5_1 (wrap64 (x6_1 + 1)) a1_0 a1_1)) else (spec_l03Inside.l0 k1 l0 x5_1 (wrap64 (x6_1 + 1)) a1_0 a1_1)))) else (if ((rd_T48 l0 (ji7)).f1) ≤ a1_1 then (if ((rd_T48 l0 x6_1).f1) > a1_1 then ((spec_l02Side.f ((rd_T48 l0 x6_1).f0) ((rd_T48 l0 x6_1).f1) ((rd_T48 l0 (ji7)).f0) ((rd_T48 l0 (ji7)).f1) a1_0 a1_1).bind fun t270 => (if t270 < 0 then (spec_l03Inside.l0 k1 l0 (wrap64 (-x5_1)) (wrap64 (x6_1 + 1)) a1_0 a1_1) else (spec_l03Inside.l0 k1 l0 x5_1 (wrap64 (x6_1 + 1)) a1_0 a1_1))) else (spec_l03Inside.l0 k1 l0 x5_1 (wrap64 (x6_1 + 1)) a1_0 a1_1)) else (spec_l03Inside.l0 k1 l0 x5_1 (wrap64 (x6_1 + 1)) a1_0 a1_1))) else (if ((rd_T48 l0 (ji7)).f1) ≤ a1_1 then (if ((rd_T48 l0 x6_1).f1) > a1_1 then ((spec_l02Side.f ((rd_T48 l0 x6_1).f0) ((rd_T48 l0 x6_1).f1) ((rd_T48 l0 (ji7)).f0) ((rd_T48 l0 (ji7)).f1) a1_0 a1_1).bind fun t271 => (if t271 < 0 then (spec_l03Inside.l0 k1 l0 (wrap64 (-x5_1)) (wrap64 (x6_1 + 1)) a1_0 a1_1) else (spec_l03Inside.l0 k1 l0 x5_1 (wrap64 (x6_1 + 1)) a1_0 a1_1))) else (spec_l03Inside.l0 k1 l0 x5_1 (wrap64 (x6_1 + 1)) a1_0 a1_1)) else (spec_l03Inside.l0 k1 l0 x5_1 (wrap64 (x6_1 + 1)) a1_0 a1_1))) = some r := by rw [if_neg (show ¬ (false = true) by decide)] at H; exact H
         clear H
         have H := H1
         clear H1
         by_cases c22 : ((rd_T48 l0 x6_1).f1) ≤ a1_1
         ·rw [if_pos c22] at H
          have c22b0 : decide (((rd_T48 l0 x6_1).f1) ≤ a1_1) = true := decide_eq_true c22
          clear c22
          by_cases c23 : ((rd_T48 l0 (ji7)).f1) > a1_1
          ·rw [if_pos c23] at H
           have c23b0 : decide (a1_1 < ((rd_T48 l0 (ji7)).f1)) = true := decide_eq_true c23
           clear c23
           replace H := Option.bind_eq_some_iff.mp H
           obtain ⟨t268, A240, H⟩ := H
           replace H : (if t268 > 0 then (spec_l03Inside.l0 k1 l0 (wrap64 (-x5_1)) (wrap64 (x6_1 + 1)) a1_0 a1_1) else (if ((rd_T48 l0 (ji7)).f1) ≤ a1_1 then (if ((rd_T48 l0 x6_1).f1) > a1_1 then ((spec_l02Side.f ((rd_T48 l0 x6_1).f0) ((rd_T48 l0 x6_1).f1) ((rd_T48 l0 (ji7)).f0) ((rd_T48 l0 (ji7)).f1) a1_0 a1_1).bind fun t269 => (if t269 < 0 then (spec_l03Inside.l0 k1 l0 (wrap64 (-x5_1)) (wrap64 (x6_1 + 1)) a1_0 a1_1) else (spec_l03Inside.l0 k1 l0 x5_1 (wrap64 (x6_1 + 1)) a1_0 a1_1))) else (spec_l03Inside.l0 k1 l0 x5_1 (wrap64 (x6_1 + 1)) a1_0 a1_1)) else (spec_l03Inside.l0 k1 l0 x5_1 (wrap64 (x6_1 + 1)) a1_0 a1_1))) = some r := H
           have A24 := Aside0.mk A240
           clear A240
           by_cases c25 : t268 > 0
           ·rw [if_pos c25] at H
            have c25b0 : decide (0 < t268) = true := decide_eq_true c25
            clear c25
            have H' := Aside0.mk H
            clear H
            have p263 : 0 ≤ (x6_1 : Int) := da
            have q263 : x6_1 < (l0.length : Int) := da
            obtain ⟨ad263, e263, hx263_0, hx263_1⟩ := at_T48 HR0.out x6_1 p263 q263
            cases e263
            replace hx263_0 := (HB.out.cell (bL w _ hx263_0)).trans hx263_0
            replace hx263_1 := (HB.out.cell (bL w _ hx263_1)).trans hx263_1
            replace p263 := eq_true p263
            replace q263 := eq_true q263
            go_wp2_with (first | ((with_reducible refine gate_dst (N := 7) rfl ?_); refine bx (cs := #[.int .i64 0, .int .i64 0]) (t := 48) ?_; intro gb264 hg w26 hbox hb; have n0_ := kb BK262 hb; have n1_ := sb hb; have n2_ := Aside0.mk (hbox); have n3_ := zb hg; have n4_ := zb hg; have n5_ := nl BK262 hg; have n6_ := ng BK262 hg; clear BK262; clear HB; have BK262 := n0_; have HB := n1_; have BK264 := n2_; have GW264 := n3_; have GE264 := n4_; have NB262_264 := n5_; have NB264_262 := n6_; clear n0_ n1_ n2_ n3_ n4_ n5_ n6_; clear hb hbox hg; have hnb27 := NB264_262.out; have hnc27 := NB262_264.out; have hcz28_0 := ck BK264 0; have hcz28_1 := ck BK264 1; have hfz28_0 := blk_frozen BK264.out 0; have hfz28_1 := blk_frozen BK264.out 1; have p265 : 0 ≤ ((ji7) : Int) := da; have q265 : (ji7) < (l0.length : Int) := da; obtain ⟨ad265, e265, hx265_0, hx265_1⟩ := at_T48 HR0.out (ji7) p265 q265; obtain rfl : ad263 = ad265 := (by injection e265); have hn265_0 : ad263.block ≠ gb264 := nw hx265_0 GW264; have hn265_1 : ad263.block ≠ gb264 := nw hx265_0 GW264; replace hx265_0 := (HB.out.cell (bL w _ hx265_0)).trans hx265_0; replace hx265_1 := (HB.out.cell (bL w _ hx265_1)).trans hx265_1; replace hx265_0 := cf hn265_0 hx265_0 0 (.int .i64 ((rd_T48 l0 x6_1).f0)); replace hx265_1 := cf hn265_0 hx265_1 0 (.int .i64 ((rd_T48 l0 x6_1).f0)); replace hx265_0 := cf hn265_1 hx265_0 1 (.int .i64 ((rd_T48 l0 x6_1).f1)); replace hx265_1 := cf hn265_1 hx265_1 1 (.int .i64 ((rd_T48 l0 x6_1).f1)); clear hn265_0; clear hn265_1; replace p265 := eq_true p265; replace q265 := eq_true q265) | ((with_reducible refine gate_dst (N := 8) rfl ?_); refine bx (cs := #[.int .i64 0, .int .i64 0]) (t := 48) ?_; intro gb266 hg w29 hbox hb; have z0_ := mz hb (g := gb262) (o := .cells #[.int .i64 a1_0, .int .i64 a1_1] 48 (0, 0)) (by refine bF NB262_264.out ?_; refine bF NB262_264.out ?_; exact bk BK262); have n0_ := kc z0_ hb; have z1_ := mz hb (g := gb264) (o := .cells #[.int .i64 ((rd_T48 l0 x6_1).f0), .int .i64 ((rd_T48 l0 x6_1).f1)] 48 (0, 0)) (by refine bP (cs := #[.int .i64 ((rd_T48 l0 x6_1).f0), .int .i64 0]) 1 ?_; refine bP (cs := #[.int .i64 0, .int .i64 0]) 0 ?_; exact bk BK264); have n1_ := kc z1_ hb; have n2_ := sb hb; have n3_ := Aside0.mk (hbox); have n4_ := zb hg; have n5_ := zb hg; have n6_ := nm z0_ hg; have n7_ := nn z0_ hg; have n8_ := nm z1_ hg; have n9_ := nn z1_ hg; clear BK262; clear BK264; clear HB; have BK262 := n0_; have BK264 := n1_; have HB := n2_; have BK266 := n3_; have GW266 := n4_; have GE266 := n5_; have NB262_266 := n6_; have NB266_262 := n7_; have NB264_266 := n8_; have NB266_264 := n9_; clear z0_ z1_ n0_ n1_ n2_ n3_ n4_ n5_ n6_ n7_ n8_ n9_; clear hb hbox hg; have hnb30 := NB266_262.out; have hnc30 := NB262_266.out; have hnb31 := NB266_264.out; have hnc31 := NB264_266.out; have hcz32_0 := ck BK266 0; have hcz32_1 := ck BK266 1; have hfz32_0 := blk_frozen BK266.out 0; have hfz32_1 := blk_frozen BK266.out 1; have hcz33_0 := ck BK264 0; have hcz33_1 := ck BK264 1; have hfz33_0 := blk_frozen BK264.out 0; have hfz33_1 := blk_frozen BK264.out 1; have hcz34_0 := ck BK262 0; have hcz34_1 := ck BK262 1; have hfz34_0 := blk_frozen BK262.out 0; have hfz34_1 := blk_frozen BK262.out 1) | ((with_reducible refine gate_callee (f := 79) rfl ?_); refine goesL_ (some 30) rfl rfl Try.func79 (by kernel_rfl) rfl #[.agg #[.int .i64 ((rd_T48 l0 x6_1).f0), .int .i64 ((rd_T48 l0 x6_1).f1)], .agg #[.int .i64 ((rd_T48 l0 (ji7)).f0), .int .i64 ((rd_T48 l0 (ji7)).f1)], .agg #[.int .i64 a1_0, .int .i64 a1_1]] rfl (by (try simp only [List.map_toArray, List.map_cons, List.map_nil]); first | done | (simp only [hji7]; rfl) | rfl | (simp only [List.length_drop, List.length_take]; rfl)) ?_; (with_reducible refine (spec_l02On.calls ((rd_T48 l0 x6_1).f0) ((rd_T48 l0 x6_1).f1) ((rd_T48 l0 (ji7)).f0) ((rd_T48 l0 (ji7)).f1) a1_0 a1_1 false _ A10.out).mono ?_); rintro e w35 ⟨rfl, hb⟩; refine ⟨_, rfl, ?_⟩; have n0_ := Aside0.mk (blk_below (g := gb262) (o := .cells #[.int .i64 a1_0, .int .i64 a1_1] 48 (0, 0)) (by refine bF NB262_266.out ?_; refine bF NB262_266.out ?_; exact bk BK262) hb); have n1_ := Aside0.mk (blk_below (g := gb264) (o := .cells #[.int .i64 ((rd_T48 l0 x6_1).f0), .int .i64 ((rd_T48 l0 x6_1).f1)] 48 (0, 0)) (by refine bF NB264_266.out ?_; refine bF NB264_266.out ?_; exact bk BK264) hb); have n2_ := Aside0.mk (blk_below (g := gb266) (o := .cells #[.int .i64 ((rd_T48 l0 (ji7)).f0), .int .i64 ((rd_T48 l0 (ji7)).f1)] 48 (0, 0)) (by refine bP (cs := #[.int .i64 ((rd_T48 l0 (ji7)).f0), .int .i64 0]) 1 ?_; refine bP (cs := #[.int .i64 0, .int .i64 0]) 0 ?_; exact bk BK266) hb); have n3_ := sb hb; clear BK262; clear BK264; clear BK266; clear HB; have BK262 := n0_; have BK264 := n1_; have BK266 := n2_; have HB := n3_; clear n0_ n1_ n2_ n3_; (try clear hb); (try clear hb2); (try clear hk); (try clear hi); have hcz36_0 := ck BK264 0; have hcz36_1 := ck BK264 1; have hfz36_0 := blk_frozen BK264.out 0; have hfz36_1 := blk_frozen BK264.out 1; have hcz37_0 := ck BK262 0; have hcz37_1 := ck BK262 1; have hfz37_0 := blk_frozen BK262.out 0; have hfz37_1 := blk_frozen BK262.out 1; have hcz38_0 := ck BK266 0; have hcz38_1 := ck BK266 1; have hfz38_0 := blk_frozen BK266.out 0; have hfz38_1 := blk_frozen BK266.out 1) | (go_at_call 80; (with_reducible refine (spec_l02Side.calls ((rd_T48 l0 x6_1).f0) ((rd_T48 l0 x6_1).f1) ((rd_T48 l0 (ji7)).f0) ((rd_T48 l0 (ji7)).f1) a1_0 a1_1 t268 _ A24.out).mono ?_); rintro e w39 ⟨rfl, hb⟩; have n0_ := kb BK262 hb; have n1_ := kb BK264 hb; have n2_ := kb BK266 hb; have n3_ := sb hb; clear BK262; clear BK264; clear BK266; clear HB; have BK262 := n0_; have BK264 := n1_; have BK266 := n2_; have HB := n3_; clear n0_ n1_ n2_ n3_; (try clear hb); (try clear hb2); (try clear hk); (try clear hi)))
            go_roundg k1
            case measure => have := HK1.out; omega
            case rel => exact ⟨(wrap64 (-x5_1)), (wrap64 (x6_1 + 1)), (by first | rfl | (simp; done) | (simp [*]; done)), (by first | rfl | (simp; done) | (simp [*]; done)), H', ⟨by have := HK1.out; omega⟩, ⟨by exact bk BK262⟩, ⟨by repeat (first | (with_reducible first | exact HB.out | apply below_alloc | apply pw_below_drewN | apply below_drew1 | refine below_set ?_ GE262.out | refine below_set ?_ GE264.out | refine below_set ?_ GE266.out) | exact HB.out)⟩⟩
           ·rw [if_neg c25] at H
            have c25b0 : decide (0 < t268) = false := decide_eq_false c25
            clear c25
            by_cases c40 : ((rd_T48 l0 (ji7)).f1) ≤ a1_1
            ·first | (exfalso; have z_ := of_decide_eq_true c23b0; omega) | (rw [if_pos c40] at H; exact absurd H (by simp))
            ·rw [if_neg c40] at H
             have c40b0 : decide (((rd_T48 l0 (ji7)).f1) ≤ a1_1) = false := decide_eq_false c40
             clear c40
             have H' := Aside0.mk H
             clear H
             have p263 : 0 ≤ (x6_1 : Int) := da
             have q263 : x6_1 < (l0.length : Int) := da
             obtain ⟨ad263, e263, hx263_0, hx263_1⟩ := at_T48 HR0.out x6_1 p263 q263
             cases e263
             replace hx263_0 := (HB.out.cell (bL w _ hx263_0)).trans hx263_0
             replace hx263_1 := (HB.out.cell (bL w _ hx263_1)).trans hx263_1
             replace p263 := eq_true p263
             replace q263 := eq_true q263
             go_wp2_with (first | ((with_reducible refine gate_dst (N := 7) rfl ?_); refine bx (cs := #[.int .i64 0, .int .i64 0]) (t := 48) ?_; intro gb264 hg w97 hbox hb; have n0_ := kb BK262 hb; have n1_ := sb hb; have n2_ := Aside0.mk (hbox); have n3_ := zb hg; have n4_ := zb hg; have n5_ := nl BK262 hg; have n6_ := ng BK262 hg; clear BK262; clear HB; have BK262 := n0_; have HB := n1_; have BK264 := n2_; have GW264 := n3_; have GE264 := n4_; have NB262_264 := n5_; have NB264_262 := n6_; clear n0_ n1_ n2_ n3_ n4_ n5_ n6_; clear hb hbox hg; have hnb98 := NB264_262.out; have hnc98 := NB262_264.out; have hcz99_0 := ck BK264 0; have hcz99_1 := ck BK264 1; have hfz99_0 := blk_frozen BK264.out 0; have hfz99_1 := blk_frozen BK264.out 1; have p265 : 0 ≤ ((ji7) : Int) := da; have q265 : (ji7) < (l0.length : Int) := da; obtain ⟨ad265, e265, hx265_0, hx265_1⟩ := at_T48 HR0.out (ji7) p265 q265; obtain rfl : ad263 = ad265 := (by injection e265); have hn265_0 : ad263.block ≠ gb264 := nw hx265_0 GW264; have hn265_1 : ad263.block ≠ gb264 := nw hx265_0 GW264; replace hx265_0 := (HB.out.cell (bL w _ hx265_0)).trans hx265_0; replace hx265_1 := (HB.out.cell (bL w _ hx265_1)).trans hx265_1; replace hx265_0 := cf hn265_0 hx265_0 0 (.int .i64 ((rd_T48 l0 x6_1).f0)); replace hx265_1 := cf hn265_0 hx265_1 0 (.int .i64 ((rd_T48 l0 x6_1).f0)); replace hx265_0 := cf hn265_1 hx265_0 1 (.int .i64 ((rd_T48 l0 x6_1).f1)); replace hx265_1 := cf hn265_1 hx265_1 1 (.int .i64 ((rd_T48 l0 x6_1).f1)); clear hn265_0; clear hn265_1; replace p265 := eq_true p265; replace q265 := eq_true q265) | ((with_reducible refine gate_dst (N := 8) rfl ?_); refine bx (cs := #[.int .i64 0, .int .i64 0]) (t := 48) ?_; intro gb266 hg w100 hbox hb; have z0_ := mz hb (g := gb262) (o := .cells #[.int .i64 a1_0, .int .i64 a1_1] 48 (0, 0)) (by refine bF NB262_264.out ?_; refine bF NB262_264.out ?_; exact bk BK262); have n0_ := kc z0_ hb; have z1_ := mz hb (g := gb264) (o := .cells #[.int .i64 ((rd_T48 l0 x6_1).f0), .int .i64 ((rd_T48 l0 x6_1).f1)] 48 (0, 0)) (by refine bP (cs := #[.int .i64 ((rd_T48 l0 x6_1).f0), .int .i64 0]) 1 ?_; refine bP (cs := #[.int .i64 0, .int .i64 0]) 0 ?_; exact bk BK264); have n1_ := kc z1_ hb; have n2_ := sb hb; have n3_ := Aside0.mk (hbox); have n4_ := zb hg; have n5_ := zb hg; have n6_ := nm z0_ hg; have n7_ := nn z0_ hg; have n8_ := nm z1_ hg; have n9_ := nn z1_ hg; clear BK262; clear BK264; clear HB; have BK262 := n0_; have BK264 := n1_; have HB := n2_; have BK266 := n3_; have GW266 := n4_; have GE266 := n5_; have NB262_266 := n6_; have NB266_262 := n7_; have NB264_266 := n8_; have NB266_264 := n9_; clear z0_ z1_ n0_ n1_ n2_ n3_ n4_ n5_ n6_ n7_ n8_ n9_; clear hb hbox hg; have hnb101 := NB266_262.out; have hnc101 := NB262_266.out; have hnb102 := NB266_264.out; have hnc102 := NB264_266.out; have hcz103_0 := ck BK266 0; have hcz103_1 := ck BK266 1; have hfz103_0 := blk_frozen BK266.out 0; have hfz103_1 := blk_frozen BK266.out 1; have hcz104_0 := ck BK264 0; have hcz104_1 := ck BK264 1; have hfz104_0 := blk_frozen BK264.out 0; have hfz104_1 := blk_frozen BK264.out 1; have hcz105_0 := ck BK262 0; have hcz105_1 := ck BK262 1; have hfz105_0 := blk_frozen BK262.out 0; have hfz105_1 := blk_frozen BK262.out 1) | ((with_reducible refine gate_callee (f := 79) rfl ?_); refine goesL_ (some 30) rfl rfl Try.func79 (by kernel_rfl) rfl #[.agg #[.int .i64 ((rd_T48 l0 x6_1).f0), .int .i64 ((rd_T48 l0 x6_1).f1)], .agg #[.int .i64 ((rd_T48 l0 (ji7)).f0), .int .i64 ((rd_T48 l0 (ji7)).f1)], .agg #[.int .i64 a1_0, .int .i64 a1_1]] rfl (by (try simp only [List.map_toArray, List.map_cons, List.map_nil]); first | done | (simp only [hji7]; rfl) | rfl | (simp only [List.length_drop, List.length_take]; rfl)) ?_; (with_reducible refine (spec_l02On.calls ((rd_T48 l0 x6_1).f0) ((rd_T48 l0 x6_1).f1) ((rd_T48 l0 (ji7)).f0) ((rd_T48 l0 (ji7)).f1) a1_0 a1_1 false _ A10.out).mono ?_); rintro e w106 ⟨rfl, hb⟩; refine ⟨_, rfl, ?_⟩; have n0_ := Aside0.mk (blk_below (g := gb262) (o := .cells #[.int .i64 a1_0, .int .i64 a1_1] 48 (0, 0)) (by refine bF NB262_266.out ?_; refine bF NB262_266.out ?_; exact bk BK262) hb); have n1_ := Aside0.mk (blk_below (g := gb264) (o := .cells #[.int .i64 ((rd_T48 l0 x6_1).f0), .int .i64 ((rd_T48 l0 x6_1).f1)] 48 (0, 0)) (by refine bF NB264_266.out ?_; refine bF NB264_266.out ?_; exact bk BK264) hb); have n2_ := Aside0.mk (blk_below (g := gb266) (o := .cells #[.int .i64 ((rd_T48 l0 (ji7)).f0), .int .i64 ((rd_T48 l0 (ji7)).f1)] 48 (0, 0)) (by refine bP (cs := #[.int .i64 ((rd_T48 l0 (ji7)).f0), .int .i64 0]) 1 ?_; refine bP (cs := #[.int .i64 0, .int .i64 0]) 0 ?_; exact bk BK266) hb); have n3_ := sb hb; clear BK262; clear BK264; clear BK266; clear HB; have BK262 := n0_; have BK264 := n1_; have BK266 := n2_; have HB := n3_; clear n0_ n1_ n2_ n3_; (try clear hb); (try clear hb2); (try clear hk); (try clear hi); have hcz107_0 := ck BK264 0; have hcz107_1 := ck BK264 1; have hfz107_0 := blk_frozen BK264.out 0; have hfz107_1 := blk_frozen BK264.out 1; have hcz108_0 := ck BK262 0; have hcz108_1 := ck BK262 1; have hfz108_0 := blk_frozen BK262.out 0; have hfz108_1 := blk_frozen BK262.out 1; have hcz109_0 := ck BK266 0; have hcz109_1 := ck BK266 1; have hfz109_0 := blk_frozen BK266.out 0; have hfz109_1 := blk_frozen BK266.out 1) | (go_at_call 80; (with_reducible refine (spec_l02Side.calls ((rd_T48 l0 x6_1).f0) ((rd_T48 l0 x6_1).f1) ((rd_T48 l0 (ji7)).f0) ((rd_T48 l0 (ji7)).f1) a1_0 a1_1 t268 _ A24.out).mono ?_); rintro e w110 ⟨rfl, hb⟩; have n0_ := kb BK262 hb; have n1_ := kb BK264 hb; have n2_ := kb BK266 hb; have n3_ := sb hb; clear BK262; clear BK264; clear BK266; clear HB; have BK262 := n0_; have BK264 := n1_; have BK266 := n2_; have HB := n3_; clear n0_ n1_ n2_ n3_; (try clear hb); (try clear hb2); (try clear hk); (try clear hi); have hcz111_0 := ck BK266 0; have hcz111_1 := ck BK266 1; have hfz111_0 := blk_frozen BK266.out 0; have hfz111_1 := blk_frozen BK266.out 1; have hcz112_0 := ck BK262 0; have hcz112_1 := ck BK262 1; have hfz112_0 := blk_frozen BK262.out 0; have hfz112_1 := blk_frozen BK262.out 1))
             go_roundg k1
             case measure => have := HK1.out; omega
             case rel => exact ⟨(x5_1), (wrap64 (x6_1 + 1)), (by first | rfl | (simp; done) | (simp [*]; done)), (by first | rfl | (simp; done) | (simp [*]; done)), H', ⟨by have := HK1.out; omega⟩, ⟨by exact bk BK262⟩, ⟨by repeat (first | (with_reducible first | exact HB.out | apply below_alloc | apply pw_below_drewN | apply below_drew1 | refine below_set ?_ GE262.out | refine below_set ?_ GE264.out | refine below_set ?_ GE266.out) | exact HB.out)⟩⟩
          ·rw [if_neg c23] at H
           have c23b0 : decide (a1_1 < ((rd_T48 l0 (ji7)).f1)) = false := decide_eq_false c23
           clear c23
           by_cases c113 : ((rd_T48 l0 (ji7)).f1) ≤ a1_1
           ·rw [if_pos c113] at H
            have c113b0 : decide (((rd_T48 l0 (ji7)).f1) ≤ a1_1) = true := decide_eq_true c113
            clear c113
            by_cases c114 : ((rd_T48 l0 x6_1).f1) > a1_1
            ·first | (exfalso; have z_ := of_decide_eq_true c22b0; omega) | (rw [if_pos c114] at H; exact absurd H (by simp))
            ·rw [if_neg c114] at H
             have c114b0 : decide (a1_1 < ((rd_T48 l0 x6_1).f1)) = false := decide_eq_false c114
             clear c114
             have H' := Aside0.mk H
             clear H
             have p263 : 0 ≤ (x6_1 : Int) := da
             have q263 : x6_1 < (l0.length : Int) := da
             obtain ⟨ad263, e263, hx263_0, hx263_1⟩ := at_T48 HR0.out x6_1 p263 q263
             cases e263
             replace hx263_0 := (HB.out.cell (bL w _ hx263_0)).trans hx263_0
             replace hx263_1 := (HB.out.cell (bL w _ hx263_1)).trans hx263_1
             replace p263 := eq_true p263
             replace q263 := eq_true q263
             go_wp2_with (first | ((with_reducible refine gate_dst (N := 7) rfl ?_); refine bx (cs := #[.int .i64 0, .int .i64 0]) (t := 48) ?_; intro gb264 hg w145 hbox hb; have n0_ := kb BK262 hb; have n1_ := sb hb; have n2_ := Aside0.mk (hbox); have n3_ := zb hg; have n4_ := zb hg; have n5_ := nl BK262 hg; have n6_ := ng BK262 hg; clear BK262; clear HB; have BK262 := n0_; have HB := n1_; have BK264 := n2_; have GW264 := n3_; have GE264 := n4_; have NB262_264 := n5_; have NB264_262 := n6_; clear n0_ n1_ n2_ n3_ n4_ n5_ n6_; clear hb hbox hg; have hnb146 := NB264_262.out; have hnc146 := NB262_264.out; have hcz147_0 := ck BK264 0; have hcz147_1 := ck BK264 1; have hfz147_0 := blk_frozen BK264.out 0; have hfz147_1 := blk_frozen BK264.out 1; have p265 : 0 ≤ ((ji7) : Int) := da; have q265 : (ji7) < (l0.length : Int) := da; obtain ⟨ad265, e265, hx265_0, hx265_1⟩ := at_T48 HR0.out (ji7) p265 q265; obtain rfl : ad263 = ad265 := (by injection e265); have hn265_0 : ad263.block ≠ gb264 := nw hx265_0 GW264; have hn265_1 : ad263.block ≠ gb264 := nw hx265_0 GW264; replace hx265_0 := (HB.out.cell (bL w _ hx265_0)).trans hx265_0; replace hx265_1 := (HB.out.cell (bL w _ hx265_1)).trans hx265_1; replace hx265_0 := cf hn265_0 hx265_0 0 (.int .i64 ((rd_T48 l0 x6_1).f0)); replace hx265_1 := cf hn265_0 hx265_1 0 (.int .i64 ((rd_T48 l0 x6_1).f0)); replace hx265_0 := cf hn265_1 hx265_0 1 (.int .i64 ((rd_T48 l0 x6_1).f1)); replace hx265_1 := cf hn265_1 hx265_1 1 (.int .i64 ((rd_T48 l0 x6_1).f1)); clear hn265_0; clear hn265_1; replace p265 := eq_true p265; replace q265 := eq_true q265) | ((with_reducible refine gate_dst (N := 8) rfl ?_); refine bx (cs := #[.int .i64 0, .int .i64 0]) (t := 48) ?_; intro gb266 hg w148 hbox hb; have z0_ := mz hb (g := gb262) (o := .cells #[.int .i64 a1_0, .int .i64 a1_1] 48 (0, 0)) (by refine bF NB262_264.out ?_; refine bF NB262_264.out ?_; exact bk BK262); have n0_ := kc z0_ hb; have z1_ := mz hb (g := gb264) (o := .cells #[.int .i64 ((rd_T48 l0 x6_1).f0), .int .i64 ((rd_T48 l0 x6_1).f1)] 48 (0, 0)) (by refine bP (cs := #[.int .i64 ((rd_T48 l0 x6_1).f0), .int .i64 0]) 1 ?_; refine bP (cs := #[.int .i64 0, .int .i64 0]) 0 ?_; exact bk BK264); have n1_ := kc z1_ hb; have n2_ := sb hb; have n3_ := Aside0.mk (hbox); have n4_ := zb hg; have n5_ := zb hg; have n6_ := nm z0_ hg; have n7_ := nn z0_ hg; have n8_ := nm z1_ hg; have n9_ := nn z1_ hg; clear BK262; clear BK264; clear HB; have BK262 := n0_; have BK264 := n1_; have HB := n2_; have BK266 := n3_; have GW266 := n4_; have GE266 := n5_; have NB262_266 := n6_; have NB266_262 := n7_; have NB264_266 := n8_; have NB266_264 := n9_; clear z0_ z1_ n0_ n1_ n2_ n3_ n4_ n5_ n6_ n7_ n8_ n9_; clear hb hbox hg; have hnb149 := NB266_262.out; have hnc149 := NB262_266.out; have hnb150 := NB266_264.out; have hnc150 := NB264_266.out; have hcz151_0 := ck BK266 0; have hcz151_1 := ck BK266 1; have hfz151_0 := blk_frozen BK266.out 0; have hfz151_1 := blk_frozen BK266.out 1; have hcz152_0 := ck BK264 0; have hcz152_1 := ck BK264 1; have hfz152_0 := blk_frozen BK264.out 0; have hfz152_1 := blk_frozen BK264.out 1; have hcz153_0 := ck BK262 0; have hcz153_1 := ck BK262 1; have hfz153_0 := blk_frozen BK262.out 0; have hfz153_1 := blk_frozen BK262.out 1) | ((with_reducible refine gate_callee (f := 79) rfl ?_); refine goesL_ (some 30) rfl rfl Try.func79 (by kernel_rfl) rfl #[.agg #[.int .i64 ((rd_T48 l0 x6_1).f0), .int .i64 ((rd_T48 l0 x6_1).f1)], .agg #[.int .i64 ((rd_T48 l0 (ji7)).f0), .int .i64 ((rd_T48 l0 (ji7)).f1)], .agg #[.int .i64 a1_0, .int .i64 a1_1]] rfl (by (try simp only [List.map_toArray, List.map_cons, List.map_nil]); first | done | (simp only [hji7]; rfl) | rfl | (simp only [List.length_drop, List.length_take]; rfl)) ?_; (with_reducible refine (spec_l02On.calls ((rd_T48 l0 x6_1).f0) ((rd_T48 l0 x6_1).f1) ((rd_T48 l0 (ji7)).f0) ((rd_T48 l0 (ji7)).f1) a1_0 a1_1 false _ A10.out).mono ?_); rintro e w154 ⟨rfl, hb⟩; refine ⟨_, rfl, ?_⟩; have n0_ := Aside0.mk (blk_below (g := gb262) (o := .cells #[.int .i64 a1_0, .int .i64 a1_1] 48 (0, 0)) (by refine bF NB262_266.out ?_; refine bF NB262_266.out ?_; exact bk BK262) hb); have n1_ := Aside0.mk (blk_below (g := gb264) (o := .cells #[.int .i64 ((rd_T48 l0 x6_1).f0), .int .i64 ((rd_T48 l0 x6_1).f1)] 48 (0, 0)) (by refine bF NB264_266.out ?_; refine bF NB264_266.out ?_; exact bk BK264) hb); have n2_ := Aside0.mk (blk_below (g := gb266) (o := .cells #[.int .i64 ((rd_T48 l0 (ji7)).f0), .int .i64 ((rd_T48 l0 (ji7)).f1)] 48 (0, 0)) (by refine bP (cs := #[.int .i64 ((rd_T48 l0 (ji7)).f0), .int .i64 0]) 1 ?_; refine bP (cs := #[.int .i64 0, .int .i64 0]) 0 ?_; exact bk BK266) hb); have n3_ := sb hb; clear BK262; clear BK264; clear BK266; clear HB; have BK262 := n0_; have BK264 := n1_; have BK266 := n2_; have HB := n3_; clear n0_ n1_ n2_ n3_; (try clear hb); (try clear hb2); (try clear hk); (try clear hi); have hcz155_0 := ck BK264 0; have hcz155_1 := ck BK264 1; have hfz155_0 := blk_frozen BK264.out 0; have hfz155_1 := blk_frozen BK264.out 1; have hcz156_0 := ck BK262 0; have hcz156_1 := ck BK262 1; have hfz156_0 := blk_frozen BK262.out 0; have hfz156_1 := blk_frozen BK262.out 1; have hcz157_0 := ck BK266 0; have hcz157_1 := ck BK266 1; have hfz157_0 := blk_frozen BK266.out 0; have hfz157_1 := blk_frozen BK266.out 1))
             go_roundg k1
             case measure => have := HK1.out; omega
             case rel => exact ⟨(x5_1), (wrap64 (x6_1 + 1)), (by first | rfl | (simp; done) | (simp [*]; done)), (by first | rfl | (simp; done) | (simp [*]; done)), H', ⟨by have := HK1.out; omega⟩, ⟨by exact bk BK262⟩, ⟨by repeat (first | (with_reducible first | exact HB.out | apply below_alloc | apply pw_below_drewN | apply below_drew1 | refine below_set ?_ GE262.out | refine below_set ?_ GE264.out | refine below_set ?_ GE266.out) | exact HB.out)⟩⟩
           ·first | (exfalso; have z_ := of_decide_eq_false c23b0; omega) | (rw [if_neg c113] at H; exact absurd H (by simp))
         ·rw [if_neg c22] at H
          have c22b0 : decide (((rd_T48 l0 x6_1).f1) ≤ a1_1) = false := decide_eq_false c22
          clear c22
          by_cases c171 : ((rd_T48 l0 (ji7)).f1) ≤ a1_1
          ·rw [if_pos c171] at H
           have c171b0 : decide (((rd_T48 l0 (ji7)).f1) ≤ a1_1) = true := decide_eq_true c171
           clear c171
           by_cases c172 : ((rd_T48 l0 x6_1).f1) > a1_1
           ·rw [if_pos c172] at H
            have c172b0 : decide (a1_1 < ((rd_T48 l0 x6_1).f1)) = true := decide_eq_true c172
            clear c172
            replace H := Option.bind_eq_some_iff.mp H
            obtain ⟨t271, A1730, H⟩ := H
            replace H : (if t271 < 0 then (spec_l03Inside.l0 k1 l0 (wrap64 (-x5_1)) (wrap64 (x6_1 + 1)) a1_0 a1_1) else (spec_l03Inside.l0 k1 l0 x5_1 (wrap64 (x6_1 + 1)) a1_0 a1_1)) = some r := H
            have A173 := Aside0.mk A1730
            clear A1730
            by_cases c174 : t271 < 0
            ·rw [if_pos c174] at H
             have c174b0 : decide (t271 < 0) = true := decide_eq_true c174
             clear c174
             have H' := Aside0.mk H
             clear H
             have p263 : 0 ≤ (x6_1 : Int) := da
             have q263 : x6_1 < (l0.length : Int) := da
             obtain ⟨ad263, e263, hx263_0, hx263_1⟩ := at_T48 HR0.out x6_1 p263 q263
             cases e263
             replace hx263_0 := (HB.out.cell (bL w _ hx263_0)).trans hx263_0
             replace hx263_1 := (HB.out.cell (bL w _ hx263_1)).trans hx263_1
             replace p263 := eq_true p263
             replace q263 := eq_true q263
             go_wp2_with (first | ((with_reducible refine gate_dst (N := 7) rfl ?_); refine bx (cs := #[.int .i64 0, .int .i64 0]) (t := 48) ?_; intro gb264 hg w175 hbox hb; have n0_ := kb BK262 hb; have n1_ := sb hb; have n2_ := Aside0.mk (hbox); have n3_ := zb hg; have n4_ := zb hg; have n5_ := nl BK262 hg; have n6_ := ng BK262 hg; clear BK262; clear HB; have BK262 := n0_; have HB := n1_; have BK264 := n2_; have GW264 := n3_; have GE264 := n4_; have NB262_264 := n5_; have NB264_262 := n6_; clear n0_ n1_ n2_ n3_ n4_ n5_ n6_; clear hb hbox hg; have hnb176 := NB264_262.out; have hnc176 := NB262_264.out; have hcz177_0 := ck BK264 0; have hcz177_1 := ck BK264 1; have hfz177_0 := blk_frozen BK264.out 0; have hfz177_1 := blk_frozen BK264.out 1; have p265 : 0 ≤ ((ji7) : Int) := da; have q265 : (ji7) < (l0.length : Int) := da; obtain ⟨ad265, e265, hx265_0, hx265_1⟩ := at_T48 HR0.out (ji7) p265 q265; obtain rfl : ad263 = ad265 := (by injection e265); have hn265_0 : ad263.block ≠ gb264 := nw hx265_0 GW264; have hn265_1 : ad263.block ≠ gb264 := nw hx265_0 GW264; replace hx265_0 := (HB.out.cell (bL w _ hx265_0)).trans hx265_0; replace hx265_1 := (HB.out.cell (bL w _ hx265_1)).trans hx265_1; replace hx265_0 := cf hn265_0 hx265_0 0 (.int .i64 ((rd_T48 l0 x6_1).f0)); replace hx265_1 := cf hn265_0 hx265_1 0 (.int .i64 ((rd_T48 l0 x6_1).f0)); replace hx265_0 := cf hn265_1 hx265_0 1 (.int .i64 ((rd_T48 l0 x6_1).f1)); replace hx265_1 := cf hn265_1 hx265_1 1 (.int .i64 ((rd_T48 l0 x6_1).f1)); clear hn265_0; clear hn265_1; replace p265 := eq_true p265; replace q265 := eq_true q265) | ((with_reducible refine gate_dst (N := 8) rfl ?_); refine bx (cs := #[.int .i64 0, .int .i64 0]) (t := 48) ?_; intro gb266 hg w178 hbox hb; have z0_ := mz hb (g := gb262) (o := .cells #[.int .i64 a1_0, .int .i64 a1_1] 48 (0, 0)) (by refine bF NB262_264.out ?_; refine bF NB262_264.out ?_; exact bk BK262); have n0_ := kc z0_ hb; have z1_ := mz hb (g := gb264) (o := .cells #[.int .i64 ((rd_T48 l0 x6_1).f0), .int .i64 ((rd_T48 l0 x6_1).f1)] 48 (0, 0)) (by refine bP (cs := #[.int .i64 ((rd_T48 l0 x6_1).f0), .int .i64 0]) 1 ?_; refine bP (cs := #[.int .i64 0, .int .i64 0]) 0 ?_; exact bk BK264); have n1_ := kc z1_ hb; have n2_ := sb hb; have n3_ := Aside0.mk (hbox); have n4_ := zb hg; have n5_ := zb hg; have n6_ := nm z0_ hg; have n7_ := nn z0_ hg; have n8_ := nm z1_ hg; have n9_ := nn z1_ hg; clear BK262; clear BK264; clear HB; have BK262 := n0_; have BK264 := n1_; have HB := n2_; have BK266 := n3_; have GW266 := n4_; have GE266 := n5_; have NB262_266 := n6_; have NB266_262 := n7_; have NB264_266 := n8_; have NB266_264 := n9_; clear z0_ z1_ n0_ n1_ n2_ n3_ n4_ n5_ n6_ n7_ n8_ n9_; clear hb hbox hg; have hnb179 := NB266_262.out; have hnc179 := NB262_266.out; have hnb180 := NB266_264.out; have hnc180 := NB264_266.out; have hcz181_0 := ck BK266 0; have hcz181_1 := ck BK266 1; have hfz181_0 := blk_frozen BK266.out 0; have hfz181_1 := blk_frozen BK266.out 1; have hcz182_0 := ck BK264 0; have hcz182_1 := ck BK264 1; have hfz182_0 := blk_frozen BK264.out 0; have hfz182_1 := blk_frozen BK264.out 1; have hcz183_0 := ck BK262 0; have hcz183_1 := ck BK262 1; have hfz183_0 := blk_frozen BK262.out 0; have hfz183_1 := blk_frozen BK262.out 1) | ((with_reducible refine gate_callee (f := 79) rfl ?_); refine goesL_ (some 30) rfl rfl Try.func79 (by kernel_rfl) rfl #[.agg #[.int .i64 ((rd_T48 l0 x6_1).f0), .int .i64 ((rd_T48 l0 x6_1).f1)], .agg #[.int .i64 ((rd_T48 l0 (ji7)).f0), .int .i64 ((rd_T48 l0 (ji7)).f1)], .agg #[.int .i64 a1_0, .int .i64 a1_1]] rfl (by (try simp only [List.map_toArray, List.map_cons, List.map_nil]); first | done | (simp only [hji7]; rfl) | rfl | (simp only [List.length_drop, List.length_take]; rfl)) ?_; (with_reducible refine (spec_l02On.calls ((rd_T48 l0 x6_1).f0) ((rd_T48 l0 x6_1).f1) ((rd_T48 l0 (ji7)).f0) ((rd_T48 l0 (ji7)).f1) a1_0 a1_1 false _ A10.out).mono ?_); rintro e w184 ⟨rfl, hb⟩; refine ⟨_, rfl, ?_⟩; have n0_ := Aside0.mk (blk_below (g := gb262) (o := .cells #[.int .i64 a1_0, .int .i64 a1_1] 48 (0, 0)) (by refine bF NB262_266.out ?_; refine bF NB262_266.out ?_; exact bk BK262) hb); have n1_ := Aside0.mk (blk_below (g := gb264) (o := .cells #[.int .i64 ((rd_T48 l0 x6_1).f0), .int .i64 ((rd_T48 l0 x6_1).f1)] 48 (0, 0)) (by refine bF NB264_266.out ?_; refine bF NB264_266.out ?_; exact bk BK264) hb); have n2_ := Aside0.mk (blk_below (g := gb266) (o := .cells #[.int .i64 ((rd_T48 l0 (ji7)).f0), .int .i64 ((rd_T48 l0 (ji7)).f1)] 48 (0, 0)) (by refine bP (cs := #[.int .i64 ((rd_T48 l0 (ji7)).f0), .int .i64 0]) 1 ?_; refine bP (cs := #[.int .i64 0, .int .i64 0]) 0 ?_; exact bk BK266) hb); have n3_ := sb hb; clear BK262; clear BK264; clear BK266; clear HB; have BK262 := n0_; have BK264 := n1_; have BK266 := n2_; have HB := n3_; clear n0_ n1_ n2_ n3_; (try clear hb); (try clear hb2); (try clear hk); (try clear hi); have hcz185_0 := ck BK264 0; have hcz185_1 := ck BK264 1; have hfz185_0 := blk_frozen BK264.out 0; have hfz185_1 := blk_frozen BK264.out 1; have hcz186_0 := ck BK262 0; have hcz186_1 := ck BK262 1; have hfz186_0 := blk_frozen BK262.out 0; have hfz186_1 := blk_frozen BK262.out 1; have hcz187_0 := ck BK266 0; have hcz187_1 := ck BK266 1; have hfz187_0 := blk_frozen BK266.out 0; have hfz187_1 := blk_frozen BK266.out 1) | (go_at_call 80; (with_reducible refine (spec_l02Side.calls ((rd_T48 l0 x6_1).f0) ((rd_T48 l0 x6_1).f1) ((rd_T48 l0 (ji7)).f0) ((rd_T48 l0 (ji7)).f1) a1_0 a1_1 t271 _ A173.out).mono ?_); rintro e w188 ⟨rfl, hb⟩; have n0_ := kb BK262 hb; have n1_ := kb BK264 hb; have n2_ := kb BK266 hb; have n3_ := sb hb; clear BK262; clear BK264; clear BK266; clear HB; have BK262 := n0_; have BK264 := n1_; have BK266 := n2_; have HB := n3_; clear n0_ n1_ n2_ n3_; (try clear hb); (try clear hb2); (try clear hk); (try clear hi)))
             go_roundg k1
             case measure => have := HK1.out; omega
             case rel => exact ⟨(wrap64 (-x5_1)), (wrap64 (x6_1 + 1)), (by first | rfl | (simp; done) | (simp [*]; done)), (by first | rfl | (simp; done) | (simp [*]; done)), H', ⟨by have := HK1.out; omega⟩, ⟨by exact bk BK262⟩, ⟨by repeat (first | (with_reducible first | exact HB.out | apply below_alloc | apply pw_below_drewN | apply below_drew1 | refine below_set ?_ GE262.out | refine below_set ?_ GE264.out | refine below_set ?_ GE266.out) | exact HB.out)⟩⟩
            ·rw [if_neg c174] at H
             have c174b0 : decide (t271 < 0) = false := decide_eq_false c174
             clear c174
             have H' := Aside0.mk H
             clear H
             have p263 : 0 ≤ (x6_1 : Int) := da
             have q263 : x6_1 < (l0.length : Int) := da
             obtain ⟨ad263, e263, hx263_0, hx263_1⟩ := at_T48 HR0.out x6_1 p263 q263
             cases e263
             replace hx263_0 := (HB.out.cell (bL w _ hx263_0)).trans hx263_0
             replace hx263_1 := (HB.out.cell (bL w _ hx263_1)).trans hx263_1
             replace p263 := eq_true p263
             replace q263 := eq_true q263
             go_wp2_with (first | ((with_reducible refine gate_dst (N := 7) rfl ?_); refine bx (cs := #[.int .i64 0, .int .i64 0]) (t := 48) ?_; intro gb264 hg w189 hbox hb; have n0_ := kb BK262 hb; have n1_ := sb hb; have n2_ := Aside0.mk (hbox); have n3_ := zb hg; have n4_ := zb hg; have n5_ := nl BK262 hg; have n6_ := ng BK262 hg; clear BK262; clear HB; have BK262 := n0_; have HB := n1_; have BK264 := n2_; have GW264 := n3_; have GE264 := n4_; have NB262_264 := n5_; have NB264_262 := n6_; clear n0_ n1_ n2_ n3_ n4_ n5_ n6_; clear hb hbox hg; have hnb190 := NB264_262.out; have hnc190 := NB262_264.out; have hcz191_0 := ck BK264 0; have hcz191_1 := ck BK264 1; have hfz191_0 := blk_frozen BK264.out 0; have hfz191_1 := blk_frozen BK264.out 1; have p265 : 0 ≤ ((ji7) : Int) := da; have q265 : (ji7) < (l0.length : Int) := da; obtain ⟨ad265, e265, hx265_0, hx265_1⟩ := at_T48 HR0.out (ji7) p265 q265; obtain rfl : ad263 = ad265 := (by injection e265); have hn265_0 : ad263.block ≠ gb264 := nw hx265_0 GW264; have hn265_1 : ad263.block ≠ gb264 := nw hx265_0 GW264; replace hx265_0 := (HB.out.cell (bL w _ hx265_0)).trans hx265_0; replace hx265_1 := (HB.out.cell (bL w _ hx265_1)).trans hx265_1; replace hx265_0 := cf hn265_0 hx265_0 0 (.int .i64 ((rd_T48 l0 x6_1).f0)); replace hx265_1 := cf hn265_0 hx265_1 0 (.int .i64 ((rd_T48 l0 x6_1).f0)); replace hx265_0 := cf hn265_1 hx265_0 1 (.int .i64 ((rd_T48 l0 x6_1).f1)); replace hx265_1 := cf hn265_1 hx265_1 1 (.int .i64 ((rd_T48 l0 x6_1).f1)); clear hn265_0; clear hn265_1; replace p265 := eq_true p265; replace q265 := eq_true q265) | ((with_reducible refine gate_dst (N := 8) rfl ?_); refine bx (cs := #[.int .i64 0, .int .i64 0]) (t := 48) ?_; intro gb266 hg w192 hbox hb; have z0_ := mz hb (g := gb262) (o := .cells #[.int .i64 a1_0, .int .i64 a1_1] 48 (0, 0)) (by refine bF NB262_264.out ?_; refine bF NB262_264.out ?_; exact bk BK262); have n0_ := kc z0_ hb; have z1_ := mz hb (g := gb264) (o := .cells #[.int .i64 ((rd_T48 l0 x6_1).f0), .int .i64 ((rd_T48 l0 x6_1).f1)] 48 (0, 0)) (by refine bP (cs := #[.int .i64 ((rd_T48 l0 x6_1).f0), .int .i64 0]) 1 ?_; refine bP (cs := #[.int .i64 0, .int .i64 0]) 0 ?_; exact bk BK264); have n1_ := kc z1_ hb; have n2_ := sb hb; have n3_ := Aside0.mk (hbox); have n4_ := zb hg; have n5_ := zb hg; have n6_ := nm z0_ hg; have n7_ := nn z0_ hg; have n8_ := nm z1_ hg; have n9_ := nn z1_ hg; clear BK262; clear BK264; clear HB; have BK262 := n0_; have BK264 := n1_; have HB := n2_; have BK266 := n3_; have GW266 := n4_; have GE266 := n5_; have NB262_266 := n6_; have NB266_262 := n7_; have NB264_266 := n8_; have NB266_264 := n9_; clear z0_ z1_ n0_ n1_ n2_ n3_ n4_ n5_ n6_ n7_ n8_ n9_; clear hb hbox hg; have hnb193 := NB266_262.out; have hnc193 := NB262_266.out; have hnb194 := NB266_264.out; have hnc194 := NB264_266.out; have hcz195_0 := ck BK266 0; have hcz195_1 := ck BK266 1; have hfz195_0 := blk_frozen BK266.out 0; have hfz195_1 := blk_frozen BK266.out 1; have hcz196_0 := ck BK264 0; have hcz196_1 := ck BK264 1; have hfz196_0 := blk_frozen BK264.out 0; have hfz196_1 := blk_frozen BK264.out 1; have hcz197_0 := ck BK262 0; have hcz197_1 := ck BK262 1; have hfz197_0 := blk_frozen BK262.out 0; have hfz197_1 := blk_frozen BK262.out 1) | ((with_reducible refine gate_callee (f := 79) rfl ?_); refine goesL_ (some 30) rfl rfl Try.func79 (by kernel_rfl) rfl #[.agg #[.int .i64 ((rd_T48 l0 x6_1).f0), .int .i64 ((rd_T48 l0 x6_1).f1)], .agg #[.int .i64 ((rd_T48 l0 (ji7)).f0), .int .i64 ((rd_T48 l0 (ji7)).f1)], .agg #[.int .i64 a1_0, .int .i64 a1_1]] rfl (by (try simp only [List.map_toArray, List.map_cons, List.map_nil]); first | done | (simp only [hji7]; rfl) | rfl | (simp only [List.length_drop, List.length_take]; rfl)) ?_; (with_reducible refine (spec_l02On.calls ((rd_T48 l0 x6_1).f0) ((rd_T48 l0 x6_1).f1) ((rd_T48 l0 (ji7)).f0) ((rd_T48 l0 (ji7)).f1) a1_0 a1_1 false _ A10.out).mono ?_); rintro e w198 ⟨rfl, hb⟩; refine ⟨_, rfl, ?_⟩; have n0_ := Aside0.mk (blk_below (g := gb262) (o := .cells #[.int .i64 a1_0, .int .i64 a1_1] 48 (0, 0)) (by refine bF NB262_266.out ?_; refine bF NB262_266.out ?_; exact bk BK262) hb); have n1_ := Aside0.mk (blk_below (g := gb264) (o := .cells #[.int .i64 ((rd_T48 l0 x6_1).f0), .int .i64 ((rd_T48 l0 x6_1).f1)] 48 (0, 0)) (by refine bF NB264_266.out ?_; refine bF NB264_266.out ?_; exact bk BK264) hb); have n2_ := Aside0.mk (blk_below (g := gb266) (o := .cells #[.int .i64 ((rd_T48 l0 (ji7)).f0), .int .i64 ((rd_T48 l0 (ji7)).f1)] 48 (0, 0)) (by refine bP (cs := #[.int .i64 ((rd_T48 l0 (ji7)).f0), .int .i64 0]) 1 ?_; refine bP (cs := #[.int .i64 0, .int .i64 0]) 0 ?_; exact bk BK266) hb); have n3_ := sb hb; clear BK262; clear BK264; clear BK266; clear HB; have BK262 := n0_; have BK264 := n1_; have BK266 := n2_; have HB := n3_; clear n0_ n1_ n2_ n3_; (try clear hb); (try clear hb2); (try clear hk); (try clear hi); have hcz199_0 := ck BK264 0; have hcz199_1 := ck BK264 1; have hfz199_0 := blk_frozen BK264.out 0; have hfz199_1 := blk_frozen BK264.out 1; have hcz200_0 := ck BK262 0; have hcz200_1 := ck BK262 1; have hfz200_0 := blk_frozen BK262.out 0; have hfz200_1 := blk_frozen BK262.out 1; have hcz201_0 := ck BK266 0; have hcz201_1 := ck BK266 1; have hfz201_0 := blk_frozen BK266.out 0; have hfz201_1 := blk_frozen BK266.out 1) | (go_at_call 80; (with_reducible refine (spec_l02Side.calls ((rd_T48 l0 x6_1).f0) ((rd_T48 l0 x6_1).f1) ((rd_T48 l0 (ji7)).f0) ((rd_T48 l0 (ji7)).f1) a1_0 a1_1 t271 _ A173.out).mono ?_); rintro e w202 ⟨rfl, hb⟩; have n0_ := kb BK262 hb; have n1_ := kb BK264 hb; have n2_ := kb BK266 hb; have n3_ := sb hb; clear BK262; clear BK264; clear BK266; clear HB; have BK262 := n0_; have BK264 := n1_; have BK266 := n2_; have HB := n3_; clear n0_ n1_ n2_ n3_; (try clear hb); (try clear hb2); (try clear hk); (try clear hi)))
             go_roundg k1
             case measure => have := HK1.out; omega
             case rel => exact ⟨(x5_1), (wrap64 (x6_1 + 1)), (by first | rfl | (simp; done) | (simp [*]; done)), (by first | rfl | (simp; done) | (simp [*]; done)), H', ⟨by have := HK1.out; omega⟩, ⟨by exact bk BK262⟩, ⟨by repeat (first | (with_reducible first | exact HB.out | apply below_alloc | apply pw_below_drewN | apply below_drew1 | refine below_set ?_ GE262.out | refine below_set ?_ GE264.out | refine below_set ?_ GE266.out) | exact HB.out)⟩⟩
           ·first | (exfalso; have z_ := of_decide_eq_false c22b0; omega) | (rw [if_neg c172] at H; exact absurd H (by simp))
          ·rw [if_neg c171] at H
           have c171b0 : decide (((rd_T48 l0 (ji7)).f1) ≤ a1_1) = false := decide_eq_false c171
           clear c171
           have H' := Aside0.mk H
           clear H
           have p263 : 0 ≤ (x6_1 : Int) := da
           have q263 : x6_1 < (l0.length : Int) := da
           obtain ⟨ad263, e263, hx263_0, hx263_1⟩ := at_T48 HR0.out x6_1 p263 q263
           cases e263
           replace hx263_0 := (HB.out.cell (bL w _ hx263_0)).trans hx263_0
           replace hx263_1 := (HB.out.cell (bL w _ hx263_1)).trans hx263_1
           replace p263 := eq_true p263
           replace q263 := eq_true q263
           go_wp2_with (first | ((with_reducible refine gate_dst (N := 7) rfl ?_); refine bx (cs := #[.int .i64 0, .int .i64 0]) (t := 48) ?_; intro gb264 hg w216 hbox hb; have n0_ := kb BK262 hb; have n1_ := sb hb; have n2_ := Aside0.mk (hbox); have n3_ := zb hg; have n4_ := zb hg; have n5_ := nl BK262 hg; have n6_ := ng BK262 hg; clear BK262; clear HB; have BK262 := n0_; have HB := n1_; have BK264 := n2_; have GW264 := n3_; have GE264 := n4_; have NB262_264 := n5_; have NB264_262 := n6_; clear n0_ n1_ n2_ n3_ n4_ n5_ n6_; clear hb hbox hg; have hnb217 := NB264_262.out; have hnc217 := NB262_264.out; have hcz218_0 := ck BK264 0; have hcz218_1 := ck BK264 1; have hfz218_0 := blk_frozen BK264.out 0; have hfz218_1 := blk_frozen BK264.out 1; have p265 : 0 ≤ ((ji7) : Int) := da; have q265 : (ji7) < (l0.length : Int) := da; obtain ⟨ad265, e265, hx265_0, hx265_1⟩ := at_T48 HR0.out (ji7) p265 q265; obtain rfl : ad263 = ad265 := (by injection e265); have hn265_0 : ad263.block ≠ gb264 := nw hx265_0 GW264; have hn265_1 : ad263.block ≠ gb264 := nw hx265_0 GW264; replace hx265_0 := (HB.out.cell (bL w _ hx265_0)).trans hx265_0; replace hx265_1 := (HB.out.cell (bL w _ hx265_1)).trans hx265_1; replace hx265_0 := cf hn265_0 hx265_0 0 (.int .i64 ((rd_T48 l0 x6_1).f0)); replace hx265_1 := cf hn265_0 hx265_1 0 (.int .i64 ((rd_T48 l0 x6_1).f0)); replace hx265_0 := cf hn265_1 hx265_0 1 (.int .i64 ((rd_T48 l0 x6_1).f1)); replace hx265_1 := cf hn265_1 hx265_1 1 (.int .i64 ((rd_T48 l0 x6_1).f1)); clear hn265_0; clear hn265_1; replace p265 := eq_true p265; replace q265 := eq_true q265) | ((with_reducible refine gate_dst (N := 8) rfl ?_); refine bx (cs := #[.int .i64 0, .int .i64 0]) (t := 48) ?_; intro gb266 hg w219 hbox hb; have z0_ := mz hb (g := gb262) (o := .cells #[.int .i64 a1_0, .int .i64 a1_1] 48 (0, 0)) (by refine bF NB262_264.out ?_; refine bF NB262_264.out ?_; exact bk BK262); have n0_ := kc z0_ hb; have z1_ := mz hb (g := gb264) (o := .cells #[.int .i64 ((rd_T48 l0 x6_1).f0), .int .i64 ((rd_T48 l0 x6_1).f1)] 48 (0, 0)) (by refine bP (cs := #[.int .i64 ((rd_T48 l0 x6_1).f0), .int .i64 0]) 1 ?_; refine bP (cs := #[.int .i64 0, .int .i64 0]) 0 ?_; exact bk BK264); have n1_ := kc z1_ hb; have n2_ := sb hb; have n3_ := Aside0.mk (hbox); have n4_ := zb hg; have n5_ := zb hg; have n6_ := nm z0_ hg; have n7_ := nn z0_ hg; have n8_ := nm z1_ hg; have n9_ := nn z1_ hg; clear BK262; clear BK264; clear HB; have BK262 := n0_; have BK264 := n1_; have HB := n2_; have BK266 := n3_; have GW266 := n4_; have GE266 := n5_; have NB262_266 := n6_; have NB266_262 := n7_; have NB264_266 := n8_; have NB266_264 := n9_; clear z0_ z1_ n0_ n1_ n2_ n3_ n4_ n5_ n6_ n7_ n8_ n9_; clear hb hbox hg; have hnb220 := NB266_262.out; have hnc220 := NB262_266.out; have hnb221 := NB266_264.out; have hnc221 := NB264_266.out; have hcz222_0 := ck BK266 0; have hcz222_1 := ck BK266 1; have hfz222_0 := blk_frozen BK266.out 0; have hfz222_1 := blk_frozen BK266.out 1; have hcz223_0 := ck BK264 0; have hcz223_1 := ck BK264 1; have hfz223_0 := blk_frozen BK264.out 0; have hfz223_1 := blk_frozen BK264.out 1; have hcz224_0 := ck BK262 0; have hcz224_1 := ck BK262 1; have hfz224_0 := blk_frozen BK262.out 0; have hfz224_1 := blk_frozen BK262.out 1) | ((with_reducible refine gate_callee (f := 79) rfl ?_); refine goesL_ (some 30) rfl rfl Try.func79 (by kernel_rfl) rfl #[.agg #[.int .i64 ((rd_T48 l0 x6_1).f0), .int .i64 ((rd_T48 l0 x6_1).f1)], .agg #[.int .i64 ((rd_T48 l0 (ji7)).f0), .int .i64 ((rd_T48 l0 (ji7)).f1)], .agg #[.int .i64 a1_0, .int .i64 a1_1]] rfl (by (try simp only [List.map_toArray, List.map_cons, List.map_nil]); first | done | (simp only [hji7]; rfl) | rfl | (simp only [List.length_drop, List.length_take]; rfl)) ?_; (with_reducible refine (spec_l02On.calls ((rd_T48 l0 x6_1).f0) ((rd_T48 l0 x6_1).f1) ((rd_T48 l0 (ji7)).f0) ((rd_T48 l0 (ji7)).f1) a1_0 a1_1 false _ A10.out).mono ?_); rintro e w225 ⟨rfl, hb⟩; refine ⟨_, rfl, ?_⟩; have n0_ := Aside0.mk (blk_below (g := gb262) (o := .cells #[.int .i64 a1_0, .int .i64 a1_1] 48 (0, 0)) (by refine bF NB262_266.out ?_; refine bF NB262_266.out ?_; exact bk BK262) hb); have n1_ := Aside0.mk (blk_below (g := gb264) (o := .cells #[.int .i64 ((rd_T48 l0 x6_1).f0), .int .i64 ((rd_T48 l0 x6_1).f1)] 48 (0, 0)) (by refine bF NB264_266.out ?_; refine bF NB264_266.out ?_; exact bk BK264) hb); have n2_ := Aside0.mk (blk_below (g := gb266) (o := .cells #[.int .i64 ((rd_T48 l0 (ji7)).f0), .int .i64 ((rd_T48 l0 (ji7)).f1)] 48 (0, 0)) (by refine bP (cs := #[.int .i64 ((rd_T48 l0 (ji7)).f0), .int .i64 0]) 1 ?_; refine bP (cs := #[.int .i64 0, .int .i64 0]) 0 ?_; exact bk BK266) hb); have n3_ := sb hb; clear BK262; clear BK264; clear BK266; clear HB; have BK262 := n0_; have BK264 := n1_; have BK266 := n2_; have HB := n3_; clear n0_ n1_ n2_ n3_; (try clear hb); (try clear hb2); (try clear hk); (try clear hi); have hcz226_0 := ck BK264 0; have hcz226_1 := ck BK264 1; have hfz226_0 := blk_frozen BK264.out 0; have hfz226_1 := blk_frozen BK264.out 1; have hcz227_0 := ck BK262 0; have hcz227_1 := ck BK262 1; have hfz227_0 := blk_frozen BK262.out 0; have hfz227_1 := blk_frozen BK262.out 1; have hcz228_0 := ck BK266 0; have hcz228_1 := ck BK266 1; have hfz228_0 := blk_frozen BK266.out 0; have hfz228_1 := blk_frozen BK266.out 1))
           go_roundg k1
           case measure => have := HK1.out; omega
           case rel => exact ⟨(x5_1), (wrap64 (x6_1 + 1)), (by first | rfl | (simp; done) | (simp [*]; done)), (by first | rfl | (simp; done) | (simp [*]; done)), H', ⟨by have := HK1.out; omega⟩, ⟨by exact bk BK262⟩, ⟨by repeat (first | (with_reducible first | exact HB.out | apply below_alloc | apply pw_below_drewN | apply below_drew1 | refine below_set ?_ GE262.out | refine below_set ?_ GE264.out | refine below_set ?_ GE266.out) | exact HB.out)⟩⟩
       ·rw [if_neg c9] at H
        exact absurd H (by simp)
      ·rw [if_neg c8] at H
       exact absurd H (by simp)
    ·rw [if_neg c5] at H
     exact absurd H (by simp)
   ·rw [if_neg c4] at H
    have c4b0 : decide (x6_1 < (l0.length : Int)) = false := decide_eq_false c4
    clear c4
    obtain rfl := Option.some.inj H
    go_wp2
    go_ret
    exact ⟨by first | rfl | (simp [errW_none, errW_some] <;> rfl) | (simp [*, errW_none, errW_some] <;> rfl), by repeat (first | (with_reducible first | exact HB.out | apply below_alloc | apply pw_below_drewN | apply below_drew1 | refine below_set ?_ GE262.out) | exact HB.out)⟩
end Go.Proofs.Ytlfifbalakgfeaa.PFnExactFaceAt
