/- Contracts of functions that FnExactValidDrawing reaches, out of the lines of the kit's print. -/
import Derived.Test.YtlfifbalakgfeaaQFnExactValidDrawingx0
import Derived.Test.YtlfifbalakgfeaaQFnExactValidDrawingx2
import Derived.Test.YtlfifbalakgfeaaQFnExactValidDrawingx3
import Derived.Test.YtlfifbalakgfeaaQFnExactValidDrawingx6
namespace Go.Proofs.Ytlfifbalakgfeaa.PFnExactValidDrawing
open Go.RowKit Go.Proofs.YtlfifbalakgfeaaW.PrintWords Go.Proofs.YtlfifbalakgfeaaW.PrintLast Go.Proofs.YtlfifbalakgfeaaW.PrintMore
open Bool renaming true → tT, false → fF
open Go.World renaming block_lt_of_cell? → bL
attribute [local go_sem] max2_int min2_int max_two min_two max_three min_three max_four min_four
set_option linter.unusedVariables false
set_option linter.unusedSimpArgs false
mutual
def spec_l05Ok.j0 : Nat → Bool → Int → Int → List (S48) → List (S67) → Option (Bool × Int × Int)
 | 0, _, _, _, _, _ => none
 | k + 1, x32, x1000, x1001, x1002, x1003 => if x32 = true then (some (false, x1000, x1001)) else (spec_l05Ok.l0 k 0 x1000 x1001 x1002 x1003)
def spec_l05Ok.l0 : Nat → Int → Int → Int → List (S48) → List (S67) → Option (Bool × Int × Int)
 | 0, _, _, _, _, _ => none
 | k + 1, x3, x1000, x1001, x1002, x1003 => if x3 < (x1003.length : Int) then (if 0 ≤ x3 then ((spec_l01Name.f k ((rd_T67 x1003 x3).f0)).bind fun t188 => (if t188 = true then (if x3 > 0 then (if 0 ≤ (wrap64 (x3 - 1)) then (if (wrap64 (x3 - 1)) < (x1003.length : Int) then (spec_l05Ok.j2 k x3 (!(Op.bytesLess (((rd_T67 x1003 (wrap64 (x3 - 1))).f0).toList) (((rd_T67 x1003 x3).f0).toList))) x1000 x1001 x1002 x1003) else (none)) else (none)) else (spec_l05Ok.j2 k x3 false x1000 x1001 x1002 x1003)) else (spec_l05Ok.j2 k x3 true x1000 x1001 x1002 x1003))) else (none)) else (some (true, x1000, x1001))
def spec_l05Ok.j2 : Nat → Int → Bool → Int → Int → List (S48) → List (S67) → Option (Bool × Int × Int)
 | 0, _, _, _, _, _, _ => none
 | k + 1, x3, x75, x1000, x1001, x1002, x1003 => if x75 = true then (some (false, x1000, x1001)) else (if 0 ≤ x3 then (if x3 < (x1003.length : Int) then ((spec_l05Ring.f k x1000 x1001 x1002 x1003 ((rd_T67 x1003 x3).f1)).bind fun bt192 => (if bt192.2.1 = true then ((spec_l03Ok.f k bt192.1).bind fun t198 => (if t198 = true then (spec_l05Ok.l0 k (wrap64 (x3 + 1)) bt192.2.2.1 bt192.2.2.2 x1002 x1003) else (some (false, bt192.2.2.1, bt192.2.2.2)))) else (some (false, bt192.2.2.1, bt192.2.2.2)))) else (none)) else (none))
end
def spec_l05Ok.f (k : Nat) (s0_0 : Int) (s0_1 : Int) (s0_2 : List (S48)) (s0_3 : List (S67)) : Option (Bool × Int × Int) := (spec_l00In.f s0_0 10 20000).bind fun t182 => (if t182 = true then ((spec_l00In.f s0_1 10 20000).bind fun t183 => (if t183 = true then ((spec_l05Points.f k s0_0 s0_1 s0_2 s0_3).bind fun bt184 => (if bt184.1 = true then (spec_l05Ok.j0 k (decide ((s0_3.length : Int) > 24)) bt184.2.1 bt184.2.2 s0_2 s0_3) else (spec_l05Ok.j0 k true bt184.2.1 bt184.2.2 s0_2 s0_3))) else (spec_l05Ok.j0 k true s0_0 s0_1 s0_2 s0_3))) else (spec_l05Ok.j0 k true s0_0 s0_1 s0_2 s0_3))
theorem spec_l05Ok.mono_l : ∀ k, (∀ y0 y1 y2 y3 y4, LeO (spec_l05Ok.j0 k y0 y1 y2 y3 y4) (spec_l05Ok.j0 (k + 1) y0 y1 y2 y3 y4)) ∧ (∀ y0 y1 y2 y3 y4, LeO (spec_l05Ok.l0 k y0 y1 y2 y3 y4) (spec_l05Ok.l0 (k + 1) y0 y1 y2 y3 y4)) ∧ (∀ y0 y1 y2 y3 y4 y5, LeO (spec_l05Ok.j2 k y0 y1 y2 y3 y4 y5) (spec_l05Ok.j2 (k + 1) y0 y1 y2 y3 y4 y5))
 | 0 => ⟨fun _ _ _ _ _ r h => by simp [spec_l05Ok.j0] at h, fun _ _ _ _ _ r h => by simp [spec_l05Ok.l0] at h, fun _ _ _ _ _ _ r h => by simp [spec_l05Ok.j2] at h⟩
 | k + 1 => by
  obtain ⟨ih0, ih1, ih2⟩ := spec_l05Ok.mono_l k
  refine ⟨?_, ?_, ?_⟩
  ·intro y0 y1 y2 y3 y4
   unfold spec_l05Ok.j0
   repeat' first
   | (with_reducible exact ih0 _ _ _ _ _)
   | (with_reducible exact ih1 _ _ _ _ _)
   | (with_reducible exact ih2 _ _ _ _ _ _)
   | (with_reducible exact spec_l01Name.mono _ _)
   | (with_reducible exact spec_l03Ok.mono _ _)
   | (with_reducible exact spec_l05Points.mono _ _ _ _ _)
   | (with_reducible exact spec_l05Ring.mono _ _ _ _ _ _)
   | (with_reducible exact LeO.refl _)
   | (with_reducible exact LeO.none _)
   | (with_reducible refine LeO.ite ?_ ?_)
   | (with_reducible refine LeO.bind ?_ (fun _ => ?_))
   | exact ih0 _ _ _ _ _
   | exact ih1 _ _ _ _ _
   | exact ih2 _ _ _ _ _ _
   | exact spec_l01Name.mono _ _
   | exact spec_l03Ok.mono _ _
   | exact spec_l05Points.mono _ _ _ _ _
   | exact spec_l05Ring.mono _ _ _ _ _ _
   | exact LeO.none _
   | refine LeO.ite ?_ ?_
   | refine LeO.bind ?_ (fun _ => ?_)
  ·intro y0 y1 y2 y3 y4
   unfold spec_l05Ok.l0
   repeat' first
   | (with_reducible exact ih0 _ _ _ _ _)
   | (with_reducible exact ih1 _ _ _ _ _)
   | (with_reducible exact ih2 _ _ _ _ _ _)
   | (with_reducible exact spec_l01Name.mono _ _)
   | (with_reducible exact spec_l03Ok.mono _ _)
   | (with_reducible exact spec_l05Points.mono _ _ _ _ _)
   | (with_reducible exact spec_l05Ring.mono _ _ _ _ _ _)
   | (with_reducible exact LeO.refl _)
   | (with_reducible exact LeO.none _)
   | (with_reducible refine LeO.ite ?_ ?_)
   | (with_reducible refine LeO.bind ?_ (fun _ => ?_))
   | exact ih0 _ _ _ _ _
   | exact ih1 _ _ _ _ _
   | exact ih2 _ _ _ _ _ _
   | exact spec_l01Name.mono _ _
   | exact spec_l03Ok.mono _ _
   | exact spec_l05Points.mono _ _ _ _ _
   | exact spec_l05Ring.mono _ _ _ _ _ _
   | exact LeO.none _
   | refine LeO.ite ?_ ?_
   | refine LeO.bind ?_ (fun _ => ?_)
  ·intro y0 y1 y2 y3 y4 y5
   unfold spec_l05Ok.j2
   repeat' first
   | (with_reducible exact ih0 _ _ _ _ _)
   | (with_reducible exact ih1 _ _ _ _ _)
   | (with_reducible exact ih2 _ _ _ _ _ _)
   | (with_reducible exact spec_l01Name.mono _ _)
   | (with_reducible exact spec_l03Ok.mono _ _)
   | (with_reducible exact spec_l05Points.mono _ _ _ _ _)
   | (with_reducible exact spec_l05Ring.mono _ _ _ _ _ _)
   | (with_reducible exact LeO.refl _)
   | (with_reducible exact LeO.none _)
   | (with_reducible refine LeO.ite ?_ ?_)
   | (with_reducible refine LeO.bind ?_ (fun _ => ?_))
   | exact ih0 _ _ _ _ _
   | exact ih1 _ _ _ _ _
   | exact ih2 _ _ _ _ _ _
   | exact spec_l01Name.mono _ _
   | exact spec_l03Ok.mono _ _
   | exact spec_l05Points.mono _ _ _ _ _
   | exact spec_l05Ring.mono _ _ _ _ _ _
   | exact LeO.none _
   | refine LeO.ite ?_ ?_
   | refine LeO.bind ?_ (fun _ => ?_)
theorem spec_l05Ok.mono : ∀ a0 a1 a2 a3 k, LeO (spec_l05Ok.f k a0 a1 a2 a3) (spec_l05Ok.f (k + 1) a0 a1 a2 a3) := by
 intro a0 a1 a2 a3 k
 obtain ⟨ih0, ih1, ih2⟩ := spec_l05Ok.mono_l k
 unfold spec_l05Ok.f
 repeat' first
   | (with_reducible exact ih0 _ _ _ _ _)
   | (with_reducible exact ih1 _ _ _ _ _)
   | (with_reducible exact ih2 _ _ _ _ _ _)
   | (with_reducible exact spec_l01Name.mono _ _)
   | (with_reducible exact spec_l03Ok.mono _ _)
   | (with_reducible exact spec_l05Points.mono _ _ _ _ _)
   | (with_reducible exact spec_l05Ring.mono _ _ _ _ _ _)
   | (with_reducible exact LeO.refl _)
   | (with_reducible exact LeO.none _)
   | (with_reducible refine LeO.ite ?_ ?_)
   | (with_reducible refine LeO.bind ?_ (fun _ => ?_))
   | exact ih0 _ _ _ _ _
   | exact ih1 _ _ _ _ _
   | exact ih2 _ _ _ _ _ _
   | exact spec_l01Name.mono _ _
   | exact spec_l03Ok.mono _ _
   | exact spec_l05Points.mono _ _ _ _ _
   | exact spec_l05Ring.mono _ _ _ _ _ _
   | exact LeO.none _
   | refine LeO.ite ?_ ?_
   | refine LeO.bind ?_ (fun _ => ?_)
set_option maxHeartbeats 8000000 in
set_option maxRecDepth 100000 in
theorem spec_l05Ok.calls (k : Nat) (g : Nat) (s0_0 : Int) (s0_1 : Int) (s0_2 : List (S48)) (s0_3 : List (S67)) (r1 : Bool) (r2 : Int) (r3 : Int) (w0 w : World) (hI : IsS31 w0 w g s0_0 s0_1 s0_2 s0_3) (hB : Below w0.heap.size w0 w) (h : spec_l05Ok.f k s0_0 s0_1 s0_2 s0_3 = some (r1, r2, r3)) :
  Calls Try.prog 37 #[.pointer (some ⟨g, 0, none⟩)] w fun e w' => e = .returned (.bool r1) ∧ IsS31 w0 w' g r2 r3 s0_2 s0_3 ∧ Below w0.heap.size w0 w' ∧ KeepBut w w' g none := by
 have HI0 := Aside0.mk hI
 have HK := Aside0.mk (KeepBut.refl w g none)
 have HL := Aside0.mk hB.size
 clear hI
 have HW0 := Aside0.mk hB.size
 have HB := Aside0.mk hB
 clear hB
 have H : ((spec_l00In.f s0_0 10 20000).bind fun t182 => (if t182 = true then ((spec_l00In.f s0_1 10 20000).bind fun t183 => (if t183 = true then ((spec_l05Points.f k s0_0 s0_1 s0_2 s0_3).bind fun bt184 => (if bt184.1 = true then (spec_l05Ok.j0 k (decide ((s0_3.length : Int) > 24)) bt184.2.1 bt184.2.2 s0_2 s0_3) else (spec_l05Ok.j0 k true bt184.2.1 bt184.2.2 s0_2 s0_3))) else (spec_l05Ok.j0 k true s0_0 s0_1 s0_2 s0_3))) else (spec_l05Ok.j0 k true s0_0 s0_1 s0_2 s0_3))) = some (r1, r2, r3) := h
 clear h
 obtain ⟨A2, c2, A3, c3, hblk, hge, hr2, hr3⟩ := HI0.out
 have q0 : w.cell? ⟨g, 0, none⟩ = some (.int .i64 s0_0) := cellS31_0 hblk
 have q1 : w.cell? ⟨g, 1, none⟩ = some (.int .i64 s0_1) := cellS31_1 hblk
 clear hblk hge hr2 hr3 A2 c2 A3 c3
 replace H := Option.bind_eq_some_iff.mp H
 obtain ⟨t1, A10, H⟩ := H
 have A1_ := Aside0.mk A10
 clear A10
 have zero : ∀ (b : Bool) (y : Int) (z : Int), spec_l05Ok.j0 0 b y z s0_2 s0_3 = some (r1, r2, r3) → False := fun b y z h => by simp [spec_l05Ok.j0] at h
 have one : ∀ (k : Nat) (y : Int) (z : Int), spec_l05Ok.j0 k true y z s0_2 s0_3 = some (r1, r2, r3) → r1 = false ∧ r2 = y ∧ r3 = z := fun k y z h => by
  cases k with
  | zero => exact (zero _ _ _ h).elim
  | succ k => simp only [spec_l05Ok.j0, if_true, Option.some.injEq, Prod.mk.injEq] at h; exact ⟨h.1.symm, h.2.1.symm, h.2.2.symm⟩
 cases t1 with
 | false =>
  replace H := (show (spec_l05Ok.j0 k true s0_0 s0_1 s0_2 s0_3) = some (r1, r2, r3) from by first | exact H | simpa using H)
  obtain ⟨rfl, rfl, rfl⟩ := one _ _ _ H
  clear zero one H
  go_enter Try.func37, Try.ntmps37
  go_wp2_with (first | ((with_reducible refine gate_callee (f := 61) rfl ?_); refine goesL_ (some 10) rfl rfl Try.func61 (by kernel_rfl) rfl #[.int .i64 s0_0, .int .i64 10, .int .i64 20000] rfl (by (try simp only [List.map_toArray, List.map_cons, List.map_nil]); first | done | rfl) ?_; (with_reducible refine (spec_l00In.calls _ _ _ _ _ A1_.out).mono ?_); rintro e w5 ⟨rfl, ⟨nd, rfl⟩⟩; refine ⟨_, rfl, ?_⟩) | (go_at_call 61; (with_reducible refine (spec_l00In.calls _ _ _ _ _ A1_.out).mono ?_); rintro e w5 ⟨rfl, ⟨nd, rfl⟩⟩))
  go_ret
  exact ⟨(by first | rfl | (simp; done) | (simp [*]; done)), (by repeat (first | exact HI0.out | apply IsS31.drewN | apply IsS31.drew)), (by repeat (first | exact HB.out | apply pw_below_drewN | apply below_drew1)), (by repeat (first | exact HK.out | apply keep_drewN | apply keep_drew))⟩
 | true =>
  replace H := (show ((spec_l00In.f s0_1 10 20000).bind fun t239 => (if t239 = true then ((spec_l05Points.f k s0_0 s0_1 s0_2 s0_3).bind fun bt240 => (if bt240.1 = true then (spec_l05Ok.j0 k (decide ((s0_3.length : Int) > 24)) bt240.2.1 bt240.2.2 s0_2 s0_3) else (spec_l05Ok.j0 k true bt240.2.1 bt240.2.2 s0_2 s0_3))) else (spec_l05Ok.j0 k true s0_0 s0_1 s0_2 s0_3))) = some (r1, r2, r3) from by first | exact H | simpa using H)
  replace H := Option.bind_eq_some_iff.mp H
  obtain ⟨t2, A20, H⟩ := H
  have A2_ := Aside0.mk A20
  clear A20
  cases t2 with
  | false =>
   replace H := (show (spec_l05Ok.j0 k true s0_0 s0_1 s0_2 s0_3) = some (r1, r2, r3) from by first | exact H | simpa using H)
   obtain ⟨rfl, rfl, rfl⟩ := one _ _ _ H
   clear zero one H
   go_enter Try.func37, Try.ntmps37
   go_wp2_with (first | ((with_reducible refine gate_callee (f := 61) rfl ?_); refine goesL_ (some 10) rfl rfl Try.func61 (by kernel_rfl) rfl #[.int .i64 s0_0, .int .i64 10, .int .i64 20000] rfl (by (try simp only [List.map_toArray, List.map_cons, List.map_nil]); first | done | rfl) ?_; (with_reducible refine (spec_l00In.calls _ _ _ _ _ A1_.out).mono ?_); rintro e w5 ⟨rfl, ⟨nd, rfl⟩⟩; refine ⟨_, rfl, ?_⟩) | (go_at_call 61; (with_reducible refine (spec_l00In.calls _ _ _ _ _ A1_.out).mono ?_); rintro e w5 ⟨rfl, ⟨nd, rfl⟩⟩) | ((with_reducible refine gate_callee (f := 61) rfl ?_); refine goesL_ (some 17) rfl rfl Try.func61 (by kernel_rfl) rfl #[.int .i64 s0_1, .int .i64 10, .int .i64 20000] rfl (by (try simp only [List.map_toArray, List.map_cons, List.map_nil]); first | done | rfl) ?_; (with_reducible refine (spec_l00In.calls _ _ _ _ _ A2_.out).mono ?_); rintro e w5 ⟨rfl, ⟨nd, rfl⟩⟩; refine ⟨_, rfl, ?_⟩) | (go_at_call 61; (with_reducible refine (spec_l00In.calls _ _ _ _ _ A2_.out).mono ?_); rintro e w5 ⟨rfl, ⟨nd, rfl⟩⟩))
   go_ret
   exact ⟨(by first | rfl | (simp; done) | (simp [*]; done)), (by repeat (first | exact HI0.out | apply IsS31.drewN | apply IsS31.drew)), (by repeat (first | exact HB.out | apply pw_below_drewN | apply below_drew1)), (by repeat (first | exact HK.out | apply keep_drewN | apply keep_drew))⟩
  | true =>
   replace H := (show ((spec_l05Points.f k s0_0 s0_1 s0_2 s0_3).bind fun bt240 => (if bt240.1 = true then (spec_l05Ok.j0 k (decide ((s0_3.length : Int) > 24)) bt240.2.1 bt240.2.2 s0_2 s0_3) else (spec_l05Ok.j0 k true bt240.2.1 bt240.2.2 s0_2 s0_3))) = some (r1, r2, r3) from by first | exact H | simpa using H)
   replace H := Option.bind_eq_some_iff.mp H
   obtain ⟨⟨t3, a0, a1⟩, A30, H⟩ := H
   have A3_ := Aside0.mk A30
   clear A30
   cases t3 with
   | false =>
    replace H := (show (spec_l05Ok.j0 k true a0 a1 s0_2 s0_3) = some (r1, r2, r3) from by first | exact H | simpa using H)
    obtain ⟨rfl, rfl, rfl⟩ := one _ _ _ H
    clear zero one H
    go_enter Try.func37, Try.ntmps37
    go_wp2_with (first | ((with_reducible refine gate_callee (f := 61) rfl ?_); refine goesL_ (some 10) rfl rfl Try.func61 (by kernel_rfl) rfl #[.int .i64 s0_0, .int .i64 10, .int .i64 20000] rfl (by (try simp only [List.map_toArray, List.map_cons, List.map_nil]); first | done | rfl) ?_; (with_reducible refine (spec_l00In.calls _ _ _ _ _ A1_.out).mono ?_); rintro e w5 ⟨rfl, ⟨nd, rfl⟩⟩; refine ⟨_, rfl, ?_⟩) | (go_at_call 61; (with_reducible refine (spec_l00In.calls _ _ _ _ _ A1_.out).mono ?_); rintro e w5 ⟨rfl, ⟨nd, rfl⟩⟩) | ((with_reducible refine gate_callee (f := 61) rfl ?_); refine goesL_ (some 17) rfl rfl Try.func61 (by kernel_rfl) rfl #[.int .i64 s0_1, .int .i64 10, .int .i64 20000] rfl (by (try simp only [List.map_toArray, List.map_cons, List.map_nil]); first | done | rfl) ?_; (with_reducible refine (spec_l00In.calls _ _ _ _ _ A2_.out).mono ?_); rintro e w5 ⟨rfl, ⟨nd, rfl⟩⟩; refine ⟨_, rfl, ?_⟩) | (go_at_call 61; (with_reducible refine (spec_l00In.calls _ _ _ _ _ A2_.out).mono ?_); rintro e w5 ⟨rfl, ⟨nd, rfl⟩⟩) | ((with_reducible refine gate_callee (f := 66) rfl ?_); refine goesL_ (some 22) rfl rfl Try.func66 (by kernel_rfl) rfl #[.pointer (some ⟨g, 0, none⟩)] rfl (by (try simp only [List.map_toArray, List.map_cons, List.map_nil]); first | done | rfl) ?_; (with_reducible refine (spec_l05Points.calls _ g s0_0 s0_1 s0_2 s0_3 _ _ _ w0 _ (by repeat (first | exact HI0.out | apply IsS31.drewN | apply IsS31.drew)) (by repeat (first | exact HB.out | apply pw_below_drewN | apply below_drew1)) A3_.out).mono ?_); rintro e w5 ⟨rfl, hi, hb, hk⟩; refine ⟨_, rfl, ?_⟩; have n0_ := Aside0.mk hi; have n1_ := Aside0.mk hb; have n2_ : Aside0 (KeepBut w w5 g none) := ⟨KeepBut.trans (by repeat (first | exact HK.out | apply keep_drewN | apply keep_drew)) hk (.inl rfl)⟩; clear hi hb hk HI0 HB HK; have HI0 := n0_; have HB := n1_; have HK := n2_; clear n0_ n1_ n2_; obtain ⟨A2, c2, A3, c3, hblk, hge, hr2, hr3⟩ := HI0.out; have q3 : w5.cell? ⟨g, 3, none⟩ = _ := cellS31_3 hblk; clear hblk hge hr2 hr3) | (go_at_call 66; (with_reducible refine (spec_l05Points.calls _ g s0_0 s0_1 s0_2 s0_3 _ _ _ w0 _ (by repeat (first | exact HI0.out | apply IsS31.drewN | apply IsS31.drew)) (by repeat (first | exact HB.out | apply pw_below_drewN | apply below_drew1)) A3_.out).mono ?_); rintro e w5 ⟨rfl, hi, hb, hk⟩; have n0_ := Aside0.mk hi; have n1_ := Aside0.mk hb; have n2_ : Aside0 (KeepBut w w5 g none) := ⟨KeepBut.trans (by repeat (first | exact HK.out | apply keep_drewN | apply keep_drew)) hk (.inl rfl)⟩; clear hi hb hk HI0 HB HK; have HI0 := n0_; have HB := n1_; have HK := n2_; clear n0_ n1_ n2_; obtain ⟨A2, c2, A3, c3, hblk, hge, hr2, hr3⟩ := HI0.out; have q3 : w5.cell? ⟨g, 3, none⟩ = _ := cellS31_3 hblk; clear hblk hge hr2 hr3))
    go_ret
    exact ⟨(by first | rfl | (simp; done) | (simp [*]; done)), (by repeat (first | exact HI0.out | apply IsS31.drewN | apply IsS31.drew)), (by repeat (first | exact HB.out | apply pw_below_drewN | apply below_drew1)), (by repeat (first | exact HK.out | apply keep_drewN | apply keep_drew))⟩
   | true =>
    replace H := (show (spec_l05Ok.j0 k (decide ((s0_3.length : Int) > 24)) a0 a1 s0_2 s0_3) = some (r1, r2, r3) from by first | exact H | simpa using H)
    by_cases c1 : (s0_3.length : Int) > 24
    ·have c1b : decide (24 < (s0_3.length : Int)) = true := decide_eq_true c1
     rw [decide_eq_true c1] at H
     obtain ⟨rfl, rfl, rfl⟩ := one _ _ _ H
     clear zero one H c1
     go_enter Try.func37, Try.ntmps37
     go_wp2_with (first | ((with_reducible refine gate_callee (f := 61) rfl ?_); refine goesL_ (some 10) rfl rfl Try.func61 (by kernel_rfl) rfl #[.int .i64 s0_0, .int .i64 10, .int .i64 20000] rfl (by (try simp only [List.map_toArray, List.map_cons, List.map_nil]); first | done | rfl) ?_; (with_reducible refine (spec_l00In.calls _ _ _ _ _ A1_.out).mono ?_); rintro e w5 ⟨rfl, ⟨nd, rfl⟩⟩; refine ⟨_, rfl, ?_⟩) | (go_at_call 61; (with_reducible refine (spec_l00In.calls _ _ _ _ _ A1_.out).mono ?_); rintro e w5 ⟨rfl, ⟨nd, rfl⟩⟩) | ((with_reducible refine gate_callee (f := 61) rfl ?_); refine goesL_ (some 17) rfl rfl Try.func61 (by kernel_rfl) rfl #[.int .i64 s0_1, .int .i64 10, .int .i64 20000] rfl (by (try simp only [List.map_toArray, List.map_cons, List.map_nil]); first | done | rfl) ?_; (with_reducible refine (spec_l00In.calls _ _ _ _ _ A2_.out).mono ?_); rintro e w5 ⟨rfl, ⟨nd, rfl⟩⟩; refine ⟨_, rfl, ?_⟩) | (go_at_call 61; (with_reducible refine (spec_l00In.calls _ _ _ _ _ A2_.out).mono ?_); rintro e w5 ⟨rfl, ⟨nd, rfl⟩⟩) | ((with_reducible refine gate_callee (f := 66) rfl ?_); refine goesL_ (some 22) rfl rfl Try.func66 (by kernel_rfl) rfl #[.pointer (some ⟨g, 0, none⟩)] rfl (by (try simp only [List.map_toArray, List.map_cons, List.map_nil]); first | done | rfl) ?_; (with_reducible refine (spec_l05Points.calls _ g s0_0 s0_1 s0_2 s0_3 _ _ _ w0 _ (by repeat (first | exact HI0.out | apply IsS31.drewN | apply IsS31.drew)) (by repeat (first | exact HB.out | apply pw_below_drewN | apply below_drew1)) A3_.out).mono ?_); rintro e w5 ⟨rfl, hi, hb, hk⟩; refine ⟨_, rfl, ?_⟩; have n0_ := Aside0.mk hi; have n1_ := Aside0.mk hb; have n2_ : Aside0 (KeepBut w w5 g none) := ⟨KeepBut.trans (by repeat (first | exact HK.out | apply keep_drewN | apply keep_drew)) hk (.inl rfl)⟩; clear hi hb hk HI0 HB HK; have HI0 := n0_; have HB := n1_; have HK := n2_; clear n0_ n1_ n2_; obtain ⟨A2, c2, A3, c3, hblk, hge, hr2, hr3⟩ := HI0.out; have q3 : w5.cell? ⟨g, 3, none⟩ = _ := cellS31_3 hblk; clear hblk hge hr2 hr3) | (go_at_call 66; (with_reducible refine (spec_l05Points.calls _ g s0_0 s0_1 s0_2 s0_3 _ _ _ w0 _ (by repeat (first | exact HI0.out | apply IsS31.drewN | apply IsS31.drew)) (by repeat (first | exact HB.out | apply pw_below_drewN | apply below_drew1)) A3_.out).mono ?_); rintro e w5 ⟨rfl, hi, hb, hk⟩; have n0_ := Aside0.mk hi; have n1_ := Aside0.mk hb; have n2_ : Aside0 (KeepBut w w5 g none) := ⟨KeepBut.trans (by repeat (first | exact HK.out | apply keep_drewN | apply keep_drew)) hk (.inl rfl)⟩; clear hi hb hk HI0 HB HK; have HI0 := n0_; have HB := n1_; have HK := n2_; clear n0_ n1_ n2_; obtain ⟨A2, c2, A3, c3, hblk, hge, hr2, hr3⟩ := HI0.out; have q3 : w5.cell? ⟨g, 3, none⟩ = _ := cellS31_3 hblk; clear hblk hge hr2 hr3))
     go_ret
     exact ⟨(by first | rfl | (simp; done) | (simp [*]; done)), (by repeat (first | exact HI0.out | apply IsS31.drewN | apply IsS31.drew)), (by repeat (first | exact HB.out | apply pw_below_drewN | apply below_drew1)), (by repeat (first | exact HK.out | apply keep_drewN | apply keep_drew))⟩
    ·have c1b : decide (24 < (s0_3.length : Int)) = false := decide_eq_false c1
     rw [decide_eq_false c1] at H
     cases k with
     | zero => exact (zero _ _ _ H).elim
     | succ k =>
     simp only [spec_l05Ok.j0, Bool.false_eq_true, if_false] at H
     have H' := Aside0.mk H
     clear zero one H c1
     go_enter Try.func37, Try.ntmps37
     go_wp2_with (first | ((with_reducible refine gate_callee (f := 61) rfl ?_); refine goesL_ (some 10) rfl rfl Try.func61 (by kernel_rfl) rfl #[.int .i64 s0_0, .int .i64 10, .int .i64 20000] rfl (by (try simp only [List.map_toArray, List.map_cons, List.map_nil]); first | done | rfl) ?_; (with_reducible refine (spec_l00In.calls _ _ _ _ _ A1_.out).mono ?_); rintro e w5 ⟨rfl, ⟨nd, rfl⟩⟩; refine ⟨_, rfl, ?_⟩) | (go_at_call 61; (with_reducible refine (spec_l00In.calls _ _ _ _ _ A1_.out).mono ?_); rintro e w5 ⟨rfl, ⟨nd, rfl⟩⟩) | ((with_reducible refine gate_callee (f := 61) rfl ?_); refine goesL_ (some 17) rfl rfl Try.func61 (by kernel_rfl) rfl #[.int .i64 s0_1, .int .i64 10, .int .i64 20000] rfl (by (try simp only [List.map_toArray, List.map_cons, List.map_nil]); first | done | rfl) ?_; (with_reducible refine (spec_l00In.calls _ _ _ _ _ A2_.out).mono ?_); rintro e w5 ⟨rfl, ⟨nd, rfl⟩⟩; refine ⟨_, rfl, ?_⟩) | (go_at_call 61; (with_reducible refine (spec_l00In.calls _ _ _ _ _ A2_.out).mono ?_); rintro e w5 ⟨rfl, ⟨nd, rfl⟩⟩) | ((with_reducible refine gate_callee (f := 66) rfl ?_); refine goesL_ (some 22) rfl rfl Try.func66 (by kernel_rfl) rfl #[.pointer (some ⟨g, 0, none⟩)] rfl (by (try simp only [List.map_toArray, List.map_cons, List.map_nil]); first | done | rfl) ?_; (with_reducible refine (spec_l05Points.calls _ g s0_0 s0_1 s0_2 s0_3 _ _ _ w0 _ (by repeat (first | exact HI0.out | apply IsS31.drewN | apply IsS31.drew)) (by repeat (first | exact HB.out | apply pw_below_drewN | apply below_drew1)) A3_.out).mono ?_); rintro e w5 ⟨rfl, hi, hb, hk⟩; refine ⟨_, rfl, ?_⟩; have n0_ := Aside0.mk hi; have n1_ := Aside0.mk hb; have n2_ : Aside0 (KeepBut w w5 g none) := ⟨KeepBut.trans (by repeat (first | exact HK.out | apply keep_drewN | apply keep_drew)) hk (.inl rfl)⟩; clear hi hb hk HI0 HB HK; have HI0 := n0_; have HB := n1_; have HK := n2_; clear n0_ n1_ n2_; obtain ⟨A2, c2, A3, c3, hblk, hge, hr2, hr3⟩ := HI0.out; have q3 : w5.cell? ⟨g, 3, none⟩ = _ := cellS31_3 hblk; clear hblk hge hr2 hr3) | (go_at_call 66; (with_reducible refine (spec_l05Points.calls _ g s0_0 s0_1 s0_2 s0_3 _ _ _ w0 _ (by repeat (first | exact HI0.out | apply IsS31.drewN | apply IsS31.drew)) (by repeat (first | exact HB.out | apply pw_below_drewN | apply below_drew1)) A3_.out).mono ?_); rintro e w5 ⟨rfl, hi, hb, hk⟩; have n0_ := Aside0.mk hi; have n1_ := Aside0.mk hb; have n2_ : Aside0 (KeepBut w w5 g none) := ⟨KeepBut.trans (by repeat (first | exact HK.out | apply keep_drewN | apply keep_drew)) hk (.inl rfl)⟩; clear hi hb hk HI0 HB HK; have HI0 := n0_; have HB := n1_; have HK := n2_; clear n0_ n1_ n2_; obtain ⟨A2, c2, A3, c3, hblk, hge, hr2, hr3⟩ := HI0.out; have q3 : w5.cell? ⟨g, 3, none⟩ = _ := cellS31_3 hblk; clear hblk hge hr2 hr3))
     clear q0 q1 q3
     go_loopg [3] k (fun kq v3 w' => ∃ (x3 : Int) (b0 b1 : Int), v3 = .int .i64 x3 ∧ Aside0 (spec_l05Ok.l0 kq x3 b0 b1 s0_2 s0_3 = some (r1, r2, r3)) ∧ Aside0 (kq ≤ k) ∧ Aside0 (IsS31 w0 w' g b0 b1 s0_2 s0_3) ∧ Aside0 (Below w0.heap.size w0 w') ∧ Aside0 (KeepBut w w' g none))
     case atStart => exact ⟨0, a0, a1, rfl, H', ⟨Nat.le_refl _⟩, ⟨(by repeat (first | exact HI0.out | apply IsS31.drewN | apply IsS31.drew))⟩, ⟨(by repeat (first | exact HB.out | apply pw_below_drewN | apply below_drew1))⟩, ⟨(by repeat (first | exact HK.out | apply keep_drewN | apply keep_drew))⟩⟩
     case round =>
      clear H' HI0 HB HK
      obtain ⟨x3, b0, b1, rfl, HA, HK1, HI0, HB, HK⟩ := hrel
      cases gk with
      | zero => exact absurd HA.out (by simp [spec_l05Ok.l0])
      | succ k1 =>
       have H := HA.out
       clear HA
       simp only [spec_l05Ok.l0] at H
       obtain ⟨A2, c2, A3, c3, hblk, hge, hr2, hr3⟩ := HI0.out
       have q3 : wr.cell? ⟨g, 3, none⟩ = some (.slice A3 s0_3.length c3) := cellS31_3 hblk
       clear hblk hr2
       by_cases c3_ : x3 < (s0_3.length : Int)
       ·rw [if_pos c3_] at H
        have c3b : decide (x3 < (s0_3.length : Int)) = true := decide_eq_true c3_
        by_cases c4_ : 0 ≤ x3
        ·rw [if_pos c4_] at H
         have c4b : decide (0 ≤ x3) = true := decide_eq_true c4_
         obtain ⟨adf, Ar, cr, ef, y0_, y1_, hcr, hrr⟩ := at_T67 hr3 x3 c4_ c3_
         cases ef
         have C3 := Aside0.mk c3_
         have C4 := Aside0.mk c4_
         replace c3_ := eq_true c3_
         replace c4_ := eq_true c4_
         have y0 := (HB.out.cell (bL w0 _ y0_)).trans y0_
         have y1 := (HB.out.cell (bL w0 _ y1_)).trans y1_
         have Y1 := Aside0.mk y1_
         have Q3 := Aside0.mk q3
         clear y0_ y1_ y1
         replace H := Option.bind_eq_some_iff.mp H
         obtain ⟨t4, A40, H⟩ := H
         have A4_ := Aside0.mk A40
         clear A40
         have jz : ∀ (b : Bool), spec_l05Ok.j2 0 x3 b b0 b1 s0_2 s0_3 = some (r1, r2, r3) → False := fun b h => by simp [spec_l05Ok.j2] at h
         have jt : ∀ (k : Nat), spec_l05Ok.j2 k x3 true b0 b1 s0_2 s0_3 = some (r1, r2, r3) → r1 = false ∧ r2 = b0 ∧ r3 = b1 := fun k h => by
          cases k with
          | zero => exact (jz _ h).elim
          | succ k => simp only [spec_l05Ok.j2, if_true, Option.some.injEq, Prod.mk.injEq] at h; exact ⟨h.1.symm, h.2.1.symm, h.2.2.symm⟩
         cases t4 with
         | false =>
          replace H := (show (spec_l05Ok.j2 k1 x3 true b0 b1 s0_2 s0_3) = some (r1, r2, r3) from by first | exact H | simpa using H)
          obtain ⟨rfl, rfl, rfl⟩ := jt _ H
          clear jz jt H
          go_wp2
          go_quiet (with_reducible exact Calls.quiet_of ((spec_l01Name.calls _ _ _ _ A4_.out).mono fun e w' h => ⟨h.1, h.2.out⟩))
          go_wp2
          go_ret
          exact ⟨(by first | rfl | (simp; done) | (simp [*]; done)), (by repeat (first | exact HI0.out | apply IsS31.drewN | apply IsS31.drew)), (by repeat (first | exact HB.out | apply pw_below_drewN | apply below_drew1)), (by repeat (first | exact HK.out | apply keep_drewN | apply keep_drew))⟩
         | true =>
          replace H := (show ((if x3 > 0 then (if 0 ≤ (wrap64 (x3 - 1)) then (if (wrap64 (x3 - 1)) < (s0_3.length : Int) then (spec_l05Ok.j2 k1 x3 (!(Op.bytesLess (((rd_T67 s0_3 (wrap64 (x3 - 1))).f0).toList) (((rd_T67 s0_3 x3).f0).toList))) b0 b1 s0_2 s0_3) else (none)) else (none)) else (spec_l05Ok.j2 k1 x3 false b0 b1 s0_2 s0_3))) = some (r1, r2, r3) from by first | exact H | simpa using H)
          by_cases c5_ : x3 > 0
          ·rw [if_pos c5_] at H
           have c5b : decide (0 < x3) = true := decide_eq_true c5_
           clear c5_
           obtain ⟨ji, hji⟩ : ∃ j_ : Int, wrap64 (x3 - 1) = j_ := ⟨_, rfl⟩
           rw [hji] at H
           have hjr : IntKind.i64.wrap (x3 - 1) = ji := by first | (rw [i64_w]; exact hji) | exact hji
           by_cases c6_ : 0 ≤ ji
           ·rw [if_pos c6_] at H
            have c6b : decide (0 ≤ ji) = true := decide_eq_true c6_
            by_cases c7_ : ji < (s0_3.length : Int)
            ·rw [if_pos c7_] at H
             have c7b : decide (ji < (s0_3.length : Int)) = true := decide_eq_true c7_
             obtain ⟨adf2, Ar2, cr2, ef2, z0_, z1_, _, _⟩ := at_T67 hr3 ji c6_ c7_
             cases ef2
             replace c6_ := eq_true c6_
             replace c7_ := eq_true c7_
             have z0 := (HB.out.cell (bL w0 _ z0_)).trans z0_
             clear z0_ z1_
             cases c8_ : Op.bytesLess (((rd_T67 s0_3 ji).f0).toList) (((rd_T67 s0_3 x3).f0).toList) with
             | false =>
              rw [c8_] at H
              obtain ⟨rfl, rfl, rfl⟩ := jt _ H
              clear jz jt H
              go_wp2
              go_quiet (with_reducible exact Calls.quiet_of ((spec_l01Name.calls _ _ _ _ A4_.out).mono fun e w' h => ⟨h.1, h.2.out⟩))
              go_wp2
              go_ret
              exact ⟨(by first | rfl | (simp; done) | (simp [*]; done)), (by repeat (first | exact HI0.out | apply IsS31.drewN | apply IsS31.drew)), (by repeat (first | exact HB.out | apply pw_below_drewN | apply below_drew1)), (by repeat (first | exact HK.out | apply keep_drewN | apply keep_drew))⟩
             | true =>
              rw [c8_] at H
              replace H := (show (spec_l05Ok.j2 k1 x3 false b0 b1 s0_2 s0_3) = some (r1, r2, r3) from by first | exact H | simpa using H)
              cases k1 with
              | zero => exact (jz _ H).elim
              | succ k2 =>
              simp only [spec_l05Ok.j2, Bool.false_eq_true, if_false] at H
              rw [if_pos C4.out, if_pos C3.out] at H
              clear jz jt
              replace H := Option.bind_eq_some_iff.mp H
              obtain ⟨⟨pl, t5, d0, d1⟩, A50, H⟩ := H
              have A5_ := Aside0.mk A50
              clear A50
              have ne_ : ∀ ad, Ar = some ad → 0 < (rd_T67 s0_3 x3).f1.length → ad.block ≠ g := fun ad hA hn => by
               obtain ⟨ad', e, hx⟩ := Kd.at_int hrr 0 (by omega) (by omega)
               rw [hA] at e
               cases e
               have := bL w0 _ hx
               rw [add_block] at this
               omega
              have go1 : True := trivial
              go_wp2
              go_quiet (with_reducible exact Calls.quiet_of ((spec_l01Name.calls _ _ _ _ A4_.out).mono fun e w' h => ⟨h.1, h.2.out⟩))
              have y1 := (HB.out.cell (bL w0 _ Y1.out)).trans Y1.out
              cases t5 with
              | false =>
               replace H := (show (some (false, d0, d1)) = some (r1, r2, r3) from by first | exact H | simpa using H)
               simp only [Option.some.injEq, Prod.mk.injEq] at H
               obtain ⟨rfl, rfl, rfl⟩ := H
               go_wp2_with (first | ((with_reducible refine gate_callee (f := 68) rfl ?_); refine goesL_ (some 86) rfl rfl Try.func68 (by kernel_rfl) rfl #[.pointer (some ⟨g, 0, none⟩), .slice Ar (rd_T67 s0_3 x3).f1.length cr] rfl (by (try simp only [List.map_toArray, List.map_cons, List.map_nil]); first | done | rfl) ?_; (with_reducible refine (spec_l05Ring.calls _ g b0 b1 s0_2 s0_3 Ar cr (rd_T67 s0_3 x3).f1 _ _ _ _ w0 _ (by repeat (first | exact HI0.out | apply IsS31.drewN | apply IsS31.drew)) (by repeat (first | exact HB.out | apply pw_below_drewN | apply below_drew1)) (Kd.C_below hrr (by repeat (first | exact HB.out | apply pw_below_drewN | apply below_drew1))) hcr ne_ A5_.out).mono ?_); rintro e w5 ⟨v0_, rfl, ho, hi, hb, hk⟩; refine ⟨_, rfl, ?_⟩; have n0_ := Aside0.mk hi; have n1_ := Aside0.mk hb; have n2_ : Aside0 (KeepBut w w5 g none) := ⟨KeepBut.trans (by repeat (first | exact HK.out | apply keep_drewN | apply keep_drew)) hk (.inl rfl)⟩; obtain ⟨Ao_, co_, eo_⟩ := Kd.R_slice ho; subst eo_; have HO_ := Aside0.mk (Kd.R_reads' ho); clear ho hi hb hk HI0 HB HK; have HI0 := n0_; have HB := n1_; have HK := n2_; clear n0_ n1_ n2_) | (go_at_call 68; (with_reducible refine (spec_l05Ring.calls _ g b0 b1 s0_2 s0_3 Ar cr (rd_T67 s0_3 x3).f1 _ _ _ _ w0 _ (by repeat (first | exact HI0.out | apply IsS31.drewN | apply IsS31.drew)) (by repeat (first | exact HB.out | apply pw_below_drewN | apply below_drew1)) (Kd.C_below hrr (by repeat (first | exact HB.out | apply pw_below_drewN | apply below_drew1))) hcr ne_ A5_.out).mono ?_); rintro e w5 ⟨v0_, rfl, ho, hi, hb, hk⟩; have n0_ := Aside0.mk hi; have n1_ := Aside0.mk hb; have n2_ : Aside0 (KeepBut w w5 g none) := ⟨KeepBut.trans (by repeat (first | exact HK.out | apply keep_drewN | apply keep_drew)) hk (.inl rfl)⟩; obtain ⟨Ao_, co_, eo_⟩ := Kd.R_slice ho; subst eo_; have HO_ := Aside0.mk (Kd.R_reads' ho); clear ho hi hb hk HI0 HB HK; have HI0 := n0_; have HB := n1_; have HK := n2_; clear n0_ n1_ n2_))
               go_ret
               exact ⟨(by first | rfl | (simp; done) | (simp [*]; done)), (by repeat (first | exact HI0.out | apply IsS31.drewN | apply IsS31.drew)), (by repeat (first | exact HB.out | apply pw_below_drewN | apply below_drew1)), (by repeat (first | exact HK.out | apply keep_drewN | apply keep_drew))⟩
              | true =>
               replace H := (show ((spec_l03Ok.f k2 pl).bind fun t254 => (if t254 = true then (spec_l05Ok.l0 k2 (wrap64 (x3 + 1)) d0 d1 s0_2 s0_3) else (some (false, d0, d1)))) = some (r1, r2, r3) from by first | exact H | simpa using H)
               replace H := Option.bind_eq_some_iff.mp H
               obtain ⟨t6, A60, H⟩ := H
               have A6_ := Aside0.mk A60
               clear A60
               cases t6 with
               | false =>
                replace H := (show (some (false, d0, d1)) = some (r1, r2, r3) from by first | exact H | simpa using H)
                simp only [Option.some.injEq, Prod.mk.injEq] at H
                obtain ⟨rfl, rfl, rfl⟩ := H
                go_wp2_with (first | ((with_reducible refine gate_callee (f := 68) rfl ?_); refine goesL_ (some 86) rfl rfl Try.func68 (by kernel_rfl) rfl #[.pointer (some ⟨g, 0, none⟩), .slice Ar (rd_T67 s0_3 x3).f1.length cr] rfl (by (try simp only [List.map_toArray, List.map_cons, List.map_nil]); first | done | rfl) ?_; (with_reducible refine (spec_l05Ring.calls _ g b0 b1 s0_2 s0_3 Ar cr (rd_T67 s0_3 x3).f1 _ _ _ _ w0 _ (by repeat (first | exact HI0.out | apply IsS31.drewN | apply IsS31.drew)) (by repeat (first | exact HB.out | apply pw_below_drewN | apply below_drew1)) (Kd.C_below hrr (by repeat (first | exact HB.out | apply pw_below_drewN | apply below_drew1))) hcr ne_ A5_.out).mono ?_); rintro e w5 ⟨v0_, rfl, ho, hi, hb, hk⟩; refine ⟨_, rfl, ?_⟩; have n0_ := Aside0.mk hi; have n1_ := Aside0.mk hb; have n2_ : Aside0 (KeepBut w w5 g none) := ⟨KeepBut.trans (by repeat (first | exact HK.out | apply keep_drewN | apply keep_drew)) hk (.inl rfl)⟩; obtain ⟨Ao_, co_, eo_⟩ := Kd.R_slice ho; subst eo_; have HO_ := Aside0.mk (Kd.R_reads' ho); clear ho hi hb hk HI0 HB HK; have HI0 := n0_; have HB := n1_; have HK := n2_; clear n0_ n1_ n2_) | (go_at_call 68; (with_reducible refine (spec_l05Ring.calls _ g b0 b1 s0_2 s0_3 Ar cr (rd_T67 s0_3 x3).f1 _ _ _ _ w0 _ (by repeat (first | exact HI0.out | apply IsS31.drewN | apply IsS31.drew)) (by repeat (first | exact HB.out | apply pw_below_drewN | apply below_drew1)) (Kd.C_below hrr (by repeat (first | exact HB.out | apply pw_below_drewN | apply below_drew1))) hcr ne_ A5_.out).mono ?_); rintro e w5 ⟨v0_, rfl, ho, hi, hb, hk⟩; have n0_ := Aside0.mk hi; have n1_ := Aside0.mk hb; have n2_ : Aside0 (KeepBut w w5 g none) := ⟨KeepBut.trans (by repeat (first | exact HK.out | apply keep_drewN | apply keep_drew)) hk (.inl rfl)⟩; obtain ⟨Ao_, co_, eo_⟩ := Kd.R_slice ho; subst eo_; have HO_ := Aside0.mk (Kd.R_reads' ho); clear ho hi hb hk HI0 HB HK; have HI0 := n0_; have HB := n1_; have HK := n2_; clear n0_ n1_ n2_) | ((with_reducible refine gate_callee (f := 69) rfl ?_); refine goesL_ (some 93) rfl rfl Try.func69 (by kernel_rfl) rfl #[.slice Ao_ pl.length co_] rfl (by (try simp only [List.map_toArray, List.map_cons, List.map_nil]); first | done | rfl) ?_; (with_reducible refine (spec_l03Ok.calls _ Ao_ co_ pl _ _ (by repeat (first | exact HO_.out.2.2 | (with_reducible refine Kd.C_drewN ?_ _) | (with_reducible refine Kd.C_drew ?_))) HO_.out.2.1 A6_.out).mono ?_); rintro e w5 ⟨rfl, hb⟩; refine ⟨_, rfl, ?_⟩; have n0_ := Aside0.mk (IsS31.below (by repeat (first | exact HI0.out | apply IsS31.drewN | apply IsS31.drew)) hb); have n1_ := Aside0.mk (below_step (by repeat (first | exact HB.out | apply pw_below_drewN | apply below_drew1)) hb); have n2_ : Aside0 (KeepBut w w5 g none) := ⟨KeepBut.trans (by repeat (first | exact HK.out | apply keep_drewN | apply keep_drew)) (KeepBut.of_below hb g none) (.inl rfl)⟩; clear hb HI0 HB HK; have HI0 := n0_; have HB := n1_; have HK := n2_; clear n0_ n1_ n2_) | (go_at_call 69; (with_reducible refine (spec_l03Ok.calls _ Ao_ co_ pl _ _ (by repeat (first | exact HO_.out.2.2 | (with_reducible refine Kd.C_drewN ?_ _) | (with_reducible refine Kd.C_drew ?_))) HO_.out.2.1 A6_.out).mono ?_); rintro e w5 ⟨rfl, hb⟩; have n0_ := Aside0.mk (IsS31.below (by repeat (first | exact HI0.out | apply IsS31.drewN | apply IsS31.drew)) hb); have n1_ := Aside0.mk (below_step (by repeat (first | exact HB.out | apply pw_below_drewN | apply below_drew1)) hb); have n2_ : Aside0 (KeepBut w w5 g none) := ⟨KeepBut.trans (by repeat (first | exact HK.out | apply keep_drewN | apply keep_drew)) (KeepBut.of_below hb g none) (.inl rfl)⟩; clear hb HI0 HB HK; have HI0 := n0_; have HB := n1_; have HK := n2_; clear n0_ n1_ n2_))
                go_ret
                exact ⟨(by first | rfl | (simp; done) | (simp [*]; done)), (by repeat (first | exact HI0.out | apply IsS31.drewN | apply IsS31.drew)), (by repeat (first | exact HB.out | apply pw_below_drewN | apply below_drew1)), (by repeat (first | exact HK.out | apply keep_drewN | apply keep_drew))⟩
               | true =>
                replace H := (show (spec_l05Ok.l0 k2 (wrap64 (x3 + 1)) d0 d1 s0_2 s0_3) = some (r1, r2, r3) from by first | exact H | simpa using H)
                have H' := Aside0.mk H
                clear H
                go_wp2_with (first | ((with_reducible refine gate_callee (f := 68) rfl ?_); refine goesL_ (some 86) rfl rfl Try.func68 (by kernel_rfl) rfl #[.pointer (some ⟨g, 0, none⟩), .slice Ar (rd_T67 s0_3 x3).f1.length cr] rfl (by (try simp only [List.map_toArray, List.map_cons, List.map_nil]); first | done | rfl) ?_; (with_reducible refine (spec_l05Ring.calls _ g b0 b1 s0_2 s0_3 Ar cr (rd_T67 s0_3 x3).f1 _ _ _ _ w0 _ (by repeat (first | exact HI0.out | apply IsS31.drewN | apply IsS31.drew)) (by repeat (first | exact HB.out | apply pw_below_drewN | apply below_drew1)) (Kd.C_below hrr (by repeat (first | exact HB.out | apply pw_below_drewN | apply below_drew1))) hcr ne_ A5_.out).mono ?_); rintro e w5 ⟨v0_, rfl, ho, hi, hb, hk⟩; refine ⟨_, rfl, ?_⟩; have n0_ := Aside0.mk hi; have n1_ := Aside0.mk hb; have n2_ : Aside0 (KeepBut w w5 g none) := ⟨KeepBut.trans (by repeat (first | exact HK.out | apply keep_drewN | apply keep_drew)) hk (.inl rfl)⟩; obtain ⟨Ao_, co_, eo_⟩ := Kd.R_slice ho; subst eo_; have HO_ := Aside0.mk (Kd.R_reads' ho); clear ho hi hb hk HI0 HB HK; have HI0 := n0_; have HB := n1_; have HK := n2_; clear n0_ n1_ n2_) | (go_at_call 68; (with_reducible refine (spec_l05Ring.calls _ g b0 b1 s0_2 s0_3 Ar cr (rd_T67 s0_3 x3).f1 _ _ _ _ w0 _ (by repeat (first | exact HI0.out | apply IsS31.drewN | apply IsS31.drew)) (by repeat (first | exact HB.out | apply pw_below_drewN | apply below_drew1)) (Kd.C_below hrr (by repeat (first | exact HB.out | apply pw_below_drewN | apply below_drew1))) hcr ne_ A5_.out).mono ?_); rintro e w5 ⟨v0_, rfl, ho, hi, hb, hk⟩; have n0_ := Aside0.mk hi; have n1_ := Aside0.mk hb; have n2_ : Aside0 (KeepBut w w5 g none) := ⟨KeepBut.trans (by repeat (first | exact HK.out | apply keep_drewN | apply keep_drew)) hk (.inl rfl)⟩; obtain ⟨Ao_, co_, eo_⟩ := Kd.R_slice ho; subst eo_; have HO_ := Aside0.mk (Kd.R_reads' ho); clear ho hi hb hk HI0 HB HK; have HI0 := n0_; have HB := n1_; have HK := n2_; clear n0_ n1_ n2_) | ((with_reducible refine gate_callee (f := 69) rfl ?_); refine goesL_ (some 93) rfl rfl Try.func69 (by kernel_rfl) rfl #[.slice Ao_ pl.length co_] rfl (by (try simp only [List.map_toArray, List.map_cons, List.map_nil]); first | done | rfl) ?_; (with_reducible refine (spec_l03Ok.calls _ Ao_ co_ pl _ _ (by repeat (first | exact HO_.out.2.2 | (with_reducible refine Kd.C_drewN ?_ _) | (with_reducible refine Kd.C_drew ?_))) HO_.out.2.1 A6_.out).mono ?_); rintro e w5 ⟨rfl, hb⟩; refine ⟨_, rfl, ?_⟩; have n0_ := Aside0.mk (IsS31.below (by repeat (first | exact HI0.out | apply IsS31.drewN | apply IsS31.drew)) hb); have n1_ := Aside0.mk (below_step (by repeat (first | exact HB.out | apply pw_below_drewN | apply below_drew1)) hb); have n2_ : Aside0 (KeepBut w w5 g none) := ⟨KeepBut.trans (by repeat (first | exact HK.out | apply keep_drewN | apply keep_drew)) (KeepBut.of_below hb g none) (.inl rfl)⟩; clear hb HI0 HB HK; have HI0 := n0_; have HB := n1_; have HK := n2_; clear n0_ n1_ n2_) | (go_at_call 69; (with_reducible refine (spec_l03Ok.calls _ Ao_ co_ pl _ _ (by repeat (first | exact HO_.out.2.2 | (with_reducible refine Kd.C_drewN ?_ _) | (with_reducible refine Kd.C_drew ?_))) HO_.out.2.1 A6_.out).mono ?_); rintro e w5 ⟨rfl, hb⟩; have n0_ := Aside0.mk (IsS31.below (by repeat (first | exact HI0.out | apply IsS31.drewN | apply IsS31.drew)) hb); have n1_ := Aside0.mk (below_step (by repeat (first | exact HB.out | apply pw_below_drewN | apply below_drew1)) hb); have n2_ : Aside0 (KeepBut w w5 g none) := ⟨KeepBut.trans (by repeat (first | exact HK.out | apply keep_drewN | apply keep_drew)) (KeepBut.of_below hb g none) (.inl rfl)⟩; clear hb HI0 HB HK; have HI0 := n0_; have HB := n1_; have HK := n2_; clear n0_ n1_ n2_))
                go_roundg k2
                case measure => have := HK1.out; omega
                case rel => exact ⟨(wrap64 (x3 + 1)), d0, d1, (by first | rfl | (simp; done) | (simp [*]; done)), H', ⟨by have := HK1.out; omega⟩, ⟨(by repeat (first | exact HI0.out | apply IsS31.drewN | apply IsS31.drew))⟩, ⟨(by repeat (first | exact HB.out | apply pw_below_drewN | apply below_drew1))⟩, ⟨(by repeat (first | exact HK.out | apply keep_drewN | apply keep_drew))⟩⟩
            ·rw [if_neg c7_] at H
             exact absurd H (by simp)
           ·rw [if_neg c6_] at H
            exact absurd H (by simp)
          ·rw [if_neg c5_] at H
           have c5b : decide (0 < x3) = false := decide_eq_false c5_
           clear c5_
           replace H := (show (spec_l05Ok.j2 k1 x3 false b0 b1 s0_2 s0_3) = some (r1, r2, r3) from by first | exact H | simpa using H)
           cases k1 with
           | zero => exact (jz _ H).elim
           | succ k2 =>
           simp only [spec_l05Ok.j2, Bool.false_eq_true, if_false] at H
           rw [if_pos C4.out, if_pos C3.out] at H
           clear jz jt
           replace H := Option.bind_eq_some_iff.mp H
           obtain ⟨⟨pl, t5, d0, d1⟩, A50, H⟩ := H
           have A5_ := Aside0.mk A50
           clear A50
           have ne_ : ∀ ad, Ar = some ad → 0 < (rd_T67 s0_3 x3).f1.length → ad.block ≠ g := fun ad hA hn => by
            obtain ⟨ad', e, hx⟩ := Kd.at_int hrr 0 (by omega) (by omega)
            rw [hA] at e
            cases e
            have := bL w0 _ hx
            rw [add_block] at this
            omega
           have go1 : True := trivial
           go_wp2
           go_quiet (with_reducible exact Calls.quiet_of ((spec_l01Name.calls _ _ _ _ A4_.out).mono fun e w' h => ⟨h.1, h.2.out⟩))
           have y1 := (HB.out.cell (bL w0 _ Y1.out)).trans Y1.out
           cases t5 with
           | false =>
            replace H := (show (some (false, d0, d1)) = some (r1, r2, r3) from by first | exact H | simpa using H)
            simp only [Option.some.injEq, Prod.mk.injEq] at H
            obtain ⟨rfl, rfl, rfl⟩ := H
            go_wp2_with (first | ((with_reducible refine gate_callee (f := 68) rfl ?_); refine goesL_ (some 86) rfl rfl Try.func68 (by kernel_rfl) rfl #[.pointer (some ⟨g, 0, none⟩), .slice Ar (rd_T67 s0_3 x3).f1.length cr] rfl (by (try simp only [List.map_toArray, List.map_cons, List.map_nil]); first | done | rfl) ?_; (with_reducible refine (spec_l05Ring.calls _ g b0 b1 s0_2 s0_3 Ar cr (rd_T67 s0_3 x3).f1 _ _ _ _ w0 _ (by repeat (first | exact HI0.out | apply IsS31.drewN | apply IsS31.drew)) (by repeat (first | exact HB.out | apply pw_below_drewN | apply below_drew1)) (Kd.C_below hrr (by repeat (first | exact HB.out | apply pw_below_drewN | apply below_drew1))) hcr ne_ A5_.out).mono ?_); rintro e w5 ⟨v0_, rfl, ho, hi, hb, hk⟩; refine ⟨_, rfl, ?_⟩; have n0_ := Aside0.mk hi; have n1_ := Aside0.mk hb; have n2_ : Aside0 (KeepBut w w5 g none) := ⟨KeepBut.trans (by repeat (first | exact HK.out | apply keep_drewN | apply keep_drew)) hk (.inl rfl)⟩; obtain ⟨Ao_, co_, eo_⟩ := Kd.R_slice ho; subst eo_; have HO_ := Aside0.mk (Kd.R_reads' ho); clear ho hi hb hk HI0 HB HK; have HI0 := n0_; have HB := n1_; have HK := n2_; clear n0_ n1_ n2_) | (go_at_call 68; (with_reducible refine (spec_l05Ring.calls _ g b0 b1 s0_2 s0_3 Ar cr (rd_T67 s0_3 x3).f1 _ _ _ _ w0 _ (by repeat (first | exact HI0.out | apply IsS31.drewN | apply IsS31.drew)) (by repeat (first | exact HB.out | apply pw_below_drewN | apply below_drew1)) (Kd.C_below hrr (by repeat (first | exact HB.out | apply pw_below_drewN | apply below_drew1))) hcr ne_ A5_.out).mono ?_); rintro e w5 ⟨v0_, rfl, ho, hi, hb, hk⟩; have n0_ := Aside0.mk hi; have n1_ := Aside0.mk hb; have n2_ : Aside0 (KeepBut w w5 g none) := ⟨KeepBut.trans (by repeat (first | exact HK.out | apply keep_drewN | apply keep_drew)) hk (.inl rfl)⟩; obtain ⟨Ao_, co_, eo_⟩ := Kd.R_slice ho; subst eo_; have HO_ := Aside0.mk (Kd.R_reads' ho); clear ho hi hb hk HI0 HB HK; have HI0 := n0_; have HB := n1_; have HK := n2_; clear n0_ n1_ n2_))
            go_ret
            exact ⟨(by first | rfl | (simp; done) | (simp [*]; done)), (by repeat (first | exact HI0.out | apply IsS31.drewN | apply IsS31.drew)), (by repeat (first | exact HB.out | apply pw_below_drewN | apply below_drew1)), (by repeat (first | exact HK.out | apply keep_drewN | apply keep_drew))⟩
           | true =>
            replace H := (show ((spec_l03Ok.f k2 pl).bind fun t254 => (if t254 = true then (spec_l05Ok.l0 k2 (wrap64 (x3 + 1)) d0 d1 s0_2 s0_3) else (some (false, d0, d1)))) = some (r1, r2, r3) from by first | exact H | simpa using H)
            replace H := Option.bind_eq_some_iff.mp H
            obtain ⟨t6, A60, H⟩ := H
            have A6_ := Aside0.mk A60
            clear A60
            cases t6 with
            | false =>
             replace H := (show (some (false, d0, d1)) = some (r1, r2, r3) from by first | exact H | simpa using H)
             simp only [Option.some.injEq, Prod.mk.injEq] at H
             obtain ⟨rfl, rfl, rfl⟩ := H
             go_wp2_with (first | ((with_reducible refine gate_callee (f := 68) rfl ?_); refine goesL_ (some 86) rfl rfl Try.func68 (by kernel_rfl) rfl #[.pointer (some ⟨g, 0, none⟩), .slice Ar (rd_T67 s0_3 x3).f1.length cr] rfl (by (try simp only [List.map_toArray, List.map_cons, List.map_nil]); first | done | rfl) ?_; (with_reducible refine (spec_l05Ring.calls _ g b0 b1 s0_2 s0_3 Ar cr (rd_T67 s0_3 x3).f1 _ _ _ _ w0 _ (by repeat (first | exact HI0.out | apply IsS31.drewN | apply IsS31.drew)) (by repeat (first | exact HB.out | apply pw_below_drewN | apply below_drew1)) (Kd.C_below hrr (by repeat (first | exact HB.out | apply pw_below_drewN | apply below_drew1))) hcr ne_ A5_.out).mono ?_); rintro e w5 ⟨v0_, rfl, ho, hi, hb, hk⟩; refine ⟨_, rfl, ?_⟩; have n0_ := Aside0.mk hi; have n1_ := Aside0.mk hb; have n2_ : Aside0 (KeepBut w w5 g none) := ⟨KeepBut.trans (by repeat (first | exact HK.out | apply keep_drewN | apply keep_drew)) hk (.inl rfl)⟩; obtain ⟨Ao_, co_, eo_⟩ := Kd.R_slice ho; subst eo_; have HO_ := Aside0.mk (Kd.R_reads' ho); clear ho hi hb hk HI0 HB HK; have HI0 := n0_; have HB := n1_; have HK := n2_; clear n0_ n1_ n2_) | (go_at_call 68; (with_reducible refine (spec_l05Ring.calls _ g b0 b1 s0_2 s0_3 Ar cr (rd_T67 s0_3 x3).f1 _ _ _ _ w0 _ (by repeat (first | exact HI0.out | apply IsS31.drewN | apply IsS31.drew)) (by repeat (first | exact HB.out | apply pw_below_drewN | apply below_drew1)) (Kd.C_below hrr (by repeat (first | exact HB.out | apply pw_below_drewN | apply below_drew1))) hcr ne_ A5_.out).mono ?_); rintro e w5 ⟨v0_, rfl, ho, hi, hb, hk⟩; have n0_ := Aside0.mk hi; have n1_ := Aside0.mk hb; have n2_ : Aside0 (KeepBut w w5 g none) := ⟨KeepBut.trans (by repeat (first | exact HK.out | apply keep_drewN | apply keep_drew)) hk (.inl rfl)⟩; obtain ⟨Ao_, co_, eo_⟩ := Kd.R_slice ho; subst eo_; have HO_ := Aside0.mk (Kd.R_reads' ho); clear ho hi hb hk HI0 HB HK; have HI0 := n0_; have HB := n1_; have HK := n2_; clear n0_ n1_ n2_) | ((with_reducible refine gate_callee (f := 69) rfl ?_); refine goesL_ (some 93) rfl rfl Try.func69 (by kernel_rfl) rfl #[.slice Ao_ pl.length co_] rfl (by (try simp only [List.map_toArray, List.map_cons, List.map_nil]); first | done | rfl) ?_; (with_reducible refine (spec_l03Ok.calls _ Ao_ co_ pl _ _ (by repeat (first | exact HO_.out.2.2 | (with_reducible refine Kd.C_drewN ?_ _) | (with_reducible refine Kd.C_drew ?_))) HO_.out.2.1 A6_.out).mono ?_); rintro e w5 ⟨rfl, hb⟩; refine ⟨_, rfl, ?_⟩; have n0_ := Aside0.mk (IsS31.below (by repeat (first | exact HI0.out | apply IsS31.drewN | apply IsS31.drew)) hb); have n1_ := Aside0.mk (below_step (by repeat (first | exact HB.out | apply pw_below_drewN | apply below_drew1)) hb); have n2_ : Aside0 (KeepBut w w5 g none) := ⟨KeepBut.trans (by repeat (first | exact HK.out | apply keep_drewN | apply keep_drew)) (KeepBut.of_below hb g none) (.inl rfl)⟩; clear hb HI0 HB HK; have HI0 := n0_; have HB := n1_; have HK := n2_; clear n0_ n1_ n2_) | (go_at_call 69; (with_reducible refine (spec_l03Ok.calls _ Ao_ co_ pl _ _ (by repeat (first | exact HO_.out.2.2 | (with_reducible refine Kd.C_drewN ?_ _) | (with_reducible refine Kd.C_drew ?_))) HO_.out.2.1 A6_.out).mono ?_); rintro e w5 ⟨rfl, hb⟩; have n0_ := Aside0.mk (IsS31.below (by repeat (first | exact HI0.out | apply IsS31.drewN | apply IsS31.drew)) hb); have n1_ := Aside0.mk (below_step (by repeat (first | exact HB.out | apply pw_below_drewN | apply below_drew1)) hb); have n2_ : Aside0 (KeepBut w w5 g none) := ⟨KeepBut.trans (by repeat (first | exact HK.out | apply keep_drewN | apply keep_drew)) (KeepBut.of_below hb g none) (.inl rfl)⟩; clear hb HI0 HB HK; have HI0 := n0_; have HB := n1_; have HK := n2_; clear n0_ n1_ n2_))
             go_ret
             exact ⟨(by first | rfl | (simp; done) | (simp [*]; done)), (by repeat (first | exact HI0.out | apply IsS31.drewN | apply IsS31.drew)), (by repeat (first | exact HB.out | apply pw_below_drewN | apply below_drew1)), (by repeat (first | exact HK.out | apply keep_drewN | apply keep_drew))⟩
            | true =>
             replace H := (show (spec_l05Ok.l0 k2 (wrap64 (x3 + 1)) d0 d1 s0_2 s0_3) = some (r1, r2, r3) from by first | exact H | simpa using H)
             have H' := Aside0.mk H
             clear H
             go_wp2_with (first | ((with_reducible refine gate_callee (f := 68) rfl ?_); refine goesL_ (some 86) rfl rfl Try.func68 (by kernel_rfl) rfl #[.pointer (some ⟨g, 0, none⟩), .slice Ar (rd_T67 s0_3 x3).f1.length cr] rfl (by (try simp only [List.map_toArray, List.map_cons, List.map_nil]); first | done | rfl) ?_; (with_reducible refine (spec_l05Ring.calls _ g b0 b1 s0_2 s0_3 Ar cr (rd_T67 s0_3 x3).f1 _ _ _ _ w0 _ (by repeat (first | exact HI0.out | apply IsS31.drewN | apply IsS31.drew)) (by repeat (first | exact HB.out | apply pw_below_drewN | apply below_drew1)) (Kd.C_below hrr (by repeat (first | exact HB.out | apply pw_below_drewN | apply below_drew1))) hcr ne_ A5_.out).mono ?_); rintro e w5 ⟨v0_, rfl, ho, hi, hb, hk⟩; refine ⟨_, rfl, ?_⟩; have n0_ := Aside0.mk hi; have n1_ := Aside0.mk hb; have n2_ : Aside0 (KeepBut w w5 g none) := ⟨KeepBut.trans (by repeat (first | exact HK.out | apply keep_drewN | apply keep_drew)) hk (.inl rfl)⟩; obtain ⟨Ao_, co_, eo_⟩ := Kd.R_slice ho; subst eo_; have HO_ := Aside0.mk (Kd.R_reads' ho); clear ho hi hb hk HI0 HB HK; have HI0 := n0_; have HB := n1_; have HK := n2_; clear n0_ n1_ n2_) | (go_at_call 68; (with_reducible refine (spec_l05Ring.calls _ g b0 b1 s0_2 s0_3 Ar cr (rd_T67 s0_3 x3).f1 _ _ _ _ w0 _ (by repeat (first | exact HI0.out | apply IsS31.drewN | apply IsS31.drew)) (by repeat (first | exact HB.out | apply pw_below_drewN | apply below_drew1)) (Kd.C_below hrr (by repeat (first | exact HB.out | apply pw_below_drewN | apply below_drew1))) hcr ne_ A5_.out).mono ?_); rintro e w5 ⟨v0_, rfl, ho, hi, hb, hk⟩; have n0_ := Aside0.mk hi; have n1_ := Aside0.mk hb; have n2_ : Aside0 (KeepBut w w5 g none) := ⟨KeepBut.trans (by repeat (first | exact HK.out | apply keep_drewN | apply keep_drew)) hk (.inl rfl)⟩; obtain ⟨Ao_, co_, eo_⟩ := Kd.R_slice ho; subst eo_; have HO_ := Aside0.mk (Kd.R_reads' ho); clear ho hi hb hk HI0 HB HK; have HI0 := n0_; have HB := n1_; have HK := n2_; clear n0_ n1_ n2_) | ((with_reducible refine gate_callee (f := 69) rfl ?_); refine goesL_ (some 93) rfl rfl Try.func69 (by kernel_rfl) rfl #[.slice Ao_ pl.length co_] rfl (by (try simp only [List.map_toArray, List.map_cons, List.map_nil]); first | done | rfl) ?_; (with_reducible refine (spec_l03Ok.calls _ Ao_ co_ pl _ _ (by repeat (first | exact HO_.out.2.2 | (with_reducible refine Kd.C_drewN ?_ _) | (with_reducible refine Kd.C_drew ?_))) HO_.out.2.1 A6_.out).mono ?_); rintro e w5 ⟨rfl, hb⟩; refine ⟨_, rfl, ?_⟩; have n0_ := Aside0.mk (IsS31.below (by repeat (first | exact HI0.out | apply IsS31.drewN | apply IsS31.drew)) hb); have n1_ := Aside0.mk (below_step (by repeat (first | exact HB.out | apply pw_below_drewN | apply below_drew1)) hb); have n2_ : Aside0 (KeepBut w w5 g none) := ⟨KeepBut.trans (by repeat (first | exact HK.out | apply keep_drewN | apply keep_drew)) (KeepBut.of_below hb g none) (.inl rfl)⟩; clear hb HI0 HB HK; have HI0 := n0_; have HB := n1_; have HK := n2_; clear n0_ n1_ n2_) | (go_at_call 69; (with_reducible refine (spec_l03Ok.calls _ Ao_ co_ pl _ _ (by repeat (first | exact HO_.out.2.2 | (with_reducible refine Kd.C_drewN ?_ _) | (with_reducible refine Kd.C_drew ?_))) HO_.out.2.1 A6_.out).mono ?_); rintro e w5 ⟨rfl, hb⟩; have n0_ := Aside0.mk (IsS31.below (by repeat (first | exact HI0.out | apply IsS31.drewN | apply IsS31.drew)) hb); have n1_ := Aside0.mk (below_step (by repeat (first | exact HB.out | apply pw_below_drewN | apply below_drew1)) hb); have n2_ : Aside0 (KeepBut w w5 g none) := ⟨KeepBut.trans (by repeat (first | exact HK.out | apply keep_drewN | apply keep_drew)) (KeepBut.of_below hb g none) (.inl rfl)⟩; clear hb HI0 HB HK; have HI0 := n0_; have HB := n1_; have HK := n2_; clear n0_ n1_ n2_))
             go_roundg k2
             case measure => have := HK1.out; omega
             case rel => exact ⟨(wrap64 (x3 + 1)), d0, d1, (by first | rfl | (simp; done) | (simp [*]; done)), H', ⟨by have := HK1.out; omega⟩, ⟨(by repeat (first | exact HI0.out | apply IsS31.drewN | apply IsS31.drew))⟩, ⟨(by repeat (first | exact HB.out | apply pw_below_drewN | apply below_drew1))⟩, ⟨(by repeat (first | exact HK.out | apply keep_drewN | apply keep_drew))⟩⟩
        ·rw [if_neg c4_] at H
         exact absurd H (by simp)
       ·rw [if_neg c3_] at H
        have c3b : decide (x3 < (s0_3.length : Int)) = false := decide_eq_false c3_
        clear c3_
        simp only [Option.some.injEq, Prod.mk.injEq] at H
        obtain ⟨rfl, rfl, rfl⟩ := H
        go_wp2
        go_ret
        exact ⟨(by first | rfl | (simp; done) | (simp [*]; done)), (by repeat (first | exact HI0.out | apply IsS31.drewN | apply IsS31.drew)), (by repeat (first | exact HB.out | apply pw_below_drewN | apply below_drew1)), (by repeat (first | exact HK.out | apply keep_drewN | apply keep_drew))⟩
def spec_ValidDrawing.f (k : Nat) (a0_0 : Int) (a0_1 : Int) (l0_2 : List (S48)) (l0_3 : List (S67)) : Option (Bool) := (spec_l05Ok.f k a0_0 a0_1 l0_2 l0_3).bind fun bt200 => (some bt200.1)
theorem spec_ValidDrawing.mono : ∀ a0 a1 a2 a3 k, LeO (spec_ValidDrawing.f k a0 a1 a2 a3) (spec_ValidDrawing.f (k + 1) a0 a1 a2 a3) := by
 intro a0 a1 a2 a3 k
 unfold spec_ValidDrawing.f
 repeat' first
   | (with_reducible exact spec_l05Ok.mono _ _ _ _ _)
   | (with_reducible exact LeO.refl _)
   | (with_reducible exact LeO.none _)
   | (with_reducible refine LeO.ite ?_ ?_)
   | (with_reducible refine LeO.bind ?_ (fun _ => ?_))
   | exact spec_l05Ok.mono _ _ _ _ _
   | exact LeO.none _
   | refine LeO.ite ?_ ?_
   | refine LeO.bind ?_ (fun _ => ?_)
set_option maxHeartbeats 8000000 in
set_option maxRecDepth 100000 in
theorem spec_ValidDrawing.calls (k : Nat) (a0_0 : Int) (a0_1 : Int) (A0_2 : Option Addr) (c0_2 : Nat) (l0_2 : List (S48)) (A0_3 : Option Addr) (c0_3 : Nat) (l0_3 : List (S67)) (r : Bool) (w : World) (hr0_2 : Kd.C k48 w A0_2 l0_2.length l0_2) (hc0_2 : l0_2.length ≤ c0_2) (hr0_3 : Kd.C k67 w A0_3 l0_3.length l0_3) (hc0_3 : l0_3.length ≤ c0_3) (h : spec_ValidDrawing.f k a0_0 a0_1 l0_2 l0_3 = some r) :
  Calls Try.prog 11 #[.agg #[.int .i64 a0_0, .int .i64 a0_1, .slice A0_2 l0_2.length c0_2, .slice A0_3 l0_3.length c0_3]] w fun e w' => e = .returned (.bool r) ∧ Below w.heap.size w w' := by
 have hu31 := Try.underlying31
 have HR0_2 := Aside0.mk hr0_2
 have HC0_2 := Aside0.mk hc0_2
 clear hr0_2 hc0_2
 have HR0_3 := Aside0.mk hr0_3
 have HC0_3 := Aside0.mk hc0_3
 clear hr0_3 hc0_3
 have HB := Aside0.mk (Below.refl w.heap.size w)
 have H : ((spec_l05Ok.f k a0_0 a0_1 l0_2 l0_3).bind fun bt200 => (some bt200.1)) = some r := h
 clear h
 replace H := Option.bind_eq_some_iff.mp H
 obtain ⟨⟨b, x, y⟩, A10, H⟩ := H
 have A1_ := Aside0.mk A10
 clear A10
 obtain rfl := Option.some.inj H
 go_enter Try.func11, Try.ntmps11
 go_wp2_with (first | ((with_reducible refine gate_dst (N := 1) rfl ?_); refine box_event ?hg (N := 1) ?hd (cs := #[.int .i64 a0_0, .int .i64 a0_1, .slice A0_2 l0_2.length c0_2, .slice A0_3 l0_3.length c0_3]) (t := 31) ?hr ?_; (case hd => rfl); (case hg => rfl); (case hr => first | (go_simp; done) | (go_simp; rfl)); intro gb hg w3 hbox hb; have HI := Aside0.mk (show IsS31 w w3 gb a0_0 a0_1 l0_2 l0_3 from ⟨A0_2, c0_2, A0_3, c0_3, hbox, Nat.le_of_eq hg.symm, HR0_2.out, HR0_3.out⟩); have n1_ := Aside0.mk (below_step (by repeat (first | exact HB.out | apply below_alloc | apply pw_below_drewN | apply below_drew1)) hb); clear HB; have HB := n1_; clear n1_ hbox hb hg) | ((with_reducible refine gate_callee (f := 37) rfl ?_); refine goesL_ (some 3) rfl rfl Try.func37 (by kernel_rfl) rfl #[.pointer (some ⟨gb, 0, none⟩)] rfl (by (try simp only [List.map_toArray, List.map_cons, List.map_nil]); first | done | rfl) ?_; (with_reducible refine (spec_l05Ok.calls _ gb a0_0 a0_1 l0_2 l0_3 _ _ _ w _ HI.out HB.out A1_.out).mono ?_); rintro e w5 ⟨rfl, hi, hb, hk⟩; refine ⟨_, rfl, ?_⟩; have n1_ := Aside0.mk hb; clear hi hb hk HB; have HB := n1_; clear n1_) | (go_at_call 37; (with_reducible refine (spec_l05Ok.calls _ gb a0_0 a0_1 l0_2 l0_3 _ _ _ w _ HI.out HB.out A1_.out).mono ?_); rintro e w5 ⟨rfl, hi, hb, hk⟩; have n1_ := Aside0.mk hb; clear hi hb hk HB; have HB := n1_; clear n1_))
 go_ret
 exact ⟨(by first | rfl | (simp; done) | (simp [*]; done)), (by repeat (first | exact HB.out | apply below_alloc | apply pw_below_drewN | apply below_drew1))⟩
def laws_toPoint.f (a0_0 : Int) (a0_1 : Int) : Option (Int × Int) := some (a0_0, a0_1)
set_option maxHeartbeats 8000000 in
set_option maxRecDepth 100000 in
theorem laws_toPoint.calls (a0_0 : Int) (a0_1 : Int) (r1 : Int) (r2 : Int) (w : World) (h : laws_toPoint.f a0_0 a0_1 = some (r1, r2)) :
  Calls Try.prog 26 #[.agg #[.int .i64 a0_0, .int .i64 a0_1]] w fun e w' => e = .returned (.agg #[.int .i64 r1, .int .i64 r2]) ∧ Below w.heap.size w w' := by
 have hu46 := Try.underlying46
 have hu48 := Try.underlying48
 have HB := Aside0.mk (Below.refl w.heap.size w)
 have H : (some (a0_0, a0_1)) = some (r1, r2) := h
 clear h
 simp only [Option.some.injEq, Prod.mk.injEq] at H
 obtain ⟨rfl, rfl⟩ := H
 go_enter Try.func26, Try.ntmps26
 go_wp2_with (first | ((with_reducible refine gate_dst (N := 1) rfl ?_); refine box_event ?hg (N := 1) ?hd (cs := #[.int .i64 a0_0, .int .i64 a0_1]) (t := 46) ?hr ?_; (case hd => rfl); (case hg => rfl); (case hr => first | (go_simp; done) | (go_simp; rfl)); intro gb203 hg w2 hbox hb; have n0_ := sb hb; have n1_ := Aside0.mk (hbox); have n2_ := zb hg; have n3_ := zb hg; clear HB; have HB := n0_; have BK203 := n1_; have GW203 := n2_; have GE203 := n3_; clear n0_ n1_ n2_ n3_; clear hb hbox hg) | ((with_reducible refine gate_dst (N := 2) rfl ?_); refine box_event ?hg (N := 2) ?hd (cs := #[.int .i64 0, .int .i64 0]) (t := 48) ?hr ?_; (case hd => rfl); (case hg => rfl); (case hr => first | (go_simp; done) | (go_simp; rfl)); intro gb204 hg w3 hbox hb; have n0_ := kb BK203 hb; have n1_ := sb hb; have n2_ := Aside0.mk (hbox); have n3_ := zb hg; have n4_ := zb hg; have n5_ := nl BK203 hg; have n6_ := ng BK203 hg; clear BK203; clear HB; have BK203 := n0_; have HB := n1_; have BK204 := n2_; have GW204 := n3_; have GE204 := n4_; have NB203_204 := n5_; have NB204_203 := n6_; clear n0_ n1_ n2_ n3_ n4_ n5_ n6_; clear hb hbox hg) | ((with_reducible refine gate_dst (N := 3) rfl ?_); refine box_event ?hg (N := 3) ?hd (cs := #[.int .i64 0, .int .i64 0]) (t := 48) ?hr ?_; (case hd => rfl); (case hg => rfl); (case hr => first | (go_simp; done) | (go_simp; rfl)); intro gb205 hg w4 hbox hb; have n0_ := kb BK203 hb; have n1_ := kb BK204 hb; have n2_ := sb hb; have n3_ := Aside0.mk (hbox); have n4_ := zb hg; have n5_ := zb hg; have n6_ := nl BK203 hg; have n7_ := ng BK203 hg; have n8_ := nl BK204 hg; have n9_ := ng BK204 hg; clear BK203; clear BK204; clear HB; have BK203 := n0_; have BK204 := n1_; have HB := n2_; have BK205 := n3_; have GW205 := n4_; have GE205 := n5_; have NB203_205 := n6_; have NB205_203 := n7_; have NB204_205 := n8_; have NB205_204 := n9_; clear n0_ n1_ n2_ n3_ n4_ n5_ n6_ n7_ n8_ n9_; clear hb hbox hg; have hnb5 := NB203_204.out; have hnc5 := NB204_203.out; have hnb6 := NB203_205.out; have hnc6 := NB205_203.out; have hcz7_0 := ck BK203 0; have hcz7_1 := ck BK203 1; have hfz7_0 := blk_frozen BK203.out 0; have hfz7_1 := blk_frozen BK203.out 1; have hnb8 := NB205_204.out; have hnc8 := NB204_205.out; have hcz9_0 := ck BK205 0; have hcz9_1 := ck BK205 1; have hfz9_0 := blk_frozen BK205.out 0; have hfz9_1 := blk_frozen BK205.out 1; have hcz10_0 := ck BK204 0; have hcz10_1 := ck BK204 1; have hfz10_0 := blk_frozen BK204.out 0; have hfz10_1 := blk_frozen BK204.out 1))
 refine bodyPost_ret (results_cell_row rfl _ _ gb204 48 #[.int .i64 a0_0, .int .i64 a0_1] (0, 0) _ rfl (by (with_reducible repeat (first | refine blk_drewN ?_ _ | refine blk_drew ?_ | refine blk_alloc ?_ _)); refine blk_put (cs := #[.int .i64 a0_0, .int .i64 0]) ?_ 1 _ rfl; (with_reducible repeat (first | refine blk_drewN ?_ _ | refine blk_drew ?_ | refine blk_alloc ?_ _)); refine blk_put (cs := #[.int .i64 0, .int .i64 0]) ?_ 0 _ rfl; (with_reducible repeat (first | refine blk_drewN ?_ _ | refine blk_drew ?_ | refine blk_alloc ?_ _)); refine blk_far ?_ NB204_205.out _; (with_reducible repeat (first | refine blk_drewN ?_ _ | refine blk_drew ?_ | refine blk_alloc ?_ _)); refine blk_far ?_ NB204_205.out _; (with_reducible repeat (first | refine blk_drewN ?_ _ | refine blk_drew ?_ | refine blk_alloc ?_ _)); exact BK204.out) Try.underlying48 rfl (by kernel_rfl)) rfl ?_
 exact ⟨by first | rfl | (simp [errW_none, errW_some] <;> rfl) | (simp [*, errW_none, errW_some] <;> rfl), by repeat (first | (with_reducible first | exact HB.out | apply below_alloc | apply pw_below_drewN | apply below_drew1 | refine below_set ?_ GE203.out | refine below_set ?_ GE204.out | refine below_set ?_ GE205.out) | exact HB.out)⟩
def laws_toPointS.l0 : Nat → List (S46) → List (S48) → Int → Option ((List (S48)))
 | 0, _, _, _ => none
 | k + 1, x0, x3, x4 => if x4 < (x0.length : Int) then (if 0 ≤ x4 then ((laws_toPoint.f ((rd_T46 x0 x4).f0) ((rd_T46 x0 x4).f1)).bind fun bt210 => (if x4 < (x3.length : Int) then (laws_toPointS.l0 k x0 (x3.set (x4 : Int).toNat (⟨bt210.1, bt210.2⟩ : S48)) (wrap64 (x4 + 1))) else (none))) else (none)) else (some x3)
def laws_toPointS.f (k : Nat) (l0 : List (S46)) : Option ((List (S48))) := if 0 ≤ (l0.length : Int) then (if ((l0.length : Int) : Int).toNat ≤ 17592186044416 then (laws_toPointS.l0 k l0 (List.replicate ((l0.length : Int) : Int).toNat z48) 0) else (none)) else (none)
theorem laws_toPointS.mono_l : ∀ k, (∀ y0 y1 y2, LeO (laws_toPointS.l0 k y0 y1 y2) (laws_toPointS.l0 (k + 1) y0 y1 y2))
 | 0 => fun _ _ _ r h => by simp [laws_toPointS.l0] at h
 | k + 1 => by
  have ih0 := laws_toPointS.mono_l k
  ·intro y0 y1 y2
   unfold laws_toPointS.l0
   repeat' first
   | (with_reducible exact ih0 _ _ _)
   | (with_reducible exact LeO.refl _)
   | (with_reducible exact LeO.none _)
   | (with_reducible refine LeO.ite ?_ ?_)
   | (with_reducible refine LeO.bind ?_ (fun _ => ?_))
   | exact ih0 _ _ _
   | exact LeO.none _
   | refine LeO.ite ?_ ?_
   | refine LeO.bind ?_ (fun _ => ?_)
theorem laws_toPointS.mono : ∀ a0 k, LeO (laws_toPointS.f k a0) (laws_toPointS.f (k + 1) a0) := by
 intro a0 k
 have ih0 := laws_toPointS.mono_l k
 unfold laws_toPointS.f
 repeat' first
   | (with_reducible exact ih0 _ _ _)
   | (with_reducible exact LeO.refl _)
   | (with_reducible exact LeO.none _)
   | (with_reducible refine LeO.ite ?_ ?_)
   | (with_reducible refine LeO.bind ?_ (fun _ => ?_))
   | exact ih0 _ _ _
   | exact LeO.none _
   | refine LeO.ite ?_ ?_
   | refine LeO.bind ?_ (fun _ => ?_)
set_option maxHeartbeats 8000000 in
set_option maxRecDepth 100000 in
theorem laws_toPointS.calls (k : Nat) (A0 : Option Addr) (c0 : Nat) (l0 : List (S46)) (r : List (S48)) (w : World) (hr0 : Kd.C k46 w A0 l0.length l0) (hc0 : l0.length ≤ c0) (h : laws_toPointS.f k l0 = some r) :
  Calls Try.prog 38 #[.slice A0 l0.length c0] w fun e w' => ∃ v0_ : Value, e = .returned (v0_) ∧ Kd.R k48 48 w' w.heap.size (fun _ => True) v0_ r ∧ Below w.heap.size w w' := by
 have hu46 := Try.underlying46
 have hu48 := Try.underlying48
 have HR0 := Aside0.mk hr0
 have HC0 := Aside0.mk hc0
 clear hr0 hc0
 have HB := Aside0.mk (Below.refl w.heap.size w)
 have H : (if 0 ≤ (l0.length : Int) then (if ((l0.length : Int) : Int).toNat ≤ 17592186044416 then (laws_toPointS.l0 k l0 (List.replicate ((l0.length : Int) : Int).toNat z48) 0) else (none)) else (none)) = some r := h
 clear h
 by_cases c2 : 0 ≤ (l0.length : Int)
 ·rw [if_pos c2] at H
  have c2b0 := eq_true c2
  have c2b1 : decide (0 ≤ (l0.length : Int)) = true := decide_eq_true c2
  clear c2
  by_cases c3 : ((l0.length : Int) : Int).toNat ≤ 17592186044416
  ·rw [if_pos c3] at H
   have c3b0 := eq_true c3
   have c3b1 : decide (((l0.length : Int) : Int).toNat ≤ 17592186044416) = true := decide_eq_true c3
   clear c3
   obtain ⟨y206, hy206⟩ : ∃ y_ : List (S48), y_ = (List.replicate ((l0.length : Int) : Int).toNat z48) := ⟨_, rfl⟩
   replace H : (laws_toPointS.l0 k l0 y206 0) = some r := by first | (rw [hy206]; with_reducible exact H) | (have H2_ := (Option.bind_some _ _).symm.trans H; rw [hy206]; with_reducible exact H2_) | (have H2_ := (Option.bind_some _ _).symm.trans H; with_reducible exact H2_) | with_reducible exact H | (rw [hy206]; exact H) | exact H
   have Ny206 := Aside0.mk hy206
   clear hy206
   have H' := Aside0.mk H
   clear H
   go_enter Try.func38, Try.ntmps38
   go_wp2_with (first | ((with_reducible refine gate_dst (N := 7) rfl ?_); refine Kd.R_make k48 _ 48 rfl (N := 7) rfl 28 _ _ rfl (l0.length : Int) rfl rfl Try.underlying28 (.agg #[(.int .i64 0), (.int .i64 0)]) 16 info48 rfl (by decide) (by omega) z48 (ok := fun _ => True) (okp := fun _ => True) (k48_mkM _ _ _ z48 ) (fun _ hk => hk) trivial (of_decide_eq_true (by first | (with_reducible assumption) | assumption)) (Nat.le_trans (Nat.mul_le_mul_right _ (of_decide_eq_true (by first | (with_reducible assumption) | assumption) : (l0.length : Int).toNat ≤ 17592186044416)) (by omega)) (Below.refl _ _) (Nat.le_refl _) ?_; intro v207 w4 ho5 hb hg_ hnew_; clear hg_ hnew_; (first | rw [← Ny206.out] at ho5 | (simp only [Int.reduceToNat] at ho5; rw [← Ny206.out] at ho5)); have n0_ := Aside0.mk (Kd.R_lower ho5 (below_size ib)); have n1_ := sb hb; clear HB; have HO208 := n0_; have HB := n1_; clear n0_ n1_; clear hb ho5))
   go_loopg [4] k (fun kq v4 w' => ∃ (x3_1 : List (S48)) (x4_1 : Int), v4 = .int .i64 x4_1 ∧ Aside0 (laws_toPointS.l0 kq l0 x3_1 x4_1 = some r) ∧ Aside0 (kq ≤ k) ∧ Aside0 (Kd.R k48 48 w' w.heap.size (fun _ => True) v207 x3_1) ∧ Aside0 (Below w.heap.size w w'))
   case atStart => exact ⟨(y206), (0), (by first | rfl | (simp; done) | (simp [*]; done)), H', ⟨Nat.le_refl _⟩, ⟨by (with_reducible repeat (first | apply Kd.R_alloc | apply Kd.R_drewN | apply Kd.R_drew)); exact HO208.out⟩, ⟨by repeat (first | (with_reducible first | exact HB.out | apply below_alloc | apply pw_below_drewN | apply below_drew1) | exact HB.out)⟩⟩
   case round =>
    clear H'
    try clear c2
    try clear c2b0
    try clear c2b1
    try clear p2
    try clear c3
    try clear c3b0
    try clear c3b1
    obtain ⟨x3_1, x4_1, rfl, HA, HK1, HO_3, HB⟩ := hrel
    cases gk with
    | zero => exact absurd HA.out (by simp [laws_toPointS.l0])
    | succ k1 =>
     have H := HA.out
     clear HA
     simp only [laws_toPointS.l0] at H
     by_cases c6 : x4_1 < (l0.length : Int)
     ·rw [if_pos c6] at H
      have c6b0 : decide (x4_1 < (l0.length : Int)) = true := decide_eq_true c6
      clear c6
      by_cases c7 : 0 ≤ x4_1
      ·rw [if_pos c7] at H
       have c7b0 : decide (0 ≤ x4_1) = true := decide_eq_true c7
       clear c7
       replace H := Option.bind_eq_some_iff.mp H
       obtain ⟨⟨t210, t211⟩, A80, H⟩ := H
       replace H : (if x4_1 < (x3_1.length : Int) then (laws_toPointS.l0 k1 l0 (x3_1.set (x4_1 : Int).toNat (⟨t210, t211⟩ : S48)) (wrap64 (x4_1 + 1))) else (none)) = some r := H
       have A8 := Aside0.mk A80
       clear A80
       by_cases c9 : x4_1 < (x3_1.length : Int)
       ·rw [if_pos c9] at H
        have c9b0 : decide (x4_1 < (x3_1.length : Int)) = true := decide_eq_true c9
        clear c9
        obtain ⟨y212, hy212⟩ : ∃ y_ : List (S48), y_ = (x3_1.set (x4_1 : Int).toNat (⟨t210, t211⟩ : S48)) := ⟨_, rfl⟩
        replace H : (laws_toPointS.l0 k1 l0 y212 (wrap64 (x4_1 + 1))) = some r := by first | (rw [hy212]; with_reducible exact H) | (have H2_ := (Option.bind_some _ _).symm.trans H; rw [hy212]; with_reducible exact H2_) | (have H2_ := (Option.bind_some _ _).symm.trans H; with_reducible exact H2_) | with_reducible exact H | (rw [hy212]; exact H) | exact H
        have Ny212 := Aside0.mk hy212
        clear hy212
        have H' := Aside0.mk H
        clear H
        have p209 : 0 ≤ (x4_1 : Int) := of_decide_eq_true (by first | (with_reducible assumption) | assumption)
        have q209 : x4_1 < (l0.length : Int) := of_decide_eq_true (by first | (with_reducible assumption) | assumption)
        obtain ⟨ad209, e209, hx209_0, hx209_1⟩ := at_T46 HR0.out x4_1 p209 q209
        cases e209
        replace hx209_0 := (HB.out.cell (bL w _ hx209_0)).trans hx209_0
        replace hx209_1 := (HB.out.cell (bL w _ hx209_1)).trans hx209_1
        replace p209 := eq_true p209
        replace q209 := eq_true q209
        go_wp2_with (first | ((with_reducible refine gate_callee (f := 26) rfl ?_); refine goesL_ (some 20) rfl rfl Try.func26 (by kernel_rfl) rfl #[.agg #[.int .i64 ((rd_T46 l0 x4_1).f0), .int .i64 ((rd_T46 l0 x4_1).f1)]] rfl (by (try simp only [List.map_toArray, List.map_cons, List.map_nil]); first | done | rfl | (simp only [List.length_drop, List.length_take]; rfl)) ?_; (with_reducible refine (laws_toPoint.calls ((rd_T46 l0 x4_1).f0) ((rd_T46 l0 x4_1).f1) t210 t211 _ A8.out).mono ?_); rintro e w11 ⟨rfl, hb⟩; refine ⟨_, rfl, ?_⟩; have n0_ := Aside0.mk (Kd.R_below (by (with_reducible repeat (first | apply Kd.R_alloc | apply Kd.R_drewN | apply Kd.R_drew)); exact HO_3.out) hb); have n1_ := sb hb; clear HO_3; clear HB; have HO_3 := n0_; have HB := n1_; clear n0_ n1_; (try clear hb); (try clear hb2); (try clear hk); (try clear hi); have p10 : 0 ≤ (x4_1 : Int) := of_decide_eq_true (by first | (with_reducible assumption) | assumption); have q10 : (x4_1 : Int) < ((x3_1.length : Int) : Int) := of_decide_eq_true (by first | (with_reducible assumption) | assumption); obtain ⟨go10, co10, eo10, gb10, gl10, cl10, HG10⟩ := Kd.R_form HO_3.out (by omega); (first | cases eo10 | (injection eo10 with ea_ en_ ec_; (first | subst ea_ | (injection ea_ with ea_; subst ea_)); subst ec_; clear en_)); have GB10 := Aside0.mk gb10; have GG10 := Aside0.mk HG10; clear gb10 gl10 HG10; obtain ⟨ce10, hcl10, hM10, hcc10, hfr10⟩ := Kd.R_elem HO_3.out z48 (x4_1 : Int) p10 q10; obtain rfl := k48_openM hM10; have hx10_0 : w11.cell? ⟨go10, (x4_1 : Int).toNat * 2, none⟩ = some (.int .i64 ((rd_T48 x3_1 x4_1).f0)) := hcc10 0 _ rfl; have hx10_1 : w11.cell? ⟨go10, (x4_1 : Int).toNat * 2 + 1, none⟩ = some (.int .i64 ((rd_T48 x3_1 x4_1).f1)) := hcc10 1 _ rfl; have hf10_0 : w11.frozen? ⟨go10, (x4_1 : Int).toNat * 2, none⟩ = false := hfr10 0; have hf10_1 : w11.frozen? ⟨go10, (x4_1 : Int).toNat * 2 + 1, none⟩ = false := hfr10 1; clear hcl10 hcc10 hfr10 hM10; replace p10 := eq_true p10; replace q10 := eq_true q10; have HX12 := Aside0.mk (show Kd.R k48 48 w11 w.heap.size (fun _ => True) (.slice (some ⟨go10, 0, none⟩) x3_1.length co10) x3_1 from (by (with_reducible repeat (first | apply Kd.R_alloc | apply Kd.R_drewN | apply Kd.R_drew)); exact HO_3.out)); obtain ⟨ce12, hcl12, hM12, hcc12, hfr12⟩ := Kd.R_elem HX12.out z48 (x4_1 : Int) (of_decide_eq_true (by first | (with_reducible assumption) | assumption)) (by have h_ : (x4_1 : Int) < ((x3_1.length : Int) : Int) := of_decide_eq_true (by first | (with_reducible assumption) | assumption); first | exact h_ | (have e_ := (Kd.R_reads' HO_3.out).1; omega) | simpa using h_); obtain rfl := k48_openM hM12; have HP12 := Kd.R_seg HX12.out (x4_1 : Int) (of_decide_eq_true (by first | (with_reducible assumption) | assumption)) (by have h_ : (x4_1 : Int) < ((x3_1.length : Int) : Int) := of_decide_eq_true (by first | (with_reducible assumption) | assumption); first | exact h_ | (have e_ := (Kd.R_reads' HO_3.out).1; omega) | simpa using h_) (seg := [.int .i64 t210, .int .i64 t211]) (j := 0) hcl12 hcc12 (show 2 ≤ 2 from by decide) (x' := (⟨t210, t211⟩ : S48)) (k48_mkM _ _ _ (⟨t210, t211⟩ : S48) ) (fun _ hk => hk); have hx12_0 := hcc12 0 _ rfl; (try simp only [show (k48).sz = 2 from rfl, Nat.mul_one, Nat.add_zero] at hx12_0); have hf12_0 := hfr12 0; (try simp only [show (k48).sz = 2 from rfl, Nat.mul_one, Nat.add_zero] at hf12_0); have hx12_1 := hcc12 1 _ rfl; (try simp only [show (k48).sz = 2 from rfl, Nat.mul_one, Nat.add_zero] at hx12_1); have hf12_1 := hfr12 1; (try simp only [show (k48).sz = 2 from rfl, Nat.mul_one, Nat.add_zero] at hf12_1); clear hcl12 hcc12 hfr12 hM12) | ((with_reducible refine gate_store (t := 48) (p := 21) rfl ?_); refine store_event (t := 48) (p := 21) (v := ?vo_w13) (w1 := ((w11.setCell ⟨go10, (x4_1 : Int).toNat * 2, none⟩ (.int .i64 t210)).setCell ⟨go10, (x4_1 : Int).toNat * 2 + 1, none⟩ (.int .i64 t211))) ?hg ?ho ?hn ?hr ?_; (case ho => rfl); (case hg => rfl); (case hn => rfl); (case hr => first | (go_simp; done) | (go_simp; rfl)); intro w13 hw; have hg : w11.grownBy w13 (some go10) := (by rw [hw]; exact HP12.2); have hp_ : Kd.R k48 48 w13 w.heap.size (fun _ => True) (.slice (some ⟨go10, 0, none⟩) x3_1.length co10) y212 := (by rw [hw, Ny212.out]; exact HP12.1); clear HP12; have n0_ := Aside0.mk (hp_); have n1_ := Aside0.mk ((by rw [hw]; exact below_set (below_set (HB.out) GB10.out) GB10.out : Below w.heap.size w w13)); clear HO_3; clear HB; have HO_3 := n0_; have HB := n1_; clear n0_ n1_; clear hg hw hp_))
        go_roundg k1
        case measure => have := HK1.out; omega
        case rel => exact ⟨(y212), (wrap64 (x4_1 + 1)), (by first | rfl | (simp; done) | (simp [*]; done)), H', ⟨by have := HK1.out; omega⟩, ⟨by (with_reducible repeat (first | apply Kd.R_alloc | apply Kd.R_drewN | apply Kd.R_drew)); exact HO_3.out⟩, ⟨by repeat (first | (with_reducible first | exact HB.out | apply below_alloc | apply pw_below_drewN | apply below_drew1) | exact HB.out)⟩⟩
       ·rw [if_neg c9] at H
        exact absurd H (by simp)
      ·rw [if_neg c7] at H
       exact absurd H (by simp)
     ·rw [if_neg c6] at H
      have c6b0 : decide (x4_1 < (l0.length : Int)) = false := decide_eq_false c6
      clear c6
      obtain rfl := Option.some.inj H
      go_wp2
      go_ret
      exact ⟨_, by first | rfl | (simp [errW_none, errW_some] <;> rfl) | (simp [*, errW_none, errW_some] <;> rfl), by (with_reducible repeat (first | apply Kd.R_alloc | apply Kd.R_drewN | apply Kd.R_drew)); exact HO_3.out, by repeat (first | (with_reducible first | exact HB.out | apply below_alloc | apply pw_below_drewN | apply below_drew1) | exact HB.out)⟩
  ·rw [if_neg c3] at H
   exact absurd H (by simp)
 ·rw [if_neg c2] at H
  exact absurd H (by simp)
def laws_toInt64S.l0 : Nat → List Int → List Int → Int → Option (List Int)
 | 0, _, _, _ => none
 | k + 1, x0, x3, x4 => if x4 < (x0.length : Int) then (if 0 ≤ x4 then (if x4 < (x3.length : Int) then (laws_toInt64S.l0 k x0 (x3.set (x4 : Int).toNat (rd x0 x4)) (wrap64 (x4 + 1))) else (none)) else (none)) else (some x3)
def laws_toInt64S.f (k : Nat) (l0 : List Int) : Option (List Int) := if 0 ≤ (l0.length : Int) then (if ((l0.length : Int) : Int).toNat ≤ 35184372088832 then (laws_toInt64S.l0 k l0 (List.replicate ((l0.length : Int) : Int).toNat 0) 0) else (none)) else (none)
theorem laws_toInt64S.mono_l : ∀ k, (∀ y0 y1 y2, LeO (laws_toInt64S.l0 k y0 y1 y2) (laws_toInt64S.l0 (k + 1) y0 y1 y2))
 | 0 => fun _ _ _ r h => by simp [laws_toInt64S.l0] at h
 | k + 1 => by
  have ih0 := laws_toInt64S.mono_l k
  ·intro y0 y1 y2
   unfold laws_toInt64S.l0
   repeat' first
   | (with_reducible exact ih0 _ _ _)
   | (with_reducible exact LeO.refl _)
   | (with_reducible exact LeO.none _)
   | (with_reducible refine LeO.ite ?_ ?_)
   | (with_reducible refine LeO.bind ?_ (fun _ => ?_))
   | exact ih0 _ _ _
   | exact LeO.none _
   | refine LeO.ite ?_ ?_
   | refine LeO.bind ?_ (fun _ => ?_)
theorem laws_toInt64S.mono : ∀ a0 k, LeO (laws_toInt64S.f k a0) (laws_toInt64S.f (k + 1) a0) := by
 intro a0 k
 have ih0 := laws_toInt64S.mono_l k
 unfold laws_toInt64S.f
 repeat' first
   | (with_reducible exact ih0 _ _ _)
   | (with_reducible exact LeO.refl _)
   | (with_reducible exact LeO.none _)
   | (with_reducible refine LeO.ite ?_ ?_)
   | (with_reducible refine LeO.bind ?_ (fun _ => ?_))
   | exact ih0 _ _ _
   | exact LeO.none _
   | refine LeO.ite ?_ ?_
   | refine LeO.bind ?_ (fun _ => ?_)
set_option maxHeartbeats 8000000 in
set_option maxRecDepth 100000 in
theorem laws_toInt64S.calls (k : Nat) (A0 : Option Addr) (c0 : Nat) (l0 : List Int) (r : List Int) (w : World) (hr0 : Kd.C (Kd.int .i64) w A0 l0.length l0) (hc0 : l0.length ≤ c0) (h : laws_toInt64S.f k l0 = some r) :
  Calls Try.prog 91 #[.slice A0 l0.length c0] w fun e w' => ∃ v0_ : Value, e = .returned (v0_) ∧ Kd.R (Kd.int .i64) 2 w' w.heap.size (fun _ => True) v0_ r ∧ Below w.heap.size w w' := by
 have HR0 := Aside0.mk hr0
 have HC0 := Aside0.mk hc0
 clear hr0 hc0
 have HB := Aside0.mk (Below.refl w.heap.size w)
 have H : (if 0 ≤ (l0.length : Int) then (if ((l0.length : Int) : Int).toNat ≤ 35184372088832 then (laws_toInt64S.l0 k l0 (List.replicate ((l0.length : Int) : Int).toNat 0) 0) else (none)) else (none)) = some r := h
 clear h
 by_cases c2 : 0 ≤ (l0.length : Int)
 ·rw [if_pos c2] at H
  have c2b0 := eq_true c2
  have c2b1 : decide (0 ≤ (l0.length : Int)) = true := decide_eq_true c2
  clear c2
  by_cases c3 : ((l0.length : Int) : Int).toNat ≤ 35184372088832
  ·rw [if_pos c3] at H
   have c3b0 := eq_true c3
   have c3b1 : decide (((l0.length : Int) : Int).toNat ≤ 35184372088832) = true := decide_eq_true c3
   clear c3
   obtain ⟨y213, hy213⟩ : ∃ y_ : List Int, y_ = (List.replicate ((l0.length : Int) : Int).toNat 0) := ⟨_, rfl⟩
   replace H : (laws_toInt64S.l0 k l0 y213 0) = some r := by first | (rw [hy213]; with_reducible exact H) | (have H2_ := (Option.bind_some _ _).symm.trans H; rw [hy213]; with_reducible exact H2_) | (have H2_ := (Option.bind_some _ _).symm.trans H; with_reducible exact H2_) | with_reducible exact H | (rw [hy213]; exact H) | exact H
   have Ny213 := Aside0.mk hy213
   clear hy213
   have H' := Aside0.mk H
   clear H
   go_enter Try.func91, Try.ntmps91
   go_wp2_with (first | ((with_reducible refine gate_dst (N := 7) rfl ?_); refine Kd.R_make (Kd.int .i64) _ 2 rfl (N := 7) rfl 51 _ _ rfl (l0.length : Int) rfl rfl Try.underlying51 (.int .i64 0) 8 info2 rfl (by decide) (by omega) 0 (ok := fun _ => True) (okp := fun _ => True) rfl (fun _ hk => hk) trivial (of_decide_eq_true (by first | (with_reducible assumption) | assumption)) (Nat.le_trans (Nat.mul_le_mul_right _ (of_decide_eq_true (by first | (with_reducible assumption) | assumption) : (l0.length : Int).toNat ≤ 35184372088832)) (by omega)) (Below.refl _ _) (Nat.le_refl _) ?_; intro v214 w4 ho5 hb hg_ hnew_; clear hg_ hnew_; (first | rw [← Ny213.out] at ho5 | (simp only [Int.reduceToNat] at ho5; rw [← Ny213.out] at ho5)); have n0_ := Aside0.mk (Kd.R_lower ho5 (below_size ib)); have n1_ := sb hb; clear HB; have HO215 := n0_; have HB := n1_; clear n0_ n1_; clear hb ho5))
   go_loopg [4] k (fun kq v4 w' => ∃ (x3_1 : List Int) (x4_1 : Int), v4 = .int .i64 x4_1 ∧ Aside0 (laws_toInt64S.l0 kq l0 x3_1 x4_1 = some r) ∧ Aside0 (kq ≤ k) ∧ Aside0 (Kd.R (Kd.int .i64) 2 w' w.heap.size (fun _ => True) v214 x3_1) ∧ Aside0 (Below w.heap.size w w'))
   case atStart => exact ⟨(y213), (0), (by first | rfl | (simp; done) | (simp [*]; done)), H', ⟨Nat.le_refl _⟩, ⟨by (with_reducible repeat (first | apply Kd.R_alloc | apply Kd.R_drewN | apply Kd.R_drew)); exact HO215.out⟩, ⟨by repeat (first | (with_reducible first | exact HB.out | apply below_alloc | apply pw_below_drewN | apply below_drew1) | exact HB.out)⟩⟩
   case round =>
    clear H'
    try clear c2
    try clear c2b0
    try clear c2b1
    try clear p2
    try clear c3
    try clear c3b0
    try clear c3b1
    obtain ⟨x3_1, x4_1, rfl, HA, HK1, HO_3, HB⟩ := hrel
    cases gk with
    | zero => exact absurd HA.out (by simp [laws_toInt64S.l0])
    | succ k1 =>
     have H := HA.out
     clear HA
     simp only [laws_toInt64S.l0] at H
     by_cases c6 : x4_1 < (l0.length : Int)
     ·rw [if_pos c6] at H
      have c6b0 : decide (x4_1 < (l0.length : Int)) = true := decide_eq_true c6
      clear c6
      by_cases c7 : 0 ≤ x4_1
      ·rw [if_pos c7] at H
       have c7b0 : decide (0 ≤ x4_1) = true := decide_eq_true c7
       clear c7
       by_cases c8 : x4_1 < (x3_1.length : Int)
       ·rw [if_pos c8] at H
        have c8b0 : decide (x4_1 < (x3_1.length : Int)) = true := decide_eq_true c8
        clear c8
        obtain ⟨y217, hy217⟩ : ∃ y_ : List Int, y_ = (x3_1.set (x4_1 : Int).toNat (rd l0 x4_1)) := ⟨_, rfl⟩
        replace H : (laws_toInt64S.l0 k1 l0 y217 (wrap64 (x4_1 + 1))) = some r := by first | (rw [hy217]; with_reducible exact H) | (have H2_ := (Option.bind_some _ _).symm.trans H; rw [hy217]; with_reducible exact H2_) | (have H2_ := (Option.bind_some _ _).symm.trans H; with_reducible exact H2_) | with_reducible exact H | (rw [hy217]; exact H) | exact H
        have Ny217 := Aside0.mk hy217
        clear hy217
        have H' := Aside0.mk H
        clear H
        have p216 : 0 ≤ (x4_1 : Int) := of_decide_eq_true (by first | (with_reducible assumption) | assumption)
        have q216 : x4_1 < (l0.length : Int) := of_decide_eq_true (by first | (with_reducible assumption) | assumption)
        obtain ⟨ad216, e216, hx216_0⟩ := Kd.at_int HR0.out x4_1 p216 q216
        cases e216
        replace hx216_0 := (HB.out.cell (bL w _ hx216_0)).trans hx216_0
        replace p216 := eq_true p216
        replace q216 := eq_true q216
        have p9 : 0 ≤ (x4_1 : Int) := of_decide_eq_true (by first | (with_reducible assumption) | assumption)
        have q9 : (x4_1 : Int) < ((x3_1.length : Int) : Int) := of_decide_eq_true (by first | (with_reducible assumption) | assumption)
        obtain ⟨go9, co9, eo9, gb9, gl9, cl9, HG9⟩ := Kd.R_form HO_3.out (by omega)
        (first | cases eo9 | (injection eo9 with ea_ en_ ec_; (first | subst ea_ | (injection ea_ with ea_; subst ea_)); subst ec_; clear en_))
        have GB9 := Aside0.mk gb9
        have GG9 := Aside0.mk HG9
        clear gb9 gl9 HG9
        obtain ⟨hx9_0, hf9_0⟩ := Kd.R_celln 0 HO_3.out (x4_1 : Int) p9 q9
        replace p9 := eq_true p9
        replace q9 := eq_true q9
        have HP10 := Kd.R_putg HO_3.out (x4_1 : Int) (rd l0 x4_1)
        go_wp2_with (first | ((with_reducible refine gate_store (t := 2) (p := 20) rfl ?_); refine store_event (t := 2) (p := 20) (v := ?vo_w11) (w1 := (wr.setCell ⟨go9, (x4_1 : Int).toNat, none⟩ (.int .i64 (rd l0 x4_1)))) ?hg ?ho ?hn ?hr ?_; (case ho => rfl); (case hg => rfl); (case hn => rfl); (case hr => first | (go_simp; done) | (go_simp; rfl)); intro w11 hw; have hg : wr.grownBy w11 (some go9) := (by rw [hw]; exact HP10.2); have hp_ : Kd.R (Kd.int .i64) 2 w11 w.heap.size (fun _ => True) (.slice (some ⟨go9, 0, none⟩) x3_1.length co9) y217 := (by rw [hw, Ny217.out]; exact HP10.1); clear HP10; have n0_ := Aside0.mk (hp_); have n1_ := Aside0.mk ((by rw [hw]; exact below_set (HB.out) GB9.out : Below w.heap.size w w11)); clear HO_3; clear HB; have HO_3 := n0_; have HB := n1_; clear n0_ n1_; clear hg hw hp_))
        go_roundg k1
        case measure => have := HK1.out; omega
        case rel => exact ⟨(y217), (wrap64 (x4_1 + 1)), (by first | rfl | (simp; done) | (simp [*]; done)), H', ⟨by have := HK1.out; omega⟩, ⟨by (with_reducible repeat (first | apply Kd.R_alloc | apply Kd.R_drewN | apply Kd.R_drew)); exact HO_3.out⟩, ⟨by repeat (first | (with_reducible first | exact HB.out | apply below_alloc | apply pw_below_drewN | apply below_drew1) | exact HB.out)⟩⟩
       ·rw [if_neg c8] at H
        exact absurd H (by simp)
      ·rw [if_neg c7] at H
       exact absurd H (by simp)
     ·rw [if_neg c6] at H
      have c6b0 : decide (x4_1 < (l0.length : Int)) = false := decide_eq_false c6
      clear c6
      obtain rfl := Option.some.inj H
      go_wp2
      go_ret
      exact ⟨_, by first | rfl | (simp [errW_none, errW_some] <;> rfl) | (simp [*, errW_none, errW_some] <;> rfl), by (with_reducible repeat (first | apply Kd.R_alloc | apply Kd.R_drewN | apply Kd.R_drew)); exact HO_3.out, by repeat (first | (with_reducible first | exact HB.out | apply below_alloc | apply pw_below_drewN | apply below_drew1) | exact HB.out)⟩
  ·rw [if_neg c3] at H
   exact absurd H (by simp)
 ·rw [if_neg c2] at H
  exact absurd H (by simp)
def laws_toFace.f (k : Nat) (a0_0 : ByteArray) (l0_1 : List Int) : Option (ByteArray × List Int) := (laws_toInt64S.f k l0_1).bind fun t221 => (some (a0_0, t221))
theorem laws_toFace.mono : ∀ a0 a1 k, LeO (laws_toFace.f k a0 a1) (laws_toFace.f (k + 1) a0 a1) := by
 intro a0 a1 k
 unfold laws_toFace.f
 repeat' first
   | (with_reducible exact laws_toInt64S.mono _ _)
   | (with_reducible exact LeO.refl _)
   | (with_reducible exact LeO.none _)
   | (with_reducible refine LeO.ite ?_ ?_)
   | (with_reducible refine LeO.bind ?_ (fun _ => ?_))
   | exact laws_toInt64S.mono _ _
   | exact LeO.none _
   | refine LeO.ite ?_ ?_
   | refine LeO.bind ?_ (fun _ => ?_)
set_option maxHeartbeats 8000000 in
set_option maxRecDepth 100000 in
theorem laws_toFace.calls (k : Nat) (a0_0 : ByteArray) (A0_1 : Option Addr) (c0_1 : Nat) (l0_1 : List Int) (r1 : ByteArray) (r2 : List Int) (w : World) (hr0_1 : Kd.C (Kd.int .i64) w A0_1 l0_1.length l0_1) (hc0_1 : l0_1.length ≤ c0_1) (h : laws_toFace.f k a0_0 l0_1 = some (r1, r2)) :
  Calls Try.prog 70 #[.agg #[.string a0_0, .slice A0_1 l0_1.length c0_1]] w fun e w' => ∃ v1_ : Value, e = .returned (.agg #[.string r1, v1_]) ∧ Kd.R (Kd.int .i64) 2 w' w.heap.size (fun _ => True) v1_ r2 ∧ Below w.heap.size w w' := by
 have hu92 := Try.underlying92
 have hu67 := Try.underlying67
 have HR0_1 := Aside0.mk hr0_1
 have HC0_1 := Aside0.mk hc0_1
 clear hr0_1 hc0_1
 have HB := Aside0.mk (Below.refl w.heap.size w)
 have H : ((laws_toInt64S.f k l0_1).bind fun t221 => (some (a0_0, t221))) = some (r1, r2) := h
 clear h
 replace H := Option.bind_eq_some_iff.mp H
 obtain ⟨t221, A20, H⟩ := H
 replace H : (some (a0_0, t221)) = some (r1, r2) := H
 have A2 := Aside0.mk A20
 clear A20
 simp only [Option.some.injEq, Prod.mk.injEq] at H
 obtain ⟨rfl, rfl⟩ := H
 go_enter Try.func70, Try.ntmps70
 go_wp2_with (first | ((with_reducible refine gate_dst (N := 1) rfl ?_); refine box_event ?hg (N := 1) ?hd (cs := #[.string a0_0, .slice A0_1 l0_1.length c0_1]) (t := 92) ?hr ?_; (case hd => rfl); (case hg => rfl); (case hr => first | (go_simp; done) | (go_simp; rfl)); intro gb218 hg w3 hbox hb; have n0_ := sb hb; have n1_ := Aside0.mk (hbox); have n2_ := zb hg; have n3_ := zb hg; clear HB; have HB := n0_; have BK218 := n1_; have GW218 := n2_; have GE218 := n3_; clear n0_ n1_ n2_ n3_; clear hb hbox hg) | ((with_reducible refine gate_dst (N := 2) rfl ?_); refine box_event ?hg (N := 2) ?hd (cs := #[.string (⟨#[]⟩ : ByteArray), .slice none 0 0]) (t := 67) ?hr ?_; (case hd => rfl); (case hg => rfl); (case hr => first | (go_simp; done) | (go_simp; rfl)); intro gb219 hg w4 hbox hb; have n0_ := kb BK218 hb; have n1_ := sb hb; have n2_ := Aside0.mk (hbox); have n3_ := zb hg; have n4_ := zb hg; have n5_ := nl BK218 hg; have n6_ := ng BK218 hg; clear BK218; clear HB; have BK218 := n0_; have HB := n1_; have BK219 := n2_; have GW219 := n3_; have GE219 := n4_; have NB218_219 := n5_; have NB219_218 := n6_; clear n0_ n1_ n2_ n3_ n4_ n5_ n6_; clear hb hbox hg) | ((with_reducible refine gate_dst (N := 3) rfl ?_); refine box_event ?hg (N := 3) ?hd (cs := #[.string (⟨#[]⟩ : ByteArray), .slice none 0 0]) (t := 67) ?hr ?_; (case hd => rfl); (case hg => rfl); (case hr => first | (go_simp; done) | (go_simp; rfl)); intro gb220 hg w5 hbox hb; have n0_ := kb BK218 hb; have n1_ := kb BK219 hb; have n2_ := sb hb; have n3_ := Aside0.mk (hbox); have n4_ := zb hg; have n5_ := zb hg; have n6_ := nl BK218 hg; have n7_ := ng BK218 hg; have n8_ := nl BK219 hg; have n9_ := ng BK219 hg; clear BK218; clear BK219; clear HB; have BK218 := n0_; have BK219 := n1_; have HB := n2_; have BK220 := n3_; have GW220 := n4_; have GE220 := n5_; have NB218_220 := n6_; have NB220_218 := n7_; have NB219_220 := n8_; have NB220_219 := n9_; clear n0_ n1_ n2_ n3_ n4_ n5_ n6_ n7_ n8_ n9_; clear hb hbox hg; have hnb6 := NB218_219.out; have hnc6 := NB219_218.out; have hnb7 := NB218_220.out; have hnc7 := NB220_218.out; have hcz8_0 := ck BK218 0; have hcz8_1 := ck BK218 1; have hfz8_0 := blk_frozen BK218.out 0; have hfz8_1 := blk_frozen BK218.out 1; have hnb9 := NB220_219.out; have hnc9 := NB219_220.out; have hcz10_0 := ck BK220 0; have hcz10_1 := ck BK220 1; have hfz10_0 := blk_frozen BK220.out 0; have hfz10_1 := blk_frozen BK220.out 1) | ((with_reducible refine gate_callee (f := 91) rfl ?_); refine goesL_ (some 9) rfl rfl Try.func91 (by kernel_rfl) rfl #[.slice A0_1 l0_1.length c0_1] rfl (by (try simp only [List.map_toArray, List.map_cons, List.map_nil]); first | done | rfl | (simp only [List.length_drop, List.length_take]; rfl)) ?_; (with_reducible refine (laws_toInt64S.calls k _ _ l0_1 t221 _ ?side1 ?side2 A2.out).mono ?_); (case side1 => exact Kd.C_below HR0_1.out ib); (case side2 => exact HC0_1.out); rintro e w11 ⟨v222, rfl, ho0, hb⟩; refine ⟨_, rfl, ?_⟩; have n0_ := Aside0.mk (Kd.R_lower ho0 (below_size ib)); have n1_ := Aside0.mk (blk_below (g := gb218) (o := .cells #[.string a0_0, .slice A0_1 l0_1.length c0_1] 92 (0, 0)) (by (with_reducible repeat (first | refine blk_drewN ?_ _ | refine blk_drew ?_ | refine blk_alloc ?_ _)); refine blk_far ?_ NB218_220.out _; (with_reducible repeat (first | refine blk_drewN ?_ _ | refine blk_drew ?_ | refine blk_alloc ?_ _)); exact BK218.out) hb); have n2_ := Aside0.mk (blk_below (g := gb219) (o := .cells #[.string (⟨#[]⟩ : ByteArray), .slice none 0 0] 67 (0, 0)) (by (with_reducible repeat (first | refine blk_drewN ?_ _ | refine blk_drew ?_ | refine blk_alloc ?_ _)); refine blk_far ?_ NB219_220.out _; (with_reducible repeat (first | refine blk_drewN ?_ _ | refine blk_drew ?_ | refine blk_alloc ?_ _)); exact BK219.out) hb); have n3_ := Aside0.mk (blk_below (g := gb220) (o := .cells #[.string a0_0, .slice none 0 0] 67 (0, 0)) (by (with_reducible repeat (first | refine blk_drewN ?_ _ | refine blk_drew ?_ | refine blk_alloc ?_ _)); refine blk_put (cs := #[.string (⟨#[]⟩ : ByteArray), .slice none 0 0]) ?_ 0 _ rfl; (with_reducible repeat (first | refine blk_drewN ?_ _ | refine blk_drew ?_ | refine blk_alloc ?_ _)); exact BK220.out) hb); have n4_ := sb hb; clear BK218; clear BK219; clear BK220; clear HB; have HO223 := n0_; have BK218 := n1_; have BK219 := n2_; have BK220 := n3_; have HB := n4_; clear n0_ n1_ n2_ n3_ n4_; (try clear hb); (try clear hb2); (try clear hk); (try clear hi); (try clear ho0); obtain ⟨Ao12, co12, eo12⟩ := Kd.R_slice HO223.out; subst eo12; have hcz13_0 := ck BK220 0; have hcz13_1 := ck BK220 1; have hfz13_0 := blk_frozen BK220.out 0; have hfz13_1 := blk_frozen BK220.out 1; have hcz14_0 := ck BK219 0; have hcz14_1 := ck BK219 1; have hfz14_0 := blk_frozen BK219.out 0; have hfz14_1 := blk_frozen BK219.out 1))
 refine bodyPost_ret (results_cell_row rfl _ _ gb219 67 #[.string a0_0, .slice Ao12 t221.length co12] (0, 0) _ rfl (by (with_reducible repeat (first | refine blk_drewN ?_ _ | refine blk_drew ?_ | refine blk_alloc ?_ _)); refine blk_put (cs := #[.string a0_0, .slice none 0 0]) ?_ 1 _ rfl; (with_reducible repeat (first | refine blk_drewN ?_ _ | refine blk_drew ?_ | refine blk_alloc ?_ _)); refine blk_put (cs := #[.string (⟨#[]⟩ : ByteArray), .slice none 0 0]) ?_ 0 _ rfl; (with_reducible repeat (first | refine blk_drewN ?_ _ | refine blk_drew ?_ | refine blk_alloc ?_ _)); refine blk_far ?_ NB219_220.out _; (with_reducible repeat (first | refine blk_drewN ?_ _ | refine blk_drew ?_ | refine blk_alloc ?_ _)); exact BK219.out) Try.underlying67 rfl (by kernel_rfl)) rfl ?_
 exact ⟨_, by first | rfl | (simp [errW_none, errW_some] <;> rfl) | (simp [*, errW_none, errW_some] <;> rfl), by (with_reducible repeat (first | apply Kd.R_alloc | apply Kd.R_drewN | apply Kd.R_drew)); exact Kd.R_mono (Kd.R_far (p := ⟨gb219, 1, none⟩) (Kd.R_far (p := ⟨gb219, 0, none⟩) (Kd.R_far (p := ⟨gb220, 1, none⟩) (Kd.R_types (Kd.R_types HO223.out BK220.out (by decide)) BK219.out (by decide)) (fun _ hk => hk.1.2) (.slice Ao12 t221.length co12)) (fun _ hk => hk.2) (.string a0_0)) (fun _ hk => hk.2) (.slice Ao12 t221.length co12)) (fun _ hk => trivial), by repeat (first | (with_reducible first | exact HB.out | apply below_alloc | apply pw_below_drewN | apply below_drew1 | refine below_set ?_ GE218.out | refine below_set ?_ GE219.out | refine below_set ?_ GE220.out) | exact HB.out)⟩
end Go.Proofs.Ytlfifbalakgfeaa.PFnExactValidDrawing
