/- Contracts of functions that FnExactDrawingText reaches, out of the lines of the kit's print. -/
import Derived.Test.YtdegladckdnhiaaDoorQFnExactDrawingTextx0
import Derived.Test.YtdegladckdnhiaaDoorQFnExactDrawingTextx6
import Derived.Test.YtdegladckdnhiaaDoorQFnExactDrawingTextx7
import Derived.Test.YtdegladckdnhiaaDoorQFnExactDrawingTextx8
namespace Go.Proofs.YtdegladckdnhiaaDoor.PFnExactDrawingText
open Go.RowKit Go.Proofs.YtdegladckdnhiaaDoorW.PrintWords Go.Proofs.YtdegladckdnhiaaDoorW.PrintLast Go.Proofs.YtdegladckdnhiaaDoorW.PrintMore
open Bool renaming true → tT, false → fF
open Go.World renaming block_lt_of_cell? → bL
attribute [local go_sem] max2_int min2_int max_two min_two max_three min_three max_four min_four
set_option linter.unusedVariables false
set_option linter.unusedSimpArgs false
mutual
def spec_l05Text.l0 : Nat → ByteArray → Int → Int → Int → List (S40) → List (S85) → Option (ByteArray × Int × Int)
 | 0, _, _, _, _, _, _ => none
 | k + 1, x3, x4, x1000, x1001, x1002, x1003 => if x4 < (x1002.length : Int) then (if x4 > 0 then (if x3.size + 1 ≤ 9223372036854775807 then (if 0 ≤ x4 then ((spec_l02Text.f k ((rd_T40 x1002 x4).f0) ((rd_T40 x1002 x4).f1)).bind fun t228 => (if (x3 ++ (⟨#[32]⟩ : ByteArray)).size + t228.size ≤ 9223372036854775807 then (spec_l05Text.l0 k ((x3 ++ (⟨#[32]⟩ : ByteArray)) ++ t228) (wrap64 (x4 + 1)) x1000 x1001 x1002 x1003) else (none))) else (none)) else (none)) else (if 0 ≤ x4 then ((spec_l02Text.f k ((rd_T40 x1002 x4).f0) ((rd_T40 x1002 x4).f1)).bind fun t230 => (if x3.size + t230.size ≤ 9223372036854775807 then (spec_l05Text.l0 k (x3 ++ t230) (wrap64 (x4 + 1)) x1000 x1001 x1002 x1003) else (none))) else (none))) else (spec_l05Text.l1 k x3 0 x1000 x1001 x1002 x1003)
def spec_l05Text.l1 : Nat → ByteArray → Int → Int → Int → List (S40) → List (S85) → Option (ByteArray × Int × Int)
 | 0, _, _, _, _, _, _ => none
 | k + 1, x3, x5, x1000, x1001, x1002, x1003 => if x5 < (x1003.length : Int) then (if 0 ≤ x5 then (if 1 + ((rd_T85 x1003 x5).f0).size ≤ 9223372036854775807 then (if ((⟨#[59]⟩ : ByteArray) ++ ((rd_T85 x1003 x5).f0)).size + 1 ≤ 9223372036854775807 then ((spec_l01List.f k ((rd_T85 x1003 x5).f1)).bind fun t233 => (if (((⟨#[59]⟩ : ByteArray) ++ ((rd_T85 x1003 x5).f0)) ++ (⟨#[32]⟩ : ByteArray)).size + t233.size ≤ 9223372036854775807 then (if x3.size + ((((⟨#[59]⟩ : ByteArray) ++ ((rd_T85 x1003 x5).f0)) ++ (⟨#[32]⟩ : ByteArray)) ++ t233).size ≤ 9223372036854775807 then (spec_l05Text.l1 k (x3 ++ ((((⟨#[59]⟩ : ByteArray) ++ ((rd_T85 x1003 x5).f0)) ++ (⟨#[32]⟩ : ByteArray)) ++ t233)) (wrap64 (x5 + 1)) x1000 x1001 x1002 x1003) else (none)) else (none))) else (none)) else (none)) else (none)) else (some (x3, x1000, x1001))
end
def spec_l05Text.f (k : Nat) (s0_0 : Int) (s0_1 : Int) (s0_2 : List (S40)) (s0_3 : List (S85)) : Option (ByteArray × Int × Int) := (spec_l01Dec.f k s0_0).bind fun t225 => (if t225.size + 1 ≤ 9223372036854775807 then ((spec_l01Dec.f k s0_1).bind fun t226 => (if (t225 ++ (⟨#[120]⟩ : ByteArray)).size + t226.size ≤ 9223372036854775807 then (if ((t225 ++ (⟨#[120]⟩ : ByteArray)) ++ t226).size + 1 ≤ 9223372036854775807 then (spec_l05Text.l0 k (((t225 ++ (⟨#[120]⟩ : ByteArray)) ++ t226) ++ (⟨#[59]⟩ : ByteArray)) 0 s0_0 s0_1 s0_2 s0_3) else (none)) else (none))) else (none))
def spec_l05Text.T1 : Bool × List (List Nat × List Nat) := (true, [([], []), ([0], [0]), ([1], [1]), ([2], [2]), ([3], [3]), ([4], [4]), ([], []), ([6], [6]), ([7], [7]), ([8], [8]), ([9, 4], [9]), ([5, 10], [5, 10]), ([11], [11]), ([12, 10, 0, 1, 2, 3, 4, 5, 6, 7, 8, 9, 10, 11, 12], [12])])
def spec_l05Text.B1 : List Nat := [0, 1, 3, 7, 15, 31, 0, 64, 192, 448, 991, 2047, 4095, 8191]
theorem spec_l05Text.tab1 : rtab .any (opsOf Tryd.f69 1) = spec_l05Text.T1 := by kernel_rfl
theorem spec_l05Text.bits1 : waitsOk spec_l05Text.T1.2 spec_l05Text.B1 = true := by kernel_rfl
def spec_l05Text.T11 : Bool × List (List Nat × List Nat) := (true, [([], []), ([], []), ([1], [1]), ([2], [2]), ([3], [3]), ([], []), ([4, 5], [4, 5]), ([6], [6]), ([7], [7]), ([8], [8]), ([9], [9]), ([], []), ([11], [11]), ([12], [12]), ([13], [13]), ([], []), ([14, 15], [14, 15]), ([16], [16]), ([17], [17]), ([18], [18]), ([10, 19], [10, 19]), ([0, 20], [0, 20]), ([21, 19, 0, 1, 2, 3, 4, 5, 6, 7, 8, 9, 10, 11, 12, 13, 14, 15, 16, 17, 18, 19, 20, 21], [0, 21])])
def spec_l05Text.B11 : List Nat := [0, 0, 2, 6, 14, 0, 62, 126, 254, 510, 1022, 0, 2048, 6144, 14336, 0, 63488, 129024, 260096, 522240, 1048574, 2097151, 4194303]
theorem spec_l05Text.tab11 : rtab .any (opsOf Tryd.f69 11) = spec_l05Text.T11 := by kernel_rfl
theorem spec_l05Text.bits11 : waitsOk spec_l05Text.T11.2 spec_l05Text.B11 = true := by kernel_rfl
set_option maxHeartbeats 8000000 in
set_option maxRecDepth 100000 in
theorem spec_l05Text.calls (k : Nat) (g : Nat) (s0_0 : Int) (s0_1 : Int) (s0_2 : List (S40)) (s0_3 : List (S85)) (r1 : ByteArray) (r2 : Int) (r3 : Int) (w0 w : World) (hI : IsS63 w0 w g s0_0 s0_1 s0_2 s0_3) (hB : Below w0.heap.size w0 w) (h : spec_l05Text.f k s0_0 s0_1 s0_2 s0_3 = some (r1, r2, r3)) :
  Calls Tryd.prog 69 #[.pointer (some ⟨g, 0, none⟩)] w fun e w' => e = .returned (.string r1) ∧ IsS63 w0 w' g r2 r3 s0_2 s0_3 ∧ Below w0.heap.size w0 w' ∧ KeepBut w w' g none := by
 have hu40 := Tryd.underlying40
 have HI0 := Aside0.mk hI
 have HK := Aside0.mk (KeepBut.refl w g none)
 have HL := Aside0.mk hB.size
 clear hI
 have HW0 := Aside0.mk hB.size
 have HB := Aside0.mk hB
 clear hB
 have H : ((spec_l01Dec.f k s0_0).bind fun t225 => (if t225.size + 1 ≤ 9223372036854775807 then ((spec_l01Dec.f k s0_1).bind fun t226 => (if (t225 ++ (⟨#[120]⟩ : ByteArray)).size + t226.size ≤ 9223372036854775807 then (if ((t225 ++ (⟨#[120]⟩ : ByteArray)) ++ t226).size + 1 ≤ 9223372036854775807 then (spec_l05Text.l0 k (((t225 ++ (⟨#[120]⟩ : ByteArray)) ++ t226) ++ (⟨#[59]⟩ : ByteArray)) 0 s0_0 s0_1 s0_2 s0_3) else (none)) else (none))) else (none))) = some (r1, r2, r3) := h
 clear h
 obtain ⟨A2, c2, A3, c3, hblk, hge, hr2, hr3⟩ := HI0.out
 have q0 : w.cell? ⟨g, 0, none⟩ = some (.int .i64 s0_0) := cellS63_0 hblk
 have q1 : w.cell? ⟨g, 1, none⟩ = some (.int .i64 s0_1) := cellS63_1 hblk
 have q2 : w.cell? ⟨g, 2, none⟩ = some (.slice A2 s0_2.length c2) := cellS63_2 hblk
 have q3 : w.cell? ⟨g, 3, none⟩ = some (.slice A3 s0_3.length c3) := cellS63_3 hblk
 have C0_ := Aside0.mk (show ∀ w', Below w.heap.size w w' → w'.cell? ⟨g, 0, none⟩ = some (.int .i64 s0_0) from fun w' hb => (hb.cell (bL w _ q0)).trans q0)
 have C1_ := Aside0.mk (show ∀ w', Below w.heap.size w w' → w'.cell? ⟨g, 1, none⟩ = some (.int .i64 s0_1) from fun w' hb => (hb.cell (bL w _ q1)).trans q1)
 have C2_ := Aside0.mk (show ∀ w', Below w.heap.size w w' → w'.cell? ⟨g, 2, none⟩ = some (.slice A2 s0_2.length c2) from fun w' hb => (hb.cell (bL w _ q2)).trans q2)
 have C3_ := Aside0.mk (show ∀ w', Below w.heap.size w w' → w'.cell? ⟨g, 3, none⟩ = some (.slice A3 s0_3.length c3) from fun w' hb => (hb.cell (bL w _ q3)).trans q3)
 have P_ := Aside0.mk (show ∀ w', Below w.heap.size w w' → ∀ i : Int, 0 ≤ i → i < (s0_2.length : Int) → ∃ ad, A2 = some ad ∧ w'.cell? (ad.add (i.toNat * 2)) = some (.int .i64 (rd_T40 s0_2 i).f0) ∧ w'.cell? ⟨(ad.add (i.toNat * 2)).block, (ad.add (i.toNat * 2)).off + 1, none⟩ = some (.int .i64 (rd_T40 s0_2 i).f1) from by
  intro w' hb i h0 h1
  obtain ⟨ad, e, x0, x1⟩ := at_T40 hr2 i h0 h1
  have y0 := (HB.out.cell (bL w0 _ x0)).trans x0
  have y1 := (HB.out.cell (bL w0 _ x1)).trans x1
  exact ⟨ad, e, (hb.cell (bL w _ y0)).trans y0, (hb.cell (bL w _ y1)).trans y1⟩)
 have F_ := Aside0.mk (show ∀ i : Int, 0 ≤ i → i < (s0_3.length : Int) → ∃ ad Ar cr, A3 = some ad ∧ (∀ w', Below w.heap.size w w' → w'.cell? (ad.add (i.toNat * 2)) = some (.string (rd_T85 s0_3 i).f0)) ∧ (∀ w', Below w.heap.size w w' → w'.cell? ⟨(ad.add (i.toNat * 2)).block, (ad.add (i.toNat * 2)).off + 1, none⟩ = some (.slice Ar (rd_T85 s0_3 i).f1.length cr)) ∧ (rd_T85 s0_3 i).f1.length ≤ cr ∧ (∀ w', Below w.heap.size w w' → (Kd.int .i64).C w' Ar (rd_T85 s0_3 i).f1.length (rd_T85 s0_3 i).f1) from by
  intro i h0 h1
  obtain ⟨ad, Ar, cr, e, x0, x1, hcr, hrr⟩ := at_T85 hr3 i h0 h1
  have y0 := (HB.out.cell (bL w0 _ x0)).trans x0
  have y1 := (HB.out.cell (bL w0 _ x1)).trans x1
  exact ⟨ad, Ar, cr, e, fun w' hb => (hb.cell (bL w _ y0)).trans y0, fun w' hb => (hb.cell (bL w _ y1)).trans y1, hcr, fun w' hb => Kd.C_below (Kd.C_below hrr HB.out) hb⟩)
 clear hblk hge hr2 hr3 q0 q1 q2 q3
 have HW := Aside0.mk (Below.refl w.heap.size w)
 replace H := Option.bind_eq_some_iff.mp H
 obtain ⟨t1, A10, H⟩ := H
 replace H : (if t1.size + 1 ≤ 9223372036854775807 then ((spec_l01Dec.f k s0_1).bind fun t226 => (if (t1 ++ (⟨#[120]⟩ : ByteArray)).size + t226.size ≤ 9223372036854775807 then (if ((t1 ++ (⟨#[120]⟩ : ByteArray)) ++ t226).size + 1 ≤ 9223372036854775807 then (spec_l05Text.l0 k (((t1 ++ (⟨#[120]⟩ : ByteArray)) ++ t226) ++ (⟨#[59]⟩ : ByteArray)) 0 s0_0 s0_1 s0_2 s0_3) else (none)) else (none))) else (none)) = some (r1, r2, r3) := H
 have A1 := Aside0.mk A10
 clear A10
 by_cases c1 : t1.size + 1 ≤ 9223372036854775807
 ·rw [if_pos c1] at H
  have c1b0 := eq_true c1
  have c1b1 : decide (t1.size + 1 ≤ 9223372036854775807) = true := decide_eq_true c1
  try have c1b2 : (9223372036854775807 < t1.size + 1) = False := eq_false (Nat.not_lt.2 c1)
  try have c1b2n := c1b2
  try simp only [ByteArray.size_append, show ∀ b_ : UInt8, (⟨#[b_]⟩ : ByteArray).size = 1 from fun _ => rfl] at c1b2n
  replace H := Option.bind_eq_some_iff.mp H
  obtain ⟨t2, A40, H⟩ := H
  replace H : (if (t1 ++ (⟨#[120]⟩ : ByteArray)).size + t2.size ≤ 9223372036854775807 then (if ((t1 ++ (⟨#[120]⟩ : ByteArray)) ++ t2).size + 1 ≤ 9223372036854775807 then (spec_l05Text.l0 k (((t1 ++ (⟨#[120]⟩ : ByteArray)) ++ t2) ++ (⟨#[59]⟩ : ByteArray)) 0 s0_0 s0_1 s0_2 s0_3) else (none)) else (none)) = some (r1, r2, r3) := H
  have A4 := Aside0.mk A40
  clear A40
  by_cases c2_ : (t1 ++ (⟨#[120]⟩ : ByteArray)).size + t2.size ≤ 9223372036854775807
  ·rw [if_pos c2_] at H
   have c2_b0 := eq_true c2_
   have c2_b1 : decide ((t1 ++ (⟨#[120]⟩ : ByteArray)).size + t2.size ≤ 9223372036854775807) = true := decide_eq_true c2_
   try have c2_b2 : (9223372036854775807 < (t1 ++ (⟨#[120]⟩ : ByteArray)).size + t2.size) = False := eq_false (Nat.not_lt.2 c2_)
   try have c2_b2n := c2_b2
   try simp only [ByteArray.size_append, show ∀ b_ : UInt8, (⟨#[b_]⟩ : ByteArray).size = 1 from fun _ => rfl] at c2_b2n
   by_cases c3_ : ((t1 ++ (⟨#[120]⟩ : ByteArray)) ++ t2).size + 1 ≤ 9223372036854775807
   ·rw [if_pos c3_] at H
    have c3_b0 := eq_true c3_
    have c3_b1 : decide (((t1 ++ (⟨#[120]⟩ : ByteArray)) ++ t2).size + 1 ≤ 9223372036854775807) = true := decide_eq_true c3_
    try have c3_b2 : (9223372036854775807 < ((t1 ++ (⟨#[120]⟩ : ByteArray)) ++ t2).size + 1) = False := eq_false (Nat.not_lt.2 c3_)
    try have c3_b2n := c3_b2
    try simp only [ByteArray.size_append, show ∀ b_ : UInt8, (⟨#[b_]⟩ : ByteArray).size = 1 from fun _ => rfl] at c3_b2n
    have H' := Aside0.mk H
    clear H
    go_enter Tryd.func69, Tryd.ntmps69
    try go_wp2
    have n0_ := Aside0.mk (below_drew1 HW.out)
    clear HW
    have HW := n0_
    clear n0_
    refine start_ (n := 14) (S := fun w' => w'.cell? ⟨g, 0, none⟩ = some (.int .i64 s0_0) ∧ w'.cell? ⟨g, 1, none⟩ = some (.int .i64 s0_1)) (ds := []) #[fF,fF,fF,fF,fF,fF,fF,fF,fF,fF,fF,fF,fF,fF] (by kernel_rfl) rfl rfl ⟨C0_.out _ HW.out, C1_.out _ HW.out⟩ (fun hHeld => ?_); refine with_tabW spec_l05Text.tab1 spec_l05Text.bits1 (fun HT_ HW_ => ?_)
    generalize w.drew = wt at HW hHeld ⊢
    refine pu 0 6 HT_ ?_
    refine pu 1 7 HT_ ?_
    refine pu 2 8 HT_ ?_
    refine pu 6 12 HT_ ?_
    refine pu 7 13 HT_ ?_
    refine pu 8 14 HT_ ?_
    refine tk 3 9 HT_ HW_ hHeld ?_
    refine tk 9 15 HT_ HW_ hHeld ?_
    refine on 4 10 HT_ (fun K hK => ?_)
    refine goes_ Tryd.func77 (by kernel_rfl) rfl #[.int .i64 s0_0] (by rfl) rfl rfl (by (try simp only [List.map_toArray, List.map_cons, List.map_nil]); first | done | rfl | (simp only [List.length_drop, List.length_take]; rfl)) ?_
    with_reducible refine (spec_l01Dec.calls k s0_0 t1 _ A1.out).mono ?_
    rintro e w5 ⟨rfl, hb⟩
    refine ⟨_, rfl, ?_⟩
    have n1_ := Aside0.mk (below_step (by repeat (first | (with_reducible first | exact HW.out | apply below_alloc | apply pw_below_drewN | apply below_drew1) | exact HW.out)) hb)
    clear HW hb
    have HW := n1_
    clear n1_
    refine hK.out _ _ ⟨C0_.out _ HW.out, C1_.out _ HW.out⟩ (fun hHeld => ?_)
    clear hK K
    refine norm_ (a' := ?_) ?_ ?_
    rotate_left
    ·show Act.put _ (some 10) _ = _
     simp only [Act.put, List.setIfInBounds_toArray, List.set_cons_zero, List.set_cons_succ, i64_w, i32_w]
     rfl
    refine pu 5 11 HT_ ?_
    refine on 10 16 HT_ (fun K hK => ?_)
    refine goes_ Tryd.func77 (by kernel_rfl) rfl #[.int .i64 s0_1] (by rfl) rfl rfl (by (try simp only [List.map_toArray, List.map_cons, List.map_nil]); first | done | rfl | (simp only [List.length_drop, List.length_take]; rfl)) ?_
    with_reducible refine (spec_l01Dec.calls k s0_1 t2 _ A4.out).mono ?_
    rintro e w5 ⟨rfl, hb⟩
    refine ⟨_, rfl, ?_⟩
    have n1_ := Aside0.mk (below_step (by repeat (first | (with_reducible first | exact HW.out | apply below_alloc | apply pw_below_drewN | apply below_drew1) | exact HW.out)) hb)
    clear HW hb
    have HW := n1_
    clear n1_
    refine hK.out _ _ ⟨C0_.out _ HW.out, C1_.out _ HW.out⟩ (fun hHeld => ?_)
    clear hK K
    refine norm_ (a' := ?_) ?_ ?_
    rotate_left
    ·show Act.put _ (some 16) _ = _
     simp only [Act.put, List.setIfInBounds_toArray, List.set_cons_zero, List.set_cons_succ, i64_w, i32_w]
     rfl
    refine pu 11 17 HT_ ?_
    refine pu 12 18 HT_ ?_
    refine pu 13 3 HT_ ?_
    refine done_ (done_of HT_.out (by kernel_rfl)) ?_
    try go_wp2
    go_loopg [3, 4] k (fun kq v3 v4 w' => ∃ (x3 : ByteArray) (x4 : Int), v3 = .string x3 ∧ v4 = .int .i64 x4 ∧ Aside0 (spec_l05Text.l0 kq x3 x4 s0_0 s0_1 s0_2 s0_3 = some (r1, r2, r3)) ∧ Aside0 (kq ≤ k) ∧ Aside0 (Below w.heap.size w w'))
    case atStart => exact ⟨_, 0, (by first | rfl | (simp; done) | (simp [*]; done)), (by first | rfl | (simp; done) | (simp [*]; done)), H', ⟨Nat.le_refl _⟩, ⟨(by repeat (first | (with_reducible first | exact HW.out | apply below_alloc | apply pw_below_drewN | apply below_drew1) | exact HW.out))⟩⟩
    case round =>
     clear H' c1b0 c1b1 c2_b0 c2_b1 c3_b0 c3_b1
     (try clear c1b2n)
     (try clear c2_b2n)
     (try clear c3_b2n)
     (try clear c1b2)
     (try clear c2_b2)
     (try clear c3_b2)
     clear c1 c2_ c3_
     (try clear HW)
     obtain ⟨x3, x4, rfl, rfl, HA, HK1, HW⟩ := hrel
     cases gk with
     | zero => exact absurd HA.out (by simp [spec_l05Text.l0])
     | succ k1 =>
      have H := HA.out
      clear HA
      simp only [spec_l05Text.l0] at H
      have q2 := C2_.out _ HW.out
      by_cases d2 : x4 < (s0_2.length : Int)
      ·rw [if_pos d2] at H
       have d2b0 : decide (x4 < (s0_2.length : Int)) = true := decide_eq_true d2
       by_cases d3 : x4 > 0
       ·rw [if_pos d3] at H
        have d3b0 : decide (0 < x4) = true := decide_eq_true d3
        clear d3
        by_cases d4 : x3.size + 1 ≤ 9223372036854775807
        ·rw [if_pos d4] at H
         have d4b0 := eq_true d4
         have d4b1 : decide (x3.size + 1 ≤ 9223372036854775807) = true := decide_eq_true d4
         try have d4b2 : (9223372036854775807 < x3.size + 1) = False := eq_false (Nat.not_lt.2 d4)
         try have d4b2n := d4b2
         try simp only [ByteArray.size_append, show ∀ b_ : UInt8, (⟨#[b_]⟩ : ByteArray).size = 1 from fun _ => rfl] at d4b2n
         by_cases d5 : 0 ≤ x4
         ·rw [if_pos d5] at H
          have d5b0 : decide (0 ≤ x4) = true := decide_eq_true d5
          replace H := Option.bind_eq_some_iff.mp H
          obtain ⟨t3, A60, H⟩ := H
          replace H : (if (x3 ++ (⟨#[32]⟩ : ByteArray)).size + t3.size ≤ 9223372036854775807 then (spec_l05Text.l0 k1 ((x3 ++ (⟨#[32]⟩ : ByteArray)) ++ t3) (wrap64 (x4 + 1)) s0_0 s0_1 s0_2 s0_3) else (none)) = some (r1, r2, r3) := H
          have A6 := Aside0.mk A60
          clear A60
          by_cases d7 : (x3 ++ (⟨#[32]⟩ : ByteArray)).size + t3.size ≤ 9223372036854775807
          ·rw [if_pos d7] at H
           have d7b0 := eq_true d7
           have d7b1 : decide ((x3 ++ (⟨#[32]⟩ : ByteArray)).size + t3.size ≤ 9223372036854775807) = true := decide_eq_true d7
           try have d7b2 : (9223372036854775807 < (x3 ++ (⟨#[32]⟩ : ByteArray)).size + t3.size) = False := eq_false (Nat.not_lt.2 d7)
           try have d7b2n := d7b2
           try simp only [ByteArray.size_append, show ∀ b_ : UInt8, (⟨#[b_]⟩ : ByteArray).size = 1 from fun _ => rfl] at d7b2n
           have H' := Aside0.mk H
           clear H
           obtain ⟨ad, ea, hx_0, hx_1⟩ := P_.out _ HW.out x4 d5 d2
           rw [ea] at q2
           replace d5 := eq_true d5
           replace d2 := eq_true d2
           go_wp2_with (first | ((with_reducible refine gate_callee (f := 59) rfl ?_); refine goesL_ (some 40) rfl rfl Tryd.func59 (by kernel_rfl) rfl #[.agg #[.int .i64 ((rd_T40 s0_2 x4).f0), .int .i64 ((rd_T40 s0_2 x4).f1)]] rfl (by (try simp only [List.map_toArray, List.map_cons, List.map_nil]); first | done | rfl | (simp only [List.length_drop, List.length_take]; rfl)) ?_; (with_reducible refine (spec_l02Text.calls k1 ((rd_T40 s0_2 x4).f0) ((rd_T40 s0_2 x4).f1) t3 _ A6.out).mono ?_); rintro e w5 ⟨rfl, hb⟩; refine ⟨_, rfl, ?_⟩; have n1_ := Aside0.mk (below_step (by repeat (first | (with_reducible first | exact HW.out | apply below_alloc | apply pw_below_drewN | apply below_drew1) | exact HW.out)) hb); clear HW hb; have HW := n1_; clear n1_))
           go_roundg k1
           case measure => have := HK1.out; omega
           case rel => exact ⟨((x3 ++ (⟨#[32]⟩ : ByteArray)) ++ t3), (wrap64 (x4 + 1)), (by first | rfl | (simp; done) | (simp [*]; done)), (by first | rfl | (simp; done) | (simp [*]; done)), H', ⟨by have := HK1.out; omega⟩, ⟨(by repeat (first | (with_reducible first | exact HW.out | apply below_alloc | apply pw_below_drewN | apply below_drew1) | exact HW.out))⟩⟩
          ·rw [if_neg d7] at H
           exact absurd H (by simp)
         ·rw [if_neg d5] at H
          exact absurd H (by simp)
        ·rw [if_neg d4] at H
         exact absurd H (by simp)
       ·rw [if_neg d3] at H
        have d3b0 : decide (0 < x4) = false := decide_eq_false d3
        clear d3
        by_cases d5 : 0 ≤ x4
        ·rw [if_pos d5] at H
         have d5b0 : decide (0 ≤ x4) = true := decide_eq_true d5
         replace H := Option.bind_eq_some_iff.mp H
         obtain ⟨t3, A60, H⟩ := H
         replace H : (if x3.size + t3.size ≤ 9223372036854775807 then (spec_l05Text.l0 k1 (x3 ++ t3) (wrap64 (x4 + 1)) s0_0 s0_1 s0_2 s0_3) else (none)) = some (r1, r2, r3) := H
         have A6 := Aside0.mk A60
         clear A60
         by_cases d7 : x3.size + t3.size ≤ 9223372036854775807
         ·rw [if_pos d7] at H
          have d7b0 := eq_true d7
          have d7b1 : decide (x3.size + t3.size ≤ 9223372036854775807) = true := decide_eq_true d7
          try have d7b2 : (9223372036854775807 < x3.size + t3.size) = False := eq_false (Nat.not_lt.2 d7)
          try have d7b2n := d7b2
          try simp only [ByteArray.size_append, show ∀ b_ : UInt8, (⟨#[b_]⟩ : ByteArray).size = 1 from fun _ => rfl] at d7b2n
          have H' := Aside0.mk H
          clear H
          obtain ⟨ad, ea, hx_0, hx_1⟩ := P_.out _ HW.out x4 d5 d2
          rw [ea] at q2
          replace d5 := eq_true d5
          replace d2 := eq_true d2
          go_wp2_with (first | ((with_reducible refine gate_callee (f := 59) rfl ?_); refine goesL_ (some 40) rfl rfl Tryd.func59 (by kernel_rfl) rfl #[.agg #[.int .i64 ((rd_T40 s0_2 x4).f0), .int .i64 ((rd_T40 s0_2 x4).f1)]] rfl (by (try simp only [List.map_toArray, List.map_cons, List.map_nil]); first | done | rfl | (simp only [List.length_drop, List.length_take]; rfl)) ?_; (with_reducible refine (spec_l02Text.calls k1 ((rd_T40 s0_2 x4).f0) ((rd_T40 s0_2 x4).f1) t3 _ A6.out).mono ?_); rintro e w5 ⟨rfl, hb⟩; refine ⟨_, rfl, ?_⟩; have n1_ := Aside0.mk (below_step (by repeat (first | (with_reducible first | exact HW.out | apply below_alloc | apply pw_below_drewN | apply below_drew1) | exact HW.out)) hb); clear HW hb; have HW := n1_; clear n1_))
          go_roundg k1
          case measure => have := HK1.out; omega
          case rel => exact ⟨(x3 ++ t3), (wrap64 (x4 + 1)), (by first | rfl | (simp; done) | (simp [*]; done)), (by first | rfl | (simp; done) | (simp [*]; done)), H', ⟨by have := HK1.out; omega⟩, ⟨(by repeat (first | (with_reducible first | exact HW.out | apply below_alloc | apply pw_below_drewN | apply below_drew1) | exact HW.out))⟩⟩
         ·rw [if_neg d7] at H
          exact absurd H (by simp)
        ·rw [if_neg d5] at H
         exact absurd H (by simp)
      ·rw [if_neg d2] at H
       have d2b0 : decide (x4 < (s0_2.length : Int)) = false := decide_eq_false d2
       clear d2
       have H' := Aside0.mk H
       clear H
       go_wp2
       go_loopg [3, 5] k1 (fun kq v3 v5 w' => ∃ (x3 : ByteArray) (x5 : Int), v3 = .string x3 ∧ v5 = .int .i64 x5 ∧ Aside0 (spec_l05Text.l1 kq x3 x5 s0_0 s0_1 s0_2 s0_3 = some (r1, r2, r3)) ∧ Aside0 (kq ≤ k1) ∧ Aside0 (Below w.heap.size w w'))
       case atStart => exact ⟨x3, 0, (by first | rfl | (simp; done) | (simp [*]; done)), (by first | rfl | (simp; done) | (simp [*]; done)), H', ⟨Nat.le_refl _⟩, ⟨(by repeat (first | (with_reducible first | exact HW.out | apply below_alloc | apply pw_below_drewN | apply below_drew1) | exact HW.out))⟩⟩
       case round =>
        clear H' q2 d2b0 HW
        obtain ⟨x3, x5, rfl, rfl, HA, HK2, HW⟩ := hrel
        cases gk with
        | zero => exact absurd HA.out (by simp [spec_l05Text.l1])
        | succ k3 =>
         have H := HA.out
         clear HA
         simp only [spec_l05Text.l1] at H
         have q3 := C3_.out _ HW.out
         by_cases d2 : x5 < (s0_3.length : Int)
         ·rw [if_pos d2] at H
          have d2b0 : decide (x5 < (s0_3.length : Int)) = true := decide_eq_true d2
          by_cases d3 : 0 ≤ x5
          ·rw [if_pos d3] at H
           have d3b0 : decide (0 ≤ x5) = true := decide_eq_true d3
           by_cases d4 : 1 + ((rd_T85 s0_3 x5).f0).size ≤ 9223372036854775807
           ·rw [if_pos d4] at H
            have d4b0 := eq_true d4
            have d4b1 : decide (1 + ((rd_T85 s0_3 x5).f0).size ≤ 9223372036854775807) = true := decide_eq_true d4
            try have d4b2 : (9223372036854775807 < 1 + ((rd_T85 s0_3 x5).f0).size) = False := eq_false (Nat.not_lt.2 d4)
            try have d4b2n := d4b2
            try simp only [ByteArray.size_append, show ∀ b_ : UInt8, (⟨#[b_]⟩ : ByteArray).size = 1 from fun _ => rfl] at d4b2n
            by_cases d5 : ((⟨#[59]⟩ : ByteArray) ++ ((rd_T85 s0_3 x5).f0)).size + 1 ≤ 9223372036854775807
            ·rw [if_pos d5] at H
             have d5b0 := eq_true d5
             have d5b1 : decide (((⟨#[59]⟩ : ByteArray) ++ ((rd_T85 s0_3 x5).f0)).size + 1 ≤ 9223372036854775807) = true := decide_eq_true d5
             try have d5b2 : (9223372036854775807 < ((⟨#[59]⟩ : ByteArray) ++ ((rd_T85 s0_3 x5).f0)).size + 1) = False := eq_false (Nat.not_lt.2 d5)
             try have d5b2n := d5b2
             try simp only [ByteArray.size_append, show ∀ b_ : UInt8, (⟨#[b_]⟩ : ByteArray).size = 1 from fun _ => rfl] at d5b2n
             replace H := Option.bind_eq_some_iff.mp H
             obtain ⟨t6, A80, H⟩ := H
             replace H : (if (((⟨#[59]⟩ : ByteArray) ++ ((rd_T85 s0_3 x5).f0)) ++ (⟨#[32]⟩ : ByteArray)).size + t6.size ≤ 9223372036854775807 then (if x3.size + ((((⟨#[59]⟩ : ByteArray) ++ ((rd_T85 s0_3 x5).f0)) ++ (⟨#[32]⟩ : ByteArray)) ++ t6).size ≤ 9223372036854775807 then (spec_l05Text.l1 k3 (x3 ++ ((((⟨#[59]⟩ : ByteArray) ++ ((rd_T85 s0_3 x5).f0)) ++ (⟨#[32]⟩ : ByteArray)) ++ t6)) (wrap64 (x5 + 1)) s0_0 s0_1 s0_2 s0_3) else (none)) else (none)) = some (r1, r2, r3) := H
             have A8 := Aside0.mk A80
             clear A80
             by_cases d7 : (((⟨#[59]⟩ : ByteArray) ++ ((rd_T85 s0_3 x5).f0)) ++ (⟨#[32]⟩ : ByteArray)).size + t6.size ≤ 9223372036854775807
             ·rw [if_pos d7] at H
              have d7b0 := eq_true d7
              have d7b1 : decide ((((⟨#[59]⟩ : ByteArray) ++ ((rd_T85 s0_3 x5).f0)) ++ (⟨#[32]⟩ : ByteArray)).size + t6.size ≤ 9223372036854775807) = true := decide_eq_true d7
              try have d7b2 : (9223372036854775807 < (((⟨#[59]⟩ : ByteArray) ++ ((rd_T85 s0_3 x5).f0)) ++ (⟨#[32]⟩ : ByteArray)).size + t6.size) = False := eq_false (Nat.not_lt.2 d7)
              try have d7b2n := d7b2
              try simp only [ByteArray.size_append, show ∀ b_ : UInt8, (⟨#[b_]⟩ : ByteArray).size = 1 from fun _ => rfl] at d7b2n
              by_cases d8 : x3.size + ((((⟨#[59]⟩ : ByteArray) ++ ((rd_T85 s0_3 x5).f0)) ++ (⟨#[32]⟩ : ByteArray)) ++ t6).size ≤ 9223372036854775807
              ·rw [if_pos d8] at H
               have d8b0 := eq_true d8
               have d8b1 : decide (x3.size + ((((⟨#[59]⟩ : ByteArray) ++ ((rd_T85 s0_3 x5).f0)) ++ (⟨#[32]⟩ : ByteArray)) ++ t6).size ≤ 9223372036854775807) = true := decide_eq_true d8
               try have d8b2 : (9223372036854775807 < x3.size + ((((⟨#[59]⟩ : ByteArray) ++ ((rd_T85 s0_3 x5).f0)) ++ (⟨#[32]⟩ : ByteArray)) ++ t6).size) = False := eq_false (Nat.not_lt.2 d8)
               try have d8b2n := d8b2
               try simp only [ByteArray.size_append, show ∀ b_ : UInt8, (⟨#[b_]⟩ : ByteArray).size = 1 from fun _ => rfl] at d8b2n
               have H' := Aside0.mk H
               clear H
               obtain ⟨adf, Ar, cr, ea, FN0, FR0, HCR0, FC0⟩ := F_.out x5 d3 d2
               cases ea
               have FN_ := Aside0.mk FN0
               have FR_ := Aside0.mk FR0
               have FC_ := Aside0.mk FC0
               have HCR := Aside0.mk HCR0
               clear FN0 FR0 HCR0 FC0
               replace d3 := eq_true d3
               replace d2 := eq_true d2
               go_wp2
               have n0_ := Aside0.mk (below_drew1 HW.out)
               clear HW
               have HW := n0_
               clear n0_
               refine start_ (n := 23) (S := fun w' => w'.cell? ⟨g, 3, none⟩ = some (.slice (some adf) s0_3.length c3) ∧ w'.cell? (adf.add (x5.toNat * 2)) = some (.string (rd_T85 s0_3 x5).f0) ∧ w'.cell? ⟨(adf.add (x5.toNat * 2)).block, (adf.add (x5.toNat * 2)).off + 1, none⟩ = some (.slice Ar (rd_T85 s0_3 x5).f1.length cr)) (ds := []) #[fF,fF,fF,fF,fF,fF,fF,fF,fF,fF,fF,fF,fF,fF,fF,fF,fF,fF,fF,fF,fF,fF,fF] (by kernel_rfl) rfl rfl ⟨C3_.out _ HW.out, (FN_.out _ HW.out), (FR_.out _ HW.out)⟩ (fun hHeld => ?_); refine with_tabW spec_l05Text.tab11 spec_l05Text.bits11 (fun HT_ HW_ => ?_)
               generalize wr.drew = wt at HW hHeld ⊢
               refine pu 0 51 HT_ ?_
               refine pu 1 52 HT_ ?_
               refine pu 2 53 HT_ ?_
               refine pu 3 54 HT_ ?_
               refine pu 5 56 HT_ ?_
               refine pu 11 62 HT_ ?_
               refine pu 12 63 HT_ ?_
               refine pu 13 64 HT_ ?_
               refine pu 15 66 HT_ ?_
               refine tk 4 55 HT_ HW_ hHeld ?_
               refine pu 6 57 HT_ ?_
               refine pu 7 58 HT_ ?_
               refine tk 8 59 HT_ HW_ hHeld ?_
               refine pu 9 60 HT_ ?_
               refine pu 10 61 HT_ ?_
               refine tk 14 65 HT_ HW_ hHeld ?_
               refine pu 16 67 HT_ ?_
               refine pu 17 68 HT_ ?_
               refine tk 18 69 HT_ HW_ hHeld ?_
               refine on 19 70 HT_ (fun K hK => ?_)
               refine goes_ Tryd.func54 (by kernel_rfl) rfl #[.slice Ar (rd_T85 s0_3 x5).f1.length cr] (by rfl) rfl rfl (by (try simp only [List.map_toArray, List.map_cons, List.map_nil]); first | done | rfl | (simp only [List.length_drop, List.length_take]; rfl)) ?_
               with_reducible refine (spec_l01List.calls k3 Ar cr (rd_T85 s0_3 x5).f1 t6 _ (FC_.out _ (by repeat (first | (with_reducible first | exact HW.out | apply below_alloc | apply pw_below_drewN | apply below_drew1) | exact HW.out))) HCR.out A8.out).mono ?_
               rintro e w5 ⟨rfl, hb⟩
               refine ⟨_, rfl, ?_⟩
               have n1_ := Aside0.mk (below_step (by repeat (first | (with_reducible first | exact HW.out | apply below_alloc | apply pw_below_drewN | apply below_drew1) | exact HW.out)) hb)
               clear HW hb
               have HW := n1_
               clear n1_
               refine hK.out _ _ ⟨C3_.out _ HW.out, (FN_.out _ HW.out), (FR_.out _ HW.out)⟩ (fun hHeld => ?_)
               clear hK K
               refine norm_ (a' := ?_) ?_ ?_
               rotate_left
               ·show Act.put _ (some 70) _ = _
                simp only [Act.put, List.setIfInBounds_toArray, List.set_cons_zero, List.set_cons_succ, i64_w, i32_w]
                rfl
               refine pu 20 71 HT_ ?_
               refine pu 21 72 HT_ ?_
               refine pu 22 3 HT_ ?_
               refine done_ (done_of HT_.out (by kernel_rfl)) ?_
               try go_wp2
               go_roundg k3
               case measure => have := HK1.out; have := HK2.out; omega
               case rel => exact ⟨_, (wrap64 (x5 + 1)), (by first | rfl | (simp; done) | (simp [*]; done)), (by first | rfl | (simp; done) | (simp [*]; done)), H', ⟨by have := HK1.out; have := HK2.out; omega⟩, ⟨(by repeat (first | (with_reducible first | exact HW.out | apply below_alloc | apply pw_below_drewN | apply below_drew1) | exact HW.out))⟩⟩
              ·rw [if_neg d8] at H
               exact absurd H (by simp)
             ·rw [if_neg d7] at H
              exact absurd H (by simp)
            ·rw [if_neg d5] at H
             exact absurd H (by simp)
           ·rw [if_neg d4] at H
            exact absurd H (by simp)
          ·rw [if_neg d3] at H
           exact absurd H (by simp)
         ·rw [if_neg d2] at H
          have d2b0 : decide (x5 < (s0_3.length : Int)) = false := decide_eq_false d2
          clear d2
          simp only [Option.some.injEq, Prod.mk.injEq] at H
          obtain ⟨rfl, rfl, rfl⟩ := H
          go_wp2
          go_ret
          exact ⟨(by first | rfl | (simp; done) | (simp [*]; done)), IsS63.below HI0.out (by repeat (first | (with_reducible first | exact HW.out | apply below_alloc | apply pw_below_drewN | apply below_drew1) | exact HW.out)), below_step HB.out (by repeat (first | (with_reducible first | exact HW.out | apply below_alloc | apply pw_below_drewN | apply below_drew1) | exact HW.out)), KeepBut.of_below (by repeat (first | (with_reducible first | exact HW.out | apply below_alloc | apply pw_below_drewN | apply below_drew1) | exact HW.out)) g none⟩
   ·rw [if_neg c3_] at H
    exact absurd H (by simp)
  ·rw [if_neg c2_] at H
   exact absurd H (by simp)
 ·rw [if_neg c1] at H
  exact absurd H (by simp)
def spec_DrawingText.f (k : Nat) (a0_0 : Int) (a0_1 : Int) (l0_2 : List (S40)) (l0_3 : List (S85)) : Option (ByteArray) := (spec_l05Ok.f k a0_0 a0_1 l0_2 l0_3).bind fun bt235 => (if bt235.1 = true then ((spec_l05Text.f k bt235.2.1 bt235.2.2 l0_2 l0_3).bind fun bt238 => (some bt238.1)) else (some (⟨#[]⟩ : ByteArray)))
set_option maxHeartbeats 8000000 in
set_option maxRecDepth 100000 in
theorem spec_DrawingText.calls (k : Nat) (a0_0 : Int) (a0_1 : Int) (A0_2 : Option Addr) (c0_2 : Nat) (l0_2 : List (S40)) (A0_3 : Option Addr) (c0_3 : Nat) (l0_3 : List (S85)) (r : ByteArray) (w : World) (hr0_2 : Kd.C k40 w A0_2 l0_2.length l0_2) (hc0_2 : l0_2.length ≤ c0_2) (hr0_3 : Kd.C k85 w A0_3 l0_3.length l0_3) (hc0_3 : l0_3.length ≤ c0_3) (h : spec_DrawingText.f k a0_0 a0_1 l0_2 l0_3 = some r) :
  Calls Tryd.prog 43 #[.agg #[.int .i64 a0_0, .int .i64 a0_1, .slice A0_2 l0_2.length c0_2, .slice A0_3 l0_3.length c0_3]] w fun e w' => e = .returned (.string r) ∧ Below w.heap.size w w' := by
 have hu63 := Tryd.underlying63
 have HR0_2 := Aside0.mk hr0_2
 have HC0_2 := Aside0.mk hc0_2
 clear hr0_2 hc0_2
 have HR0_3 := Aside0.mk hr0_3
 have HC0_3 := Aside0.mk hc0_3
 clear hr0_3 hc0_3
 have HB := Aside0.mk (Below.refl w.heap.size w)
 have H : ((spec_l05Ok.f k a0_0 a0_1 l0_2 l0_3).bind fun bt235 => (if bt235.1 = true then ((spec_l05Text.f k bt235.2.1 bt235.2.2 l0_2 l0_3).bind fun bt238 => (some bt238.1)) else (some (⟨#[]⟩ : ByteArray)))) = some r := h
 clear h
 replace H := Option.bind_eq_some_iff.mp H
 obtain ⟨⟨b, x, y⟩, A10, H⟩ := H
 have A1_ := Aside0.mk A10
 clear A10
 cases b with
 | true =>
  replace H : ((spec_l05Text.f k x y l0_2 l0_3).bind fun bt => (some bt.1)) = some r := by simpa using H
  replace H := Option.bind_eq_some_iff.mp H
  obtain ⟨⟨q, x2, y2⟩, A20, H⟩ := H
  have A2_ := Aside0.mk A20
  clear A20
  simp only [Option.some.injEq] at H
  subst H
  go_enter Tryd.func43, Tryd.ntmps43
  go_wp2_with (first | ((with_reducible refine gate_dst (N := 1) rfl ?_); refine bx (cs := #[.int .i64 a0_0, .int .i64 a0_1, .slice A0_2 l0_2.length c0_2, .slice A0_3 l0_3.length c0_3]) (t := 63) ?_; intro gb hg w3 hbox hb; have HI := Aside0.mk (show IsS63 w w3 gb a0_0 a0_1 l0_2 l0_3 from ⟨A0_2, c0_2, A0_3, c0_3, hbox, Nat.le_of_eq hg.symm, HR0_2.out, HR0_3.out⟩); have n1_ := Aside0.mk (below_step ib hb); clear HB; have HB := n1_; clear n1_ hbox hb hg) | ((with_reducible refine gate_callee (f := 68) rfl ?_); refine goesL_ _ rfl rfl Tryd.func68 (by kernel_rfl) rfl #[.pointer (some ⟨gb, 0, none⟩)] rfl (by (try simp only [List.map_toArray, List.map_cons, List.map_nil]); first | done | rfl) ?_; (with_reducible refine (spec_l05Ok.calls _ gb a0_0 a0_1 l0_2 l0_3 _ _ _ w _ (by repeat (first | exact HI.out | apply IsS63.alloc | apply IsS63.drewN | apply IsS63.drew)) ib A1_.out).mono ?_); rintro e w5 ⟨rfl, hi, hb, hk⟩; refine ⟨_, rfl, ?_⟩; have n1_ := Aside0.mk hb; have n2_ := Aside0.mk hi; clear hi hb hk HB HI; have HB := n1_; have HI := n2_; clear n1_ n2_) | (go_at_call 68; (with_reducible refine (spec_l05Ok.calls _ gb a0_0 a0_1 l0_2 l0_3 _ _ _ w _ (by repeat (first | exact HI.out | apply IsS63.alloc | apply IsS63.drewN | apply IsS63.drew)) ib A1_.out).mono ?_); rintro e w5 ⟨rfl, hi, hb, hk⟩; have n1_ := Aside0.mk hb; have n2_ := Aside0.mk hi; clear hi hb hk HB HI; have HB := n1_; have HI := n2_; clear n1_ n2_) | ((with_reducible refine gate_callee (f := 69) rfl ?_); refine goesL_ _ rfl rfl Tryd.func69 (by kernel_rfl) rfl #[.pointer (some ⟨gb, 0, none⟩)] rfl (by (try simp only [List.map_toArray, List.map_cons, List.map_nil]); first | done | rfl) ?_; (with_reducible refine (spec_l05Text.calls _ gb _ _ l0_2 l0_3 _ _ _ w _ (by repeat (first | exact HI.out | apply IsS63.alloc | apply IsS63.drewN | apply IsS63.drew)) ib A2_.out).mono ?_); rintro e w5 ⟨rfl, hi, hb, hk⟩; refine ⟨_, rfl, ?_⟩; have n1_ := Aside0.mk hb; have n2_ := Aside0.mk hi; clear hi hb hk HB HI; have HB := n1_; have HI := n2_; clear n1_ n2_) | (go_at_call 69; (with_reducible refine (spec_l05Text.calls _ gb _ _ l0_2 l0_3 _ _ _ w _ (by repeat (first | exact HI.out | apply IsS63.alloc | apply IsS63.drewN | apply IsS63.drew)) ib A2_.out).mono ?_); rintro e w5 ⟨rfl, hi, hb, hk⟩; have n1_ := Aside0.mk hb; have n2_ := Aside0.mk hi; clear hi hb hk HB HI; have HB := n1_; have HI := n2_; clear n1_ n2_))
  go_ret
  exact ⟨(by first | rfl | (simp; done) | (simp [*]; done)), ib⟩
 | false =>
  replace H : some (⟨#[]⟩ : ByteArray) = some r := H
  simp only [Option.some.injEq] at H
  subst H
  go_enter Tryd.func43, Tryd.ntmps43
  go_wp2_with (first | ((with_reducible refine gate_dst (N := 1) rfl ?_); refine bx (cs := #[.int .i64 a0_0, .int .i64 a0_1, .slice A0_2 l0_2.length c0_2, .slice A0_3 l0_3.length c0_3]) (t := 63) ?_; intro gb hg w3 hbox hb; have HI := Aside0.mk (show IsS63 w w3 gb a0_0 a0_1 l0_2 l0_3 from ⟨A0_2, c0_2, A0_3, c0_3, hbox, Nat.le_of_eq hg.symm, HR0_2.out, HR0_3.out⟩); have n1_ := Aside0.mk (below_step ib hb); clear HB; have HB := n1_; clear n1_ hbox hb hg) | ((with_reducible refine gate_callee (f := 68) rfl ?_); refine goesL_ _ rfl rfl Tryd.func68 (by kernel_rfl) rfl #[.pointer (some ⟨gb, 0, none⟩)] rfl (by (try simp only [List.map_toArray, List.map_cons, List.map_nil]); first | done | rfl) ?_; (with_reducible refine (spec_l05Ok.calls _ gb a0_0 a0_1 l0_2 l0_3 _ _ _ w _ (by repeat (first | exact HI.out | apply IsS63.alloc | apply IsS63.drewN | apply IsS63.drew)) ib A1_.out).mono ?_); rintro e w5 ⟨rfl, hi, hb, hk⟩; refine ⟨_, rfl, ?_⟩; have n1_ := Aside0.mk hb; have n2_ := Aside0.mk hi; clear hi hb hk HB HI; have HB := n1_; have HI := n2_; clear n1_ n2_) | (go_at_call 68; (with_reducible refine (spec_l05Ok.calls _ gb a0_0 a0_1 l0_2 l0_3 _ _ _ w _ (by repeat (first | exact HI.out | apply IsS63.alloc | apply IsS63.drewN | apply IsS63.drew)) ib A1_.out).mono ?_); rintro e w5 ⟨rfl, hi, hb, hk⟩; have n1_ := Aside0.mk hb; have n2_ := Aside0.mk hi; clear hi hb hk HB HI; have HB := n1_; have HI := n2_; clear n1_ n2_) | ((with_reducible refine gate_callee (f := 69) rfl ?_); refine goesL_ _ rfl rfl Tryd.func69 (by kernel_rfl) rfl #[.pointer (some ⟨gb, 0, none⟩)] rfl (by (try simp only [List.map_toArray, List.map_cons, List.map_nil]); first | done | rfl) ?_; (with_reducible refine (spec_l05Text.calls _ gb _ _ l0_2 l0_3 _ _ _ w _ (by repeat (first | exact HI.out | apply IsS63.alloc | apply IsS63.drewN | apply IsS63.drew)) ib A2_.out).mono ?_); rintro e w5 ⟨rfl, hi, hb, hk⟩; refine ⟨_, rfl, ?_⟩; have n1_ := Aside0.mk hb; have n2_ := Aside0.mk hi; clear hi hb hk HB HI; have HB := n1_; have HI := n2_; clear n1_ n2_) | (go_at_call 69; (with_reducible refine (spec_l05Text.calls _ gb _ _ l0_2 l0_3 _ _ _ w _ (by repeat (first | exact HI.out | apply IsS63.alloc | apply IsS63.drewN | apply IsS63.drew)) ib A2_.out).mono ?_); rintro e w5 ⟨rfl, hi, hb, hk⟩; have n1_ := Aside0.mk hb; have n2_ := Aside0.mk hi; clear hi hb hk HB HI; have HB := n1_; have HI := n2_; clear n1_ n2_))
  go_ret
  exact ⟨(by first | rfl | (simp; done) | (simp [*]; done)), ib⟩
def laws_toPoint.f (a0_0 : Int) (a0_1 : Int) : Option (Int × Int) := some (a0_0, a0_1)
set_option maxHeartbeats 8000000 in
set_option maxRecDepth 100000 in
theorem laws_toPoint.calls (a0_0 : Int) (a0_1 : Int) (r1 : Int) (r2 : Int) (w : World) (h : laws_toPoint.f a0_0 a0_1 = some (r1, r2)) :
  Calls Tryd.prog 28 #[.agg #[.int .i64 a0_0, .int .i64 a0_1]] w fun e w' => e = .returned (.agg #[.int .i64 r1, .int .i64 r2]) ∧ Below w.heap.size w w' := by
 have hu38 := Tryd.underlying38
 have hu40 := Tryd.underlying40
 have HB := Aside0.mk (Below.refl w.heap.size w)
 have H : (some (a0_0, a0_1)) = some (r1, r2) := h
 clear h
 simp only [Option.some.injEq, Prod.mk.injEq] at H
 obtain ⟨rfl, rfl⟩ := H
 go_enter Tryd.func28, Tryd.ntmps28
 go_wp2_with (first | ((with_reducible refine gate_dst (N := 1) rfl ?_); refine bx (cs := #[.int .i64 a0_0, .int .i64 a0_1]) (t := 38) ?_; intro gb241 hg w2 hbox hb; have n0_ := sb hb; have n1_ := Aside0.mk (hbox); have n2_ := zb hg; have n3_ := zb hg; clear HB; have HB := n0_; have BK241 := n1_; have GW241 := n2_; have GE241 := n3_; clear n0_ n1_ n2_ n3_; clear hb hbox hg) | ((with_reducible refine gate_dst (N := 2) rfl ?_); refine bx (cs := #[.int .i64 0, .int .i64 0]) (t := 40) ?_; intro gb242 hg w3 hbox hb; have n0_ := kb BK241 hb; have n1_ := sb hb; have n2_ := Aside0.mk (hbox); have n3_ := zb hg; have n4_ := zb hg; have n5_ := nl BK241 hg; have n6_ := ng BK241 hg; clear BK241; clear HB; have BK241 := n0_; have HB := n1_; have BK242 := n2_; have GW242 := n3_; have GE242 := n4_; have NB241_242 := n5_; have NB242_241 := n6_; clear n0_ n1_ n2_ n3_ n4_ n5_ n6_; clear hb hbox hg) | ((with_reducible refine gate_dst (N := 3) rfl ?_); refine bx (cs := #[.int .i64 0, .int .i64 0]) (t := 40) ?_; intro gb243 hg w4 hbox hb; have n0_ := kb BK241 hb; have n1_ := kb BK242 hb; have n2_ := sb hb; have n3_ := Aside0.mk (hbox); have n4_ := zb hg; have n5_ := zb hg; have n6_ := nl BK241 hg; have n7_ := ng BK241 hg; have n8_ := nl BK242 hg; have n9_ := ng BK242 hg; clear BK241; clear BK242; clear HB; have BK241 := n0_; have BK242 := n1_; have HB := n2_; have BK243 := n3_; have GW243 := n4_; have GE243 := n5_; have NB241_243 := n6_; have NB243_241 := n7_; have NB242_243 := n8_; have NB243_242 := n9_; clear n0_ n1_ n2_ n3_ n4_ n5_ n6_ n7_ n8_ n9_; clear hb hbox hg; have hnb5 := NB241_242.out; have hnc5 := NB242_241.out; have hnb6 := NB241_243.out; have hnc6 := NB243_241.out; have hcz7_0 := ck BK241 0; have hcz7_1 := ck BK241 1; have hfz7_0 := blk_frozen BK241.out 0; have hfz7_1 := blk_frozen BK241.out 1; have hnb8 := NB243_242.out; have hnc8 := NB242_243.out; have hcz9_0 := ck BK243 0; have hcz9_1 := ck BK243 1; have hfz9_0 := blk_frozen BK243.out 0; have hfz9_1 := blk_frozen BK243.out 1; have hcz10_0 := ck BK242 0; have hcz10_1 := ck BK242 1; have hfz10_0 := blk_frozen BK242.out 0; have hfz10_1 := blk_frozen BK242.out 1))
 refine bodyPost_ret (results_cell_row rfl _ _ gb242 40 #[.int .i64 a0_0, .int .i64 a0_1] (0, 0) _ rfl (by refine bP (cs := #[.int .i64 a0_0, .int .i64 0]) 1 ?_; refine bP (cs := #[.int .i64 0, .int .i64 0]) 0 ?_; refine bF NB242_243.out ?_; refine bF NB242_243.out ?_; exact bk BK242) Tryd.underlying40 rfl (by kernel_rfl)) rfl ?_
 exact ⟨by first | rfl | (simp [errW_none, errW_some] <;> rfl) | (simp [*, errW_none, errW_some] <;> rfl), by repeat (first | (with_reducible first | exact HB.out | apply below_alloc | apply pw_below_drewN | apply below_drew1 | refine below_set ?_ GE241.out | refine below_set ?_ GE242.out | refine below_set ?_ GE243.out) | exact HB.out)⟩
def laws_toPointS.l0 : Nat → List (S38) → List (S40) → Int → Option ((List (S40)))
 | 0, _, _, _ => none
 | k + 1, x0, x3, x4 => if x4 < (x0.length : Int) then (if 0 ≤ x4 then ((laws_toPoint.f ((rd_T38 x0 x4).f0) ((rd_T38 x0 x4).f1)).bind fun bt248 => (if x4 < (x3.length : Int) then (laws_toPointS.l0 k x0 (x3.set (x4 : Int).toNat (⟨bt248.1, bt248.2⟩ : S40)) (wrap64 (x4 + 1))) else (none))) else (none)) else (some x3)
def laws_toPointS.f (k : Nat) (l0 : List (S38)) : Option ((List (S40))) := if 0 ≤ (l0.length : Int) then (if ((l0.length : Int) : Int).toNat ≤ 17592186044416 then (laws_toPointS.l0 k l0 (List.replicate ((l0.length : Int) : Int).toNat z40) 0) else (none)) else (none)
set_option maxHeartbeats 8000000 in
set_option maxRecDepth 100000 in
theorem laws_toPointS.calls (k : Nat) (A0 : Option Addr) (c0 : Nat) (l0 : List (S38)) (r : List (S40)) (w : World) (hr0 : Kd.C k38 w A0 l0.length l0) (hc0 : l0.length ≤ c0) (h : laws_toPointS.f k l0 = some r) :
  Calls Tryd.prog 35 #[.slice A0 l0.length c0] w fun e w' => ∃ v0_ : Value, e = .returned (v0_) ∧ Kd.R k40 40 w' w.heap.size (fun _ => True) v0_ r ∧ Below w.heap.size w w' := by
 have hu38 := Tryd.underlying38
 have hu40 := Tryd.underlying40
 have HR0 := Aside0.mk hr0
 have HC0 := Aside0.mk hc0
 clear hr0 hc0
 have HB := Aside0.mk (Below.refl w.heap.size w)
 have H : (if 0 ≤ (l0.length : Int) then (if ((l0.length : Int) : Int).toNat ≤ 17592186044416 then (laws_toPointS.l0 k l0 (List.replicate ((l0.length : Int) : Int).toNat z40) 0) else (none)) else (none)) = some r := h
 clear h
 by_cases c2 : 0 ≤ (l0.length : Int)
 ·rw [if_pos c2] at H
  have c2b0 := eq_true c2
  have c2b1 : decide (0 ≤ (l0.length : Int)) = true := decide_eq_true c2
  clear c2
  by_cases c3 : ((l0.length : Int) : Int).toNat ≤ 17592186044416
  ·rw [if_pos c3] at H
   have c3b0 := eq_true c3
   have c3b1 : decide (((l0.length : Int) : Int).toNat ≤ 17592186044416) = true := decide_eq_true c3
   clear c3
   obtain ⟨y244, hy244⟩ : ∃ y_ : List (S40), y_ = (List.replicate ((l0.length : Int) : Int).toNat z40) := ⟨_, rfl⟩
   replace H : (laws_toPointS.l0 k l0 y244 0) = some r := by first | (rw [hy244]; with_reducible exact H) | (have H2_ := (Option.bind_some _ _).symm.trans H; rw [hy244]; with_reducible exact H2_) | (have H2_ := (Option.bind_some _ _).symm.trans H; with_reducible exact H2_) | with_reducible exact H | (rw [hy244]; exact H) | exact H
   have Ny244 := Aside0.mk hy244
   clear hy244
   have H' := Aside0.mk H
   clear H
   go_enter Tryd.func35, Tryd.ntmps35
   go_wp2_with (first | ((with_reducible refine gate_dst (N := 7) rfl ?_); refine Kd.R_make k40 _ 40 rfl (N := 7) rfl 49 _ _ rfl (l0.length : Int) rfl rfl Tryd.underlying49 (.agg #[(.int .i64 0), (.int .i64 0)]) 16 info40 rfl (by decide) (by omega) z40 (ok := fun _ => True) (okp := fun _ => True) (k40_mkM _ _ _ z40 ) (fun _ hk => hk) trivial (da) (Nat.le_trans (Nat.mul_le_mul_right _ (da : (l0.length : Int).toNat ≤ 17592186044416)) (by omega)) (Below.refl _ _) (Nat.le_refl _) ?_; intro v245 w4 ho5 hb hg_ hnew_; clear hg_ hnew_; (first | rw [← Ny244.out] at ho5 | (simp only [Int.reduceToNat] at ho5; rw [← Ny244.out] at ho5)); have n0_ := Aside0.mk (Kd.R_lower ho5 (below_size ib)); have n1_ := sb hb; clear HB; have HO246 := n0_; have HB := n1_; clear n0_ n1_; clear hb ho5))
   go_loopg [4] k (fun kq v4 w' => ∃ (x3_1 : List (S40)) (x4_1 : Int), v4 = .int .i64 x4_1 ∧ Aside0 (laws_toPointS.l0 kq l0 x3_1 x4_1 = some r) ∧ Aside0 (kq ≤ k) ∧ Aside0 (Kd.R k40 40 w' w.heap.size (fun _ => True) v245 x3_1) ∧ Aside0 (Below w.heap.size w w'))
   case atStart => exact ⟨(y244), (0), (by first | rfl | (simp; done) | (simp [*]; done)), H', ⟨Nat.le_refl _⟩, ⟨by (with_reducible repeat (first | apply Kd.R_alloc | apply Kd.R_drewN | apply Kd.R_drew)); exact HO246.out⟩, ⟨by repeat (first | (with_reducible first | exact HB.out | apply below_alloc | apply pw_below_drewN | apply below_drew1) | exact HB.out)⟩⟩
   case round =>
    clear H'
    try clear c2
    try clear c2b0
    try clear c2b1
    try clear p2
    try clear c3
    try clear c3b0
    try clear c3b1
    obtain ⟨x3_1, x4_1, rfl, HA, HK1, HO_3, HB⟩ := hrel
    cases gk with
    | zero => exact absurd HA.out (by simp [laws_toPointS.l0])
    | succ k1 =>
     have H := HA.out
     clear HA
     simp only [laws_toPointS.l0] at H
     by_cases c6 : x4_1 < (l0.length : Int)
     ·rw [if_pos c6] at H
      have c6b0 : decide (x4_1 < (l0.length : Int)) = true := decide_eq_true c6
      clear c6
      by_cases c7 : 0 ≤ x4_1
      ·rw [if_pos c7] at H
       have c7b0 : decide (0 ≤ x4_1) = true := decide_eq_true c7
       clear c7
       replace H := Option.bind_eq_some_iff.mp H
       obtain ⟨⟨t248, t249⟩, A80, H⟩ := H
       replace H : (if x4_1 < (x3_1.length : Int) then (laws_toPointS.l0 k1 l0 (x3_1.set (x4_1 : Int).toNat (⟨t248, t249⟩ : S40)) (wrap64 (x4_1 + 1))) else (none)) = some r := H
       have A8 := Aside0.mk A80
       clear A80
       by_cases c9 : x4_1 < (x3_1.length : Int)
       ·rw [if_pos c9] at H
        have c9b0 : decide (x4_1 < (x3_1.length : Int)) = true := decide_eq_true c9
        clear c9
        obtain ⟨y250, hy250⟩ : ∃ y_ : List (S40), y_ = (x3_1.set (x4_1 : Int).toNat (⟨t248, t249⟩ : S40)) := ⟨_, rfl⟩
        replace H : (laws_toPointS.l0 k1 l0 y250 (wrap64 (x4_1 + 1))) = some r := by first | (rw [hy250]; with_reducible exact H) | (have H2_ := (Option.bind_some _ _).symm.trans H; rw [hy250]; with_reducible exact H2_) | (have H2_ := (Option.bind_some _ _).symm.trans H; with_reducible exact H2_) | with_reducible exact H | (rw [hy250]; exact H) | exact H
        have Ny250 := Aside0.mk hy250
        clear hy250
        have H' := Aside0.mk H
        clear H
        have p247 : 0 ≤ (x4_1 : Int) := da
        have q247 : x4_1 < (l0.length : Int) := da
        obtain ⟨ad247, e247, hx247_0, hx247_1⟩ := at_T38 HR0.out x4_1 p247 q247
        cases e247
        replace hx247_0 := (HB.out.cell (bL w _ hx247_0)).trans hx247_0
        replace hx247_1 := (HB.out.cell (bL w _ hx247_1)).trans hx247_1
        replace p247 := eq_true p247
        replace q247 := eq_true q247
        go_wp2_with (first | ((with_reducible refine gate_callee (f := 28) rfl ?_); refine goesL_ (some 20) rfl rfl Tryd.func28 (by kernel_rfl) rfl #[.agg #[.int .i64 ((rd_T38 l0 x4_1).f0), .int .i64 ((rd_T38 l0 x4_1).f1)]] rfl (by (try simp only [List.map_toArray, List.map_cons, List.map_nil]); first | done | rfl | (simp only [List.length_drop, List.length_take]; rfl)) ?_; (with_reducible refine (laws_toPoint.calls ((rd_T38 l0 x4_1).f0) ((rd_T38 l0 x4_1).f1) t248 t249 _ A8.out).mono ?_); rintro e w11 ⟨rfl, hb⟩; refine ⟨_, rfl, ?_⟩; have n0_ := Aside0.mk (Kd.R_below (by (with_reducible repeat (first | apply Kd.R_alloc | apply Kd.R_drewN | apply Kd.R_drew)); exact HO_3.out) hb); have n1_ := sb hb; clear HO_3; clear HB; have HO_3 := n0_; have HB := n1_; clear n0_ n1_; (try clear hb); (try clear hb2); (try clear hk); (try clear hi); have p10 : 0 ≤ (x4_1 : Int) := da; have q10 : (x4_1 : Int) < ((x3_1.length : Int) : Int) := da; obtain ⟨go10, co10, eo10, gb10, gl10, cl10, HG10⟩ := Kd.R_form HO_3.out (by omega); (first | cases eo10 | (injection eo10 with ea_ en_ ec_; (first | subst ea_ | (injection ea_ with ea_; subst ea_)); subst ec_; clear en_)); have GB10 := Aside0.mk gb10; have GG10 := Aside0.mk HG10; clear gb10 gl10 HG10; obtain ⟨ce10, hcl10, hM10, hcc10, hfr10⟩ := Kd.R_elem HO_3.out z40 (x4_1 : Int) p10 q10; obtain rfl := k40_openM hM10; have hx10_0 : w11.cell? ⟨go10, (x4_1 : Int).toNat * 2, none⟩ = some (.int .i64 ((rd_T40 x3_1 x4_1).f0)) := hcc10 0 _ rfl; have hx10_1 : w11.cell? ⟨go10, (x4_1 : Int).toNat * 2 + 1, none⟩ = some (.int .i64 ((rd_T40 x3_1 x4_1).f1)) := hcc10 1 _ rfl; have hf10_0 : w11.frozen? ⟨go10, (x4_1 : Int).toNat * 2, none⟩ = false := hfr10 0; have hf10_1 : w11.frozen? ⟨go10, (x4_1 : Int).toNat * 2 + 1, none⟩ = false := hfr10 1; clear hcl10 hcc10 hfr10 hM10; replace p10 := eq_true p10; replace q10 := eq_true q10; have HX12 := Aside0.mk (show Kd.R k40 40 w11 w.heap.size (fun _ => True) (.slice (some ⟨go10, 0, none⟩) x3_1.length co10) x3_1 from (by (with_reducible repeat (first | apply Kd.R_alloc | apply Kd.R_drewN | apply Kd.R_drew)); exact HO_3.out)); obtain ⟨ce12, hcl12, hM12, hcc12, hfr12⟩ := Kd.R_elem HX12.out z40 (x4_1 : Int) (da) (by have h_ : (x4_1 : Int) < ((x3_1.length : Int) : Int) := da; first | exact h_ | (have e_ := (Kd.R_reads' HO_3.out).1; omega) | simpa using h_); obtain rfl := k40_openM hM12; have HP12 := Kd.R_seg HX12.out (x4_1 : Int) (da) (by have h_ : (x4_1 : Int) < ((x3_1.length : Int) : Int) := da; first | exact h_ | (have e_ := (Kd.R_reads' HO_3.out).1; omega) | simpa using h_) (seg := [.int .i64 t248, .int .i64 t249]) (j := 0) hcl12 hcc12 (show 2 ≤ 2 from by decide) (x' := (⟨t248, t249⟩ : S40)) (k40_mkM _ _ _ (⟨t248, t249⟩ : S40) ) (fun _ hk => hk); have hx12_0 := hcc12 0 _ rfl; (try simp only [show (k40).sz = 2 from rfl, Nat.mul_one, Nat.add_zero] at hx12_0); have hf12_0 := hfr12 0; (try simp only [show (k40).sz = 2 from rfl, Nat.mul_one, Nat.add_zero] at hf12_0); have hx12_1 := hcc12 1 _ rfl; (try simp only [show (k40).sz = 2 from rfl, Nat.mul_one, Nat.add_zero] at hx12_1); have hf12_1 := hfr12 1; (try simp only [show (k40).sz = 2 from rfl, Nat.mul_one, Nat.add_zero] at hf12_1); clear hcl12 hcc12 hfr12 hM12) | ((with_reducible refine gate_store (t := 40) (p := 21) rfl ?_); refine store_event (t := 40) (p := 21) (v := ?vo_w13) (w1 := ((w11.setCell ⟨go10, (x4_1 : Int).toNat * 2, none⟩ (.int .i64 t248)).setCell ⟨go10, (x4_1 : Int).toNat * 2 + 1, none⟩ (.int .i64 t249))) ?hg ?ho ?hn ?hr ?_; (case ho => rfl); (case hg => rfl); (case hn => rfl); (case hr => first | (go_simp; done) | (go_simp; rfl)); intro w13 hw; have hg : w11.grownBy w13 (some go10) := (by rw [hw]; exact HP12.2); have hp_ : Kd.R k40 40 w13 w.heap.size (fun _ => True) (.slice (some ⟨go10, 0, none⟩) x3_1.length co10) y250 := (by rw [hw, Ny250.out]; exact HP12.1); clear HP12; have n0_ := Aside0.mk (hp_); have n1_ := Aside0.mk ((by rw [hw]; exact below_set (below_set (HB.out) GB10.out) GB10.out : Below w.heap.size w w13)); clear HO_3; clear HB; have HO_3 := n0_; have HB := n1_; clear n0_ n1_; clear hg hw hp_))
        go_roundg k1
        case measure => have := HK1.out; omega
        case rel => exact ⟨(y250), (wrap64 (x4_1 + 1)), (by first | rfl | (simp; done) | (simp [*]; done)), H', ⟨by have := HK1.out; omega⟩, ⟨by (with_reducible repeat (first | apply Kd.R_alloc | apply Kd.R_drewN | apply Kd.R_drew)); exact HO_3.out⟩, ⟨by repeat (first | (with_reducible first | exact HB.out | apply below_alloc | apply pw_below_drewN | apply below_drew1) | exact HB.out)⟩⟩
       ·rw [if_neg c9] at H
        exact absurd H (by simp)
      ·rw [if_neg c7] at H
       exact absurd H (by simp)
     ·rw [if_neg c6] at H
      have c6b0 : decide (x4_1 < (l0.length : Int)) = false := decide_eq_false c6
      clear c6
      obtain rfl := Option.some.inj H
      go_wp2
      go_ret
      exact ⟨_, by first | rfl | (simp [errW_none, errW_some] <;> rfl) | (simp [*, errW_none, errW_some] <;> rfl), by (with_reducible repeat (first | apply Kd.R_alloc | apply Kd.R_drewN | apply Kd.R_drew)); exact HO_3.out, by repeat (first | (with_reducible first | exact HB.out | apply below_alloc | apply pw_below_drewN | apply below_drew1) | exact HB.out)⟩
  ·rw [if_neg c3] at H
   exact absurd H (by simp)
 ·rw [if_neg c2] at H
  exact absurd H (by simp)
end Go.Proofs.YtdegladckdnhiaaDoor.PFnExactDrawingText
