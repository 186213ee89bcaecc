/- The plain law: what FnExactReadDrawing computes is true at every input. -/
import Derived.Test.YtpemeboolahfkaaGreatDoorLFnExactReadDrawingb
namespace Go.Proofs.YtpemeboolahfkaaGreatDoor.Pure
open Go.RowKit Go.Proofs.YtpemeboolahfkaaGreatDoor.PFnExactReadDrawing Go.Proofs.YtpemeboolahfkaaGreatDoorW.PrintWords Go.Proofs.YtpemeboolahfkaaGreatDoorW.PrintLast Go.Proofs.YtpemeboolahfkaaGreatDoorW.PrintMore
set_option linter.unusedVariables false
set_option linter.unusedSimpArgs false

/-- Whether a name is one. -/
def nameB (s : ByteArray) : Bool:=(impl_IsName.f (s.size + 2) s).getD false
theorem nameB_impl (s : ByteArray) (hs : s.size ≤ 140737488351232) (k : Nat) (hk : s.size + 2 ≤ k) : impl_IsName.f k s = some (nameB s):=by
 obtain ⟨b,hb⟩:=name_total s hs
 unfold nameB
 rw [hb _ (Nat.le_refl _),hb k hk]
 rfl
theorem nameB_spec (s : ByteArray) (hs : s.size ≤ 140737488351232) (k : Nat) (hk : s.size + 2 ≤ k) : spec_l01Name.f k s = some (nameB s):=by
 rw [name_same,nameB_impl s hs k hk]
/-- Whether a polygon is valid. -/
def validB (p : List S36) : Bool:=(impl_ValidPolygon.f 1000 p).getD false
theorem validB_eq (p : List S36) (hp : p.length ≤ 1048576) (k : Nat) (hk : 1000 ≤ k) : impl_ValidPolygon.f k p = some (validB p) ∧ spec_l03Ok.f k p = some (validB p) ∧ (validB p = true ↔ Valid p):=by
 obtain ⟨b,h1,h2,h3⟩:=spec_valid_eq p hp
 unfold validB
 rw [h2 1000 (Nat.le_refl _),h1 k hk,h2 k hk]
 exact ⟨rfl,rfl,h3⟩
/-- The polygon of a ring. -/
def ringOk (pts : List S36) (ring : List Int) : Bool:=ring.all fun i => decide (0 ≤ i ∧ i ≤ (pts.length : Int) - 1)
def ringP (pts : List S36) (ring : List Int) : List S36:=ring.map fun i => rd_T36 pts i
theorem ringP_length (pts : List S36) (ring : List Int) : (ringP pts ring).length = ring.length:=by
 unfold ringP
 rw [List.length_map]
theorem getI (l : List Int) (i : Nat) (h : i < l.length) : l.getD i 0 = l[i]:=by
 rw [List.getD_eq_getElem?_getD,List.getElem?_eq_getElem h]
 rfl
theorem spec_ring_loop (pts : List S36) (fs : List S45) (w h : Int) (hp : pts.length ≤ 1048576) (ring : List Int) (hr : ring.length ≤ 1048576) : ∀ (d k i : Nat) (out : List S36),ring.length - i ≤ d → d < k → out.length ≤ i →
  spec_l05Ring.l0 k ring out i w h pts fs = some (if ringOk pts (ring.drop i) = true then (out ++ ringP pts (ring.drop i),true,w,h) else ([],false,w,h))
 | d,0,i,out,_,h2,_ => absurd h2 (by omega)
 | d,k + 1,i,out,h1,h2,ho => by
  simp only [spec_l05Ring.l0,spec_l00In_eq,Option.bind_some]
  by_cases hi : i < ring.length
  ·rw [if_pos (by omega),if_pos (by omega),rd_nat,getI ring i hi,w64 (x:=(pts.length : Int) - 1) (by omega) (by omega),List.drop_eq_getElem_cons hi]
   by_cases c : 0 ≤ ring[i] ∧ ring[i] ≤ (pts.length : Int) - 1
   ·rw [if_pos (decide_eq_true c),if_pos c.1,if_pos (by omega),if_pos (by omega),w1 (by omega),spec_ring_loop pts fs w h hp ring hr (d - 1) k (i + 1) _ (by omega) (by omega) (by rw [List.length_append];simp;omega)]
    have e : ringOk pts (ring[i] :: ring.drop (i + 1)) = ringOk pts (ring.drop (i + 1)):=by
     unfold ringOk
     rw [List.all_cons,decide_eq_true c,Bool.true_and]
    rw [e]
    unfold ringP
    rw [List.map_cons,List.append_assoc]
    rfl
   ·rw [if_neg (by rw [decide_eq_true_eq];exact c)]
    have e : ringOk pts (ring[i] :: ring.drop (i + 1)) = false:=by
     unfold ringOk
     rw [List.all_cons,decide_eq_false c,Bool.false_and]
    rw [e]
    rfl
  ·rw [if_neg (by omega),List.drop_eq_nil_of_le (by omega)]
   unfold ringP
   rw [List.map_nil,List.append_nil]
   rfl
theorem spec_ring_eq (pts : List S36) (fs : List S45) (w h : Int) (hp : pts.length ≤ 1048576) (ring : List Int) (hr : ring.length ≤ 1048576) (k : Nat) (hk : ring.length < k) :
  spec_l05Ring.f k w h pts fs ring = some (if ringOk pts ring = true then (ringP pts ring,true,w,h) else ([],false,w,h)):=by
 unfold spec_l05Ring.f
 have:=spec_ring_loop pts fs w h hp ring hr ring.length k 0 [] (by omega) hk (Nat.zero_le _)
 simp only [Int.natCast_zero,List.drop_zero,List.nil_append] at this
 exact this
theorem impl_ring_loop (pts : List S36) (hp : pts.length ≤ 1048576) (ring : List Int) (hr : ring.length ≤ 1048576) : ∀ (d k i : Nat) (out : List S36),ring.length - i ≤ d → d < k → out.length ≤ i →
  impl_ringPolygon.l0 k pts out ring (ring.length : Int) i = some (if ringOk pts (ring.drop i) = true then (out ++ ringP pts (ring.drop i),true) else ([],false))
 | d,0,i,out,_,h2,_ => absurd h2 (by omega)
 | d,k + 1,i,out,h1,h2,ho => by
  simp only [impl_ringPolygon.l0,impl_within_eq,Option.bind_some]
  by_cases hi : i < ring.length
  ·rw [if_pos (by omega),if_pos (by omega),if_pos (by omega),rd_nat,getI ring i hi,w64 (x:=(pts.length : Int) - 1) (by omega) (by omega),List.drop_eq_getElem_cons hi]
   by_cases c : 0 ≤ ring[i] ∧ ring[i] ≤ (pts.length : Int) - 1
   ·rw [if_pos (decide_eq_true c),if_pos c.1,if_pos (by omega),if_pos (by omega),w1 (by omega),impl_ring_loop pts hp ring hr (d - 1) k (i + 1) _ (by omega) (by omega) (by rw [List.length_append];simp;omega)]
    have e : ringOk pts (ring[i] :: ring.drop (i + 1)) = ringOk pts (ring.drop (i + 1)):=by
     unfold ringOk
     rw [List.all_cons,decide_eq_true c,Bool.true_and]
    rw [e]
    unfold ringP
    rw [List.map_cons,List.append_assoc]
    rfl
   ·rw [if_neg (by rw [decide_eq_true_eq];exact c)]
    have e : ringOk pts (ring[i] :: ring.drop (i + 1)) = false:=by
     unfold ringOk
     rw [List.all_cons,decide_eq_false c,Bool.false_and]
    rw [e]
    rfl
  ·rw [if_neg (by omega),List.drop_eq_nil_of_le (by omega)]
   unfold ringP
   rw [List.map_nil,List.append_nil]
   rfl
theorem impl_ring_eq (pts : List S36) (hp : pts.length ≤ 1048576) (ring : List Int) (hr : ring.length ≤ 1048576) (k : Nat) (hk : ring.length < k) :
  impl_ringPolygon.f k pts ring = some (if ringOk pts ring = true then (ringP pts ring,true) else ([],false)):=by
 unfold impl_ringPolygon.f
 have:=impl_ring_loop pts hp ring hr ring.length k 0 [] (by omega) hk (Nat.zero_le _)
 simp only [Int.natCast_zero,List.drop_zero,List.nil_append] at this
 exact this
/-- A point of a drawing is good. -/
def ptGood (w h : Int) (pts : List S36) (i : Nat) : Bool :=
 let q:=pts.getD i z36
 (decide (0 ≤ q.f0 ∧ q.f0 ≤ w) && decide (0 ≤ q.f1 ∧ q.f1 ≤ h)) && !((pts.take i).any fun s => q.f0 == s.f0 && (q.f1 == s.f1))
def ptsFrom (w h : Int) (pts : List S36) : Nat → Nat → Bool
 | 0,_ => true
 | d + 1,i => ptGood w h pts i && ptsFrom w h pts d (i + 1)
theorem ptsFrom_succ (w h : Int) (pts : List S36) (d i : Nat) : ptsFrom w h pts (d + 1) i = (ptGood w h pts i && ptsFrom w h pts d (i + 1)):=rfl
theorem ptGood_eq (w h : Int) (pts : List S36) (i : Nat) : ptGood w h pts i = ((decide (0 ≤ (pts.getD i z36).f0 ∧ (pts.getD i z36).f0 ≤ w) && decide (0 ≤ (pts.getD i z36).f1 ∧ (pts.getD i z36).f1 ≤ h)) && !((pts.take i).any fun s => (pts.getD i z36).f0 == s.f0 && ((pts.getD i z36).f1 == s.f1))):=rfl
theorem spec_pts_inner (w h : Int) (pts : List S36) (fs : List S45) (hp : pts.length ≤ 48) (i : Nat) (hi : i < pts.length) (K : Nat) (b : Bool) (hb : ∀ k,K ≤ k → spec_l05Points.l0 k ((i + 1 : Nat) : Int) w h pts fs = some (b,w,h)) :
  ∀ (d k j : Nat),i - j ≤ d → j ≤ i → K + d + 1 ≤ k → spec_l05Points.l1 k i j w h pts fs = some (!(((pts.take i).drop j).any fun s => (pts.getD i z36).f0 == s.f0 && ((pts.getD i z36).f1 == s.f1)) && b,w,h)
 | d,0,j,_,_,h2 => absurd h2 (by omega)
 | d,k + 1,j,h1,hj,h2 => by
  simp only [spec_l05Points.l1]
  by_cases c : j < i
  ·rw [if_pos (by omega),if_pos (by omega),if_pos (by omega),if_pos (by omega),if_pos (by omega),w1 (by omega),rdN,rdN,List.drop_eq_getElem_cons (i:=j) (by rw [List.length_take];omega),List.any_cons,List.getElem_take]
   have e : pts.getD j z36 = pts[j]:=by
    rw [List.getD_eq_getElem?_getD,List.getElem?_eq_getElem (by omega)]
    rfl
   rw [e,spec_pts_inner w h pts fs hp i hi K b hb (d - 1) k (j + 1) (by omega) (by omega) (by omega)]
   generalize ((pts.getD i z36).f0 == (pts[j]).f0 && ((pts.getD i z36).f1 == (pts[j]).f1)) = s
   cases s <;> simp
  ·rw [if_neg (by omega),w1 (by omega),hb k (by omega),List.drop_eq_nil_of_le (by rw [List.length_take];omega)]
   rfl
theorem spec_pts_loop (w h : Int) (pts : List S36) (fs : List S45) (hp : pts.length ≤ 48) : ∀ (d k i : Nat),pts.length - i = d → 60 * d + 1 ≤ k → spec_l05Points.l0 k i w h pts fs = some (ptsFrom w h pts d i,w,h)
 | 0,k,i,h1,h2 => by
  obtain ⟨k,rfl⟩ : ∃ m,k = m + 1:=⟨k - 1,by omega⟩
  simp only [spec_l05Points.l0]
  rw [if_neg (by omega)]
  rfl
 | d + 1,k,i,h1,h2 => by
  obtain ⟨k,rfl⟩ : ∃ m,k = m + 2:=⟨k - 2,by omega⟩
  have ih:=fun k hk => spec_pts_loop w h pts fs hp d k (i + 1) (by omega) hk
  simp only [spec_l05Points.l0,spec_l00In_eq,Option.bind_some,spec_l05Points.j1]
  rw [if_pos (by omega),if_pos (by omega),rdN]
  have inn:=spec_pts_inner w h pts fs hp i (by omega) (60 * d + 1) _ ih i k 0 (by omega) (by omega) (by omega)
  simp only [Int.natCast_zero,List.drop_zero] at inn
  rw [inn]
  rw [ptsFrom_succ,ptGood_eq]
  generalize ptsFrom w h pts d (i + 1) = s4
  generalize decide (0 ≤ (pts.getD i z36).f0 ∧ (pts.getD i z36).f0 ≤ w) = s1
  generalize decide (0 ≤ (pts.getD i z36).f1 ∧ (pts.getD i z36).f1 ≤ h) = s2
  cases s1 <;> cases s2 <;> simp
theorem impl_index_loop (l : List S36) (hl : l.length ≤ 1048576) (q0 q1 : Int) : ∀ (d k i : Nat),l.length - i ≤ d → d < k → ∃ r,impl_Point_76.l0 k l (l.length : Int) i q0 q1 = some r ∧ (decide (r ≥ 0) = ((l.drop i).any fun s => q0 == s.f0 && (q1 == s.f1)))
 | d,0,i,_,h2 => absurd h2 (by omega)
 | d,k + 1,i,h1,h2 => by
  simp only [impl_Point_76.l0]
  by_cases c : i < l.length
  ·rw [if_pos (by omega),if_pos (by omega),if_pos (by omega),w1 (by omega),rdN,List.drop_eq_getElem_cons c,List.any_cons]
   have e : l.getD i z36 = l[i]:=by
    rw [List.getD_eq_getElem?_getD,List.getElem?_eq_getElem c]
    rfl
   rw [e]
   obtain ⟨r,e1,e2⟩:=impl_index_loop l hl q0 q1 (d - 1) k (i + 1) (by omega) (by omega)
   cases hs : (q0 == (l[i]).f0 && (q1 == (l[i]).f1)) with
   | true =>
    rw [if_pos rfl]
    exact ⟨_,rfl,by rw [Bool.true_or,decide_eq_true_eq];omega⟩
   | false =>
    rw [if_neg (by decide)]
    exact ⟨r,e1,by rw [e2,Bool.false_or]⟩
  ·rw [if_neg (by omega),List.drop_eq_nil_of_le (by omega)]
   exact ⟨-1,rfl,rfl⟩
theorem impl_contains_eq (l : List S36) (hl : l.length ≤ 1048576) (q0 q1 : Int) (k : Nat) (hk : l.length < k) : impl_Point_54.f k l q0 q1 = some (l.any fun s => q0 == s.f0 && (q1 == s.f1)):=by
 obtain ⟨r,e1,e2⟩:=impl_index_loop l hl q0 q1 l.length k 0 (by omega) hk
 simp only [Int.natCast_zero,List.drop_zero] at e1 e2
 unfold impl_Point_54.f impl_Point_76.f
 rw [e1,Option.bind_some,e2]
theorem impl_pts_loop (w h : Int) (pts : List S36) (fs : List S45) (hp : pts.length ≤ 48) (K : Nat) (b : Bool) (hb : ∀ k,K ≤ k → impl_ValidDrawing.l1 k fs (fs.length : Int) 0 w h pts fs = some b) :
  ∀ (d k i : Nat),pts.length - i = d → K + d + 50 ≤ k → impl_ValidDrawing.l0 k pts (pts.length : Int) i w h pts fs = some (ptsFrom w h pts d i && b)
 | 0,k,i,h1,h2 => by
  obtain ⟨k,rfl⟩ : ∃ m,k = m + 1:=⟨k - 1,by omega⟩
  simp only [impl_ValidDrawing.l0]
  rw [if_neg (by omega),hb k (by omega)]
  rfl
 | d + 1,k,i,h1,h2 => by
  obtain ⟨k,rfl⟩ : ∃ m,k = m + 1:=⟨k - 1,by omega⟩
  have ih:=impl_pts_loop w h pts fs hp K b hb d k (i + 1) (by omega) (by omega)
  simp only [impl_ValidDrawing.l0,impl_within_eq,Option.bind_some]
  rw [if_pos (by omega),if_pos (by omega),if_pos (by omega),rdN,if_pos (show (i : Int) ≤ (pts.length : Int) by omega),Int.toNat_natCast,impl_contains_eq _ (by rw [List.length_take];omega) _ _ k (by rw [List.length_take];omega),Option.bind_some,w1 (by omega),ih]
  rw [ptsFrom_succ,ptGood_eq]
  generalize ptsFrom w h pts d (i + 1) = s4
  generalize decide (0 ≤ (pts.getD i z36).f0 ∧ (pts.getD i z36).f0 ≤ w) = s1
  generalize decide (0 ≤ (pts.getD i z36).f1 ∧ (pts.getD i z36).f1 ≤ h) = s2
  generalize ((pts.take i).any fun s => (pts.getD i z36).f0 == s.f0 && ((pts.getD i z36).f1 == s.f1)) = s3
  cases s1 <;> cases s2 <;> cases s3 <;> simp
/-- A face of a drawing is good. -/
def faceGood (pts : List S36) (fs : List S45) (i : Nat) : Bool :=
 let f:=fs.getD i z45
 nameB f.f0 && (!(decide (0 < i) && !(Op.bytesLess (fs.getD (i - 1) z45).f0.toList f.f0.toList)) && (ringOk pts f.f1 && validB (ringP pts f.f1)))
def facesFrom (pts : List S36) (fs : List S45) : Nat → Nat → Bool
 | 0,_ => true
 | d + 1,i => faceGood pts fs i && facesFrom pts fs d (i + 1)
theorem facesFrom_succ (pts : List S36) (fs : List S45) (d i : Nat) : facesFrom pts fs (d + 1) i = (faceGood pts fs i && facesFrom pts fs d (i + 1)):=rfl
theorem faceGood_eq (pts : List S36) (fs : List S45) (i : Nat) : faceGood pts fs i = (nameB (fs.getD i z45).f0 && (!(decide (0 < i) && !(Op.bytesLess (fs.getD (i - 1) z45).f0.toList (fs.getD i z45).f0.toList)) && (ringOk pts (fs.getD i z45).f1 && validB (ringP pts (fs.getD i z45).f1)))):=rfl
def ShortP (fs : List S45) : Prop:=∀ j,j < fs.length → (fs.getD j z45).f0.size ≤ 1048576 ∧ (fs.getD j z45).f1.length ≤ 1048576
theorem spec_faces_loop (w h : Int) (pts : List S36) (fs : List S45) (hp : pts.length ≤ 1048576) (hf : fs.length ≤ 1048576) (hs : ShortP fs) (K : Nat) (hK : 1050000 ≤ K) : ∀ (d k i : Nat),fs.length - i = d → K + 2 * d + 1 ≤ k →
  spec_l05Ok.l0 k i w h pts fs = some (facesFrom pts fs d i,w,h)
 | 0,k,i,h1,h2 => by
  obtain ⟨k,rfl⟩ : ∃ m,k = m + 1:=⟨k - 1,by omega⟩
  simp only [spec_l05Ok.l0]
  rw [if_neg (by omega)]
  rfl
 | d + 1,k,i,h1,h2 => by
  obtain ⟨k,rfl⟩ : ∃ m,k = m + 2:=⟨k - 2,by omega⟩
  have ih:=spec_faces_loop w h pts fs hp hf hs K hK d k (i + 1) (by omega) (by omega)
  obtain ⟨hs1,hs2⟩:=hs i (by omega)
  have hv:=validB_eq (ringP pts (fs.getD i z45).f1) (by rw [ringP_length];omega) k (by omega)
  have hi0 : (0 : Int) ≤ i:=by omega
  have hi1 : (i : Int) < fs.length:=by omega
  simp only [spec_l05Ok.l0,spec_l05Ok.j2]
  simp only [if_pos hi0,if_pos hi1,rdF_nat,w1 (show i ≤ 4611686018427387904 by omega)]
  rw [nameB_spec _ (by omega) (k + 1) (by omega),spec_ring_eq pts fs w h hp _ hs2 k (by omega)]
  rw [facesFrom_succ,faceGood_eq]
  simp only [Option.bind_some]
  have tail : ((some (if ringOk pts (fs.getD i z45).f1 = true then (ringP pts (fs.getD i z45).f1,true,w,h) else ([],false,w,h))).bind fun bt => (if bt.2.1 = true then ((spec_l03Ok.f k bt.1).bind fun t => (if t = true then (spec_l05Ok.l0 k ((i + 1 : Nat) : Int) bt.2.2.1 bt.2.2.2 pts fs) else (some (false,bt.2.2.1,bt.2.2.2)))) else (some (false,bt.2.2.1,bt.2.2.2)))) = some ((ringOk pts (fs.getD i z45).f1 && validB (ringP pts (fs.getD i z45).f1)) && facesFrom pts fs d (i + 1),w,h):=by
   rw [Option.bind_some]
   cases ringOk pts (fs.getD i z45).f1 with
   | false => rfl
   | true =>
    simp only [if_true]
    rw [hv.2.1,Option.bind_some,ih]
    cases validB (ringP pts (fs.getD i z45).f1) <;> rfl
  simp only [Option.bind_some] at tail
  rw [tail]
  cases nameB (fs.getD i z45).f0 with
  | false => rfl
  | true =>
   simp only [if_true]
   by_cases c : 0 < i
   ·rw [if_pos (by omega),w64 (x:=(i : Int) - 1) (by omega) (by omega),show (i : Int) - 1 = ((i - 1 : Nat) : Int) by omega,if_pos (by omega),if_pos (by omega),rdF_nat,decide_eq_true c]
    cases Op.bytesLess (fs.getD (i - 1) z45).f0.toList (fs.getD i z45).f0.toList <;> simp
   ·rw [if_neg (by omega),decide_eq_false c]
    simp
theorem impl_faces_loop (w h : Int) (pts : List S36) (fs : List S45) (hp : pts.length ≤ 1048576) (hf : fs.length ≤ 1048576) (hs : ShortP fs) (K : Nat) (hK : 1050000 ≤ K) : ∀ (d k i : Nat),fs.length - i = d → K + 2 * d + 1 ≤ k →
  impl_ValidDrawing.l1 k fs (fs.length : Int) i w h pts fs = some (facesFrom pts fs d i)
 | 0,k,i,h1,h2 => by
  obtain ⟨k,rfl⟩ : ∃ m,k = m + 1:=⟨k - 1,by omega⟩
  simp only [impl_ValidDrawing.l1]
  rw [if_neg (by omega)]
  rfl
 | d + 1,k,i,h1,h2 => by
  obtain ⟨k,rfl⟩ : ∃ m,k = m + 2:=⟨k - 2,by omega⟩
  have ih:=impl_faces_loop w h pts fs hp hf hs K hK d k (i + 1) (by omega) (by omega)
  obtain ⟨hs1,hs2⟩:=hs i (by omega)
  have hv:=validB_eq (ringP pts (fs.getD i z45).f1) (by rw [ringP_length];omega) k (by omega)
  have hi0 : (0 : Int) ≤ i:=by omega
  have hi1 : (i : Int) < fs.length:=by omega
  simp only [impl_ValidDrawing.l1,impl_ValidDrawing.j3]
  simp only [if_pos hi0,if_pos hi1,rdF_nat,w1 (show i ≤ 4611686018427387904 by omega)]
  rw [nameB_impl _ (by omega) (k + 1) (by omega),impl_ring_eq pts hp _ hs2 k (by omega)]
  rw [facesFrom_succ,faceGood_eq]
  simp only [Option.bind_some]
  have tail : ((some (if ringOk pts (fs.getD i z45).f1 = true then (ringP pts (fs.getD i z45).f1,true) else ([],false))).bind fun bt => (if bt.2 = true then ((impl_ValidPolygon.f k bt.1).bind fun t => (if t = true then (impl_ValidDrawing.l1 k fs (fs.length : Int) ((i + 1 : Nat) : Int) w h pts fs) else (some false))) else (some false))) = some ((ringOk pts (fs.getD i z45).f1 && validB (ringP pts (fs.getD i z45).f1)) && facesFrom pts fs d (i + 1)):=by
   rw [Option.bind_some]
   cases ringOk pts (fs.getD i z45).f1 with
   | false => rfl
   | true =>
    simp only [if_true]
    rw [hv.1,Option.bind_some,ih]
    cases validB (ringP pts (fs.getD i z45).f1) <;> rfl
  simp only [Option.bind_some] at tail
  rw [tail]
  cases nameB (fs.getD i z45).f0 with
  | false => rfl
  | true =>
   simp only [if_true]
   by_cases c : 0 < i
   ·rw [if_pos (by omega),w64 (x:=(i : Int) - 1) (by omega) (by omega),show (i : Int) - 1 = ((i - 1 : Nat) : Int) by omega,if_pos (by omega),if_pos (by omega),rdF_nat,decide_eq_true c]
    cases Op.bytesLess (fs.getD (i - 1) z45).f0.toList (fs.getD i z45).f0.toList <;> simp
   ·rw [if_neg (by omega),decide_eq_false c]
    simp
/-- What a valid drawing is. -/
def drawB (w h : Int) (pts : List S36) (fs : List S45) : Bool :=
 (decide (10 ≤ w ∧ w ≤ 20000) && decide (10 ≤ h ∧ h ≤ 20000)) && (decide (pts.length ≤ 48) && decide (fs.length ≤ 24)) && (ptsFrom w h pts pts.length 0 && facesFrom pts fs fs.length 0)
theorem spec_points_eq (w h : Int) (pts : List S36) (fs : List S45) (k : Nat) (hk : 3000 ≤ k) : spec_l05Points.f k w h pts fs = some (decide (pts.length ≤ 48) && ptsFrom w h pts pts.length 0,w,h):=by
 unfold spec_l05Points.f
 by_cases c : pts.length ≤ 48
 ·have:=spec_pts_loop w h pts fs c pts.length k 0 (by omega) (by omega)
  simp only [Int.natCast_zero] at this
  rw [if_neg (by omega),this,decide_eq_true c,Bool.true_and]
 ·rw [if_pos (by omega),decide_eq_false c,Bool.false_and]
theorem spec_draw_eq (w h : Int) (pts : List S36) (fs : List S45) (hp : pts.length ≤ 1048576) (hf : fs.length ≤ 1048576) (hs : ShortP fs) (k : Nat) (hk : 3150000 ≤ k) : spec_l05Ok.f k w h pts fs = some (drawB w h pts fs,w,h):=by
 obtain ⟨k,rfl⟩ : ∃ m,k = m + 1:=⟨k - 1,by omega⟩
 have lp:=spec_faces_loop w h pts fs hp hf hs 1050000 (Nat.le_refl _) fs.length k 0 (by omega) (by omega)
 simp only [Int.natCast_zero] at lp
 unfold spec_l05Ok.f drawB
 simp only [spec_l00In_eq,Option.bind_some,spec_points_eq w h pts fs (k + 1) (by omega),spec_l05Ok.j0,lp,if_true]
 rw [show decide ((fs.length : Int) > 24) = !decide (fs.length ≤ 24) by by_cases c : fs.length ≤ 24 <;> simp [c] <;> omega]
 cases decide (10 ≤ w ∧ w ≤ 20000) <;> cases decide (10 ≤ h ∧ h ≤ 20000) <;> cases decide (pts.length ≤ 48) <;> cases decide (fs.length ≤ 24) <;> cases ptsFrom w h pts pts.length 0 <;> simp
theorem impl_draw_eq (w h : Int) (pts : List S36) (fs : List S45) (hp : pts.length ≤ 1048576) (hf : fs.length ≤ 1048576) (hs : ShortP fs) (k : Nat) (hk : 3150000 ≤ k) : impl_ValidDrawing.f k w h pts fs = some (drawB w h pts fs):=by
 obtain ⟨k,rfl⟩ : ∃ m,k = m + 1:=⟨k - 1,by omega⟩
 have lp:=fun k hk => impl_faces_loop w h pts fs hp hf hs 1050000 (Nat.le_refl _) fs.length k 0 (by omega) hk
 simp only [Int.natCast_zero] at lp
 unfold impl_ValidDrawing.f drawB
 simp only [impl_within_eq,Option.bind_some,impl_ValidDrawing.j0,if_true]
 by_cases c : pts.length ≤ 48
 ·have l2:=impl_pts_loop w h pts fs c (1050000 + 2 * fs.length + 1) _ lp pts.length k 0 (by omega) (by omega)
  simp only [Int.natCast_zero] at l2
  rw [if_neg (show ¬ (pts.length : Int) > 48 by omega),l2,decide_eq_true c]
  rw [show decide ((fs.length : Int) > 24) = !decide (fs.length ≤ 24) by by_cases c : fs.length ≤ 24 <;> simp [c] <;> omega]
  cases decide (10 ≤ w ∧ w ≤ 20000) <;> cases decide (10 ≤ h ∧ h ≤ 20000) <;> cases decide (fs.length ≤ 24) <;> simp
 ·rw [if_pos (show (pts.length : Int) > 48 by omega),decide_eq_false c]
  cases decide (10 ≤ w ∧ w ≤ 20000) <;> cases decide (10 ≤ h ∧ h ≤ 20000) <;> simp
-- cut here

end Go.Proofs.YtpemeboolahfkaaGreatDoor.Pure
