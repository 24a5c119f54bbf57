/-
  What chapter 2's Flown of the reference returns. No condition but the theorems' own. The plain law of SourcePaths: what the program and the reference compute is the same. No condition but the theorems' own. Plain laws of a track: the state at a tick, and what is heard of it. No condition but the theorems' own. What chapter 2's reference returns of a track: the state at a tick, an exposure, a maximum. No condition but the theorems' own. What hearing hands over, tick by tick. No condition but the theorem's own. What chapter 2's source returns of a track: an exposure, a maximum. No condition but the theorems' own. What chapter 2's enclosures return: what is near and far, the least and the greatest of a list, a segment's enclosure. No condition but the theorems' own. What chapter 2's enclosures return on both sides. No condition but the theorems' own. What chapter 2's reference enclosure returns. No condition but the theorems' own.
-/
import Derived.Test.YtjhjmncjidbieaaGreatDoorPC
import Derived.Test.YtjhjmncjidbieaaGreatDoorAvC
import Derived.Test.YtjhjmncjidbieaaGreatDoorPD
import Derived.Test.YtjhjmncjidbieaaGreatDoorPA
namespace Go.Proofs.YtjhjmncjidbieaaGreatDoor
open Go Go.Av Go.RowKit
theorem prv_succ (i : Nat) : prv (i + 1) = i := by
  unfold prv maxI
  split <;> omega
end Go.Proofs.YtjhjmncjidbieaaGreatDoor
namespace Go.Proofs.YtjhjmncjidbieaaGreatDoor
open Go Go.Av Go.RowKit
theorem scan_congr {f g : Nat → Int} {n : Nat} {fin : Int} (h : ∀ k, k < n → f k = g k) : sScan f n fin = sScan g n fin := by
  unfold sScan
  rw [List.map_congr_left (fun k hk => h k (List.mem_range.1 hk))]
theorem ls_congr {c : Int} {f g : Nat → Int} {n : Nat} {fin : Int} (h : ∀ k, k < n → f k = g k) : sLS c f n fin = sLS c g n fin := by
  unfold sLS
  rw [scan_congr h]
theorem first_nest (a b c d : Int) : sFirst [sFirst [a, b, c], d] = sFirst [a, b, c, d] := by
  unfold sFirst
  by_cases ha : a = 0
  · by_cases hb : b = 0
    · by_cases hc : c = 0
      · simp [sFirst, ha, hb, hc]
      · simp [sFirst, ha, hb, hc]
    · simp [sFirst, ha, hb]
  · simp [sFirst, ha]
theorem track_eq (l : List Fx) : sTrackS l = sTrackR l := by
  unfold sTrackS sTrackR
  refine ls_congr fun k _ => ?_
  unfold fTrackS fTrackR sFix
  exact first_nest _ _ _ _
end Go.Proofs.YtjhjmncjidbieaaGreatDoor
namespace Go.Proofs.YtjhjmncjidbieaaGreatDoor
open Go Go.Av Go.RowKit
def lastT (l : List Fx) : Int := (l.getD (l.length - 1) default).t
def firstT (l : List Fx) : Int := (l.getD 0 default).t
theorem track_ok {l : List Fx} (h : sTrackR l = 0) : TrackOK l ∧ lastT l - firstT l ≤ 1000 := by
  obtain ⟨h1, h2, h3⟩ := ls_zero' h
  have hn := len_ge (by rw [h1]; rfl)
  rw [List.length_map] at hn h2
  have key : ∀ i, i < l.length → (0 ≤ (l.getD i default).t ∧ (l.getD i default).t ≤ 100000000) ∧ sPlace (l.getD i default).x (l.getD i default).y (l.getD i default).z = 0 ∧ (1 ≤ (l.getD i default).p ∧ (l.getD i default).p ≤ 100) ∧ (if decide ((i : Int) > 0) = true then decide ((l.getD i default).t ≤ (l.getD (prv i) default).t) else false) = false := fun i hi => by
    have h4 := h2 i hi
    unfold fTrackR sPower at h4
    simp only [first_zero, within_zero] at h4
    exact ⟨h4.1, h4.2.1, h4.2.2.1, when_z (by decide) h4.2.2.2.1⟩
  refine ⟨⟨hn.1, hn.2, fun i hi => ?_, fun i hi => ?_⟩, ?_⟩
  · obtain ⟨a, b, c, _⟩ := key i hi
    have d := place_ok b
    exact ⟨a, d.1, d.2.1, d.2.2, c⟩
  · have h5 := (key (i + 1) hi).2.2.2
    rw [prv_succ, if_pos (decide_eq_true (by omega))] at h5
    have := of_decide_eq_false h5
    omega
  · have h6 := of_decide_eq_false (when_z (by decide) h3)
    rw [show lastOf (l.map encFx).length = l.length - 1 by rw [List.length_map, lastOf]; omega] at h6
    unfold lastT firstT
    omega
theorem atI_le {l : List Fx} {tk : Int} (h : firstT l ≤ tk) : ∀ m, (l.getD (atI l tk m) default).t ≤ tk
  | 0 => h
  | m + 1 => by
    simp only [atI]
    split
    · assumption
    · exact atI_le h m
theorem atI_gt {l : List Fx} {tk : Int} : ∀ m j, atI l tk m < j → j < m → tk < (l.getD j default).t
  | 0, j, _, h => absurd h (by omega)
  | m + 1, j, h1, h2 => by
    simp only [atI] at h1
    split at h1
    · omega
    · rename_i h3
      by_cases e : j = m
      · rw [e]
        omega
      · exact atI_gt m j h1 (by omega)
theorem at_seg {l : List Fx} {tk : Int} (h : TrackOK l) (h1 : firstT l ≤ tk) (h2 : tk < lastT l) : (atA l tk).t ≤ tk ∧ tk < (atB l tk).t := by
  have hn := h.n1
  have hi := atI_lt (l := l) (tk := tk) (m := l.length - 1) (by omega)
  refine ⟨atI_le h1 _, ?_⟩
  by_cases e : atI l tk (l.length - 1) + 1 = l.length - 1
  · unfold atB
    rw [e]
    exact h2
  · exact atI_gt (l.length - 1) _ (by omega) (by omega)
def aX (l : List Fx) (tk : Int) : Int := sBetween (atA l tk).x (atB l tk).x (tk - (atA l tk).t) ((atB l tk).t - (atA l tk).t)
def aY (l : List Fx) (tk : Int) : Int := sBetween (atA l tk).y (atB l tk).y (tk - (atA l tk).t) ((atB l tk).t - (atA l tk).t)
def aZ (l : List Fx) (tk : Int) : Int := sBetween (atA l tk).z (atB l tk).z (tk - (atA l tk).t) ((atB l tk).t - (atA l tk).t)
def aH (l : List Fx) (tk : Int) : Int := (atB l tk).x - (atA l tk).x
def aK (l : List Fx) (tk : Int) : Int := (atB l tk).y - (atA l tk).y
def aP (l : List Fx) (tk : Int) : Int := sBetween (atA l tk).p (atB l tk).p (tk - (atA l tk).t) ((atB l tk).t - (atA l tk).t)
structure AtOK (l : List Fx) (tk : Int) : Prop where
  x : -100000 ≤ aX l tk ∧ aX l tk ≤ 100000
  y : -100000 ≤ aY l tk ∧ aY l tk ≤ 100000
  z : 0 ≤ aZ l tk ∧ aZ l tk ≤ 20000
  h : -200000 ≤ aH l tk ∧ aH l tk ≤ 200000
  k : -200000 ≤ aK l tk ∧ aK l tk ≤ 200000
  p : 1 ≤ aP l tk ∧ aP l tk ≤ 100
theorem at_ok {l : List Fx} {tk : Int} (h : TrackOK l) (h1 : firstT l ≤ tk) (h2 : tk < lastT l) : AtOK l tk := by
  have hs := at_seg h h1 h2
  have hn := h.n1
  have hi := atI_lt (l := l) (tk := tk) (m := l.length - 1) (by omega)
  have bA : (0 ≤ (atA l tk).t ∧ (atA l tk).t ≤ 100000000) ∧ (-100000 ≤ (atA l tk).x ∧ (atA l tk).x ≤ 100000) ∧ (-100000 ≤ (atA l tk).y ∧ (atA l tk).y ≤ 100000) ∧ (0 ≤ (atA l tk).z ∧ (atA l tk).z ≤ 20000) ∧ 1 ≤ (atA l tk).p ∧ (atA l tk).p ≤ 100 := h.b _ (by omega)
  have bB : (0 ≤ (atB l tk).t ∧ (atB l tk).t ≤ 100000000) ∧ (-100000 ≤ (atB l tk).x ∧ (atB l tk).x ≤ 100000) ∧ (-100000 ≤ (atB l tk).y ∧ (atB l tk).y ≤ 100000) ∧ (0 ≤ (atB l tk).z ∧ (atB l tk).z ≤ 20000) ∧ 1 ≤ (atB l tk).p ∧ (atB l tk).p ≤ 100 := h.b _ (by omega)
  have w : 0 < (atB l tk).t - (atA l tk).t := by omega
  have p0 : 0 ≤ tk - (atA l tk).t := by omega
  have p1 : tk - (atA l tk).t ≤ (atB l tk).t - (atA l tk).t := by omega
  exact ⟨⟨bet_lo w p0 p1 (by omega) (by omega), bet_hi w p0 p1 (by omega) (by omega)⟩, ⟨bet_lo w p0 p1 (by omega) (by omega), bet_hi w p0 p1 (by omega) (by omega)⟩, ⟨bet_lo w p0 p1 (by omega) (by omega), bet_hi w p0 p1 (by omega) (by omega)⟩,
    by unfold aH; omega, by unfold aK; omega, ⟨bet_lo w p0 p1 (by omega) (by omega), bet_hi w p0 p1 (by omega) (by omega)⟩⟩
def hrdA (t : Ty) (l : List Fx) (rx ry rz tk : Int) : Int := hrd t (aH l tk) (aK l tk) (aP l tk) (rx - aX l tk) (ry - aY l tk) (rz - aZ l tk)
theorem hrd_b {t : Ty} {a b p u v w : Int} (hT : sTyS t = 0) (hp : 1 ≤ p ∧ p ≤ 100) : 0 ≤ hrd t a b p u v w ∧ hrd t a b p u v w ≤ 100000000000 := by
  have hO := ok_of hT
  have hS := side_of hT
  have h8 := sec_8 (secX a b u v) (secY a b u v)
  have hd := hS.1 (sec 4 0 (secX a b u v) (secY a b u v)).toNat (by omega)
  rw [← cI_map] at hd
  have he := emi_b (d := u * u + v * v + w * w) hO hp.1 hp.2
  have hn := emi_nn (p := p) (d := u * u + v * v + w * w) hT
  have h1 := mul_bound (A := 20000000000) (B := 2000) he.1 he.2 (by omega) hd.2
  have hv : hrdV t a b p u v w ≤ 20000000000 * 2000 := h1.2
  have hv0 : 0 ≤ hrdV t a b p u v w := Int.mul_nonneg hn hd.1
  have h2 := mul_bound (A := 40000000000000) (B := 1000) (x := hrdV t a b p u v w) (y := t.side) (by omega) (by omega) (by omega) hS.2.2
  have h3 : 0 ≤ hrdV t a b p u v w * t.side := Int.mul_nonneg hv0 hS.2.1
  unfold hrd
  split
  · rw [Int.tdiv_eq_ediv_of_nonneg h3]
    omega
  · rw [Int.tdiv_eq_ediv_of_nonneg hv0]
    omega
def sumH (f : Int → Int) (a : Int) : Nat → Int
  | 0 => 0
  | n + 1 => sumH f a n + f (a + n)
theorem sumH_b {f : Int → Int} {a : Int} {n : Nat} (h : ∀ i : Nat, i < n → 0 ≤ f (a + i) ∧ f (a + i) ≤ 100000000000) : ∀ i, i ≤ n → 0 ≤ sumH f a i ∧ sumH f a i ≤ 100000000000 * i
  | 0, _ => by simp [sumH]
  | i + 1, hi => by
    have h1 := sumH_b h i (by omega)
    have h2 := h i (by omega)
    simp only [sumH]
    rw [Int.natCast_add, Int.mul_add]
    omega
end Go.Proofs.YtjhjmncjidbieaaGreatDoor
namespace Go.Proofs.YtjhjmncjidbieaaGreatDoor
open Go Go.Av Go.RowKit
def rdX (l : List Fx) : List AV → Option AV
  | [.elt _ _ i _] => some (.i (l.getD i default).t)
  | _ => none
def la73 (l : List Fx) (tk : Int) : LA := {
  pre := [.keep [0, 1, 4, 5, 6] [1], .bound 2], post := [.keep [0, 1, 4, 5, 6] [1], .bound 2]
  Gh := Nat
  st := fun i => ⟨[(0, .sl 5 (l.map encFx)), (1, .i tk), (4, .ptr 1 0), (5, .i (atI l tk i)), (6, .i i)], [(1, .box [.i 0, .i 0, .i 0, .i 0, .i 0, .i 0])], 2⟩
  ok := fun i => i + 1 ≤ l.length
  ms := fun i => l.length - i }
theorem c73 (l : List Fx) (tk : Int) (h : TrackOK l) (htk : -1000 ≤ tk ∧ tk ≤ 200000000) : PCall Tryz.prog G0 73 [.sl 5 (l.map encFx), .i tk] (.agg (atV (atA l tk) (atB l tk) tk)) := by
  have key :
   (∃ (g : Nat), g + 1 ≤ l.length ∧ AS.mk [(0, AV.sl 5 (List.map encFx l)), (1, AV.i tk), (4, AV.ptr 1 0), (5, AV.i 0), (6, AV.i 0)] [(1, ABlk.box [AV.i 0, AV.i 0, AV.i 0, AV.i 0, AV.i 0, AV.i 0])] 2 = AS.mk [(0, AV.sl 5 (List.map
   encFx l)), (1, AV.i tk), (4, AV.ptr 1 0), (5, AV.i (↑(atI l tk g) : Int)), (6, AV.i (↑g : Int))] [(1, ABlk.box [AV.i 0, AV.i 0, AV.i 0, AV.i 0, AV.i 0, AV.i 0])] 2) ∧ ∀ (g : Nat), g + 1 ≤ l.length → In64 ((↑(List.map encFx
   l).length : Int) - 1) ∧ (decide ((↑g : Int) < (↑(List.map encFx l).length : Int) - 1) = true → (0 : Int) ≤ (↑g : Int) ∧ (↑g : Int) < (↑(List.map encFx l).length : Int) ∧ nth (nthR (List.map encFx l) (↑g : Int).toNat) 0 = AV.i
   (l.getD (↑g : Int).toNat default).t ∧ (decide ((l.getD (↑g : Int).toNat default).t ≤ tk) = true → In64 ((↑g : Int) + 1) ∧ ∃ (g' : Nat), g' + 1 ≤ l.length ∧ l.length - g' < l.length - g ∧ AS.mk [(0, AV.sl 5 (List.map encFx l)), (1,
   AV.i tk), (4, AV.ptr 1 0), (5, AV.i (↑g : Int)), (6, AV.i ((↑g : Int) + 1))] [(1, ABlk.box [AV.i 0, AV.i 0, AV.i 0, AV.i 0, AV.i 0, AV.i 0])] 2 = AS.mk [(0, AV.sl 5 (List.map encFx l)), (1, AV.i tk), (4, AV.ptr 1 0), (5, AV.i
   (↑(atI l tk g') : Int)), (6, AV.i (↑g' : Int))] [(1, ABlk.box [AV.i 0, AV.i 0, AV.i 0, AV.i 0, AV.i 0, AV.i 0])] 2) ∧ (decide ((l.getD (↑g : Int).toNat default).t ≤ tk) = false → In64 ((↑g : Int) + 1) ∧ ∃ (g' : Nat), g' + 1 ≤
   l.length ∧ l.length - g' < l.length - g ∧ AS.mk [(0, AV.sl 5 (List.map encFx l)), (1, AV.i tk), (4, AV.ptr 1 0), (5, AV.i (↑(atI l tk g) : Int)), (6, AV.i ((↑g : Int) + 1))] [(1, ABlk.box [AV.i 0, AV.i 0, AV.i 0, AV.i 0, AV.i 0,
   AV.i 0])] 2 = AS.mk [(0, AV.sl 5 (List.map encFx l)), (1, AV.i tk), (4, AV.ptr 1 0), (5, AV.i (↑(atI l tk g') : Int)), (6, AV.i (↑g' : Int))] [(1, ABlk.box [AV.i 0, AV.i 0, AV.i 0, AV.i 0, AV.i 0, AV.i 0])] 2)) ∧ (decide ((↑g :
   Int) < (↑(List.map encFx l).length : Int) - 1) = false → (0 : Int) ≤ (↑(atI l tk g) : Int) ∧ (↑(atI l tk g) : Int) < (↑(List.map encFx l).length : Int) ∧ In64 ((↑(atI l tk g) : Int) + 1) ∧ (0 : Int) ≤ (↑(atI l tk g) : Int) + 1 ∧
   (↑(atI l tk g) : Int) + 1 < (↑(List.map encFx l).length : Int) ∧ AV.agg (nthR (List.map encFx l) (↑(atI l tk g) : Int).toNat) = AV.agg [AV.i (l.getD (↑(atI l tk g) : Int).toNat default).t, AV.i (l.getD (↑(atI l tk g) : Int).toNat
   default).x, AV.i (l.getD (↑(atI l tk g) : Int).toNat default).y, AV.i (l.getD (↑(atI l tk g) : Int).toNat default).z, AV.i (l.getD (↑(atI l tk g) : Int).toNat default).p] ∧ AV.agg (nthR (List.map encFx l) ((↑(atI l tk g) : Int) +
   1).toNat) = AV.agg [AV.i (l.getD ((↑(atI l tk g) : Int) + 1).toNat default).t, AV.i (l.getD ((↑(atI l tk g) : Int) + 1).toNat default).x, AV.i (l.getD ((↑(atI l tk g) : Int) + 1).toNat default).y, AV.i (l.getD ((↑(atI l tk g) :
   Int) + 1).toNat default).z, AV.i (l.getD ((↑(atI l tk g) : Int) + 1).toNat default).p] ∧ In64 (tk - (l.getD (↑(atI l tk g) : Int).toNat default).t) ∧ In64 ((l.getD ((↑(atI l tk g) : Int) + 1).toNat default).t - (l.getD (↑(atI l tk
   g) : Int).toNat default).t) ∧ In64 ((l.getD ((↑(atI l tk g) : Int) + 1).toNat default).x - (l.getD (↑(atI l tk g) : Int).toNat default).x) ∧ In64 ((l.getD ((↑(atI l tk g) : Int) + 1).toNat default).y - (l.getD (↑(atI l tk g) :
   Int).toNat default).y) ∧ PCall Tryz.prog G0 97 [AV.i (l.getD (↑(atI l tk g) : Int).toNat default).x, AV.i (l.getD ((↑(atI l tk g) : Int) + 1).toNat default).x, AV.i (tk - (l.getD (↑(atI l tk g) : Int).toNat default).t), AV.i
   ((l.getD ((↑(atI l tk g) : Int) + 1).toNat default).t - (l.getD (↑(atI l tk g) : Int).toNat default).t)] (AV.i (sBetween (l.getD (↑(atI l tk g) : Int).toNat default).x (l.getD ((↑(atI l tk g) : Int) + 1).toNat default).x (tk -
   (l.getD (↑(atI l tk g) : Int).toNat default).t) ((l.getD ((↑(atI l tk g) : Int) + 1).toNat default).t - (l.getD (↑(atI l tk g) : Int).toNat default).t))) ∧ PCall Tryz.prog G0 97 [AV.i (l.getD (↑(atI l tk g) : Int).toNat default).y,
   AV.i (l.getD ((↑(atI l tk g) : Int) + 1).toNat default).y, AV.i (tk - (l.getD (↑(atI l tk g) : Int).toNat default).t), AV.i ((l.getD ((↑(atI l tk g) : Int) + 1).toNat default).t - (l.getD (↑(atI l tk g) : Int).toNat default).t)]
   (AV.i (sBetween (l.getD (↑(atI l tk g) : Int).toNat default).y (l.getD ((↑(atI l tk g) : Int) + 1).toNat default).y (tk - (l.getD (↑(atI l tk g) : Int).toNat default).t) ((l.getD ((↑(atI l tk g) : Int) + 1).toNat default).t -
   (l.getD (↑(atI l tk g) : Int).toNat default).t))) ∧ PCall Tryz.prog G0 97 [AV.i (l.getD (↑(atI l tk g) : Int).toNat default).z, AV.i (l.getD ((↑(atI l tk g) : Int) + 1).toNat default).z, AV.i (tk - (l.getD (↑(atI l tk g) :
   Int).toNat default).t), AV.i ((l.getD ((↑(atI l tk g) : Int) + 1).toNat default).t - (l.getD (↑(atI l tk g) : Int).toNat default).t)] (AV.i (sBetween (l.getD (↑(atI l tk g) : Int).toNat default).z (l.getD ((↑(atI l tk g) : Int) +
   1).toNat default).z (tk - (l.getD (↑(atI l tk g) : Int).toNat default).t) ((l.getD ((↑(atI l tk g) : Int) + 1).toNat default).t - (l.getD (↑(atI l tk g) : Int).toNat default).t))) ∧ PCall Tryz.prog G0 97 [AV.i (l.getD (↑(atI l tk
   g) : Int).toNat default).p, AV.i (l.getD ((↑(atI l tk g) : Int) + 1).toNat default).p, AV.i (tk - (l.getD (↑(atI l tk g) : Int).toNat default).t), AV.i ((l.getD ((↑(atI l tk g) : Int) + 1).toNat default).t - (l.getD (↑(atI l tk g)
   : Int).toNat default).t)] (AV.i (sBetween (l.getD (↑(atI l tk g) : Int).toNat default).p (l.getD ((↑(atI l tk g) : Int) + 1).toNat default).p (tk - (l.getD (↑(atI l tk g) : Int).toNat default).t) ((l.getD ((↑(atI l tk g) : Int) +
   1).toNat default).t - (l.getD (↑(atI l tk g) : Int).toNat default).t))) ∧ AV.agg [AV.i (sBetween (l.getD (↑(atI l tk g) : Int).toNat default).x (l.getD ((↑(atI l tk g) : Int) + 1).toNat default).x (tk - (l.getD (↑(atI l tk g) :
   Int).toNat default).t) ((l.getD ((↑(atI l tk g) : Int) + 1).toNat default).t - (l.getD (↑(atI l tk g) : Int).toNat default).t)), AV.i (sBetween (l.getD (↑(atI l tk g) : Int).toNat default).y (l.getD ((↑(atI l tk g) : Int) +
   1).toNat default).y (tk - (l.getD (↑(atI l tk g) : Int).toNat default).t) ((l.getD ((↑(atI l tk g) : Int) + 1).toNat default).t - (l.getD (↑(atI l tk g) : Int).toNat default).t)), AV.i (sBetween (l.getD (↑(atI l tk g) : Int).toNat
   default).z (l.getD ((↑(atI l tk g) : Int) + 1).toNat default).z (tk - (l.getD (↑(atI l tk g) : Int).toNat default).t) ((l.getD ((↑(atI l tk g) : Int) + 1).toNat default).t - (l.getD (↑(atI l tk g) : Int).toNat default).t)), AV.i
   ((l.getD ((↑(atI l tk g) : Int) + 1).toNat default).x - (l.getD (↑(atI l tk g) : Int).toNat default).x), AV.i ((l.getD ((↑(atI l tk g) : Int) + 1).toNat default).y - (l.getD (↑(atI l tk g) : Int).toNat default).y), AV.i (sBetween
   (l.getD (↑(atI l tk g) : Int).toNat default).p (l.getD ((↑(atI l tk g) : Int) + 1).toNat default).p (tk - (l.getD (↑(atI l tk g) : Int).toNat default).t) ((l.getD ((↑(atI l tk g) : Int) + 1).toNat default).t - (l.getD (↑(atI l tk
   g) : Int).toNat default).t))] = AV.agg [AV.i (sBetween (atA l tk).x (atB l tk).x (tk - (atA l tk).t) ((atB l tk).t - (atA l tk).t)), AV.i (sBetween (atA l tk).y (atB l tk).y (tk - (atA l tk).t) ((atB l tk).t - (atA l tk).t)), AV.i
   (sBetween (atA l tk).z (atB l tk).z (tk - (atA l tk).t) ((atB l tk).t - (atA l tk).t)), AV.i ((atB l tk).x - (atA l tk).x), AV.i ((atB l tk).y - (atA l tk).y), AV.i (sBetween (atA l tk).p (atB l tk).p (tk - (atA l tk).t) ((atB l
   tk).t - (atA l tk).t))]) := by
    have hlm : (List.map encFx l).length = l.length := List.length_map _
    have hn := h.n1
    have hl := h.n2
    refine ⟨⟨0, by omega, rfl⟩, fun g hg => ⟨by unfold In64; omega, fun hd => ?_, fun hd => ?_⟩⟩
    · rw [hlm] at hd
      have hlt := of_decide_eq_true hd
      simp only [Int.toNat_natCast]
      refine ⟨by omega, by omega, by rw [row_at encFx (by omega)]; rfl, fun hx => ⟨by unfold In64; omega, g + 1, by omega, by omega, ?_⟩, fun hx => ⟨by unfold In64; omega, g + 1, by omega, by omega, ?_⟩⟩
      · rw [show atI l tk (g + 1) = g from if_pos (of_decide_eq_true hx)]
        rfl
      · rw [show atI l tk (g + 1) = atI l tk g from if_neg (of_decide_eq_false hx)]
        rfl
    · rw [hlm] at hd
      have hge : g = l.length - 1 := by
        have := of_decide_eq_false hd
        omega
      subst hge
      have hi := atI_lt (l := l) (tk := tk) (m := l.length - 1) (by omega)
      have e3 : ((↑(atI l tk (l.length - 1)) : Int) + 1).toNat = atI l tk (l.length - 1) + 1 := by omega
      have r1 : nthR (List.map encFx l) (atI l tk (l.length - 1)) = encFx (atA l tk) := row_at encFx (by omega)
      have r2 : nthR (List.map encFx l) (atI l tk (l.length - 1) + 1) = encFx (atB l tk) := row_at encFx (by omega)
      have bA := h.b (atI l tk (l.length - 1)) (by omega)
      have bB := h.b (atI l tk (l.length - 1) + 1) (by omega)
      have up := h.up (atI l tk (l.length - 1)) (by omega)
      rw [e3, Int.toNat_natCast, r1, r2]
      rw [show l.getD (atI l tk (l.length - 1)) default = atA l tk from rfl] at bA up ⊢
      rw [show l.getD (atI l tk (l.length - 1) + 1) default = atB l tk from rfl] at bB up ⊢
      generalize atA l tk = A at *
      generalize atB l tk = B at *
      exact ⟨by omega, by omega, by unfold In64; omega, by omega, by omega, rfl, rfl, by unfold In64; omega, by unfold In64; omega, by unfold In64; omega, by unfold In64; omega, c97 _ _ _ _ ⟨by omega, by omega, by omega, by omega, by omega, by omega, by omega⟩, c97 _ _ _ _ ⟨by omega, by omega, by omega, by omega, by omega, by omega, by omega⟩, c97 _ _ _ _ ⟨by omega, by omega, by omega, by omega, by omega, by omega, by omega⟩, c97 _ _ _ _ ⟨by omega, by omega, by omega, by omega, by omega, by omega, by omega⟩, rfl⟩
  exact c_of Tryz.f73 (fzB (mkB sp126 73 [(5, 4, rdX l), (7, 3, rdL 5 encFx l 5 true), (7, 8, rdL 5 encFx l 5 true)] (fun i => if i.beq 0 then some (la73 l tk) else none))) (by kernel_rfl) (by kernel_rfl) (by kernel_rfl) (by kernel_rfl) key (by kernel_rfl)
theorem c101 (a b c d : Int)  : PCall Tryz.prog G0 101 [.agg [.i a, .i b], .agg [.i c, .i d]] (.agg [.i (maxI a c), .i (minI b d)]) := by
  have key :
   AV.agg [AV.i (maxI a c), AV.i (minI b d)] = AV.agg [AV.i (maxI a c), AV.i (minI b d)] := by
    rfl
  exact c_of Tryz.f101 (mkB spR 101 [] noLa) (by kernel_rfl) (by kernel_rfl) (by kernel_rfl) (by kernel_rfl) key (by kernel_rfl)
def sp99 (t : Ty) (l : List Fx) : Nat → List AV → Option AV
  | 53, _ => some (.i (sTyS t))
  | 76, _ => some (.i (sTrackS l))
  | n, x => spR n x
def chkH (t : Ty) (l : List Fx) (a b x y z : Int) : Int := sFirst [sTyS t, sTrackS l, sWhen (if (if decide (a < 0) then true else decide (a > b)) then true else decide (b > 100000000)) 14, sPlace x y z]
theorem c99 (t : Ty) (l : List Fx) (a b x y z : Int) (hn : t.st.length ≤ 1000) (hs : t.sh.length ≤ 1000) (hq : t.sq.length ≤ 1000) (he : ∀ s, s ∈ t.st → s.e.length ≤ 1000) (hN : t.name.length ≤ 1000000) (hl : l.length ≤ 1000) : PCall Tryz.prog G0 99 [.agg (encTy t), .sl 5 (l.map encFx), .agg [.i a, .i b], .agg [.i x, .i y, .i z]] (.i (chkH t l a b x y z)) := by
  have key :
   ((!decide (a < 0)) = true → (!decide (a < 0)) = true) ∧ ((!decide (a < 0)) = true → (!decide (a < 0)) = true) ∧ ((!decide (a < 0)) = true → (!decide (a < 0)) = true) ∧ ((!decide (a < 0)) = true → (!decide (a < 0)) = true) ∧ (decide
   (a < 0) = false → (!decide (a < 0)) = true) ∧ ((!if decide (a < 0) = true then true else decide (a > b)) = true → (!if decide (a < 0) = true then true else decide (a > b)) = true) ∧ ((!if decide (a < 0) = true then true else decide
   (a > b)) = true → (!if decide (a < 0) = true then true else decide (a > b)) = true) ∧ ((if decide (a < 0) = true then true else decide (a > b)) = false → (!if decide (a < 0) = true then true else decide (a > b)) = true) ∧ PCall
   Tryz.prog G0 53 [AV.agg (encTy t)] (AV.i (sTyS t)) ∧ PCall Tryz.prog G0 76 [AV.sl 5 (List.map encFx l)] (AV.i (sTrackS l)) ∧ PCall Tryz.prog G0 92 [AV.bool (if (if decide (a < 0) = true then true else decide (a > b)) = true then
   true else decide (b > 100000000)), AV.i 14] (AV.i (sWhen (if (if decide (a < 0) = true then true else decide (a > b)) = true then true else decide (b > 100000000)) (14 : Int))) ∧ PCall Tryz.prog G0 104 [AV.agg [AV.i x, AV.i y, AV.i
   z]] (AV.i (sPlace x y z)) ∧ PCall Tryz.prog G0 87 [AV.sl 1 [[AV.i (sTyS t)], [AV.i (sTrackS l)], [AV.i (sWhen (if (if decide (a < 0) = true then true else decide (a > b)) = true then true else decide (b > 100000000)) (14 : Int))],
   [AV.i (sPlace x y z)]]] (AV.i (sFirst [hdI [AV.i (sTyS t)], hdI [AV.i (sTrackS l)], hdI [AV.i (sWhen (if (if decide (a < 0) = true then true else decide (a > b)) = true then true else decide (b > 100000000)) (14 : Int))], hdI [AV.i
   (sPlace x y z)]])) ∧ AV.i (sFirst [hdI [AV.i (sTyS t)], hdI [AV.i (sTrackS l)], hdI [AV.i (sWhen (if (if decide (a < 0) = true then true else decide (a > b)) = true then true else decide (b > 100000000)) (14 : Int))], hdI [AV.i
   (sPlace x y z)]]) = AV.i (chkH t l a b x y z) := by
    repeat' (first | apply And.intro | refine impB_iff.2 fun _ => ?_ | intro _)
    all_goals first
      | assumption
      | exact c53 t hn hs hq he hN
      | exact c76 l (by rw [List.length_map]; omega)
      | exact c92 _ _
      | exact c104 _ _ _
      | exact c87 [_, _, _, _] (by simp)
      | rfl
      | (simp_all; done)
  exact c_of Tryz.f99 (mkB (sp99 t l) 99 [] noLa) (by kernel_rfl) (by kernel_rfl) (by kernel_rfl) (by kernel_rfl) key (by kernel_rfl)
def sp36 (t : Ty) (l : List Fx) (x y z : Int) : Nat → List AV → Option AV
  | 73, [_, .int _ tk] => some (.agg (atV (atA l tk) (atB l tk) tk))
  | 51, [_, .agg [.int _ a, .int _ b, .int _ c, .int _ d, .int _ e, .int _ p], _] => some (.i (hrd t d e p (x - a) (y - b) (z - c)))
  | n, x => spR n x
def fromA (l : List Fx) (a : Int) : Int := maxI a (firstT l)
def toB (l : List Fx) (b : Int) : Int := minI b (lastT l)
def la36 (t : Ty) (l : List Fx) (a b x y z : Int) : LA := {
  pre := [.keep [1, 4, 6, 7, 9, 10] [], .bound 1], post := [.keep [1, 4, 6, 7, 9, 10] [], .bound 1]
  Gh := Nat
  st := fun i => ⟨[(1, .sl 5 (l.map encFx)), (4, .elt 13 [encTy t] 0 0), (6, .elt 2 [[.i a, .i b]] 0 0), (7, .elt 3 [[.i x, .i y, .i z]] 0 0), (9, .i (sumH (hrdA t l x y z) (fromA l a) i)), (10, .i (fromA l a + i))], [], 1⟩
  ok := fun i => i ≤ (toB l b - fromA l a).toNat
  ms := fun i => (toB l b - fromA l a).toNat - i }
theorem c36 (t : Ty) (l : List Fx) (a b x y z : Int) (hT : sTyS t = 0) (hO : TrackOK l) (hsp : lastT l - firstT l ≤ 1000) (ha : 0 ≤ a ∧ a ≤ 100000000) (hb : 0 ≤ b ∧ b ≤ 100000000) (hx : -100000 ≤ x ∧ x ≤ 100000) (hy : -100000 ≤ y ∧ y ≤ 100000) (hz : 0 ≤ z ∧ z ≤ 20000) : PCall Tryz.prog G0 36 [.agg (encTy t), .sl 5 (l.map encFx), .agg [.i a, .i b], .agg [.i x, .i y, .i z]] (.i (sumH (hrdA t l x y z) (fromA l a) (toB l b - fromA l a).toNat)) := by
  have key :
   (0 : Int) ≤ 0 ∧ (0 : Int) < (↑(List.map encFx l).length : Int) ∧ nth (nthR (List.map encFx l) 0) 0 = AV.i (l.getD (Int.toNat (0 : Int)) default).t ∧ (∃ (g : Nat), g ≤ (toB l b - fromA l a).toNat ∧ AS.mk [(1, AV.sl 5 (List.map encFx
   l)), (4, AV.elt 13 [(encTy t)] 0 0), (6, AV.elt 2 [[AV.i a, AV.i b]] 0 0), (7, AV.elt 3 [[AV.i x, AV.i y, AV.i z]] 0 0), (9, AV.i 0), (10, AV.i (maxI a (l.getD (Int.toNat (0 : Int)) default).t))] [] 1 = AS.mk [(1, AV.sl 5 (List.map
   encFx l)), (4, AV.elt 13 [(encTy t)] 0 0), (6, AV.elt 2 [[AV.i a, AV.i b]] 0 0), (7, AV.elt 3 [[AV.i x, AV.i y, AV.i z]] 0 0), (9, AV.i (sumH (hrdA t l x y z) (fromA l a) g)), (10, AV.i (fromA l a + (↑g : Int)))] [] 1) ∧ ∀ (g :
   Nat), g ≤ (toB l b - fromA l a).toNat → In64 ((↑(List.map encFx l).length : Int) - 1) ∧ (0 : Int) ≤ (↑(List.map encFx l).length : Int) - 1 ∧ (↑(List.map encFx l).length : Int) - 1 < (↑(List.map encFx l).length : Int) ∧ nth (nthR
   (List.map encFx l) ((↑(List.map encFx l).length : Int) - 1).toNat) 0 = AV.i (l.getD ((↑(List.map encFx l).length : Int) - 1).toNat default).t ∧ (decide (fromA l a + (↑g : Int) < minI b (l.getD ((↑(List.map encFx l).length : Int) -
   1).toNat default).t) = true → In64 (sumH (hrdA t l x y z) (fromA l a) g + hrd t ((atB l (fromA l a + (↑g : Int))).x - (atA l (fromA l a + (↑g : Int))).x) ((atB l (fromA l a + (↑g : Int))).y - (atA l (fromA l a + (↑g : Int))).y)
   (sBetween (atA l (fromA l a + (↑g : Int))).p (atB l (fromA l a + (↑g : Int))).p (fromA l a + (↑g : Int) - (atA l (fromA l a + (↑g : Int))).t) ((atB l (fromA l a + (↑g : Int))).t - (atA l (fromA l a + (↑g : Int))).t)) (x - sBetween
   (atA l (fromA l a + (↑g : Int))).x (atB l (fromA l a + (↑g : Int))).x (fromA l a + (↑g : Int) - (atA l (fromA l a + (↑g : Int))).t) ((atB l (fromA l a + (↑g : Int))).t - (atA l (fromA l a + (↑g : Int))).t)) (y - sBetween (atA l
   (fromA l a + (↑g : Int))).y (atB l (fromA l a + (↑g : Int))).y (fromA l a + (↑g : Int) - (atA l (fromA l a + (↑g : Int))).t) ((atB l (fromA l a + (↑g : Int))).t - (atA l (fromA l a + (↑g : Int))).t)) (z - sBetween (atA l (fromA l a
   + (↑g : Int))).z (atB l (fromA l a + (↑g : Int))).z (fromA l a + (↑g : Int) - (atA l (fromA l a + (↑g : Int))).t) ((atB l (fromA l a + (↑g : Int))).t - (atA l (fromA l a + (↑g : Int))).t))) ∧ PCall Tryz.prog G0 73 [AV.sl 5
   (List.map encFx l), AV.i (fromA l a + (↑g : Int))] (AV.agg [AV.i (sBetween (atA l (fromA l a + (↑g : Int))).x (atB l (fromA l a + (↑g : Int))).x (fromA l a + (↑g : Int) - (atA l (fromA l a + (↑g : Int))).t) ((atB l (fromA l a + (↑g
   : Int))).t - (atA l (fromA l a + (↑g : Int))).t)), AV.i (sBetween (atA l (fromA l a + (↑g : Int))).y (atB l (fromA l a + (↑g : Int))).y (fromA l a + (↑g : Int) - (atA l (fromA l a + (↑g : Int))).t) ((atB l (fromA l a + (↑g :
   Int))).t - (atA l (fromA l a + (↑g : Int))).t)), AV.i (sBetween (atA l (fromA l a + (↑g : Int))).z (atB l (fromA l a + (↑g : Int))).z (fromA l a + (↑g : Int) - (atA l (fromA l a + (↑g : Int))).t) ((atB l (fromA l a + (↑g : Int))).t
   - (atA l (fromA l a + (↑g : Int))).t)), AV.i ((atB l (fromA l a + (↑g : Int))).x - (atA l (fromA l a + (↑g : Int))).x), AV.i ((atB l (fromA l a + (↑g : Int))).y - (atA l (fromA l a + (↑g : Int))).y), AV.i (sBetween (atA l (fromA l
   a + (↑g : Int))).p (atB l (fromA l a + (↑g : Int))).p (fromA l a + (↑g : Int) - (atA l (fromA l a + (↑g : Int))).t) ((atB l (fromA l a + (↑g : Int))).t - (atA l (fromA l a + (↑g : Int))).t))]) ∧ PCall Tryz.prog G0 51 [AV.agg (encTy
   t), AV.agg [AV.i (sBetween (atA l (fromA l a + (↑g : Int))).x (atB l (fromA l a + (↑g : Int))).x (fromA l a + (↑g : Int) - (atA l (fromA l a + (↑g : Int))).t) ((atB l (fromA l a + (↑g : Int))).t - (atA l (fromA l a + (↑g :
   Int))).t)), AV.i (sBetween (atA l (fromA l a + (↑g : Int))).y (atB l (fromA l a + (↑g : Int))).y (fromA l a + (↑g : Int) - (atA l (fromA l a + (↑g : Int))).t) ((atB l (fromA l a + (↑g : Int))).t - (atA l (fromA l a + (↑g :
   Int))).t)), AV.i (sBetween (atA l (fromA l a + (↑g : Int))).z (atB l (fromA l a + (↑g : Int))).z (fromA l a + (↑g : Int) - (atA l (fromA l a + (↑g : Int))).t) ((atB l (fromA l a + (↑g : Int))).t - (atA l (fromA l a + (↑g :
   Int))).t)), AV.i ((atB l (fromA l a + (↑g : Int))).x - (atA l (fromA l a + (↑g : Int))).x), AV.i ((atB l (fromA l a + (↑g : Int))).y - (atA l (fromA l a + (↑g : Int))).y), AV.i (sBetween (atA l (fromA l a + (↑g : Int))).p (atB l
   (fromA l a + (↑g : Int))).p (fromA l a + (↑g : Int) - (atA l (fromA l a + (↑g : Int))).t) ((atB l (fromA l a + (↑g : Int))).t - (atA l (fromA l a + (↑g : Int))).t))], AV.agg [AV.i x, AV.i y, AV.i z]] (AV.i (hrd t ((atB l (fromA l a
   + (↑g : Int))).x - (atA l (fromA l a + (↑g : Int))).x) ((atB l (fromA l a + (↑g : Int))).y - (atA l (fromA l a + (↑g : Int))).y) (sBetween (atA l (fromA l a + (↑g : Int))).p (atB l (fromA l a + (↑g : Int))).p (fromA l a + (↑g :
   Int) - (atA l (fromA l a + (↑g : Int))).t) ((atB l (fromA l a + (↑g : Int))).t - (atA l (fromA l a + (↑g : Int))).t)) (x - sBetween (atA l (fromA l a + (↑g : Int))).x (atB l (fromA l a + (↑g : Int))).x (fromA l a + (↑g : Int) -
   (atA l (fromA l a + (↑g : Int))).t) ((atB l (fromA l a + (↑g : Int))).t - (atA l (fromA l a + (↑g : Int))).t)) (y - sBetween (atA l (fromA l a + (↑g : Int))).y (atB l (fromA l a + (↑g : Int))).y (fromA l a + (↑g : Int) - (atA l
   (fromA l a + (↑g : Int))).t) ((atB l (fromA l a + (↑g : Int))).t - (atA l (fromA l a + (↑g : Int))).t)) (z - sBetween (atA l (fromA l a + (↑g : Int))).z (atB l (fromA l a + (↑g : Int))).z (fromA l a + (↑g : Int) - (atA l (fromA l a
   + (↑g : Int))).t) ((atB l (fromA l a + (↑g : Int))).t - (atA l (fromA l a + (↑g : Int))).t)))) ∧ In64 (fromA l a + (↑g : Int) + 1) ∧ ∃ (g' : Nat), g' ≤ (toB l b - fromA l a).toNat ∧ (toB l b - fromA l a).toNat - g' < (toB l b -
   fromA l a).toNat - g ∧ AS.mk [(1, AV.sl 5 (List.map encFx l)), (4, AV.elt 13 [(encTy t)] 0 0), (6, AV.elt 2 [[AV.i a, AV.i b]] 0 0), (7, AV.elt 3 [[AV.i x, AV.i y, AV.i z]] 0 0), (9, AV.i (sumH (hrdA t l x y z) (fromA l a) g + hrd
   t ((atB l (fromA l a + (↑g : Int))).x - (atA l (fromA l a + (↑g : Int))).x) ((atB l (fromA l a + (↑g : Int))).y - (atA l (fromA l a + (↑g : Int))).y) (sBetween (atA l (fromA l a + (↑g : Int))).p (atB l (fromA l a + (↑g : Int))).p
   (fromA l a + (↑g : Int) - (atA l (fromA l a + (↑g : Int))).t) ((atB l (fromA l a + (↑g : Int))).t - (atA l (fromA l a + (↑g : Int))).t)) (x - sBetween (atA l (fromA l a + (↑g : Int))).x (atB l (fromA l a + (↑g : Int))).x (fromA l a
   + (↑g : Int) - (atA l (fromA l a + (↑g : Int))).t) ((atB l (fromA l a + (↑g : Int))).t - (atA l (fromA l a + (↑g : Int))).t)) (y - sBetween (atA l (fromA l a + (↑g : Int))).y (atB l (fromA l a + (↑g : Int))).y (fromA l a + (↑g :
   Int) - (atA l (fromA l a + (↑g : Int))).t) ((atB l (fromA l a + (↑g : Int))).t - (atA l (fromA l a + (↑g : Int))).t)) (z - sBetween (atA l (fromA l a + (↑g : Int))).z (atB l (fromA l a + (↑g : Int))).z (fromA l a + (↑g : Int) -
   (atA l (fromA l a + (↑g : Int))).t) ((atB l (fromA l a + (↑g : Int))).t - (atA l (fromA l a + (↑g : Int))).t)))), (10, AV.i (fromA l a + (↑g : Int) + 1))] [] 1 = AS.mk [(1, AV.sl 5 (List.map encFx l)), (4, AV.elt 13 [(encTy t)] 0
   0), (6, AV.elt 2 [[AV.i a, AV.i b]] 0 0), (7, AV.elt 3 [[AV.i x, AV.i y, AV.i z]] 0 0), (9, AV.i (sumH (hrdA t l x y z) (fromA l a) g')), (10, AV.i (fromA l a + (↑g' : Int)))] [] 1) ∧ (decide (fromA l a + (↑g : Int) < minI b
   (l.getD ((↑(List.map encFx l).length : Int) - 1).toNat default).t) = false → AV.i (sumH (hrdA t l x y z) (fromA l a) g) = AV.i (sumH (hrdA t l x y z) (fromA l a) (toB l b - fromA l a).toNat)) := by
    have hlm : (List.map encFx l).length = l.length := List.length_map _
    have hn := hO.n1
    have hn2 := hO.n2
    have e0 : ((↑(List.map encFx l).length : Int) - 1).toNat = l.length - 1 := by omega
    have b0 := hO.b 0 (by omega)
    have b1 := hO.b (l.length - 1) (by omega)
    have hf : firstT l = (l.getD 0 default).t := rfl
    have hl : lastT l = (l.getD (l.length - 1) default).t := rfl
    have f0 : firstT l ≤ fromA l a ∧ fromA l a ≤ 100000000 := by
      unfold fromA maxI
      split <;> omega
    have t0 : toB l b ≤ lastT l ∧ toB l b ≤ 100000000 := by
      unfold toB minI
      split <;> omega
    have hA : ∀ i : Nat, i < (toB l b - fromA l a).toNat → AtOK l (fromA l a + i) := fun i hi => at_ok hO (by omega) (by omega)
    have hH : ∀ i : Nat, i < (toB l b - fromA l a).toNat → 0 ≤ hrdA t l x y z (fromA l a + i) ∧ hrdA t l x y z (fromA l a + i) ≤ 100000000000 := fun i hi => hrd_b hT (hA i hi).p
    have hN : (toB l b - fromA l a).toNat ≤ 1000 := by omega
    have hS := sumH_b hH
    rw [e0]
    refine ⟨by omega, by omega, by rw [row_at encFx (by omega)]; rfl, ⟨0, Nat.zero_le _, ?_⟩, fun g hg => ⟨by unfold In64; omega, by omega, by omega, by rw [row_at encFx (by omega)]; rfl, fun hd => ?_, fun hd => ?_⟩⟩
    · rw [show fromA l a + ((0 : Nat) : Int) = fromA l a by omega]
      rfl
    · have hlt : fromA l a + (g : Int) < toB l b := of_decide_eq_true hd
      have hg' : g < (toB l b - fromA l a).toNat := by omega
      have a1 := hA g hg'
      have s1 := hS (g + 1) hg'
      refine ⟨(show In64 (sumH (hrdA t l x y z) (fromA l a) (g + 1)) from by unfold In64; omega), c73 l _ hO (by omega), c51 t _ _ _ _ _ _ _ _ _ (ok_of hT) a1.x a1.y a1.z a1.h a1.k a1.p hx hy hz (side_of hT).1 (side_of hT).2, by unfold In64; omega, g + 1, hg', by omega, ?_⟩
      rw [show fromA l a + ((g + 1 : Nat) : Int) = fromA l a + g + 1 by omega]
      rfl
    · have : ¬ (fromA l a + (g : Int) < toB l b) := of_decide_eq_false hd
      rw [show g = (toB l b - fromA l a).toNat by omega]
  exact c_of Tryz.f36 (fzB (mkB (sp36 t l x y z) 36 [(2, 5, rdX l), (3, 9, rdX l)] (fun i => if i.beq 0 then some (la36 t l a b x y z) else none))) (by kernel_rfl) (by kernel_rfl) (by kernel_rfl) (by kernel_rfl) key (by kernel_rfl)
end Go.Proofs.YtjhjmncjidbieaaGreatDoor
namespace Go.Proofs.YtjhjmncjidbieaaGreatDoor
open Go Go.Av Go.RowKit
def hrL (a : Int) (H : Nat → Int) (n : Nat) : List (List AV) := (List.range n).map fun (i : Nat) => [.i (a + i), .i (H i)]
def la144 (l : Nat) (a b : Int) (tc : List AV) (tr : AV) (rx ry rz : Int) (H : Nat → Int) : LA := {
  pre := [.keep [0, 1, 2, 3, 4, 6] [0], .bound 1], post := [.keep [0, 1, 2, 3, 4, 6] [0], .bound 1]
  Gh := Nat
  st := fun i => ⟨[(0, .yld l), (1, .elt 2 [[.i a, .i b]] 0 0), (2, .elt 13 [tc] 0 0), (3, .elt 1 [[tr]] 0 0), (4, .elt 3 [[.i rx, .i ry, .i rz]] 0 0), (6, .i (a + i))], [(0, .ready l (hrL a H i))], 1⟩
  ok := fun i => i ≤ (b - a).toNat
  ms := fun i => (b - a).toNat - i }
def sp144 (a : Int) (S : Nat → List AV) (hd : List AV → Int) : Nat → List AV → Option AV
  | 126, [_, .int _ t] => some (.agg (S (t - a).toNat))
  | 117, [_, .agg s, _] => some (.i (hd s))
  | _, _ => none
def B144 (a b : Int) (tc : List AV) (tr : AV) (rx ry rz : Int) (S : Nat → List AV) (hd : List AV → Int) (l : Nat) : BA :=
  mkB (sp144 a S hd) 144 [] (fun i => if i.beq 0 then some (la144 l a b tc tr rx ry rz fun i => hd (S i)) else none)
theorem s_of {f : Nat} {cap : List AV} {L : List (List AV)} (fn : Func) (B : Nat → BA) (hf : Tryz.prog.funcs[f]? = some fn) (hb : fn.body = some (bodyOf fn)) (hn : (fn.name == "runtime.NumGoroutine") = false) (hlen : Nat.ble (cap.length + 1) fn.ntmps = true) (hres : fn.results.toList = [])
    {q : Nat → Prop} (hq : ∀ l, q l) (h : ∀ l, VC (bodyE Tryz.prog T0 G0 fn.ntmps L) (B l) 10000 0 (bodyOf fn) (startI l cap) (seqQ l L) = q l) : PSeq Tryz.prog G0 f cap L :=
  seq_of_VC tok mix hf hb hn (Nat.le_of_ble_eq_true hlen) hres B fun l => vc_of (hq l) (h l)
theorem hr_succ (a : Int) (H : Nat → Int) (n : Nat) : hrL a H n ++ [[.i (a + n), .i (H n)]] = hrL a H (n + 1) := by
  simp [hrL, List.range_succ]
theorem hr_post (a : Int) (H : Nat → Int) : ∀ {n m : Nat}, n < m → ∃ post, hrL a H m = hrL a H n ++ [.i (a + n), .i (H n)] :: post
  | n, m, h => by
    refine ⟨(List.range' (n + 1) (m - (n + 1))).map fun (i : Nat) => [.i (a + i), .i (H i)], ?_⟩
    rw [← List.singleton_append, ← List.append_assoc, hr_succ]
    unfold hrL
    rw [← List.map_append, List.range_eq_range', List.range_eq_range', show List.range' (n + 1) (m - (n + 1)) = List.range' (0 + (n + 1)) (m - (n + 1)) by rw [Nat.zero_add], List.range'_append_1, show n + 1 + (m - (n + 1)) = m by omega]
theorem s144 (a b : Int) (c0 c1 c2 c3 c4 c5 c6 c7 c8 c9 c10 c11 c12 : AV) (rows : List (List AV)) (rx ry rz : Int) (S : Nat → List AV) (hd : List AV → Int) (ha : -1000000000 ≤ a) (hb : b ≤ 1000000000)
    (h1 : ∀ i : Nat, i < (b - a).toNat → PCall Tryz.prog G0 126 [.sl 5 rows, .i (a + i)] (.agg (S i)))
    (h2 : ∀ i : Nat, i < (b - a).toNat → PCall Tryz.prog G0 117 [.agg [c0, c1, c2, c3, c4, c5, c6, c7, c8, c9, c10, c11, c12], .agg (S i), .agg [.i rx, .i ry, .i rz]] (.i (hd (S i)))) :
    PSeq Tryz.prog G0 144 [.elt 2 [[.i a, .i b]] 0 0, .elt 13 [[c0, c1, c2, c3, c4, c5, c6, c7, c8, c9, c10, c11, c12]] 0 0, .elt 1 [[.sl 5 rows]] 0 0, .elt 3 [[.i rx, .i ry, .i rz]] 0 0] (hrL a (fun i => hd (S i)) (b - a).toNat) := by
  have key : ∀ l : Nat,
      (∃ (g : Nat),
      g ≤ (b - a).toNat ∧
      AS.mk
      [((0 : Nat), AV.yld l),
      ((1 : Nat), AV.elt (2 : Nat) [[AV.int IntKind.i64 a, AV.int IntKind.i64 b]] (0 : Nat) (0 : Nat)),
      ((2 : Nat),
      AV.elt (13 : Nat) [[c0, c1, c2, c3, c4, c5, c6, c7, c8, c9, c10, c11, c12]] (0 : Nat) (0 : Nat)),
      ((3 : Nat), AV.elt (1 : Nat) [[AV.sl (5 : Nat) rows]] (0 : Nat) (0 : Nat)),
      ((4 : Nat),
      AV.elt (3 : Nat) [[AV.int IntKind.i64 rx, AV.int IntKind.i64 ry, AV.int IntKind.i64 rz]] (0 : Nat)
      (0 : Nat)),
      ((6 : Nat), AV.int IntKind.i64 a)]
      [((0 : Nat), ABlk.ready l [])] (1 : Nat) =
      AS.mk
      [((0 : Nat), AV.yld l),
      ((1 : Nat), AV.elt (2 : Nat) [[AV.int IntKind.i64 a, AV.int IntKind.i64 b]] (0 : Nat) (0 : Nat)),
      ((2 : Nat),
      AV.elt (13 : Nat) [[c0, c1, c2, c3, c4, c5, c6, c7, c8, c9, c10, c11, c12]] (0 : Nat) (0 : Nat)),
      ((3 : Nat), AV.elt (1 : Nat) [[AV.sl (5 : Nat) rows]] (0 : Nat) (0 : Nat)),
      ((4 : Nat),
      AV.elt (3 : Nat) [[AV.int IntKind.i64 rx, AV.int IntKind.i64 ry, AV.int IntKind.i64 rz]] (0 : Nat)
      (0 : Nat)),
      ((6 : Nat), AV.int IntKind.i64 (a + (↑g : Int)))]
      [((0 : Nat), ABlk.ready l (hrL a (fun (i : Nat) => hd (S i)) g))] (1 : Nat)) ∧
      ∀ (g : Nat),
      g ≤ (b - a).toNat →
      (decide (a + (↑g : Int) < b) = true →
      l = l ∧
      PCall Tryz.prog G0 (126 : Nat) [AV.sl (5 : Nat) rows, AV.int IntKind.i64 (a + (↑g : Int))]
      (AV.agg (S (a + (↑g : Int) - a).toNat)) ∧
      PCall Tryz.prog G0 (117 : Nat)
      [AV.agg [c0, c1, c2, c3, c4, c5, c6, c7, c8, c9, c10, c11, c12],
      AV.agg (S (a + (↑g : Int) - a).toNat),
      AV.agg [AV.int IntKind.i64 rx, AV.int IntKind.i64 ry, AV.int IntKind.i64 rz]]
      (AV.int IntKind.i64 (hd (S (a + (↑g : Int) - a).toNat))) ∧
      (∃ (post : List (List AV)),
      hrL a (fun (i : Nat) => hd (S i)) (b - a).toNat =
      hrL a (fun (i : Nat) => hd (S i)) g ++
      [AV.int IntKind.i64 (a + (↑g : Int)),
      AV.int IntKind.i64 (hd (S (a + (↑g : Int) - a).toNat))] ::
      post) ∧
      l = l ∧
      (hrL a (fun (i : Nat) => hd (S i)) g ++
      [[AV.int IntKind.i64 (a + (↑g : Int)),
      AV.int IntKind.i64 (hd (S (a + (↑g : Int) - a).toNat))]]).length =
      (hrL a (fun (i : Nat) => hd (S i)) g).length + (1 : Nat) ∧
      (In64 (a + (↑g : Int) + (1 : Int)) ∧
      ∃ (g' : Nat),
      g' ≤ (b - a).toNat ∧
      (b - a).toNat - g' < (b - a).toNat - g ∧
      AS.mk
      [((0 : Nat), AV.yld l),
      ((1 : Nat),
      AV.elt (2 : Nat) [[AV.int IntKind.i64 a, AV.int IntKind.i64 b]] (0 : Nat)
      (0 : Nat)),
      ((2 : Nat),
      AV.elt (13 : Nat) [[c0, c1, c2, c3, c4, c5, c6, c7, c8, c9, c10, c11, c12]]
      (0 : Nat) (0 : Nat)),
      ((3 : Nat), AV.elt (1 : Nat) [[AV.sl (5 : Nat) rows]] (0 : Nat) (0 : Nat)),
      ((4 : Nat),
      AV.elt (3 : Nat)
      [[AV.int IntKind.i64 rx, AV.int IntKind.i64 ry, AV.int IntKind.i64 rz]]
      (0 : Nat) (0 : Nat)),
      ((6 : Nat), AV.int IntKind.i64 (a + (↑g : Int) + (1 : Int)))]
      [((0 : Nat),
      ABlk.ready l
      (hrL a (fun (i : Nat) => hd (S i)) g ++
      [[AV.int IntKind.i64 (a + (↑g : Int)),
      AV.int IntKind.i64 (hd (S (a + (↑g : Int) - a).toNat))]]))]
      (1 : Nat) =
      AS.mk
      [((0 : Nat), AV.yld l),
      ((1 : Nat),
      AV.elt (2 : Nat) [[AV.int IntKind.i64 a, AV.int IntKind.i64 b]] (0 : Nat)
      (0 : Nat)),
      ((2 : Nat),
      AV.elt (13 : Nat) [[c0, c1, c2, c3, c4, c5, c6, c7, c8, c9, c10, c11, c12]]
      (0 : Nat) (0 : Nat)),
      ((3 : Nat), AV.elt (1 : Nat) [[AV.sl (5 : Nat) rows]] (0 : Nat) (0 : Nat)),
      ((4 : Nat),
      AV.elt (3 : Nat)
      [[AV.int IntKind.i64 rx, AV.int IntKind.i64 ry, AV.int IntKind.i64 rz]]
      (0 : Nat) (0 : Nat)),
      ((6 : Nat), AV.int IntKind.i64 (a + (↑g' : Int)))]
      [((0 : Nat), ABlk.ready l (hrL a (fun (i : Nat) => hd (S i)) g'))] (1 : Nat)) ∧
      (ABlk.stop l = ABlk.ready l (hrL a (fun (i : Nat) => hd (S i)) (b - a).toNat) ∨
      ABlk.stop l = ABlk.stop l)) ∧
      (decide (a + (↑g : Int) < b) = false →
      ABlk.ready l (hrL a (fun (i : Nat) => hd (S i)) g) =
      ABlk.ready l (hrL a (fun (i : Nat) => hd (S i)) (b - a).toNat) ∨
      ABlk.ready l (hrL a (fun (i : Nat) => hd (S i)) g) = ABlk.stop l) := by
    intro l
    refine ⟨⟨0, by omega, by simp [hrL]⟩, fun g hg => ⟨fun hlt => ?_, fun hge => ?_⟩⟩
    · simp only [decide_eq_true_eq] at hlt
      have hl : g < (b - a).toNat := by omega
      have e : (a + (g : Int) - a).toNat = g := by omega
      simp only [e]
      have hs := hr_succ a (fun i => hd (S i)) g
      refine ⟨trivial, h1 g hl, h2 g hl, hr_post a (fun i => hd (S i)) hl, trivial, by simp, ⟨by unfold In64; omega, g + 1, hl, by omega, ?_⟩, .inr trivial⟩
      rw [hs, show a + (g : Int) + 1 = a + ((g + 1 : Nat) : Int) by omega]
    · simp only [decide_eq_false_iff_not] at hge
      have : g = (b - a).toNat := by omega
      subst this
      exact .inl rfl
  exact s_of Tryz.f144 (B144 a b [c0, c1, c2, c3, c4, c5, c6, c7, c8, c9, c10, c11, c12] (.sl 5 rows) rx ry rz S hd) (by kernel_rfl) (by kernel_rfl) (by kernel_rfl) (by kernel_rfl) (by kernel_rfl) key (fun l => by kernel_rfl)
end Go.Proofs.YtjhjmncjidbieaaGreatDoor
namespace Go.Proofs.YtjhjmncjidbieaaGreatDoor
open Go Go.Av Go.RowKit
theorem hear_ok {t : Ty} {l : List Fx} {a b x y z : Int} (hT : sTyS t = 0) (hO : TrackOK l) (hsp : lastT l - firstT l ≤ 1000) (ha : 0 ≤ a ∧ a ≤ 100000000) (hb : 0 ≤ b ∧ b ≤ 100000000) :
    (0 ≤ fromA l a ∧ fromA l a ≤ 100000000) ∧ toB l b ≤ 100000000 ∧ (toB l b - fromA l a).toNat ≤ 1000 ∧ (∀ i : Nat, i < (toB l b - fromA l a).toNat → AtOK l (fromA l a + i)) ∧ (∀ i : Nat, i < (toB l b - fromA l a).toNat → 0 ≤ hrdA t l x y z (fromA l a + i) ∧ hrdA t l x y z (fromA l a + i) ≤ 100000000000) := by
  have hn := hO.n1
  have b0 := hO.b 0 (by omega)
  have b1 := hO.b (l.length - 1) (by omega)
  have hf : firstT l = (l.getD 0 default).t := rfl
  have hl : lastT l = (l.getD (l.length - 1) default).t := rfl
  have f0 : firstT l ≤ fromA l a ∧ fromA l a ≤ 100000000 := by
    unfold fromA maxI
    split <;> omega
  have t0 : toB l b ≤ lastT l ∧ toB l b ≤ 100000000 := by
    unfold toB minI
    split <;> omega
  have hA : ∀ i : Nat, i < (toB l b - fromA l a).toNat → AtOK l (fromA l a + i) := fun i hi => at_ok hO (by omega) (by omega)
  exact ⟨by omega, t0.2, by omega, hA, fun i hi => hrd_b hT (hA i hi).p⟩
theorem range_split {n x : Nat} {pre post : List Nat} (h : List.range n = pre ++ x :: post) : x = pre.length ∧ pre.length < n := by
  have h1 : (List.range n)[pre.length]? = some x := by
    rw [h]
    simp
  have hl : pre.length < n := by
    have := congrArg List.length h
    simp at this
    omega
  rw [List.getElem?_range hl] at h1
  exact ⟨(Option.some.inj h1).symm, hl⟩
def hdV (t : Ty) (x y z : Int) : List AV → Int
  | [.int _ a, .int _ b, .int _ c, .int _ d, .int _ e, .int _ p] => hrd t d e p (x - a) (y - b) (z - c)
  | _ => 0
theorem hear_seq {t : Ty} {l : List Fx} {a b x y z : Int} (hT : sTyS t = 0) (hO : TrackOK l) (hA : ∀ i : Nat, i < (b - a).toNat → AtOK l (a + i)) (ha : 0 ≤ a ∧ a ≤ 100000000) (hb : b ≤ 100000000) (hx : -100000 ≤ x ∧ x ≤ 100000) (hy : -100000 ≤ y ∧ y ≤ 100000) (hz : 0 ≤ z ∧ z ≤ 20000) :
    PSeq Tryz.prog G0 144 [.elt 2 [[.i a, .i b]] 0 0, .elt 13 [encTy t] 0 0, .elt 1 [[.sl 5 (l.map encFx)]] 0 0, .elt 3 [[.i x, .i y, .i z]] 0 0] ((List.range (b - a).toNat).map fun (i : Nat) => [.i (a + i), .i (hrdA t l x y z (a + i))]) :=
  s144 a b (.str t.name) (.sl 1 (t.sh.map encI)) (.i t.d0) (.i t.d1) (.i t.d2) (.i t.d3) (.i t.d4) (.i t.d5) (.i t.d6) (.i t.d7) (.i t.side) (.sl 1 (t.sq.map encI)) (.sl 2 (t.st.map encSg)) (l.map encFx) x y z
    (fun i => atV (atA l (a + i)) (atB l (a + i)) (a + i)) (hdV t x y z) (by omega) (by omega) (fun i hi => c126 l _ hO (by omega))
    (fun i hi => c117 t _ _ _ _ _ _ _ _ _ (ok_of hT) (hA i hi).x (hA i hi).y (hA i hi).z (hA i hi).h (hA i hi).k (hA i hi).p hx hy hz (side_of hT).1 (side_of hT).2)
def fnH (t : Ty) (l : List Fx) (a b x y z : Int) : AV := .fn (.func 144) [] [.elt 2 [[.i a, .i b]] 0 0, .elt 13 [encTy t] 0 0, .elt 1 [[.sl 5 (l.map encFx)]] 0 0, .elt 3 [[.i x, .i y, .i z]] 0 0]
theorem c103 (t : Ty) (l : List Fx) (a b x y z : Int)  : PCall Tryz.prog G0 103 [.agg (encTy t), .sl 5 (l.map encFx), .agg [.i a, .i b], .agg [.i x, .i y, .i z]] (fnH t l a b x y z) := by
  have key :
   AV.fn (Fn.func 144) [] [AV.elt 2 [[AV.i a, AV.i b]] 0 0, AV.elt 13 [(encTy t)] 0 0, AV.elt 1 [[AV.sl 5 (List.map encFx l)]] 0 0, AV.elt 3 [[AV.i x, AV.i y, AV.i z]] 0 0] = AV.fn (Fn.func 144) [] [AV.elt 2 [[AV.i a, AV.i b]] 0 0,
   AV.elt 13 [(encTy t)] 0 0, AV.elt 1 [[AV.sl 5 (List.map encFx l)]] 0 0, AV.elt 3 [[AV.i x, AV.i y, AV.i z]] 0 0] := by
    rfl
  exact c_of Tryz.f103 (fzB (mkB spR 103 [] noLa)) (by kernel_rfl) (by kernel_rfl) (by kernel_rfl) (by kernel_rfl) key (by kernel_rfl)
def sp100 (t : Ty) (l : List Fx) (x y z : Int) : Nat → List AV → Option AV
  | 102, _ => some (.agg [.i (firstT l), .i (lastT l)])
  | 101, [.agg [.int _ a, .int _ b], .agg [.int _ c, .int _ d]] => some (.agg [.i (maxI a c), .i (minI b d)])
  | 103, [_, _, .agg [.int _ a, .int _ b], _] => some (fnH t l a b x y z)
  | n, x => spR n x
def fa100 (t : Ty) (l : List Fx) (a b x y z : Int) : FA := {
  X := Nat, xs := List.range (toB l b - fromA l a).toNat, enc := fun i => [.i (fromA l a + i), .i (hrdA t l x y z (fromA l a + i))]
  post := [.keep [] [1], .bound 2]
  Gh := Nat
  st := fun g => ⟨[(9, .ptr 1 0), (19, fnH t l (fromA l a) (toB l b) x y z)], [(1, .box [.i (sumH (hrdA t l x y z) (fromA l a) g)])], 2⟩
  ok := fun pre g => g = pre.length }
theorem c100 (t : Ty) (l : List Fx) (a b x y z : Int) (hT : sTyS t = 0) (hO : TrackOK l) (hsp : lastT l - firstT l ≤ 1000) (ha : 0 ≤ a ∧ a ≤ 100000000) (hb : 0 ≤ b ∧ b ≤ 100000000) (hx : -100000 ≤ x ∧ x ≤ 100000) (hy : -100000 ≤ y ∧ y ≤ 100000) (hz : 0 ≤ z ∧ z ≤ 20000) : PCall Tryz.prog G0 100 [.agg (encTy t), .sl 5 (l.map encFx), .agg [.i a, .i b], .agg [.i x, .i y, .i z]] (.i (sumH (hrdA t l x y z) (fromA l a) (toB l b - fromA l a).toNat)) := by
  have key :
   PCall Tryz.prog G0 102 [AV.sl 5 (List.map encFx l)] (AV.agg [AV.i (firstT l), AV.i (lastT l)]) ∧ PCall Tryz.prog G0 101 [AV.agg [AV.i a, AV.i b], AV.agg [AV.i (firstT l), AV.i (lastT l)]] (AV.agg [AV.i (maxI a (firstT l)), AV.i
   (minI b (lastT l))]) ∧ PCall Tryz.prog G0 103 [AV.agg (encTy t), AV.sl 5 (List.map encFx l), AV.agg [AV.i (maxI a (firstT l)), AV.i (minI b (lastT l))], AV.agg [AV.i x, AV.i y, AV.i z]] (AV.fn (Fn.func 144) [] [AV.elt 2 [[AV.i
   (maxI a (firstT l)), AV.i (minI b (lastT l))]] 0 0, AV.elt 13 [(encTy t)] 0 0, AV.elt 1 [[AV.sl 5 (List.map encFx l)]] 0 0, AV.elt 3 [[AV.i x, AV.i y, AV.i z]] 0 0]) ∧ PSeq Tryz.prog G0 144 [AV.elt 2 [[AV.i (maxI a (firstT l)),
   AV.i (minI b (lastT l))]] 0 0, AV.elt 13 [(encTy t)] 0 0, AV.elt 1 [[AV.sl 5 (List.map encFx l)]] 0 0, AV.elt 3 [[AV.i x, AV.i y, AV.i z]] 0 0] (List.map (fa100 t l a b x y z).enc (List.range (toB l b - fromA l a).toNat)) ∧ (∀ (x :
   Nat), 2 = 2) ∧ (∃ (g : Nat), g = 0 ∧ AS.mk [(9, AV.ptr 1 0), (19, AV.fn (Fn.func 144) [] [AV.elt 2 [[AV.i (maxI a (firstT l)), AV.i (minI b (lastT l))]] 0 0, AV.elt 13 [(encTy t)] 0 0, AV.elt 1 [[AV.sl 5 (List.map encFx l)]] 0 0,
   AV.elt 3 [[AV.i x, AV.i y, AV.i z]] 0 0])] [(1, ABlk.box [AV.i 0])] 2 = AS.mk [(9, AV.ptr 1 0), (19, AV.fn (Fn.func 144) [] [AV.elt 2 [[AV.i (fromA l a), AV.i (toB l b)]] 0 0, AV.elt 13 [(encTy t)] 0 0, AV.elt 1 [[AV.sl 5 (List.map
   encFx l)]] 0 0, AV.elt 3 [[AV.i x, AV.i y, AV.i z]] 0 0])] [(1, ABlk.box [AV.i (sumH (hrdA t l x y z) (fromA l a) g)])] 2) ∧ (∀ (pre : List Nat) (x_1 : Nat) (post : List Nat) (g : Nat), List.range (toB l b - fromA l a).toNat = pre
   ++ x_1 :: post → g = pre.length → Exit.normal = Exit.normal ∧ false = false ∧ In64 (sumH (hrdA t l x y z) (fromA l a) g + hrdA t l x y z (fromA l a + (↑x_1 : Int))) ∧ false = false ∧ ∃ (g' : Nat), g' = (pre ++ [x_1]).length ∧ AS.mk
   [(9, AV.ptr 1 0), (19, AV.fn (Fn.func 144) [] [AV.elt 2 [[AV.i (maxI a (firstT l)), AV.i (minI b (lastT l))]] 0 0, AV.elt 13 [(encTy t)] 0 0, AV.elt 1 [[AV.sl 5 (List.map encFx l)]] 0 0, AV.elt 3 [[AV.i x, AV.i y, AV.i z]] 0 0])]
   [(1, ABlk.box [AV.i (sumH (hrdA t l x y z) (fromA l a) g + hrdA t l x y z (fromA l a + (↑x_1 : Int)))])] 2 = AS.mk [(9, AV.ptr 1 0), (19, AV.fn (Fn.func 144) [] [AV.elt 2 [[AV.i (fromA l a), AV.i (toB l b)]] 0 0, AV.elt 13 [(encTy
   t)] 0 0, AV.elt 1 [[AV.sl 5 (List.map encFx l)]] 0 0, AV.elt 3 [[AV.i x, AV.i y, AV.i z]] 0 0])] [(1, ABlk.box [AV.i (sumH (hrdA t l x y z) (fromA l a) g')])] 2) ∧ ∀ (g : Nat), g = (List.range (toB l b - fromA l a).toNat).length →
   AV.i (sumH (hrdA t l x y z) (fromA l a) g) = AV.i (sumH (hrdA t l x y z) (fromA l a) (toB l b - fromA l a).toNat) := by
    obtain ⟨f0, t0, hN, hA, hH⟩ := hear_ok (t := t) (x := x) (y := y) (z := z) hT hO hsp ha hb
    have hS := sumH_b hH
    have hn := hO.n1
    have hn2 := hO.n2
    refine ⟨c102 l (by omega) (by omega), c101 _ _ _ _, c103 t l _ _ _ _ _, hear_seq (a := fromA l a) (b := toB l b) hT hO hA f0 t0 hx hy hz, fun _ => rfl, ⟨0, rfl, rfl⟩, fun pre i post g hr hg => ?_, fun g hg => ?_⟩
    · obtain ⟨e1, e2⟩ := range_split hr
      subst e1
      subst hg
      have s1 := hS (pre.length + 1) e2
      refine ⟨rfl, rfl, (show In64 (sumH (hrdA t l x y z) (fromA l a) (pre.length + 1)) from by unfold In64; omega), rfl, pre.length + 1, by simp, rfl⟩
    · rw [hg, List.length_range]
  exact c_of Tryz.f100 ({ fzB (mkB (sp100 t l x y z) 100 [] noLa) with fa := some (fa100 t l a b x y z), gs := fun i => if i.beq 2 then [.reno 9 1, .keep [9, 19] [1], .bound 2] else [] }) (by kernel_rfl) (by kernel_rfl) (by kernel_rfl) (by kernel_rfl) key (by kernel_rfl)
def rExp (t : Ty) (l : List Fx) (a b x y z : Int) : Int := if chkH t l a b x y z != 0 then 0 else sumH (hrdA t l x y z) (fromA l a) (toB l b - fromA l a).toNat
def sp27 (t : Ty) (l : List Fx) (a b x y z : Int) : Nat → List AV → Option AV
  | 99, _ => some (.i (chkH t l a b x y z))
  | 100, _ => some (.i (sumH (hrdA t l x y z) (fromA l a) (toB l b - fromA l a).toNat))
  | n, x => spR n x
theorem chkH_ok {t : Ty} {l : List Fx} {a b x y z : Int} (h : chkH t l a b x y z = 0) : sTyS t = 0 ∧ TrackOK l ∧ lastT l - firstT l ≤ 1000 ∧ (0 ≤ a ∧ a ≤ 100000000) ∧ (0 ≤ b ∧ b ≤ 100000000) ∧ (-100000 ≤ x ∧ x ≤ 100000) ∧ (-100000 ≤ y ∧ y ≤ 100000) ∧ (0 ≤ z ∧ z ≤ 20000) := by
  unfold chkH at h
  simp only [first_zero] at h
  obtain ⟨h1, h2, h3, h4, _⟩ := h
  rw [track_eq] at h2
  obtain ⟨o1, o2⟩ := track_ok h2
  have p := place_ok h4
  have h5 := when_z (by decide) h3
  by_cases c1 : a < 0
  · rw [decide_eq_true c1] at h5
    cases h5
  · rw [decide_eq_false c1] at h5
    by_cases c2 : a > b
    · rw [decide_eq_true c2] at h5
      cases h5
    · rw [decide_eq_false c2] at h5
      have h5 : decide (b > 100000000) = false := h5
      have h6 := of_decide_eq_false h5
      exact ⟨h1, o1, o2, by omega, by omega, p.1, p.2.1, p.2.2⟩
theorem c27 (t : Ty) (l : List Fx) (a b x y z : Int) (hn : t.st.length ≤ 1000) (hs : t.sh.length ≤ 1000) (hq : t.sq.length ≤ 1000) (he : ∀ s, s ∈ t.st → s.e.length ≤ 1000) (hN : t.name.length ≤ 1000000) (hl : l.length ≤ 1000) : PCall Tryz.prog G0 27 [.agg (encTy t), .sl 5 (l.map encFx), .agg [.i a, .i b], .agg [.i x, .i y, .i z]] (.tup [.i (rExp t l a b x y z), .i (chkH t l a b x y z)]) := by
  have key :
   PCall Tryz.prog G0 99 [AV.agg (encTy t), AV.sl 5 (List.map encFx l), AV.agg [AV.i a, AV.i b], AV.agg [AV.i x, AV.i y, AV.i z]] (AV.i (chkH t l a b x y z)) ∧ ((chkH t l a b x y z != 0) = true → AV.tup [AV.i 0, AV.i (chkH t l a b x y
   z)] = AV.tup [AV.i (rExp t l a b x y z), AV.i (chkH t l a b x y z)]) ∧ ((chkH t l a b x y z != 0) = false → PCall Tryz.prog G0 100 [AV.agg (encTy t), AV.sl 5 (List.map encFx l), AV.agg [AV.i a, AV.i b], AV.agg [AV.i x, AV.i y, AV.i
   z]] (AV.i (sumH (hrdA t l x y z) (fromA l a) (toB l b - fromA l a).toNat)) ∧ AV.tup [AV.i (sumH (hrdA t l x y z) (fromA l a) (toB l b - fromA l a).toNat), AV.i 0] = AV.tup [AV.i (rExp t l a b x y z), AV.i (chkH t l a b x y z)]) :=
   by
    refine ⟨c99 t l a b x y z hn hs hq he hN hl, fun h => ?_, fun h => ?_⟩
    · rw [rExp, if_pos h]
    · have hz : chkH t l a b x y z = 0 := by simpa using h
      obtain ⟨h1, h2, h3, h4, h5, h6, h7, h8⟩ := chkH_ok hz
      refine ⟨c100 t l a b x y z h1 h2 h3 h4 h5 h6 h7 h8, ?_⟩
      rw [rExp, if_neg (by rw [h]; decide), hz]
  exact c_of Tryz.f27 (fzB (mkB (sp27 t l a b x y z) 27 [] noLa)) (by kernel_rfl) (by kernel_rfl) (by kernel_rfl) (by kernel_rfl) key (by kernel_rfl)
def mxH (f : Int → Int) (a : Int) : Nat → Int × Int
  | 0 => (-1, 0)
  | n + 1 => if decide (f (a + n) > (mxH f a n).1) then (f (a + n), a + n) else mxH f a n
theorem mxH_t {f : Int → Int} {a : Int} {n : Nat} (h : decide (f (a + n) > (mxH f a n).1) = true) : mxH f a (n + 1) = (f (a + n), a + n) := if_pos h
theorem mxH_f {f : Int → Int} {a : Int} {n : Nat} (h : decide (f (a + n) > (mxH f a n).1) = false) : mxH f a (n + 1) = mxH f a n := if_neg (by rw [h]; decide)
theorem mxH_b {f : Int → Int} {a : Int} {n : Nat} (h : ∀ i : Nat, i < n → 0 ≤ f (a + i)) : ∀ i, i ≤ n → 1 ≤ i → 0 ≤ (mxH f a i).1
  | 0, _, h1 => absurd h1 (by omega)
  | i + 1, hi, _ => by
    have h2 := h i (by omega)
    simp only [mxH]
    split
    · exact h2
    · rename_i h3
      have h4 : ¬ f (a + i) > (mxH f a i).1 := by simpa using h3
      omega
def mxV (f : Int → Int) (a b : Int) : List AV := if decide (a ≥ b) then [.i 0, .i 0, .i 7] else [.i (mxH f a (b - a).toNat).1, .i (mxH f a (b - a).toNat).2, .i 0]
def la37 (t : Ty) (l : List Fx) (a b x y z : Int) : LA := {
  pre := [.keep [1, 4, 6, 7, 11, 12, 13] [], .bound 1], post := [.keep [1, 4, 6, 7, 11, 12, 13] [], .bound 1]
  Gh := Nat
  st := fun i => ⟨[(1, .sl 5 (l.map encFx)), (4, .elt 13 [encTy t] 0 0), (6, .elt 2 [[.i a, .i b]] 0 0), (7, .elt 3 [[.i x, .i y, .i z]] 0 0), (11, .i (mxH (hrdA t l x y z) (fromA l a) i).1), (12, .i (mxH (hrdA t l x y z) (fromA l a) i).2), (13, .i (fromA l a + i))], [], 1⟩
  ok := fun i => i ≤ (toB l b - fromA l a).toNat
  ms := fun i => (toB l b - fromA l a).toNat - i }
theorem c37 (t : Ty) (l : List Fx) (a b x y z : Int) (hT : sTyS t = 0) (hO : TrackOK l) (hsp : lastT l - firstT l ≤ 1000) (ha : 0 ≤ a ∧ a ≤ 100000000) (hb : 0 ≤ b ∧ b ≤ 100000000) (hx : -100000 ≤ x ∧ x ≤ 100000) (hy : -100000 ≤ y ∧ y ≤ 100000) (hz : 0 ≤ z ∧ z ≤ 20000) : PCall Tryz.prog G0 37 [.agg (encTy t), .sl 5 (l.map encFx), .agg [.i a, .i b], .agg [.i x, .i y, .i z]] (.tup (mxV (hrdA t l x y z) (fromA l a) (toB l b))) := by
  have key :
   (0 : Int) ≤ 0 ∧ (0 : Int) < (↑(List.map encFx l).length : Int) ∧ nth (nthR (List.map encFx l) 0) 0 = AV.i (l.getD (Int.toNat (0 : Int)) default).t ∧ (∃ (g : Nat), g ≤ (toB l b - fromA l a).toNat ∧ AS.mk [(1, AV.sl 5 (List.map encFx
   l)), (4, AV.elt 13 [(encTy t)] 0 0), (6, AV.elt 2 [[AV.i a, AV.i b]] 0 0), (7, AV.elt 3 [[AV.i x, AV.i y, AV.i z]] 0 0), (11, AV.i (-1)), (12, AV.i 0), (13, AV.i (maxI a (l.getD (Int.toNat (0 : Int)) default).t))] [] 1 = AS.mk [(1,
   AV.sl 5 (List.map encFx l)), (4, AV.elt 13 [(encTy t)] 0 0), (6, AV.elt 2 [[AV.i a, AV.i b]] 0 0), (7, AV.elt 3 [[AV.i x, AV.i y, AV.i z]] 0 0), (11, AV.i (mxH (hrdA t l x y z) (fromA l a) g).fst), (12, AV.i (mxH (hrdA t l x y z)
   (fromA l a) g).snd), (13, AV.i (fromA l a + (↑g : Int)))] [] 1) ∧ ∀ (g : Nat), g ≤ (toB l b - fromA l a).toNat → In64 ((↑(List.map encFx l).length : Int) - 1) ∧ (0 : Int) ≤ (↑(List.map encFx l).length : Int) - 1 ∧ (↑(List.map encFx
   l).length : Int) - 1 < (↑(List.map encFx l).length : Int) ∧ nth (nthR (List.map encFx l) ((↑(List.map encFx l).length : Int) - 1).toNat) 0 = AV.i (l.getD ((↑(List.map encFx l).length : Int) - 1).toNat default).t ∧ (decide (fromA l
   a + (↑g : Int) < minI b (l.getD ((↑(List.map encFx l).length : Int) - 1).toNat default).t) = true → PCall Tryz.prog G0 73 [AV.sl 5 (List.map encFx l), AV.i (fromA l a + (↑g : Int))] (AV.agg [AV.i (sBetween (atA l (fromA l a + (↑g :
   Int))).x (atB l (fromA l a + (↑g : Int))).x (fromA l a + (↑g : Int) - (atA l (fromA l a + (↑g : Int))).t) ((atB l (fromA l a + (↑g : Int))).t - (atA l (fromA l a + (↑g : Int))).t)), AV.i (sBetween (atA l (fromA l a + (↑g : Int))).y
   (atB l (fromA l a + (↑g : Int))).y (fromA l a + (↑g : Int) - (atA l (fromA l a + (↑g : Int))).t) ((atB l (fromA l a + (↑g : Int))).t - (atA l (fromA l a + (↑g : Int))).t)), AV.i (sBetween (atA l (fromA l a + (↑g : Int))).z (atB l
   (fromA l a + (↑g : Int))).z (fromA l a + (↑g : Int) - (atA l (fromA l a + (↑g : Int))).t) ((atB l (fromA l a + (↑g : Int))).t - (atA l (fromA l a + (↑g : Int))).t)), AV.i ((atB l (fromA l a + (↑g : Int))).x - (atA l (fromA l a +
   (↑g : Int))).x), AV.i ((atB l (fromA l a + (↑g : Int))).y - (atA l (fromA l a + (↑g : Int))).y), AV.i (sBetween (atA l (fromA l a + (↑g : Int))).p (atB l (fromA l a + (↑g : Int))).p (fromA l a + (↑g : Int) - (atA l (fromA l a + (↑g
   : Int))).t) ((atB l (fromA l a + (↑g : Int))).t - (atA l (fromA l a + (↑g : Int))).t))]) ∧ PCall Tryz.prog G0 51 [AV.agg (encTy t), AV.agg [AV.i (sBetween (atA l (fromA l a + (↑g : Int))).x (atB l (fromA l a + (↑g : Int))).x (fromA
   l a + (↑g : Int) - (atA l (fromA l a + (↑g : Int))).t) ((atB l (fromA l a + (↑g : Int))).t - (atA l (fromA l a + (↑g : Int))).t)), AV.i (sBetween (atA l (fromA l a + (↑g : Int))).y (atB l (fromA l a + (↑g : Int))).y (fromA l a +
   (↑g : Int) - (atA l (fromA l a + (↑g : Int))).t) ((atB l (fromA l a + (↑g : Int))).t - (atA l (fromA l a + (↑g : Int))).t)), AV.i (sBetween (atA l (fromA l a + (↑g : Int))).z (atB l (fromA l a + (↑g : Int))).z (fromA l a + (↑g :
   Int) - (atA l (fromA l a + (↑g : Int))).t) ((atB l (fromA l a + (↑g : Int))).t - (atA l (fromA l a + (↑g : Int))).t)), AV.i ((atB l (fromA l a + (↑g : Int))).x - (atA l (fromA l a + (↑g : Int))).x), AV.i ((atB l (fromA l a + (↑g :
   Int))).y - (atA l (fromA l a + (↑g : Int))).y), AV.i (sBetween (atA l (fromA l a + (↑g : Int))).p (atB l (fromA l a + (↑g : Int))).p (fromA l a + (↑g : Int) - (atA l (fromA l a + (↑g : Int))).t) ((atB l (fromA l a + (↑g : Int))).t
   - (atA l (fromA l a + (↑g : Int))).t))], AV.agg [AV.i x, AV.i y, AV.i z]] (AV.i (hrd t ((atB l (fromA l a + (↑g : Int))).x - (atA l (fromA l a + (↑g : Int))).x) ((atB l (fromA l a + (↑g : Int))).y - (atA l (fromA l a + (↑g :
   Int))).y) (sBetween (atA l (fromA l a + (↑g : Int))).p (atB l (fromA l a + (↑g : Int))).p (fromA l a + (↑g : Int) - (atA l (fromA l a + (↑g : Int))).t) ((atB l (fromA l a + (↑g : Int))).t - (atA l (fromA l a + (↑g : Int))).t)) (x -
   sBetween (atA l (fromA l a + (↑g : Int))).x (atB l (fromA l a + (↑g : Int))).x (fromA l a + (↑g : Int) - (atA l (fromA l a + (↑g : Int))).t) ((atB l (fromA l a + (↑g : Int))).t - (atA l (fromA l a + (↑g : Int))).t)) (y - sBetween
   (atA l (fromA l a + (↑g : Int))).y (atB l (fromA l a + (↑g : Int))).y (fromA l a + (↑g : Int) - (atA l (fromA l a + (↑g : Int))).t) ((atB l (fromA l a + (↑g : Int))).t - (atA l (fromA l a + (↑g : Int))).t)) (z - sBetween (atA l
   (fromA l a + (↑g : Int))).z (atB l (fromA l a + (↑g : Int))).z (fromA l a + (↑g : Int) - (atA l (fromA l a + (↑g : Int))).t) ((atB l (fromA l a + (↑g : Int))).t - (atA l (fromA l a + (↑g : Int))).t)))) ∧ (decide (hrd t ((atB l
   (fromA l a + (↑g : Int))).x - (atA l (fromA l a + (↑g : Int))).x) ((atB l (fromA l a + (↑g : Int))).y - (atA l (fromA l a + (↑g : Int))).y) (sBetween (atA l (fromA l a + (↑g : Int))).p (atB l (fromA l a + (↑g : Int))).p (fromA l a
   + (↑g : Int) - (atA l (fromA l a + (↑g : Int))).t) ((atB l (fromA l a + (↑g : Int))).t - (atA l (fromA l a + (↑g : Int))).t)) (x - sBetween (atA l (fromA l a + (↑g : Int))).x (atB l (fromA l a + (↑g : Int))).x (fromA l a + (↑g :
   Int) - (atA l (fromA l a + (↑g : Int))).t) ((atB l (fromA l a + (↑g : Int))).t - (atA l (fromA l a + (↑g : Int))).t)) (y - sBetween (atA l (fromA l a + (↑g : Int))).y (atB l (fromA l a + (↑g : Int))).y (fromA l a + (↑g : Int) -
   (atA l (fromA l a + (↑g : Int))).t) ((atB l (fromA l a + (↑g : Int))).t - (atA l (fromA l a + (↑g : Int))).t)) (z - sBetween (atA l (fromA l a + (↑g : Int))).z (atB l (fromA l a + (↑g : Int))).z (fromA l a + (↑g : Int) - (atA l
   (fromA l a + (↑g : Int))).t) ((atB l (fromA l a + (↑g : Int))).t - (atA l (fromA l a + (↑g : Int))).t)) > (mxH (hrdA t l x y z) (fromA l a) g).fst) = true → In64 (fromA l a + (↑g : Int) + 1) ∧ ∃ (g' : Nat), g' ≤ (toB l b - fromA l
   a).toNat ∧ (toB l b - fromA l a).toNat - g' < (toB l b - fromA l a).toNat - g ∧ AS.mk [(1, AV.sl 5 (List.map encFx l)), (4, AV.elt 13 [(encTy t)] 0 0), (6, AV.elt 2 [[AV.i a, AV.i b]] 0 0), (7, AV.elt 3 [[AV.i x, AV.i y, AV.i z]] 0
   0), (11, AV.i (hrd t ((atB l (fromA l a + (↑g : Int))).x - (atA l (fromA l a + (↑g : Int))).x) ((atB l (fromA l a + (↑g : Int))).y - (atA l (fromA l a + (↑g : Int))).y) (sBetween (atA l (fromA l a + (↑g : Int))).p (atB l (fromA l a
   + (↑g : Int))).p (fromA l a + (↑g : Int) - (atA l (fromA l a + (↑g : Int))).t) ((atB l (fromA l a + (↑g : Int))).t - (atA l (fromA l a + (↑g : Int))).t)) (x - sBetween (atA l (fromA l a + (↑g : Int))).x (atB l (fromA l a + (↑g :
   Int))).x (fromA l a + (↑g : Int) - (atA l (fromA l a + (↑g : Int))).t) ((atB l (fromA l a + (↑g : Int))).t - (atA l (fromA l a + (↑g : Int))).t)) (y - sBetween (atA l (fromA l a + (↑g : Int))).y (atB l (fromA l a + (↑g : Int))).y
   (fromA l a + (↑g : Int) - (atA l (fromA l a + (↑g : Int))).t) ((atB l (fromA l a + (↑g : Int))).t - (atA l (fromA l a + (↑g : Int))).t)) (z - sBetween (atA l (fromA l a + (↑g : Int))).z (atB l (fromA l a + (↑g : Int))).z (fromA l a
   + (↑g : Int) - (atA l (fromA l a + (↑g : Int))).t) ((atB l (fromA l a + (↑g : Int))).t - (atA l (fromA l a + (↑g : Int))).t)))), (12, AV.i (fromA l a + (↑g : Int))), (13, AV.i (fromA l a + (↑g : Int) + 1))] [] 1 = AS.mk [(1, AV.sl
   5 (List.map encFx l)), (4, AV.elt 13 [(encTy t)] 0 0), (6, AV.elt 2 [[AV.i a, AV.i b]] 0 0), (7, AV.elt 3 [[AV.i x, AV.i y, AV.i z]] 0 0), (11, AV.i (mxH (hrdA t l x y z) (fromA l a) g').fst), (12, AV.i (mxH (hrdA t l x y z) (fromA
   l a) g').snd), (13, AV.i (fromA l a + (↑g' : Int)))] [] 1) ∧ (decide (hrd t ((atB l (fromA l a + (↑g : Int))).x - (atA l (fromA l a + (↑g : Int))).x) ((atB l (fromA l a + (↑g : Int))).y - (atA l (fromA l a + (↑g : Int))).y)
   (sBetween (atA l (fromA l a + (↑g : Int))).p (atB l (fromA l a + (↑g : Int))).p (fromA l a + (↑g : Int) - (atA l (fromA l a + (↑g : Int))).t) ((atB l (fromA l a + (↑g : Int))).t - (atA l (fromA l a + (↑g : Int))).t)) (x - sBetween
   (atA l (fromA l a + (↑g : Int))).x (atB l (fromA l a + (↑g : Int))).x (fromA l a + (↑g : Int) - (atA l (fromA l a + (↑g : Int))).t) ((atB l (fromA l a + (↑g : Int))).t - (atA l (fromA l a + (↑g : Int))).t)) (y - sBetween (atA l
   (fromA l a + (↑g : Int))).y (atB l (fromA l a + (↑g : Int))).y (fromA l a + (↑g : Int) - (atA l (fromA l a + (↑g : Int))).t) ((atB l (fromA l a + (↑g : Int))).t - (atA l (fromA l a + (↑g : Int))).t)) (z - sBetween (atA l (fromA l a
   + (↑g : Int))).z (atB l (fromA l a + (↑g : Int))).z (fromA l a + (↑g : Int) - (atA l (fromA l a + (↑g : Int))).t) ((atB l (fromA l a + (↑g : Int))).t - (atA l (fromA l a + (↑g : Int))).t)) > (mxH (hrdA t l x y z) (fromA l a)
   g).fst) = false → In64 (fromA l a + (↑g : Int) + 1) ∧ ∃ (g' : Nat), g' ≤ (toB l b - fromA l a).toNat ∧ (toB l b - fromA l a).toNat - g' < (toB l b - fromA l a).toNat - g ∧ AS.mk [(1, AV.sl 5 (List.map encFx l)), (4, AV.elt 13
   [(encTy t)] 0 0), (6, AV.elt 2 [[AV.i a, AV.i b]] 0 0), (7, AV.elt 3 [[AV.i x, AV.i y, AV.i z]] 0 0), (11, AV.i (mxH (hrdA t l x y z) (fromA l a) g).fst), (12, AV.i (mxH (hrdA t l x y z) (fromA l a) g).snd), (13, AV.i (fromA l a +
   (↑g : Int) + 1))] [] 1 = AS.mk [(1, AV.sl 5 (List.map encFx l)), (4, AV.elt 13 [(encTy t)] 0 0), (6, AV.elt 2 [[AV.i a, AV.i b]] 0 0), (7, AV.elt 3 [[AV.i x, AV.i y, AV.i z]] 0 0), (11, AV.i (mxH (hrdA t l x y z) (fromA l a)
   g').fst), (12, AV.i (mxH (hrdA t l x y z) (fromA l a) g').snd), (13, AV.i (fromA l a + (↑g' : Int)))] [] 1)) ∧ (decide (fromA l a + (↑g : Int) < minI b (l.getD ((↑(List.map encFx l).length : Int) - 1).toNat default).t) = false →
   (decide ((mxH (hrdA t l x y z) (fromA l a) g).fst < 0) = true → AV.tup [AV.i 0, AV.i 0, AV.i 7] = AV.tup (mxV (hrdA t l x y z) (fromA l a) (toB l b))) ∧ (decide ((mxH (hrdA t l x y z) (fromA l a) g).fst < 0) = false → AV.tup [AV.i
   (mxH (hrdA t l x y z) (fromA l a) g).fst, AV.i (mxH (hrdA t l x y z) (fromA l a) g).snd, AV.i 0] = AV.tup (mxV (hrdA t l x y z) (fromA l a) (toB l b)))) := by
    obtain ⟨f0, t0, hN, hA, hH⟩ := hear_ok (t := t) (x := x) (y := y) (z := z) hT hO hsp ha hb
    have hlm : (List.map encFx l).length = l.length := List.length_map _
    have hn := hO.n1
    have hn2 := hO.n2
    have e0 : ((↑(List.map encFx l).length : Int) - 1).toNat = l.length - 1 := by omega
    rw [e0]
    refine ⟨by omega, by omega, by rw [row_at encFx (by omega)]; rfl, ⟨0, Nat.zero_le _, ?_⟩, fun g hg => ⟨by unfold In64; omega, by omega, by omega, by rw [row_at encFx (by omega)]; rfl, fun hd => ?_, fun hd => ?_⟩⟩
    · rw [show fromA l a + ((0 : Nat) : Int) = fromA l a by omega]
      rfl
    · have hlt : fromA l a + (g : Int) < toB l b := of_decide_eq_true hd
      have hg' : g < (toB l b - fromA l a).toNat := by omega
      have a1 := hA g hg'
      refine ⟨c73 l _ hO (by omega), c51 t _ _ _ _ _ _ _ _ _ (ok_of hT) a1.x a1.y a1.z a1.h a1.k a1.p hx hy hz (side_of hT).1 (side_of hT).2, fun hq => ⟨by unfold In64; omega, g + 1, hg', by omega, ?_⟩, fun hq => ⟨by unfold In64; omega, g + 1, hg', by omega, ?_⟩⟩
      · rw [mxH_t (f := hrdA t l x y z) hq, show fromA l a + ((g + 1 : Nat) : Int) = fromA l a + g + 1 by omega]
        rfl
      · rw [mxH_f (f := hrdA t l x y z) hq, show fromA l a + ((g + 1 : Nat) : Int) = fromA l a + g + 1 by omega]
    · have hge : ¬ (fromA l a + (g : Int) < toB l b) := of_decide_eq_false hd
      have hgN : g = (toB l b - fromA l a).toNat := by omega
      subst hgN
      have hB := mxH_b (fun i hi => (hH i hi).1) (toB l b - fromA l a).toNat (Nat.le_refl _)
      refine ⟨fun hq => ?_, fun hq => ?_⟩
      · have hq := of_decide_eq_true hq
        rw [mxV, if_pos (decide_eq_true (by
          rcases Nat.eq_zero_or_pos (toB l b - fromA l a).toNat with e | e
          · omega
          · have := hB e
            omega))]
      · have hq := of_decide_eq_false hq
        rw [mxV, if_neg (fun h => hq (by
          have := of_decide_eq_true h
          rw [show (toB l b - fromA l a).toNat = 0 by omega]
          exact (by decide : (-1 : Int) < 0)))]
  exact c_of Tryz.f37 (fzB (mkB (sp36 t l x y z) 37 [(2, 5, rdX l), (3, 9, rdX l)] (fun i => if i.beq 0 then some (la37 t l a b x y z) else none))) (by kernel_rfl) (by kernel_rfl) (by kernel_rfl) (by kernel_rfl) key (by kernel_rfl)
def sp30 (t : Ty) (l : List Fx) (a b x y z : Int) : Nat → List AV → Option AV
  | 99, _ => some (.i (chkH t l a b x y z))
  | n, w => sp100 t l x y z n w
def fa30 (t : Ty) (l : List Fx) (a b x y z : Int) : FA := {
  X := Nat, xs := List.range (toB l b - fromA l a).toNat, enc := fun i => [.i (fromA l a + i), .i (hrdA t l x y z (fromA l a + i))]
  post := [.keep [] [1, 2], .bound 3]
  Gh := Nat
  st := fun g => ⟨[(13, .ptr 1 0), (14, .ptr 2 0), (38, fnH t l (fromA l a) (toB l b) x y z)], [(1, .box [.i (mxH (hrdA t l x y z) (fromA l a) g).1]), (2, .box [.i (mxH (hrdA t l x y z) (fromA l a) g).2])], 3⟩
  ok := fun pre g => g = pre.length }
def rMax (t : Ty) (l : List Fx) (a b x y z : Int) : List AV := if chkH t l a b x y z != 0 then [.i 0, .i 0, .i (chkH t l a b x y z)] else mxV (hrdA t l x y z) (fromA l a) (toB l b)
theorem c30 (t : Ty) (l : List Fx) (a b x y z : Int) (hn : t.st.length ≤ 1000) (hs : t.sh.length ≤ 1000) (hq : t.sq.length ≤ 1000) (he : ∀ s, s ∈ t.st → s.e.length ≤ 1000) (hN : t.name.length ≤ 1000000) (hl : l.length ≤ 1000) : PCall Tryz.prog G0 30 [.agg (encTy t), .sl 5 (l.map encFx), .agg [.i a, .i b], .agg [.i x, .i y, .i z]] (.tup (rMax t l a b x y z)) := by
  have key :
   PCall Tryz.prog G0 99 [AV.agg (encTy t), AV.sl 5 (List.map encFx l), AV.agg [AV.i a, AV.i b], AV.agg [AV.i x, AV.i y, AV.i z]] (AV.i (chkH t l a b x y z)) ∧ ((chkH t l a b x y z != 0) = true → AV.tup [AV.i 0, AV.i 0, AV.i (chkH t l
   a b x y z)] = AV.tup (rMax t l a b x y z)) ∧ ((chkH t l a b x y z != 0) = false → PCall Tryz.prog G0 102 [AV.sl 5 (List.map encFx l)] (AV.agg [AV.i (firstT l), AV.i (lastT l)]) ∧ PCall Tryz.prog G0 101 [AV.agg [AV.i a, AV.i b],
   AV.agg [AV.i (firstT l), AV.i (lastT l)]] (AV.agg [AV.i (maxI a (firstT l)), AV.i (minI b (lastT l))]) ∧ (decide (maxI a (firstT l) ≥ minI b (lastT l)) = true → AV.tup [AV.i 0, AV.i 0, AV.i 7] = AV.tup (rMax t l a b x y z)) ∧
   (decide (maxI a (firstT l) ≥ minI b (lastT l)) = false → PCall Tryz.prog G0 103 [AV.agg (encTy t), AV.sl 5 (List.map encFx l), AV.agg [AV.i (maxI a (firstT l)), AV.i (minI b (lastT l))], AV.agg [AV.i x, AV.i y, AV.i z]] (AV.fn
   (Fn.func 144) [] [AV.elt 2 [[AV.i (maxI a (firstT l)), AV.i (minI b (lastT l))]] 0 0, AV.elt 13 [(encTy t)] 0 0, AV.elt 1 [[AV.sl 5 (List.map encFx l)]] 0 0, AV.elt 3 [[AV.i x, AV.i y, AV.i z]] 0 0]) ∧ PSeq Tryz.prog G0 144 [AV.elt
   2 [[AV.i (maxI a (firstT l)), AV.i (minI b (lastT l))]] 0 0, AV.elt 13 [(encTy t)] 0 0, AV.elt 1 [[AV.sl 5 (List.map encFx l)]] 0 0, AV.elt 3 [[AV.i x, AV.i y, AV.i z]] 0 0] (List.map (fa30 t l a b x y z).enc (List.range (toB l b -
   fromA l a).toNat)) ∧ (∀ (x : Nat), 2 = 2) ∧ (∃ (g : Nat), g = 0 ∧ AS.mk [(13, AV.ptr 1 0), (14, AV.ptr 2 0), (38, AV.fn (Fn.func 144) [] [AV.elt 2 [[AV.i (maxI a (firstT l)), AV.i (minI b (lastT l))]] 0 0, AV.elt 13 [(encTy t)] 0
   0, AV.elt 1 [[AV.sl 5 (List.map encFx l)]] 0 0, AV.elt 3 [[AV.i x, AV.i y, AV.i z]] 0 0])] [(1, ABlk.box [AV.i (-1)]), (2, ABlk.box [AV.i 0])] 3 = AS.mk [(13, AV.ptr 1 0), (14, AV.ptr 2 0), (38, AV.fn (Fn.func 144) [] [AV.elt 2
   [[AV.i (fromA l a), AV.i (toB l b)]] 0 0, AV.elt 13 [(encTy t)] 0 0, AV.elt 1 [[AV.sl 5 (List.map encFx l)]] 0 0, AV.elt 3 [[AV.i x, AV.i y, AV.i z]] 0 0])] [(1, ABlk.box [AV.i (mxH (hrdA t l x y z) (fromA l a) g).fst]), (2,
   ABlk.box [AV.i (mxH (hrdA t l x y z) (fromA l a) g).snd])] 3) ∧ (∀ (pre : List Nat) (x_1 : Nat) (post : List Nat) (g : Nat), List.range (toB l b - fromA l a).toNat = pre ++ x_1 :: post → g = pre.length → Exit.normal = Exit.normal ∧
   false = false ∧ (decide (hrdA t l x y z (fromA l a + (↑x_1 : Int)) > (mxH (hrdA t l x y z) (fromA l a) g).fst) = true → false = false ∧ ∃ (g' : Nat), g' = (pre ++ [x_1]).length ∧ AS.mk [(13, AV.ptr 1 0), (14, AV.ptr 2 0), (38,
   AV.fn (Fn.func 144) [] [AV.elt 2 [[AV.i (maxI a (firstT l)), AV.i (minI b (lastT l))]] 0 0, AV.elt 13 [(encTy t)] 0 0, AV.elt 1 [[AV.sl 5 (List.map encFx l)]] 0 0, AV.elt 3 [[AV.i x, AV.i y, AV.i z]] 0 0])] [(1, ABlk.box [AV.i
   (hrdA t l x y z (fromA l a + (↑x_1 : Int)))]), (2, ABlk.box [AV.i (fromA l a + (↑x_1 : Int))])] 3 = AS.mk [(13, AV.ptr 1 0), (14, AV.ptr 2 0), (38, AV.fn (Fn.func 144) [] [AV.elt 2 [[AV.i (fromA l a), AV.i (toB l b)]] 0 0, AV.elt
   13 [(encTy t)] 0 0, AV.elt 1 [[AV.sl 5 (List.map encFx l)]] 0 0, AV.elt 3 [[AV.i x, AV.i y, AV.i z]] 0 0])] [(1, ABlk.box [AV.i (mxH (hrdA t l x y z) (fromA l a) g').fst]), (2, ABlk.box [AV.i (mxH (hrdA t l x y z) (fromA l a)
   g').snd])] 3) ∧ (decide (hrdA t l x y z (fromA l a + (↑x_1 : Int)) > (mxH (hrdA t l x y z) (fromA l a) g).fst) = false → false = false ∧ ∃ (g' : Nat), g' = (pre ++ [x_1]).length ∧ AS.mk [(13, AV.ptr 1 0), (14, AV.ptr 2 0), (38,
   AV.fn (Fn.func 144) [] [AV.elt 2 [[AV.i (maxI a (firstT l)), AV.i (minI b (lastT l))]] 0 0, AV.elt 13 [(encTy t)] 0 0, AV.elt 1 [[AV.sl 5 (List.map encFx l)]] 0 0, AV.elt 3 [[AV.i x, AV.i y, AV.i z]] 0 0])] [(1, ABlk.box [AV.i (mxH
   (hrdA t l x y z) (fromA l a) g).fst]), (2, ABlk.box [AV.i (mxH (hrdA t l x y z) (fromA l a) g).snd])] 3 = AS.mk [(13, AV.ptr 1 0), (14, AV.ptr 2 0), (38, AV.fn (Fn.func 144) [] [AV.elt 2 [[AV.i (fromA l a), AV.i (toB l b)]] 0 0,
   AV.elt 13 [(encTy t)] 0 0, AV.elt 1 [[AV.sl 5 (List.map encFx l)]] 0 0, AV.elt 3 [[AV.i x, AV.i y, AV.i z]] 0 0])] [(1, ABlk.box [AV.i (mxH (hrdA t l x y z) (fromA l a) g').fst]), (2, ABlk.box [AV.i (mxH (hrdA t l x y z) (fromA l
   a) g').snd])] 3)) ∧ ∀ (g : Nat), g = (List.range (toB l b - fromA l a).toNat).length → AV.tup [AV.i (mxH (hrdA t l x y z) (fromA l a) g).fst, AV.i (mxH (hrdA t l x y z) (fromA l a) g).snd, AV.i 0] = AV.tup (rMax t l a b x y z))) :=
   by
    refine ⟨c99 t l a b x y z hn hs hq he hN hl, fun h => ?_, fun h => ?_⟩
    · rw [rMax, if_pos h]
    · have hz : chkH t l a b x y z = 0 := by simpa using h
      obtain ⟨h1, h2, h3, h4, h5, h6, h7, h8⟩ := chkH_ok hz
      obtain ⟨f0, t0, hN', hA, hH⟩ := hear_ok (t := t) (x := x) (y := y) (z := z) h1 h2 h3 h4 h5
      have hn1 := h2.n1
      have hn2 := h2.n2
      rw [show rMax t l a b x y z = mxV (hrdA t l x y z) (fromA l a) (toB l b) from if_neg (by rw [h]; decide)]
      refine ⟨c102 l (by omega) (by omega), c101 _ _ _ _, fun hq => ?_, fun hq => ⟨c103 t l _ _ _ _ _, hear_seq (a := fromA l a) (b := toB l b) h1 h2 hA f0 t0 h6 h7 h8, fun _ => rfl, ⟨0, rfl, rfl⟩, fun pre i post g hr hg => ?_, fun g hg => ?_⟩⟩
      · rw [mxV, if_pos (show decide (fromA l a ≥ toB l b) = true from hq)]
      · obtain ⟨e1, e2⟩ := range_split hr
        subst e1
        subst hg
        refine ⟨rfl, rfl, fun hq => ⟨rfl, pre.length + 1, by simp, ?_⟩, fun hq => ⟨rfl, pre.length + 1, by simp, ?_⟩⟩
        · rw [mxH_t (f := hrdA t l x y z) hq]
          rfl
        · rw [mxH_f (f := hrdA t l x y z) hq]
          rfl
      · rw [hg, List.length_range, mxV, if_neg (by rw [show decide (fromA l a ≥ toB l b) = false from hq]; decide)]
  exact c_of Tryz.f30 (gsB (fun i => if i.beq 8 then [.reno 13 1, .reno 14 2, .keep [13, 14, 38] [1, 2], .bound 3] else []) { fzB (mkB (sp30 t l a b x y z) 30 [] noLa) with fa := some (fa30 t l a b x y z) }) (by kernel_rfl) (by kernel_rfl) (by kernel_rfl) (by kernel_rfl) key (by kernel_rfl)
end Go.Proofs.YtjhjmncjidbieaaGreatDoor
namespace Go.Proofs.YtjhjmncjidbieaaGreatDoor
open Go Go.Av Go.RowKit
def rdFq : List AV → Option AV := fun _ => some (.bool false)
theorem min_b {a b L U : Int} (ha : L ≤ a ∧ a ≤ U) (hb : L ≤ b ∧ b ≤ U) : L ≤ minI a b ∧ minI a b ≤ U := by
  unfold minI
  split <;> omega
theorem max_b {a b L U : Int} (ha : L ≤ a ∧ a ≤ U) (hb : L ≤ b ∧ b ≤ U) : L ≤ maxI a b ∧ maxI a b ≤ U := by
  unfold maxI
  split <;> omega
theorem max_comm (a b : Int) : maxI a b = maxI b a := by
  unfold maxI
  split <;> split <;> omega
theorem sq_b {u : Int} (h : -200000 ≤ u ∧ u ≤ 200000) : 0 ≤ u * u ∧ u * u ≤ 40000000000 := by
  have := mul_bound (A := 200000) (B := 200000) h.1 h.2 h.1 h.2
  exact ⟨sq_nn u, by omega⟩
theorem en_in {E D S n : Int} (hE : -20000000000 ≤ E ∧ E ≤ 20000000000) (hD : 0 ≤ D ∧ D ≤ 2000) (hS : 0 ≤ S ∧ S ≤ 1000) (hn : 0 ≤ n ∧ n ≤ 1000) :
    (In64 (E * D) ∧ In64 (E * D * S) ∧ In64 ((E * D * S).tdiv 1000000) ∧ In64 (n * (E * D * S).tdiv 1000000)) ∧ (In64 (n * E) ∧ In64 (n * E * D) ∧ In64 (0 - n * E * D)) ∧
    (In64 ((0 - n * E * D).tdiv 1000) ∧ In64 ((0 - n * E * D).tdiv 1000 * 1000) ∧ In64 ((0 - n * E * D).tdiv 1000 - 1) ∧ In64 (0 - sFloor (0 - n * E * D) 1000)) ∧
    (-100000000000000 ≤ n * (E * D * S).tdiv 1000000 ∧ n * (E * D * S).tdiv 1000000 ≤ 100000000000000) ∧ (-100000000000000 ≤ 0 - sFloor (0 - n * E * D) 1000 ∧ 0 - sFloor (0 - n * E * D) 1000 ≤ 100000000000000) := by
  have h1 := mul_bound (A := 20000000000) (B := 2000) hE.1 hE.2 (by omega) hD.2
  have h2 := mul_bound (A := 40000000000000) (B := 1000) (x := E * D) (y := S) (by omega) (by omega) (by omega) hS.2
  have q1 := Int.mul_tdiv_add_tmod (E * D * S) 1000000
  have q2 := Int.tmod_lt_of_pos (E * D * S) (show (0 : Int) < 1000000 by decide)
  have q3 := Int.lt_tmod_of_pos (E * D * S) (show (0 : Int) < 1000000 by decide)
  have h3 : -40000000001 ≤ (E * D * S).tdiv 1000000 ∧ (E * D * S).tdiv 1000000 ≤ 40000000001 := by omega
  have h4 := mul_bound (A := 1000) (B := 40000000001) (x := n) (by omega) hn.2 h3.1 h3.2
  have h5 := mul_bound (A := 1000) (B := 20000000000) (x := n) (by omega) hn.2 hE.1 hE.2
  have h6 := mul_bound (A := 20000000000000) (B := 2000) (x := n * E) (y := D) (by omega) (by omega) (by omega) hD.2
  obtain ⟨f1, f2, f3, _, _⟩ := floor_in (n := 0 - n * E * D) (d := 1000) (by decide) (by omega) (by omega)
  have f4 : sFloor (0 - n * E * D) 1000 = (0 - n * E * D) / 1000 := floor_eq (by decide)
  rw [f4]
  generalize n * (E * D * S).tdiv 1000000 = v1 at *
  generalize (E * D * S).tdiv 1000000 = v2 at *
  generalize E * D * S = v3 at *
  generalize E * D = v4 at *
  generalize n * E * D = v5 at *
  generalize n * E = v6 at *
  exact ⟨⟨by unfold In64; omega, by unfold In64; omega, by unfold In64; omega, by unfold In64; omega⟩, ⟨by unfold In64; omega, by unfold In64; omega, by unfold In64; omega⟩, ⟨f1, f2, f3, by unfold In64; omega⟩, by omega, by omega⟩
def nearI (n a b : Int) : Int := maxI (maxI 0 (minI a b - n)) (n - maxI a b)
def farI (n a b : Int) : Int := maxI (maxI a b - n) (n - minI a b)
theorem near_b {n a b : Int} (hn : -100000 ≤ n ∧ n ≤ 100000) (ha : -100000 ≤ a ∧ a ≤ 100000) (hb : -100000 ≤ b ∧ b ≤ 100000) : (-200000 ≤ nearI n a b ∧ nearI n a b ≤ 200000) ∧ (-200000 ≤ farI n a b ∧ farI n a b ≤ 200000) := by
  have m1 := min_b ha hb
  have m2 := max_b ha hb
  exact ⟨max_b (max_b (by omega) (by omega)) (by omega), max_b (by omega) (by omega)⟩
theorem c145 (n a b : Int) (hn : -1000000000 ≤ n ∧ n ≤ 1000000000) (ha : -1000000000 ≤ a ∧ a ≤ 1000000000) (hb : -1000000000 ≤ b ∧ b ≤ 1000000000) : PCall Tryz.prog G0 145 [.i n, .i a, .i b] (.agg [.i (nearI n a b), .i (farI n a b)]) := by
  have key :
   In64 (minI a b - n) ∧ In64 (n - maxI a b) ∧ In64 (maxI a b - n) ∧ In64 (n - minI a b) ∧ AV.agg [AV.i (maxI (maxI (0 : Int) (minI a b - n)) (n - maxI a b)), AV.i (maxI (maxI a b - n) (n - minI a b))] = AV.agg [AV.i (nearI n a b),
   AV.i (farI n a b)] := by
    have m1 := min_b ha hb
    have m2 := max_b ha hb
    exact ⟨by unfold In64; omega, by unfold In64; omega, by unfold In64; omega, by unfold In64; omega, rfl⟩
  exact c_of Tryz.f145 (mkB spR 145 [] noLa) (by kernel_rfl) (by kernel_rfl) (by kernel_rfl) (by kernel_rfl) key (by kernel_rfl)
theorem c111 (n a b : Int) (hn : -1000000000 ≤ n ∧ n ≤ 1000000000) (ha : -1000000000 ≤ a ∧ a ≤ 1000000000) (hb : -1000000000 ≤ b ∧ b ≤ 1000000000) : PCall Tryz.prog G0 111 [.i n, .i a, .i b] (.tup [.i (nearI n a b), .i (farI n a b)]) := by
  have key :
   In64 (minI a b - n) ∧ In64 (n - maxI a b) ∧ In64 (n - minI a b) ∧ In64 (maxI a b - n) ∧ AV.tup [AV.i (maxI (maxI (0 : Int) (minI a b - n)) (n - maxI a b)), AV.i (maxI (n - minI a b) (maxI a b - n))] = AV.tup [AV.i (nearI n a b),
   AV.i (farI n a b)] := by
    have m1 := min_b ha hb
    have m2 := max_b ha hb
    refine ⟨by unfold In64; omega, by unfold In64; omega, by unfold In64; omega, by unfold In64; omega, ?_⟩
    rw [max_comm (n - minI a b)]
    rfl
  exact c_of Tryz.f111 (mkB spR 111 [] noLa) (by kernel_rfl) (by kernel_rfl) (by kernel_rfl) (by kernel_rfl) key (by kernel_rfl)
def mnN (l : List Int) : Nat → Int
  | 0 => l.getD 0 default
  | i + 1 => minI (mnN l i) (l.getD (i + 1) default)
def mxN (l : List Int) : Nat → Int
  | 0 => l.getD 0 default
  | i + 1 => maxI (mxN l i) (l.getD (i + 1) default)
def la146 (l : List Int) : LA := {
  pre := [.keep [0, 3, 4] [], .bound 1], post := [.keep [0, 3, 4] [], .bound 1]
  Gh := Nat
  st := fun i => ⟨[(0, .sl 1 (l.map encI)), (3, .i (mnN l i)), (4, .i ((i : Int) + 1))], [], 1⟩
  ok := fun i => i + 1 ≤ l.length
  ms := fun i => l.length - i }
def la147 (l : List Int) : LA := {
  pre := [.keep [0, 3, 4] [], .bound 1], post := [.keep [0, 3, 4] [], .bound 1]
  Gh := Nat
  st := fun i => ⟨[(0, .sl 1 (l.map encI)), (3, .i (mxN l i)), (4, .i ((i : Int) + 1))], [], 1⟩
  ok := fun i => i + 1 ≤ l.length
  ms := fun i => l.length - i }
def cl146 : Operand → Bool
  | .tmp t => t.beq 7
  | _ => false
theorem c146 (l : List Int) (h : 1 ≤ l.length) (hl : l.length ≤ 1000) : PCall Tryz.prog G0 146 [.sl 1 (l.map encI)] (.i (mnN l (l.length - 1))) := by
  have key :
   AV.bool (decide ((↑(List.map encI l).length : Int) < 1)) = AV.bool false ∧ (0 : Int) ≤ 0 ∧ (0 : Int) < (↑(List.map encI l).length : Int) ∧ nth (nthR (List.map encI l) 0) 0 = AV.i (cI (List.map encI l) 0) ∧ (∃ (g : Nat), g + 1 ≤
   l.length ∧ AS.mk [(0, AV.sl 1 (List.map encI l)), (3, AV.i (cI (List.map encI l) 0)), (4, AV.i 1)] [] 1 = AS.mk [(0, AV.sl 1 (List.map encI l)), (3, AV.i (mnN l g)), (4, AV.i ((↑g : Int) + 1))] [] 1) ∧ ∀ (g : Nat), g + 1 ≤ l.length
   → (decide ((↑g : Int) + 1 < (↑(List.map encI l).length : Int)) = true → (0 : Int) ≤ (↑g : Int) + 1 ∧ (↑g : Int) + 1 < (↑(List.map encI l).length : Int) ∧ nth (nthR (List.map encI l) ((↑g : Int) + 1).toNat) 0 = AV.i (cI (List.map
   encI l) ((↑g : Int) + 1).toNat) ∧ In64 ((↑g : Int) + 1 + 1) ∧ ∃ (g' : Nat), g' + 1 ≤ l.length ∧ l.length - g' < l.length - g ∧ AS.mk [(0, AV.sl 1 (List.map encI l)), (3, AV.i (minI (mnN l g) (cI (List.map encI l) ((↑g : Int) +
   1).toNat))), (4, AV.i ((↑g : Int) + 1 + 1))] [] 1 = AS.mk [(0, AV.sl 1 (List.map encI l)), (3, AV.i (mnN l g')), (4, AV.i ((↑g' : Int) + 1))] [] 1) ∧ (decide ((↑g : Int) + 1 < (↑(List.map encI l).length : Int)) = false → AV.i (mnN
   l g) = AV.i (mnN l (l.length - 1))) := by
    have hlm : (List.map encI l).length = l.length := List.length_map _
    refine ⟨congrArg AV.bool (decide_eq_false (by omega)), by omega, by omega, cI_at (by omega), ⟨0, by omega, ?_⟩, fun g hg => ⟨fun hd => ?_, fun hd => ?_⟩⟩
    · rw [cI_map]
      rfl
    · have hlt := of_decide_eq_true hd
      have e : ((g : Int) + 1).toNat = g + 1 := by omega
      rw [e]
      refine ⟨by omega, by omega, cI_at (by omega), by unfold In64; omega, g + 1, by omega, by omega, ?_⟩
      rw [cI_map]
      rfl
    · have := of_decide_eq_false hd
      rw [show g = l.length - 1 by omega]
  exact c_of Tryz.f146 ({ mkB spR 146 [(1, 2, rdFq), (3, 2, rdJ), (7, 4, rdJ)] (fun i => if i.beq 0 then some (la146 l) else none) with cl := cl146 }) (by kernel_rfl) (by kernel_rfl) (by kernel_rfl) (by kernel_rfl) key (by kernel_rfl)
theorem c147 (l : List Int) (h : 1 ≤ l.length) (hl : l.length ≤ 1000) : PCall Tryz.prog G0 147 [.sl 1 (l.map encI)] (.i (mxN l (l.length - 1))) := by
  have key :
   AV.bool (decide ((↑(List.map encI l).length : Int) < 1)) = AV.bool false ∧ (0 : Int) ≤ 0 ∧ (0 : Int) < (↑(List.map encI l).length : Int) ∧ nth (nthR (List.map encI l) 0) 0 = AV.i (cI (List.map encI l) 0) ∧ (∃ (g : Nat), g + 1 ≤
   l.length ∧ AS.mk [(0, AV.sl 1 (List.map encI l)), (3, AV.i (cI (List.map encI l) 0)), (4, AV.i 1)] [] 1 = AS.mk [(0, AV.sl 1 (List.map encI l)), (3, AV.i (mxN l g)), (4, AV.i ((↑g : Int) + 1))] [] 1) ∧ ∀ (g : Nat), g + 1 ≤ l.length
   → (decide ((↑g : Int) + 1 < (↑(List.map encI l).length : Int)) = true → (0 : Int) ≤ (↑g : Int) + 1 ∧ (↑g : Int) + 1 < (↑(List.map encI l).length : Int) ∧ nth (nthR (List.map encI l) ((↑g : Int) + 1).toNat) 0 = AV.i (cI (List.map
   encI l) ((↑g : Int) + 1).toNat) ∧ In64 ((↑g : Int) + 1 + 1) ∧ ∃ (g' : Nat), g' + 1 ≤ l.length ∧ l.length - g' < l.length - g ∧ AS.mk [(0, AV.sl 1 (List.map encI l)), (3, AV.i (maxI (mxN l g) (cI (List.map encI l) ((↑g : Int) +
   1).toNat))), (4, AV.i ((↑g : Int) + 1 + 1))] [] 1 = AS.mk [(0, AV.sl 1 (List.map encI l)), (3, AV.i (mxN l g')), (4, AV.i ((↑g' : Int) + 1))] [] 1) ∧ (decide ((↑g : Int) + 1 < (↑(List.map encI l).length : Int)) = false → AV.i (mxN
   l g) = AV.i (mxN l (l.length - 1))) := by
    have hlm : (List.map encI l).length = l.length := List.length_map _
    refine ⟨congrArg AV.bool (decide_eq_false (by omega)), by omega, by omega, cI_at (by omega), ⟨0, by omega, ?_⟩, fun g hg => ⟨fun hd => ?_, fun hd => ?_⟩⟩
    · rw [cI_map]
      rfl
    · have hlt := of_decide_eq_true hd
      have e : ((g : Int) + 1).toNat = g + 1 := by omega
      rw [e]
      refine ⟨by omega, by omega, cI_at (by omega), by unfold In64; omega, g + 1, by omega, by omega, ?_⟩
      rw [cI_map]
      rfl
    · have := of_decide_eq_false hd
      rw [show g = l.length - 1 by omega]
  exact c_of Tryz.f147 ({ mkB spR 147 [(1, 2, rdFq), (3, 2, rdJ), (7, 4, rdJ)] (fun i => if i.beq 0 then some (la147 l) else none) with cl := cl146 }) (by kernel_rfl) (by kernel_rfl) (by kernel_rfl) (by kernel_rfl) key (by kernel_rfl)
theorem mnN_b {l : List Int} {L U : Int} : ∀ {n : Nat}, (∀ i, i ≤ n → L ≤ l.getD i default ∧ l.getD i default ≤ U) → L ≤ mnN l n ∧ mnN l n ≤ U
  | 0, h => h 0 (Nat.le_refl _)
  | n + 1, h => min_b (mnN_b fun i hi => h i (by omega)) (h (n + 1) (Nat.le_refl _))
theorem mxN_b {l : List Int} {L U : Int} : ∀ {n : Nat}, (∀ i, i ≤ n → L ≤ l.getD i default ∧ l.getD i default ≤ U) → L ≤ mxN l n ∧ mxN l n ≤ U
  | 0, h => h 0 (Nat.le_refl _)
  | n + 1, h => max_b (mxN_b fun i hi => h i (by omega)) (h (n + 1) (Nat.le_refl _))
def minD (t : Ty) : Int := mnN t.dir 7
def maxD (t : Ty) : Int := mxN t.dir 7
def sq3 (x y z : Int) : Int := x * x + y * y + z * z
def enNear (a b : Fx) (x y z : Int) : Int := sq3 (nearI x a.x b.x) (nearI y a.y b.y) (nearI z a.z b.z)
def enFar (a b : Fx) (x y z : Int) : Int := sq3 (farI x a.x b.x) (farI y a.y b.y) (farI z a.z b.z)
def enLow (t : Ty) (a b : Fx) (x y z : Int) : Int := (b.t - a.t) * (emi t (minI a.p b.p) (enFar a b x y z) * minD t * t.side).tdiv 1000000
def enHigh (t : Ty) (a b : Fx) (x y z : Int) : Int := 0 - sFloor (0 - (b.t - a.t) * emi t (maxI a.p b.p) (enNear a b x y z) * maxD t) 1000
def sp105 (t : Ty) : Nat → List AV → Option AV
  | 145, [.int _ n, .int _ a, .int _ b] => some (.agg [.i (nearI n a b), .i (farI n a b)])
  | 114, [_, .int _ p, .int _ d] => some (.i (emi t p d))
  | 146, _ => some (.i (minD t))
  | 147, _ => some (.i (maxD t))
  | n, x => spR n x
structure FxOK (a : Fx) : Prop where
  t : 0 ≤ a.t ∧ a.t ≤ 100000000
  x : -100000 ≤ a.x ∧ a.x ≤ 100000
  y : -100000 ≤ a.y ∧ a.y ≤ 100000
  z : 0 ≤ a.z ∧ a.z ≤ 20000
  p : 1 ≤ a.p ∧ a.p ≤ 100
theorem c105 (t : Ty) (a b : Fx) (x y z : Int) (hT : sTyS t = 0) (hA : FxOK a) (hB : FxOK b) (hn : 0 ≤ b.t - a.t ∧ b.t - a.t ≤ 1000) (hx : -100000 ≤ x ∧ x ≤ 100000) (hy : -100000 ≤ y ∧ y ≤ 100000) (hz : 0 ≤ z ∧ z ≤ 20000) : PCall Tryz.prog G0 105 [.agg (encTy t), .agg (encFx a), .agg (encFx b), .agg [.i x, .i y, .i z]] (.agg [.i (enLow t a b x y z), .i (enHigh t a b x y z)]) := by
  have key :
   PCall Tryz.prog G0 145 [AV.i x, AV.i a.x, AV.i b.x] (AV.agg [AV.i (nearI x a.x b.x), AV.i (farI x a.x b.x)]) ∧ PCall Tryz.prog G0 145 [AV.i y, AV.i a.y, AV.i b.y] (AV.agg [AV.i (nearI y a.y b.y), AV.i (farI y a.y b.y)]) ∧ PCall
   Tryz.prog G0 145 [AV.i z, AV.i a.z, AV.i b.z] (AV.agg [AV.i (nearI z a.z b.z), AV.i (farI z a.z b.z)]) ∧ In64 (b.t - a.t) ∧ (0 : Int) ≤ 0 ∧ (0 : Int) < (↑2 : Int) ∧ (0 : Int) ≤ 0 ∧ (0 : Int) < (↑2 : Int) ∧ In64 (nearI x a.x b.x *
   nearI x a.x b.x) ∧ (0 : Int) ≤ 0 ∧ (0 : Int) < (↑2 : Int) ∧ (0 : Int) ≤ 0 ∧ (0 : Int) < (↑2 : Int) ∧ In64 (nearI y a.y b.y * nearI y a.y b.y) ∧ In64 (nearI x a.x b.x * nearI x a.x b.x + nearI y a.y b.y * nearI y a.y b.y) ∧ (0 :
   Int) ≤ 0 ∧ (0 : Int) < (↑2 : Int) ∧ (0 : Int) ≤ 0 ∧ (0 : Int) < (↑2 : Int) ∧ In64 (nearI z a.z b.z * nearI z a.z b.z) ∧ In64 (nearI x a.x b.x * nearI x a.x b.x + nearI y a.y b.y * nearI y a.y b.y + nearI z a.z b.z * nearI z a.z
   b.z) ∧ (0 : Int) ≤ 1 ∧ (1 : Int) < (↑2 : Int) ∧ (0 : Int) ≤ 1 ∧ (1 : Int) < (↑2 : Int) ∧ In64 (farI x a.x b.x * farI x a.x b.x) ∧ (0 : Int) ≤ 1 ∧ (1 : Int) < (↑2 : Int) ∧ (0 : Int) ≤ 1 ∧ (1 : Int) < (↑2 : Int) ∧ In64 (farI y a.y
   b.y * farI y a.y b.y) ∧ In64 (farI x a.x b.x * farI x a.x b.x + farI y a.y b.y * farI y a.y b.y) ∧ (0 : Int) ≤ 1 ∧ (1 : Int) < (↑2 : Int) ∧ (0 : Int) ≤ 1 ∧ (1 : Int) < (↑2 : Int) ∧ In64 (farI z a.z b.z * farI z a.z b.z) ∧ In64
   (farI x a.x b.x * farI x a.x b.x + farI y a.y b.y * farI y a.y b.y + farI z a.z b.z * farI z a.z b.z) ∧ In64 (emi t (minI a.p b.p) (farI x a.x b.x * farI x a.x b.x + farI y a.y b.y * farI y a.y b.y + farI z a.z b.z * farI z a.z
   b.z) * minD t) ∧ In64 (emi t (minI a.p b.p) (farI x a.x b.x * farI x a.x b.x + farI y a.y b.y * farI y a.y b.y + farI z a.z b.z * farI z a.z b.z) * minD t * t.side) ∧ ¬(1000000 : Int) = (0 : Int) ∧ In64 ((emi t (minI a.p b.p) (farI
   x a.x b.x * farI x a.x b.x + farI y a.y b.y * farI y a.y b.y + farI z a.z b.z * farI z a.z b.z) * minD t * t.side).tdiv 1000000) ∧ PCall Tryz.prog G0 114 [AV.agg [AV.str t.name, AV.sl 1 (List.map encI t.sh), AV.i t.d0, AV.i t.d1,
   AV.i t.d2, AV.i t.d3, AV.i t.d4, AV.i t.d5, AV.i t.d6, AV.i t.d7, AV.i t.side, AV.sl 1 (List.map encI t.sq), AV.sl 2 (List.map encSg t.st)], AV.i (minI a.p b.p), AV.i (farI x a.x b.x * farI x a.x b.x + farI y a.y b.y * farI y a.y
   b.y + farI z a.z b.z * farI z a.z b.z)] (AV.i (emi t (minI a.p b.p) (farI x a.x b.x * farI x a.x b.x + farI y a.y b.y * farI y a.y b.y + farI z a.z b.z * farI z a.z b.z))) ∧ PCall Tryz.prog G0 146 [AV.sl 1 [[AV.i t.d0], [AV.i
   t.d1], [AV.i t.d2], [AV.i t.d3], [AV.i t.d4], [AV.i t.d5], [AV.i t.d6], [AV.i t.d7]]] (AV.i (minD t)) ∧ In64 ((b.t - a.t) * emi t (maxI a.p b.p) (nearI x a.x b.x * nearI x a.x b.x + nearI y a.y b.y * nearI y a.y b.y + nearI z a.z
   b.z * nearI z a.z b.z)) ∧ In64 ((b.t - a.t) * emi t (maxI a.p b.p) (nearI x a.x b.x * nearI x a.x b.x + nearI y a.y b.y * nearI y a.y b.y + nearI z a.z b.z * nearI z a.z b.z) * maxD t) ∧ PCall Tryz.prog G0 114 [AV.agg [AV.str
   t.name, AV.sl 1 (List.map encI t.sh), AV.i t.d0, AV.i t.d1, AV.i t.d2, AV.i t.d3, AV.i t.d4, AV.i t.d5, AV.i t.d6, AV.i t.d7, AV.i t.side, AV.sl 1 (List.map encI t.sq), AV.sl 2 (List.map encSg t.st)], AV.i (maxI a.p b.p), AV.i
   (nearI x a.x b.x * nearI x a.x b.x + nearI y a.y b.y * nearI y a.y b.y + nearI z a.z b.z * nearI z a.z b.z)] (AV.i (emi t (maxI a.p b.p) (nearI x a.x b.x * nearI x a.x b.x + nearI y a.y b.y * nearI y a.y b.y + nearI z a.z b.z *
   nearI z a.z b.z))) ∧ PCall Tryz.prog G0 147 [AV.sl 1 [[AV.i t.d0], [AV.i t.d1], [AV.i t.d2], [AV.i t.d3], [AV.i t.d4], [AV.i t.d5], [AV.i t.d6], [AV.i t.d7]]] (AV.i (maxD t)) ∧ In64 ((b.t - a.t) * (emi t (minI a.p b.p) (farI x a.x
   b.x * farI x a.x b.x + farI y a.y b.y * farI y a.y b.y + farI z a.z b.z * farI z a.z b.z) * minD t * t.side).tdiv 1000000) ∧ In64 ((0 : Int) - (b.t - a.t) * emi t (maxI a.p b.p) (nearI x a.x b.x * nearI x a.x b.x + nearI y a.y b.y
   * nearI y a.y b.y + nearI z a.z b.z * nearI z a.z b.z) * maxD t) ∧ In64 ((0 : Int) - sFloor ((0 : Int) - (b.t - a.t) * emi t (maxI a.p b.p) (nearI x a.x b.x * nearI x a.x b.x + nearI y a.y b.y * nearI y a.y b.y + nearI z a.z b.z *
   nearI z a.z b.z) * maxD t) (1000 : Int)) ∧ PCall Tryz.prog G0 91 [AV.i ((0 : Int) - (b.t - a.t) * emi t (maxI a.p b.p) (nearI x a.x b.x * nearI x a.x b.x + nearI y a.y b.y * nearI y a.y b.y + nearI z a.z b.z * nearI z a.z b.z) *
   maxD t), AV.i (1000 : Int)] (AV.i (sFloor ((0 : Int) - (b.t - a.t) * emi t (maxI a.p b.p) (nearI x a.x b.x * nearI x a.x b.x + nearI y a.y b.y * nearI y a.y b.y + nearI z a.z b.z * nearI z a.z b.z) * maxD t) (1000 : Int))) ∧ AV.agg
   [AV.i ((b.t - a.t) * (emi t (minI a.p b.p) (farI x a.x b.x * farI x a.x b.x + farI y a.y b.y * farI y a.y b.y + farI z a.z b.z * farI z a.z b.z) * minD t * t.side).tdiv 1000000), AV.i ((0 : Int) - sFloor ((0 : Int) - (b.t - a.t) *
   emi t (maxI a.p b.p) (nearI x a.x b.x * nearI x a.x b.x + nearI y a.y b.y * nearI y a.y b.y + nearI z a.z b.z * nearI z a.z b.z) * maxD t) (1000 : Int))] = AV.agg [AV.i (enLow t a b x y z), AV.i (enHigh t a b x y z)] := by
    have hS := side_of hT
    have hO := ok_of hT
    obtain ⟨nx, fx⟩ := near_b hx hA.x hB.x
    obtain ⟨ny, fy⟩ := near_b hy hA.y hB.y
    obtain ⟨nz, fz⟩ := near_b (n := z) (a := a.z) (b := b.z) (by omega) (by have := hA.z; omega) (by have := hB.z; omega)
    have hp1 := min_b hA.p hB.p
    have hp2 := max_b hA.p hB.p
    have d1 : 0 ≤ minD t ∧ minD t ≤ 2000 := mnN_b fun i hi => hS.1 i (by omega)
    have d2 : 0 ≤ maxD t ∧ maxD t ≤ 2000 := mxN_b fun i hi => hS.1 i (by omega)
    obtain ⟨⟨e1, e2, e3, e4⟩, _, _, _, _⟩ := en_in (emi_b (d := enFar a b x y z) hO hp1.1 hp1.2) d1 hS.2 hn
    obtain ⟨_, ⟨g1, g2, g3⟩, ⟨g4, g5, g6, g7⟩, _, _⟩ := en_in (emi_b (d := enNear a b x y z) hO hp2.1 hp2.2) d2 hS.2 hn
    have s1 := sq_b nx
    have s2 := sq_b ny
    have s3 := sq_b nz
    have s4 := sq_b fx
    have s5 := sq_b fy
    have s6 := sq_b fz
    have bA := hA.t
    have bB := hB.t
    have xA := hA.x
    have xB := hB.x
    have yA := hA.y
    have yB := hB.y
    have zA := hA.z
    have zB := hB.z
    exact ⟨c145 _ _ _ (by omega) (by omega) (by omega), c145 _ _ _ (by omega) (by omega) (by omega), c145 _ _ _ (by omega) (by omega) (by omega), by unfold In64; omega, by decide, by decide, by decide, by decide, by unfold In64; omega, by decide, by decide, by decide, by decide, by unfold In64; omega, by unfold In64; omega, by decide, by decide, by decide, by decide, by unfold In64; omega, by unfold In64; omega, by decide, by decide, by decide, by decide, by unfold In64; omega, by decide, by decide, by decide, by decide, by unfold In64; omega, by unfold In64; omega, by decide, by decide, by decide, by decide, by unfold In64; omega, by unfold In64; omega, e1, e2, by decide, e3, c114 t _ _ hO hp1.1 hp1.2, c146 t.dir (show 1 ≤ (8 : Nat) by decide) (show (8 : Nat) ≤ 1000 by decide), g1, g2, c114 t _ _ hO hp2.1 hp2.2, c147 t.dir (show 1 ≤ (8 : Nat) by decide) (show (8 : Nat) ≤ 1000 by decide), e4, g3, g7, c91 _ _ (by decide) g4 g5 g6, rfl⟩
  exact c_of Tryz.f105 (fzB (mkB (sp105 t) 105 [] noLa)) (by kernel_rfl) (by kernel_rfl) (by kernel_rfl) (by kernel_rfl) key (by kernel_rfl)
end Go.Proofs.YtjhjmncjidbieaaGreatDoor
namespace Go.Proofs.YtjhjmncjidbieaaGreatDoor
open Go Go.Av Go.RowKit
def fxAt (l : List Fx) (i : Nat) : Fx := l.getD i default
def lowN (t : Ty) (l : List Fx) (x y z : Int) : Nat → Int
  | 0 => 0
  | i + 1 => lowN t l x y z i + enLow t (fxAt l i) (fxAt l (i + 1)) x y z
def highN (t : Ty) (l : List Fx) (x y z : Int) : Nat → Int
  | 0 => 0
  | i + 1 => highN t l x y z i + enHigh t (fxAt l i) (fxAt l (i + 1)) x y z
theorem fx_ok {l : List Fx} (h : TrackOK l) {i : Nat} (hi : i < l.length) : FxOK (fxAt l i) := by
  have := h.b i hi
  exact ⟨this.1, this.2.1, this.2.2.1, this.2.2.2.1, this.2.2.2.2⟩
theorem seg_dt {l : List Fx} (h : TrackOK l) (hs : lastT l - firstT l ≤ 1000) {i : Nat} (hi : i + 1 < l.length) : 0 ≤ (fxAt l (i + 1)).t - (fxAt l i).t ∧ (fxAt l (i + 1)).t - (fxAt l i).t ≤ 1000 := by
  have hu : ∀ j, j + 1 < l.length → (l.getD j default).t ≤ (l.getD (j + 1) default).t := fun j hj => by
    have := h.up j hj
    omega
  have h1 := up_chain (E := fun j => (l.getD j default).t) hu i 0 (by omega)
  have h2 := up_chain (E := fun j => (l.getD j default).t) hu (l.length - 1 - (i + 1)) (i + 1) (by omega)
  have h3 := hu i hi
  have h1 : firstT l ≤ (fxAt l i).t := by
    rw [Nat.zero_add] at h1
    exact h1
  have h2 : (fxAt l (i + 1)).t ≤ lastT l := by
    rw [show i + 1 + (l.length - 1 - (i + 1)) = l.length - 1 by omega] at h2
    exact h2
  have h3 : (fxAt l i).t ≤ (fxAt l (i + 1)).t := h3
  omega
theorem en_b {t : Ty} {a b : Fx} {x y z : Int} (hT : sTyS t = 0) (hA : FxOK a) (hB : FxOK b) (hn : 0 ≤ b.t - a.t ∧ b.t - a.t ≤ 1000) : (-100000000000000 ≤ enLow t a b x y z ∧ enLow t a b x y z ≤ 100000000000000) ∧ (-100000000000000 ≤ enHigh t a b x y z ∧ enHigh t a b x y z ≤ 100000000000000) := by
  have hS := side_of hT
  have hO := ok_of hT
  have hp1 := min_b hA.p hB.p
  have hp2 := max_b hA.p hB.p
  have d1 : 0 ≤ minD t ∧ minD t ≤ 2000 := mnN_b fun i hi => hS.1 i (by omega)
  have d2 : 0 ≤ maxD t ∧ maxD t ≤ 2000 := mxN_b fun i hi => hS.1 i (by omega)
  exact ⟨(en_in (emi_b (d := enFar a b x y z) hO hp1.1 hp1.2) d1 hS.2 hn).2.2.2.1, (en_in (emi_b (d := enNear a b x y z) hO hp2.1 hp2.2) d2 hS.2 hn).2.2.2.2⟩
theorem sums_b {t : Ty} {l : List Fx} {x y z : Int} (hT : sTyS t = 0) (hO : TrackOK l) (hs : lastT l - firstT l ≤ 1000) : ∀ i : Nat, i + 1 ≤ l.length → (-100000000000000 * (i : Int) ≤ lowN t l x y z i ∧ lowN t l x y z i ≤ 100000000000000 * i) ∧ (-100000000000000 * (i : Int) ≤ highN t l x y z i ∧ highN t l x y z i ≤ 100000000000000 * i)
  | 0, _ => by simp [lowN, highN]
  | i + 1, hi => by
    have h1 := sums_b (x := x) (y := y) (z := z) hT hO hs i (by omega)
    have h2 := en_b (x := x) (y := y) (z := z) hT (fx_ok hO (i := i) (by omega)) (fx_ok hO (i := i + 1) (by omega)) (seg_dt hO hs (by omega))
    simp only [lowN, highN]
    omega
def chkEn (t : Ty) (l : List Fx) (x y z : Int) : Int := sFirst [sTyS t, sTrackS l, sPlace x y z]
def rEnc (t : Ty) (l : List Fx) (x y z : Int) : List AV := if chkEn t l x y z != 0 then [.agg [.i 0, .i 0], .i (chkEn t l x y z)] else [.agg [.i (lowN t l x y z (l.length - 1)), .i (highN t l x y z (l.length - 1))], .i 0]
def sp31 (t : Ty) (l : List Fx) (x y z : Int) : Nat → List AV → Option AV
  | 53, _ => some (.i (sTyS t))
  | 76, _ => some (.i (sTrackS l))
  | 105, [_, .agg [.int _ a1, .int _ a2, .int _ a3, .int _ a4, .int _ a5], .agg [.int _ b1, .int _ b2, .int _ b3, .int _ b4, .int _ b5], _] => some (.agg [.i (enLow t ⟨a1, a2, a3, a4, a5⟩ ⟨b1, b2, b3, b4, b5⟩ x y z), .i (enHigh t ⟨a1, a2, a3, a4, a5⟩ ⟨b1, b2, b3, b4, b5⟩ x y z)])
  | n, w => spR n w
def la31 (t : Ty) (l : List Fx) (x y z : Int) : LA := {
  pre := [.reno 6 1, .reno 9 2, .keep [1, 3, 5, 6, 9, 26, 27] [1, 2], .bound 3], post := [.reno 6 1, .reno 9 2, .keep [1, 3, 5, 6, 9, 26, 27] [1, 2], .bound 3]
  Gh := Nat
  st := fun i => ⟨[(1, .sl 5 (l.map encFx)), (3, .elt 13 [encTy t] 0 0), (5, .elt 3 [[.i x, .i y, .i z]] 0 0), (6, .ptr 1 0), (9, .ptr 2 0), (26, .i ((l.map encFx).length - 1)), (27, .i i)], [(1, .box [.i 0, .i 0]), (2, .box [.i (lowN t l x y z i), .i (highN t l x y z i)])], 3⟩
  ok := fun i => i + 1 ≤ l.length
  ms := fun i => l.length - i }
theorem c31 (t : Ty) (l : List Fx) (x y z : Int) (hn : t.st.length ≤ 1000) (hs : t.sh.length ≤ 1000) (hq : t.sq.length ≤ 1000) (he : ∀ s, s ∈ t.st → s.e.length ≤ 1000) (hN : t.name.length ≤ 1000000) (hl : l.length ≤ 1000) : PCall Tryz.prog G0 31 [.agg (encTy t), .sl 5 (l.map encFx), .agg [.i x, .i y, .i z]] (.tup (rEnc t l x y z)) := by
  have key :
   PCall Tryz.prog G0 53 [AV.agg (encTy t)] (AV.i (sTyS t)) ∧ PCall Tryz.prog G0 76 [AV.sl 5 (List.map encFx l)] (AV.i (sTrackS l)) ∧ PCall Tryz.prog G0 104 [AV.agg [AV.i x, AV.i y, AV.i z]] (AV.i (sPlace x y z)) ∧ PCall Tryz.prog G0
   87 [AV.sl 1 [[AV.i (sTyS t)], [AV.i (sTrackS l)], [AV.i (sPlace x y z)]]] (AV.i (sFirst [hdI [AV.i (sTyS t)], hdI [AV.i (sTrackS l)], hdI [AV.i (sPlace x y z)]])) ∧ ((sFirst [hdI [AV.i (sTyS t)], hdI [AV.i (sTrackS l)], hdI [AV.i
   (sPlace x y z)]] != 0) = true → AV.tup [AV.agg [AV.i 0, AV.i 0], AV.i (sFirst [hdI [AV.i (sTyS t)], hdI [AV.i (sTrackS l)], hdI [AV.i (sPlace x y z)]])] = AV.tup (rEnc t l x y z)) ∧ ((sFirst [hdI [AV.i (sTyS t)], hdI [AV.i (sTrackS
   l)], hdI [AV.i (sPlace x y z)]] != 0) = false → In64 ((↑(List.map encFx l).length : Int) - 1) ∧ (∃ (g : Nat), g + 1 ≤ l.length ∧ AS.mk [(1, AV.sl 5 (List.map encFx l)), (3, AV.elt 13 [(encTy t)] 0 0), (5, AV.elt 3 [[AV.i x, AV.i y,
   AV.i z]] 0 0), (6, AV.ptr 1 0), (9, AV.ptr 2 0), (26, AV.i ((↑(List.map encFx l).length : Int) - 1)), (27, AV.i 0)] [(1, ABlk.box [AV.i 0, AV.i 0]), (2, ABlk.box [AV.i 0, AV.i 0])] 3 = AS.mk [(1, AV.sl 5 (List.map encFx l)), (3,
   AV.elt 13 [(encTy t)] 0 0), (5, AV.elt 3 [[AV.i x, AV.i y, AV.i z]] 0 0), (6, AV.ptr 1 0), (9, AV.ptr 2 0), (26, AV.i ((↑(List.map encFx l).length : Int) - 1)), (27, AV.i (↑g : Int))] [(1, ABlk.box [AV.i 0, AV.i 0]), (2, ABlk.box
   [AV.i (lowN t l x y z g), AV.i (highN t l x y z g)])] 3) ∧ ∀ (g : Nat), g + 1 ≤ l.length → (decide ((↑g : Int) < (↑(List.map encFx l).length : Int) - 1) = true → (0 : Int) ≤ (↑g : Int) ∧ (↑g : Int) < (↑(List.map encFx l).length :
   Int) ∧ In64 ((↑g : Int) + 1) ∧ (0 : Int) ≤ (↑g : Int) + 1 ∧ (↑g : Int) + 1 < (↑(List.map encFx l).length : Int) ∧ AV.agg (nthR (List.map encFx l) (↑g : Int).toNat) = AV.agg [AV.i (l.getD (↑g : Int).toNat default).t, AV.i (l.getD
   (↑g : Int).toNat default).x, AV.i (l.getD (↑g : Int).toNat default).y, AV.i (l.getD (↑g : Int).toNat default).z, AV.i (l.getD (↑g : Int).toNat default).p] ∧ AV.agg (nthR (List.map encFx l) ((↑g : Int) + 1).toNat) = AV.agg [AV.i
   (l.getD ((↑g : Int) + 1).toNat default).t, AV.i (l.getD ((↑g : Int) + 1).toNat default).x, AV.i (l.getD ((↑g : Int) + 1).toNat default).y, AV.i (l.getD ((↑g : Int) + 1).toNat default).z, AV.i (l.getD ((↑g : Int) + 1).toNat
   default).p] ∧ PCall Tryz.prog G0 105 [AV.agg (encTy t), AV.agg [AV.i (l.getD (↑g : Int).toNat default).t, AV.i (l.getD (↑g : Int).toNat default).x, AV.i (l.getD (↑g : Int).toNat default).y, AV.i (l.getD (↑g : Int).toNat default).z,
   AV.i (l.getD (↑g : Int).toNat default).p], AV.agg [AV.i (l.getD ((↑g : Int) + 1).toNat default).t, AV.i (l.getD ((↑g : Int) + 1).toNat default).x, AV.i (l.getD ((↑g : Int) + 1).toNat default).y, AV.i (l.getD ((↑g : Int) + 1).toNat
   default).z, AV.i (l.getD ((↑g : Int) + 1).toNat default).p], AV.agg [AV.i x, AV.i y, AV.i z]] (AV.agg [AV.i (enLow t (Fx.mk (l.getD (↑g : Int).toNat default).t (l.getD (↑g : Int).toNat default).x (l.getD (↑g : Int).toNat default).y
   (l.getD (↑g : Int).toNat default).z (l.getD (↑g : Int).toNat default).p) (Fx.mk (l.getD ((↑g : Int) + 1).toNat default).t (l.getD ((↑g : Int) + 1).toNat default).x (l.getD ((↑g : Int) + 1).toNat default).y (l.getD ((↑g : Int) +
   1).toNat default).z (l.getD ((↑g : Int) + 1).toNat default).p) x y z), AV.i (enHigh t (Fx.mk (l.getD (↑g : Int).toNat default).t (l.getD (↑g : Int).toNat default).x (l.getD (↑g : Int).toNat default).y (l.getD (↑g : Int).toNat
   default).z (l.getD (↑g : Int).toNat default).p) (Fx.mk (l.getD ((↑g : Int) + 1).toNat default).t (l.getD ((↑g : Int) + 1).toNat default).x (l.getD ((↑g : Int) + 1).toNat default).y (l.getD ((↑g : Int) + 1).toNat default).z (l.getD
   ((↑g : Int) + 1).toNat default).p) x y z)]) ∧ In64 (lowN t l x y z g + enLow t (Fx.mk (l.getD (↑g : Int).toNat default).t (l.getD (↑g : Int).toNat default).x (l.getD (↑g : Int).toNat default).y (l.getD (↑g : Int).toNat default).z
   (l.getD (↑g : Int).toNat default).p) (Fx.mk (l.getD ((↑g : Int) + 1).toNat default).t (l.getD ((↑g : Int) + 1).toNat default).x (l.getD ((↑g : Int) + 1).toNat default).y (l.getD ((↑g : Int) + 1).toNat default).z (l.getD ((↑g : Int)
   + 1).toNat default).p) x y z) ∧ In64 (highN t l x y z g + enHigh t (Fx.mk (l.getD (↑g : Int).toNat default).t (l.getD (↑g : Int).toNat default).x (l.getD (↑g : Int).toNat default).y (l.getD (↑g : Int).toNat default).z (l.getD (↑g :
   Int).toNat default).p) (Fx.mk (l.getD ((↑g : Int) + 1).toNat default).t (l.getD ((↑g : Int) + 1).toNat default).x (l.getD ((↑g : Int) + 1).toNat default).y (l.getD ((↑g : Int) + 1).toNat default).z (l.getD ((↑g : Int) + 1).toNat
   default).p) x y z) ∧ In64 ((↑g : Int) + 1) ∧ ∃ (g' : Nat), g' + 1 ≤ l.length ∧ l.length - g' < l.length - g ∧ AS.mk [(1, AV.sl 5 (List.map encFx l)), (3, AV.elt 13 [(encTy t)] 0 0), (5, AV.elt 3 [[AV.i x, AV.i y, AV.i z]] 0 0), (6,
   AV.ptr 1 0), (9, AV.ptr 2 0), (26, AV.i ((↑(List.map encFx l).length : Int) - 1)), (27, AV.i ((↑g : Int) + 1))] [(1, ABlk.box [AV.i 0, AV.i 0]), (2, ABlk.box [AV.i (lowN t l x y z g + enLow t (Fx.mk (l.getD (↑g : Int).toNat
   default).t (l.getD (↑g : Int).toNat default).x (l.getD (↑g : Int).toNat default).y (l.getD (↑g : Int).toNat default).z (l.getD (↑g : Int).toNat default).p) (Fx.mk (l.getD ((↑g : Int) + 1).toNat default).t (l.getD ((↑g : Int) +
   1).toNat default).x (l.getD ((↑g : Int) + 1).toNat default).y (l.getD ((↑g : Int) + 1).toNat default).z (l.getD ((↑g : Int) + 1).toNat default).p) x y z), AV.i (highN t l x y z g + enHigh t (Fx.mk (l.getD (↑g : Int).toNat
   default).t (l.getD (↑g : Int).toNat default).x (l.getD (↑g : Int).toNat default).y (l.getD (↑g : Int).toNat default).z (l.getD (↑g : Int).toNat default).p) (Fx.mk (l.getD ((↑g : Int) + 1).toNat default).t (l.getD ((↑g : Int) +
   1).toNat default).x (l.getD ((↑g : Int) + 1).toNat default).y (l.getD ((↑g : Int) + 1).toNat default).z (l.getD ((↑g : Int) + 1).toNat default).p) x y z)])] 3 = AS.mk [(1, AV.sl 5 (List.map encFx l)), (3, AV.elt 13 [(encTy t)] 0
   0), (5, AV.elt 3 [[AV.i x, AV.i y, AV.i z]] 0 0), (6, AV.ptr 1 0), (9, AV.ptr 2 0), (26, AV.i ((↑(List.map encFx l).length : Int) - 1)), (27, AV.i (↑g' : Int))] [(1, ABlk.box [AV.i 0, AV.i 0]), (2, ABlk.box [AV.i (lowN t l x y z
   g'), AV.i (highN t l x y z g')])] 3) ∧ (decide ((↑g : Int) < (↑(List.map encFx l).length : Int) - 1) = false → AV.tup [AV.agg [AV.i (lowN t l x y z g), AV.i (highN t l x y z g)], AV.i 0] = AV.tup (rEnc t l x y z))) := by
    have hlm : (List.map encFx l).length = l.length := List.length_map _
    refine ⟨c53 t hn hs hq he hN, c76 l (by omega), c104 _ _ _, c87 [_, _, _] (by simp), fun h => ?_, fun h => ?_⟩
    · have h' : (chkEn t l x y z != 0) = true := h
      rw [rEnc, if_pos h']
      rfl
    · have h' : (chkEn t l x y z != 0) = false := h
      have hz : chkEn t l x y z = 0 := by simpa using h'
      have hz2 := hz
      unfold chkEn at hz2
      simp only [first_zero] at hz2
      obtain ⟨hT, hTr, hP, _⟩ := hz2
      rw [track_eq] at hTr
      obtain ⟨hO, hsp⟩ := track_ok hTr
      have p := place_ok hP
      have hn1 := hO.n1
      have hn2 := hO.n2
      refine ⟨by unfold In64; omega, ⟨0, by omega, rfl⟩, fun g hg => ⟨fun hd => ?_, fun hd => ?_⟩⟩
      · have hlt := of_decide_eq_true hd
        rw [hlm] at hlt
        have e : ((g : Int) + 1).toNat = g + 1 := by omega
        rw [e, Int.toNat_natCast]
        have b := sums_b (x := x) (y := y) (z := z) hT hO hsp (g + 1) (by omega)
        refine ⟨by omega, by omega, by unfold In64; omega, by omega, by omega, by rw [row_at encFx (by omega)]; rfl, by rw [row_at encFx (by omega)]; rfl, c105 t (fxAt l g) (fxAt l (g + 1)) x y z hT (fx_ok hO (by omega)) (fx_ok hO (by omega)) (seg_dt hO hsp (by omega)) p.1 p.2.1 p.2.2,
          (show In64 (lowN t l x y z (g + 1)) from by unfold In64; omega), (show In64 (highN t l x y z (g + 1)) from by unfold In64; omega), by unfold In64; omega, g + 1, by omega, by omega, rfl⟩
      · have := of_decide_eq_false hd
        rw [hlm] at this
        rw [show g = l.length - 1 by omega, rEnc, if_neg (by rw [h']; decide)]
  exact c_of Tryz.f31 (fzB (mkB (sp31 t l x y z) 31 [(8, 4, rdL 5 encFx l 5 true), (8, 9, rdL 5 encFx l 5 true)] (fun i => if i.beq 0 then some (la31 t l x y z) else none))) (by kernel_rfl) (by kernel_rfl) (by kernel_rfl) (by kernel_rfl) key (by kernel_rfl)
end Go.Proofs.YtjhjmncjidbieaaGreatDoor
namespace Go.Proofs.YtjhjmncjidbieaaGreatDoor
open Go Go.Av Go.RowKit
def sp38 (t : Ty) : Nat → List AV → Option AV
  | 111, [.int _ n, .int _ a, .int _ b] => some (.tup [.i (nearI n a b), .i (farI n a b)])
  | 49, [_, .int _ p, .int _ d] => some (.i (emi t p d))
  | 96, [.int _ n, .int _ d] => some (.i (0 - sFloor (0 - n) d))
  | n, w => spR n w
def la38a (t : Ty) (l : List Fx) (x y z : Int) : LA := {
  pre := [.reno 6 1, .keep [1, 3, 5, 6, 7, 8, 9] [1], .bound 2], post := [.reno 6 1, .keep [1, 3, 5, 6, 7, 8, 9] [1], .bound 2]
  Gh := Nat
  st := fun i => ⟨[(1, .sl 5 (l.map encFx)), (3, .elt 13 [encTy t] 0 0), (5, .elt 3 [[.i x, .i y, .i z]] 0 0), (6, .ptr 1 0), (7, .i (mnN t.dir i)), (8, .i (mxN t.dir i)), (9, .i ((i : Int) + 1))], [(1, .box [.i 0, .i 0])], 2⟩
  ok := fun i => i + 1 ≤ 8
  ms := fun i => 8 - i }
def la38b (t : Ty) (l : List Fx) (x y z : Int) : LA := {
  pre := [.reno 6 1, .reno 10 2, .keep [1, 3, 5, 6, 7, 8, 10, 11] [1, 2], .bound 3], post := [.reno 6 1, .reno 10 2, .keep [1, 3, 5, 6, 7, 8, 10, 11] [1, 2], .bound 3]
  Gh := Nat
  st := fun i => ⟨[(1, .sl 5 (l.map encFx)), (3, .elt 13 [encTy t] 0 0), (5, .elt 3 [[.i x, .i y, .i z]] 0 0), (6, .ptr 1 0), (7, .i (minD t)), (8, .i (maxD t)), (10, .ptr 2 0), (11, .i i)], [(1, .box [.i 0, .i 0]), (2, .box [.i (lowN t l x y z i), .i (highN t l x y z i)])], 3⟩
  ok := fun i => i + 1 ≤ l.length
  ms := fun i => l.length - i }
theorem c38 (t : Ty) (l : List Fx) (x y z : Int) (hT : sTyS t = 0) (hO : TrackOK l) (hsp : lastT l - firstT l ≤ 1000) (hx : -100000 ≤ x ∧ x ≤ 100000) (hy : -100000 ≤ y ∧ y ≤ 100000) (hz : 0 ≤ z ∧ z ≤ 20000) : PCall Tryz.prog G0 38 [.agg (encTy t), .sl 5 (l.map encFx), .agg [.i x, .i y, .i z]] (.agg [.i (lowN t l x y z (l.length - 1)), .i (highN t l x y z (l.length - 1))]) := by
  have key :
   (0 : Int) ≤ 0 ∧ (0 : Int) < (↑8 : Int) ∧ (0 : Int) ≤ 0 ∧ (0 : Int) < (↑8 : Int) ∧ (∃ (g : Nat), g + 1 ≤ 8 ∧ AS.mk [(1, AV.sl 5 (List.map encFx l)), (3, AV.elt 13 [(encTy t)] 0 0), (5, AV.elt 3 [[AV.i x, AV.i y, AV.i z]] 0 0), (6,
   AV.ptr 1 0), (7, AV.i t.d0), (8, AV.i t.d0), (9, AV.i 1)] [(1, ABlk.box [AV.i 0, AV.i 0])] 2 = AS.mk [(1, AV.sl 5 (List.map encFx l)), (3, AV.elt 13 [(encTy t)] 0 0), (5, AV.elt 3 [[AV.i x, AV.i y, AV.i z]] 0 0), (6, AV.ptr 1 0),
   (7, AV.i (mnN [t.d0, t.d1, t.d2, t.d3, t.d4, t.d5, t.d6, t.d7] g)), (8, AV.i (mxN [t.d0, t.d1, t.d2, t.d3, t.d4, t.d5, t.d6, t.d7] g)), (9, AV.i ((↑g : Int) + 1))] [(1, ABlk.box [AV.i 0, AV.i 0])] 2) ∧ ∀ (g : Nat), g + 1 ≤ 8 →
   (decide ((↑g : Int) + 1 < 8) = true → (0 : Int) ≤ (↑g : Int) + 1 ∧ (↑g : Int) + 1 < (↑8 : Int) ∧ (0 : Int) ≤ (↑g : Int) + 1 ∧ (↑g : Int) + 1 < (↑8 : Int) ∧ nth (nthR [[AV.i t.d0], [AV.i t.d1], [AV.i t.d2], [AV.i t.d3], [AV.i t.d4],
   [AV.i t.d5], [AV.i t.d6], [AV.i t.d7]] ((↑g : Int) + 1).toNat) 0 = AV.i (cI [[AV.i t.d0], [AV.i t.d1], [AV.i t.d2], [AV.i t.d3], [AV.i t.d4], [AV.i t.d5], [AV.i t.d6], [AV.i t.d7]] ((↑g : Int) + 1).toNat) ∧ nth (nthR [[AV.i t.d0],
   [AV.i t.d1], [AV.i t.d2], [AV.i t.d3], [AV.i t.d4], [AV.i t.d5], [AV.i t.d6], [AV.i t.d7]] ((↑g : Int) + 1).toNat) 0 = AV.i (cI [[AV.i t.d0], [AV.i t.d1], [AV.i t.d2], [AV.i t.d3], [AV.i t.d4], [AV.i t.d5], [AV.i t.d6], [AV.i
   t.d7]] ((↑g : Int) + 1).toNat) ∧ In64 ((↑g : Int) + 1 + 1) ∧ ∃ (g' : Nat), g' + 1 ≤ 8 ∧ 8 - g' < 8 - g ∧ AS.mk [(1, AV.sl 5 (List.map encFx l)), (3, AV.elt 13 [(encTy t)] 0 0), (5, AV.elt 3 [[AV.i x, AV.i y, AV.i z]] 0 0), (6,
   AV.ptr 1 0), (7, AV.i (minI (mnN [t.d0, t.d1, t.d2, t.d3, t.d4, t.d5, t.d6, t.d7] g) (cI [[AV.i t.d0], [AV.i t.d1], [AV.i t.d2], [AV.i t.d3], [AV.i t.d4], [AV.i t.d5], [AV.i t.d6], [AV.i t.d7]] ((↑g : Int) + 1).toNat))), (8, AV.i
   (maxI (mxN [t.d0, t.d1, t.d2, t.d3, t.d4, t.d5, t.d6, t.d7] g) (cI [[AV.i t.d0], [AV.i t.d1], [AV.i t.d2], [AV.i t.d3], [AV.i t.d4], [AV.i t.d5], [AV.i t.d6], [AV.i t.d7]] ((↑g : Int) + 1).toNat))), (9, AV.i ((↑g : Int) + 1 + 1))]
   [(1, ABlk.box [AV.i 0, AV.i 0])] 2 = AS.mk [(1, AV.sl 5 (List.map encFx l)), (3, AV.elt 13 [(encTy t)] 0 0), (5, AV.elt 3 [[AV.i x, AV.i y, AV.i z]] 0 0), (6, AV.ptr 1 0), (7, AV.i (mnN [t.d0, t.d1, t.d2, t.d3, t.d4, t.d5, t.d6,
   t.d7] g')), (8, AV.i (mxN [t.d0, t.d1, t.d2, t.d3, t.d4, t.d5, t.d6, t.d7] g')), (9, AV.i ((↑g' : Int) + 1))] [(1, ABlk.box [AV.i 0, AV.i 0])] 2) ∧ (decide ((↑g : Int) + 1 < 8) = false → (∃ (g_1 : Nat), g_1 + 1 ≤ l.length ∧ AS.mk
   [(1, AV.sl 5 (List.map encFx l)), (3, AV.elt 13 [(encTy t)] 0 0), (5, AV.elt 3 [[AV.i x, AV.i y, AV.i z]] 0 0), (6, AV.ptr 1 0), (7, AV.i (mnN [t.d0, t.d1, t.d2, t.d3, t.d4, t.d5, t.d6, t.d7] g)), (8, AV.i (mxN [t.d0, t.d1, t.d2,
   t.d3, t.d4, t.d5, t.d6, t.d7] g)), (10, AV.ptr 2 0), (11, AV.i 0)] [(1, ABlk.box [AV.i 0, AV.i 0]), (2, ABlk.box [AV.i 0, AV.i 0])] 3 = AS.mk [(1, AV.sl 5 (List.map encFx l)), (3, AV.elt 13 [(encTy t)] 0 0), (5, AV.elt 3 [[AV.i x,
   AV.i y, AV.i z]] 0 0), (6, AV.ptr 1 0), (7, AV.i (minD t)), (8, AV.i (maxD t)), (10, AV.ptr 2 0), (11, AV.i (↑g_1 : Int))] [(1, ABlk.box [AV.i 0, AV.i 0]), (2, ABlk.box [AV.i (lowN t l x y z g_1), AV.i (highN t l x y z g_1)])] 3) ∧
   ∀ (g : Nat), g + 1 ≤ l.length → In64 ((↑g : Int) + 1) ∧ (decide ((↑g : Int) + 1 < (↑(List.map encFx l).length : Int)) = true → (0 : Int) ≤ (↑g : Int) ∧ (↑g : Int) < (↑(List.map encFx l).length : Int) ∧ In64 ((↑g : Int) + 1) ∧ (0 :
   Int) ≤ (↑g : Int) + 1 ∧ (↑g : Int) + 1 < (↑(List.map encFx l).length : Int) ∧ AV.agg (nthR (List.map encFx l) (↑g : Int).toNat) = AV.agg [AV.i (l.getD (↑g : Int).toNat default).t, AV.i (l.getD (↑g : Int).toNat default).x, AV.i
   (l.getD (↑g : Int).toNat default).y, AV.i (l.getD (↑g : Int).toNat default).z, AV.i (l.getD (↑g : Int).toNat default).p] ∧ AV.agg (nthR (List.map encFx l) ((↑g : Int) + 1).toNat) = AV.agg [AV.i (l.getD ((↑g : Int) + 1).toNat
   default).t, AV.i (l.getD ((↑g : Int) + 1).toNat default).x, AV.i (l.getD ((↑g : Int) + 1).toNat default).y, AV.i (l.getD ((↑g : Int) + 1).toNat default).z, AV.i (l.getD ((↑g : Int) + 1).toNat default).p] ∧ In64 ((l.getD ((↑g : Int)
   + 1).toNat default).t - (l.getD (↑g : Int).toNat default).t) ∧ PCall Tryz.prog G0 111 [AV.i x, AV.i (l.getD (↑g : Int).toNat default).x, AV.i (l.getD ((↑g : Int) + 1).toNat default).x] (AV.tup [AV.i (nearI x (l.getD (↑g :
   Int).toNat default).x (l.getD ((↑g : Int) + 1).toNat default).x), AV.i (farI x (l.getD (↑g : Int).toNat default).x (l.getD ((↑g : Int) + 1).toNat default).x)]) ∧ PCall Tryz.prog G0 111 [AV.i y, AV.i (l.getD (↑g : Int).toNat
   default).y, AV.i (l.getD ((↑g : Int) + 1).toNat default).y] (AV.tup [AV.i (nearI y (l.getD (↑g : Int).toNat default).y (l.getD ((↑g : Int) + 1).toNat default).y), AV.i (farI y (l.getD (↑g : Int).toNat default).y (l.getD ((↑g : Int)
   + 1).toNat default).y)]) ∧ PCall Tryz.prog G0 111 [AV.i z, AV.i (l.getD (↑g : Int).toNat default).z, AV.i (l.getD ((↑g : Int) + 1).toNat default).z] (AV.tup [AV.i (nearI z (l.getD (↑g : Int).toNat default).z (l.getD ((↑g : Int) +
   1).toNat default).z), AV.i (farI z (l.getD (↑g : Int).toNat default).z (l.getD ((↑g : Int) + 1).toNat default).z)]) ∧ In64 (farI x (l.getD (↑g : Int).toNat default).x (l.getD ((↑g : Int) + 1).toNat default).x * farI x (l.getD (↑g :
   Int).toNat default).x (l.getD ((↑g : Int) + 1).toNat default).x) ∧ In64 (farI y (l.getD (↑g : Int).toNat default).y (l.getD ((↑g : Int) + 1).toNat default).y * farI y (l.getD (↑g : Int).toNat default).y (l.getD ((↑g : Int) +
   1).toNat default).y) ∧ In64 (farI x (l.getD (↑g : Int).toNat default).x (l.getD ((↑g : Int) + 1).toNat default).x * farI x (l.getD (↑g : Int).toNat default).x (l.getD ((↑g : Int) + 1).toNat default).x + farI y (l.getD (↑g :
   Int).toNat default).y (l.getD ((↑g : Int) + 1).toNat default).y * farI y (l.getD (↑g : Int).toNat default).y (l.getD ((↑g : Int) + 1).toNat default).y) ∧ In64 (farI z (l.getD (↑g : Int).toNat default).z (l.getD ((↑g : Int) +
   1).toNat default).z * farI z (l.getD (↑g : Int).toNat default).z (l.getD ((↑g : Int) + 1).toNat default).z) ∧ In64 (farI x (l.getD (↑g : Int).toNat default).x (l.getD ((↑g : Int) + 1).toNat default).x * farI x (l.getD (↑g :
   Int).toNat default).x (l.getD ((↑g : Int) + 1).toNat default).x + farI y (l.getD (↑g : Int).toNat default).y (l.getD ((↑g : Int) + 1).toNat default).y * farI y (l.getD (↑g : Int).toNat default).y (l.getD ((↑g : Int) + 1).toNat
   default).y + farI z (l.getD (↑g : Int).toNat default).z (l.getD ((↑g : Int) + 1).toNat default).z * farI z (l.getD (↑g : Int).toNat default).z (l.getD ((↑g : Int) + 1).toNat default).z) ∧ In64 (emi t (minI (l.getD (↑g : Int).toNat
   default).p (l.getD ((↑g : Int) + 1).toNat default).p) (farI x (l.getD (↑g : Int).toNat default).x (l.getD ((↑g : Int) + 1).toNat default).x * farI x (l.getD (↑g : Int).toNat default).x (l.getD ((↑g : Int) + 1).toNat default).x +
   farI y (l.getD (↑g : Int).toNat default).y (l.getD ((↑g : Int) + 1).toNat default).y * farI y (l.getD (↑g : Int).toNat default).y (l.getD ((↑g : Int) + 1).toNat default).y + farI z (l.getD (↑g : Int).toNat default).z (l.getD ((↑g :
   Int) + 1).toNat default).z * farI z (l.getD (↑g : Int).toNat default).z (l.getD ((↑g : Int) + 1).toNat default).z) * minD t) ∧ In64 (emi t (minI (l.getD (↑g : Int).toNat default).p (l.getD ((↑g : Int) + 1).toNat default).p) (farI x
   (l.getD (↑g : Int).toNat default).x (l.getD ((↑g : Int) + 1).toNat default).x * farI x (l.getD (↑g : Int).toNat default).x (l.getD ((↑g : Int) + 1).toNat default).x + farI y (l.getD (↑g : Int).toNat default).y (l.getD ((↑g : Int) +
   1).toNat default).y * farI y (l.getD (↑g : Int).toNat default).y (l.getD ((↑g : Int) + 1).toNat default).y + farI z (l.getD (↑g : Int).toNat default).z (l.getD ((↑g : Int) + 1).toNat default).z * farI z (l.getD (↑g : Int).toNat
   default).z (l.getD ((↑g : Int) + 1).toNat default).z) * minD t * t.side) ∧ ¬(1000000 : Int) = (0 : Int) ∧ In64 ((emi t (minI (l.getD (↑g : Int).toNat default).p (l.getD ((↑g : Int) + 1).toNat default).p) (farI x (l.getD (↑g :
   Int).toNat default).x (l.getD ((↑g : Int) + 1).toNat default).x * farI x (l.getD (↑g : Int).toNat default).x (l.getD ((↑g : Int) + 1).toNat default).x + farI y (l.getD (↑g : Int).toNat default).y (l.getD ((↑g : Int) + 1).toNat
   default).y * farI y (l.getD (↑g : Int).toNat default).y (l.getD ((↑g : Int) + 1).toNat default).y + farI z (l.getD (↑g : Int).toNat default).z (l.getD ((↑g : Int) + 1).toNat default).z * farI z (l.getD (↑g : Int).toNat default).z
   (l.getD ((↑g : Int) + 1).toNat default).z) * minD t * t.side).tdiv 1000000) ∧ In64 (((l.getD ((↑g : Int) + 1).toNat default).t - (l.getD (↑g : Int).toNat default).t) * (emi t (minI (l.getD (↑g : Int).toNat default).p (l.getD ((↑g :
   Int) + 1).toNat default).p) (farI x (l.getD (↑g : Int).toNat default).x (l.getD ((↑g : Int) + 1).toNat default).x * farI x (l.getD (↑g : Int).toNat default).x (l.getD ((↑g : Int) + 1).toNat default).x + farI y (l.getD (↑g :
   Int).toNat default).y (l.getD ((↑g : Int) + 1).toNat default).y * farI y (l.getD (↑g : Int).toNat default).y (l.getD ((↑g : Int) + 1).toNat default).y + farI z (l.getD (↑g : Int).toNat default).z (l.getD ((↑g : Int) + 1).toNat
   default).z * farI z (l.getD (↑g : Int).toNat default).z (l.getD ((↑g : Int) + 1).toNat default).z) * minD t * t.side).tdiv 1000000) ∧ In64 (lowN t l x y z g + ((l.getD ((↑g : Int) + 1).toNat default).t - (l.getD (↑g : Int).toNat
   default).t) * (emi t (minI (l.getD (↑g : Int).toNat default).p (l.getD ((↑g : Int) + 1).toNat default).p) (farI x (l.getD (↑g : Int).toNat default).x (l.getD ((↑g : Int) + 1).toNat default).x * farI x (l.getD (↑g : Int).toNat
   default).x (l.getD ((↑g : Int) + 1).toNat default).x + farI y (l.getD (↑g : Int).toNat default).y (l.getD ((↑g : Int) + 1).toNat default).y * farI y (l.getD (↑g : Int).toNat default).y (l.getD ((↑g : Int) + 1).toNat default).y +
   farI z (l.getD (↑g : Int).toNat default).z (l.getD ((↑g : Int) + 1).toNat default).z * farI z (l.getD (↑g : Int).toNat default).z (l.getD ((↑g : Int) + 1).toNat default).z) * minD t * t.side).tdiv 1000000) ∧ PCall Tryz.prog G0 49
   [AV.agg [AV.str t.name, AV.sl 1 (List.map encI t.sh), AV.i t.d0, AV.i t.d1, AV.i t.d2, AV.i t.d3, AV.i t.d4, AV.i t.d5, AV.i t.d6, AV.i t.d7, AV.i t.side, AV.sl 1 (List.map encI t.sq), AV.sl 2 (List.map encSg t.st)], AV.i (minI
   (l.getD (↑g : Int).toNat default).p (l.getD ((↑g : Int) + 1).toNat default).p), AV.i (farI x (l.getD (↑g : Int).toNat default).x (l.getD ((↑g : Int) + 1).toNat default).x * farI x (l.getD (↑g : Int).toNat default).x (l.getD ((↑g :
   Int) + 1).toNat default).x + farI y (l.getD (↑g : Int).toNat default).y (l.getD ((↑g : Int) + 1).toNat default).y * farI y (l.getD (↑g : Int).toNat default).y (l.getD ((↑g : Int) + 1).toNat default).y + farI z (l.getD (↑g :
   Int).toNat default).z (l.getD ((↑g : Int) + 1).toNat default).z * farI z (l.getD (↑g : Int).toNat default).z (l.getD ((↑g : Int) + 1).toNat default).z)] (AV.i (emi t (minI (l.getD (↑g : Int).toNat default).p (l.getD ((↑g : Int) +
   1).toNat default).p) (farI x (l.getD (↑g : Int).toNat default).x (l.getD ((↑g : Int) + 1).toNat default).x * farI x (l.getD (↑g : Int).toNat default).x (l.getD ((↑g : Int) + 1).toNat default).x + farI y (l.getD (↑g : Int).toNat
   default).y (l.getD ((↑g : Int) + 1).toNat default).y * farI y (l.getD (↑g : Int).toNat default).y (l.getD ((↑g : Int) + 1).toNat default).y + farI z (l.getD (↑g : Int).toNat default).z (l.getD ((↑g : Int) + 1).toNat default).z *
   farI z (l.getD (↑g : Int).toNat default).z (l.getD ((↑g : Int) + 1).toNat default).z))) ∧ In64 (nearI x (l.getD (↑g : Int).toNat default).x (l.getD ((↑g : Int) + 1).toNat default).x * nearI x (l.getD (↑g : Int).toNat default).x
   (l.getD ((↑g : Int) + 1).toNat default).x) ∧ In64 (nearI y (l.getD (↑g : Int).toNat default).y (l.getD ((↑g : Int) + 1).toNat default).y * nearI y (l.getD (↑g : Int).toNat default).y (l.getD ((↑g : Int) + 1).toNat default).y) ∧
   In64 (nearI x (l.getD (↑g : Int).toNat default).x (l.getD ((↑g : Int) + 1).toNat default).x * nearI x (l.getD (↑g : Int).toNat default).x (l.getD ((↑g : Int) + 1).toNat default).x + nearI y (l.getD (↑g : Int).toNat default).y
   (l.getD ((↑g : Int) + 1).toNat default).y * nearI y (l.getD (↑g : Int).toNat default).y (l.getD ((↑g : Int) + 1).toNat default).y) ∧ In64 (nearI z (l.getD (↑g : Int).toNat default).z (l.getD ((↑g : Int) + 1).toNat default).z *
   nearI z (l.getD (↑g : Int).toNat default).z (l.getD ((↑g : Int) + 1).toNat default).z) ∧ In64 (nearI x (l.getD (↑g : Int).toNat default).x (l.getD ((↑g : Int) + 1).toNat default).x * nearI x (l.getD (↑g : Int).toNat default).x
   (l.getD ((↑g : Int) + 1).toNat default).x + nearI y (l.getD (↑g : Int).toNat default).y (l.getD ((↑g : Int) + 1).toNat default).y * nearI y (l.getD (↑g : Int).toNat default).y (l.getD ((↑g : Int) + 1).toNat default).y + nearI z
   (l.getD (↑g : Int).toNat default).z (l.getD ((↑g : Int) + 1).toNat default).z * nearI z (l.getD (↑g : Int).toNat default).z (l.getD ((↑g : Int) + 1).toNat default).z) ∧ In64 (((l.getD ((↑g : Int) + 1).toNat default).t - (l.getD (↑g
   : Int).toNat default).t) * emi t (maxI (l.getD (↑g : Int).toNat default).p (l.getD ((↑g : Int) + 1).toNat default).p) (nearI x (l.getD (↑g : Int).toNat default).x (l.getD ((↑g : Int) + 1).toNat default).x * nearI x (l.getD (↑g :
   Int).toNat default).x (l.getD ((↑g : Int) + 1).toNat default).x + nearI y (l.getD (↑g : Int).toNat default).y (l.getD ((↑g : Int) + 1).toNat default).y * nearI y (l.getD (↑g : Int).toNat default).y (l.getD ((↑g : Int) + 1).toNat
   default).y + nearI z (l.getD (↑g : Int).toNat default).z (l.getD ((↑g : Int) + 1).toNat default).z * nearI z (l.getD (↑g : Int).toNat default).z (l.getD ((↑g : Int) + 1).toNat default).z)) ∧ In64 (((l.getD ((↑g : Int) + 1).toNat
   default).t - (l.getD (↑g : Int).toNat default).t) * emi t (maxI (l.getD (↑g : Int).toNat default).p (l.getD ((↑g : Int) + 1).toNat default).p) (nearI x (l.getD (↑g : Int).toNat default).x (l.getD ((↑g : Int) + 1).toNat default).x *
   nearI x (l.getD (↑g : Int).toNat default).x (l.getD ((↑g : Int) + 1).toNat default).x + nearI y (l.getD (↑g : Int).toNat default).y (l.getD ((↑g : Int) + 1).toNat default).y * nearI y (l.getD (↑g : Int).toNat default).y (l.getD
   ((↑g : Int) + 1).toNat default).y + nearI z (l.getD (↑g : Int).toNat default).z (l.getD ((↑g : Int) + 1).toNat default).z * nearI z (l.getD (↑g : Int).toNat default).z (l.getD ((↑g : Int) + 1).toNat default).z) * maxD t) ∧ In64
   (highN t l x y z g + ((0 : Int) - sFloor ((0 : Int) - ((l.getD ((↑g : Int) + 1).toNat default).t - (l.getD (↑g : Int).toNat default).t) * emi t (maxI (l.getD (↑g : Int).toNat default).p (l.getD ((↑g : Int) + 1).toNat default).p)
   (nearI x (l.getD (↑g : Int).toNat default).x (l.getD ((↑g : Int) + 1).toNat default).x * nearI x (l.getD (↑g : Int).toNat default).x (l.getD ((↑g : Int) + 1).toNat default).x + nearI y (l.getD (↑g : Int).toNat default).y (l.getD
   ((↑g : Int) + 1).toNat default).y * nearI y (l.getD (↑g : Int).toNat default).y (l.getD ((↑g : Int) + 1).toNat default).y + nearI z (l.getD (↑g : Int).toNat default).z (l.getD ((↑g : Int) + 1).toNat default).z * nearI z (l.getD (↑g
   : Int).toNat default).z (l.getD ((↑g : Int) + 1).toNat default).z) * maxD t) (1000 : Int))) ∧ PCall Tryz.prog G0 49 [AV.agg [AV.str t.name, AV.sl 1 (List.map encI t.sh), AV.i t.d0, AV.i t.d1, AV.i t.d2, AV.i t.d3, AV.i t.d4, AV.i
   t.d5, AV.i t.d6, AV.i t.d7, AV.i t.side, AV.sl 1 (List.map encI t.sq), AV.sl 2 (List.map encSg t.st)], AV.i (maxI (l.getD (↑g : Int).toNat default).p (l.getD ((↑g : Int) + 1).toNat default).p), AV.i (nearI x (l.getD (↑g :
   Int).toNat default).x (l.getD ((↑g : Int) + 1).toNat default).x * nearI x (l.getD (↑g : Int).toNat default).x (l.getD ((↑g : Int) + 1).toNat default).x + nearI y (l.getD (↑g : Int).toNat default).y (l.getD ((↑g : Int) + 1).toNat
   default).y * nearI y (l.getD (↑g : Int).toNat default).y (l.getD ((↑g : Int) + 1).toNat default).y + nearI z (l.getD (↑g : Int).toNat default).z (l.getD ((↑g : Int) + 1).toNat default).z * nearI z (l.getD (↑g : Int).toNat
   default).z (l.getD ((↑g : Int) + 1).toNat default).z)] (AV.i (emi t (maxI (l.getD (↑g : Int).toNat default).p (l.getD ((↑g : Int) + 1).toNat default).p) (nearI x (l.getD (↑g : Int).toNat default).x (l.getD ((↑g : Int) + 1).toNat
   default).x * nearI x (l.getD (↑g : Int).toNat default).x (l.getD ((↑g : Int) + 1).toNat default).x + nearI y (l.getD (↑g : Int).toNat default).y (l.getD ((↑g : Int) + 1).toNat default).y * nearI y (l.getD (↑g : Int).toNat
   default).y (l.getD ((↑g : Int) + 1).toNat default).y + nearI z (l.getD (↑g : Int).toNat default).z (l.getD ((↑g : Int) + 1).toNat default).z * nearI z (l.getD (↑g : Int).toNat default).z (l.getD ((↑g : Int) + 1).toNat default).z)))
   ∧ PCall Tryz.prog G0 96 [AV.i (((l.getD ((↑g : Int) + 1).toNat default).t - (l.getD (↑g : Int).toNat default).t) * emi t (maxI (l.getD (↑g : Int).toNat default).p (l.getD ((↑g : Int) + 1).toNat default).p) (nearI x (l.getD (↑g :
   Int).toNat default).x (l.getD ((↑g : Int) + 1).toNat default).x * nearI x (l.getD (↑g : Int).toNat default).x (l.getD ((↑g : Int) + 1).toNat default).x + nearI y (l.getD (↑g : Int).toNat default).y (l.getD ((↑g : Int) + 1).toNat
   default).y * nearI y (l.getD (↑g : Int).toNat default).y (l.getD ((↑g : Int) + 1).toNat default).y + nearI z (l.getD (↑g : Int).toNat default).z (l.getD ((↑g : Int) + 1).toNat default).z * nearI z (l.getD (↑g : Int).toNat
   default).z (l.getD ((↑g : Int) + 1).toNat default).z) * maxD t), AV.i 1000] (AV.i ((0 : Int) - sFloor ((0 : Int) - ((l.getD ((↑g : Int) + 1).toNat default).t - (l.getD (↑g : Int).toNat default).t) * emi t (maxI (l.getD (↑g :
   Int).toNat default).p (l.getD ((↑g : Int) + 1).toNat default).p) (nearI x (l.getD (↑g : Int).toNat default).x (l.getD ((↑g : Int) + 1).toNat default).x * nearI x (l.getD (↑g : Int).toNat default).x (l.getD ((↑g : Int) + 1).toNat
   default).x + nearI y (l.getD (↑g : Int).toNat default).y (l.getD ((↑g : Int) + 1).toNat default).y * nearI y (l.getD (↑g : Int).toNat default).y (l.getD ((↑g : Int) + 1).toNat default).y + nearI z (l.getD (↑g : Int).toNat
   default).z (l.getD ((↑g : Int) + 1).toNat default).z * nearI z (l.getD (↑g : Int).toNat default).z (l.getD ((↑g : Int) + 1).toNat default).z) * maxD t) (1000 : Int))) ∧ In64 ((↑g : Int) + 1) ∧ ∃ (g' : Nat), g' + 1 ≤ l.length ∧
   l.length - g' < l.length - g ∧ AS.mk [((1 : Nat), AV.sl (5 : Nat) (List.map encFx l)), ((3 : Nat), AV.elt (13 : Nat) [[AV.str t.name, AV.sl (1 : Nat) (List.map encI t.sh), AV.i t.d0, AV.i t.d1, AV.i t.d2, AV.i t.d3, AV.i t.d4, AV.i
   t.d5, AV.i t.d6, AV.i t.d7, AV.i t.side, AV.sl (1 : Nat) (List.map encI t.sq), AV.sl (2 : Nat) (List.map encSg t.st)]] (0 : Nat) (0 : Nat)), ((5 : Nat), AV.elt (3 : Nat) [[AV.i x, AV.i y, AV.i z]] (0 : Nat) (0 : Nat)), ((6 : Nat),
   AV.ptr (1 : Nat) (0 : Nat)), ((7 : Nat), AV.i (minD t)), ((8 : Nat), AV.i (maxD t)), ((10 : Nat), AV.ptr (2 : Nat) (0 : Nat)), ((11 : Nat), AV.i ((↑g : Int) + 1))] [((1 : Nat), ABlk.box [AV.i (0 : Int), AV.i (0 : Int)]), ((2 :
   Nat), ABlk.box [AV.i (lowN t l x y z g + ((l.getD ((↑g : Int) + 1).toNat default).t - (l.getD (↑g : Int).toNat default).t) * (emi t (minI (l.getD (↑g : Int).toNat default).p (l.getD ((↑g : Int) + 1).toNat default).p) (farI x
   (l.getD (↑g : Int).toNat default).x (l.getD ((↑g : Int) + 1).toNat default).x * farI x (l.getD (↑g : Int).toNat default).x (l.getD ((↑g : Int) + 1).toNat default).x + farI y (l.getD (↑g : Int).toNat default).y (l.getD ((↑g : Int) +
   1).toNat default).y * farI y (l.getD (↑g : Int).toNat default).y (l.getD ((↑g : Int) + 1).toNat default).y + farI z (l.getD (↑g : Int).toNat default).z (l.getD ((↑g : Int) + 1).toNat default).z * farI z (l.getD (↑g : Int).toNat
   default).z (l.getD ((↑g : Int) + 1).toNat default).z) * minD t * t.side).tdiv 1000000), AV.i (highN t l x y z g + ((0 : Int) - sFloor ((0 : Int) - ((l.getD ((↑g : Int) + 1).toNat default).t - (l.getD (↑g : Int).toNat default).t) *
   emi t (maxI (l.getD (↑g : Int).toNat default).p (l.getD ((↑g : Int) + 1).toNat default).p) (nearI x (l.getD (↑g : Int).toNat default).x (l.getD ((↑g : Int) + 1).toNat default).x * nearI x (l.getD (↑g : Int).toNat default).x (l.getD
   ((↑g : Int) + 1).toNat default).x + nearI y (l.getD (↑g : Int).toNat default).y (l.getD ((↑g : Int) + 1).toNat default).y * nearI y (l.getD (↑g : Int).toNat default).y (l.getD ((↑g : Int) + 1).toNat default).y + nearI z (l.getD (↑g
   : Int).toNat default).z (l.getD ((↑g : Int) + 1).toNat default).z * nearI z (l.getD (↑g : Int).toNat default).z (l.getD ((↑g : Int) + 1).toNat default).z) * maxD t) (1000 : Int)))])] (3 : Nat) = AS.mk [((1 : Nat), AV.sl (5 : Nat)
   (List.map encFx l)), ((3 : Nat), AV.elt (13 : Nat) [[AV.str t.name, AV.sl (1 : Nat) (List.map encI t.sh), AV.i t.d0, AV.i t.d1, AV.i t.d2, AV.i t.d3, AV.i t.d4, AV.i t.d5, AV.i t.d6, AV.i t.d7, AV.i t.side, AV.sl (1 : Nat)
   (List.map encI t.sq), AV.sl (2 : Nat) (List.map encSg t.st)]] (0 : Nat) (0 : Nat)), ((5 : Nat), AV.elt (3 : Nat) [[AV.i x, AV.i y, AV.i z]] (0 : Nat) (0 : Nat)), ((6 : Nat), AV.ptr (1 : Nat) (0 : Nat)), ((7 : Nat), AV.i (minD t)),
   ((8 : Nat), AV.i (maxD t)), ((10 : Nat), AV.ptr (2 : Nat) (0 : Nat)), ((11 : Nat), AV.i (↑g' : Int))] [((1 : Nat), ABlk.box [AV.i (0 : Int), AV.i (0 : Int)]), ((2 : Nat), ABlk.box [AV.i (lowN t l x y z g'), AV.i (highN t l x y z
   g')])] (3 : Nat)) ∧ (decide ((↑g : Int) + 1 < (↑(List.map encFx l).length : Int)) = false → AV.agg [AV.i (lowN t l x y z g), AV.i (highN t l x y z g)] = AV.agg [AV.i (lowN t l x y z (l.length - 1)), AV.i (highN t l x y z (l.length
   - 1))])) := by
    have hlm : (List.map encFx l).length = l.length := List.length_map _
    have hn1 := hO.n1
    have hn2 := hO.n2
    have hS := side_of hT
    have hK := ok_of hT
    refine ⟨by decide, by decide, by decide, by decide, ⟨0, by omega, rfl⟩, fun g hg => ⟨fun hd => ?_, fun hd => ⟨⟨0, by omega, ?_⟩, fun g2 hg2 => ⟨by unfold In64; omega, fun hd2 => ?_, fun hd2 => ?_⟩⟩⟩⟩
    · have hlt := of_decide_eq_true hd
      have e : ((g : Int) + 1).toNat = g + 1 := by omega
      have ec : cI [[AV.i t.d0], [AV.i t.d1], [AV.i t.d2], [AV.i t.d3], [AV.i t.d4], [AV.i t.d5], [AV.i t.d6], [AV.i t.d7]] (g + 1) = t.dir.getD (g + 1) default := cI_map t.dir (g + 1)
      rw [e]
      refine ⟨by omega, by omega, by omega, by omega, cI_at (l := t.dir) (show g + 1 < (8 : Nat) by omega), cI_at (l := t.dir) (show g + 1 < (8 : Nat) by omega), by unfold In64; omega, g + 1, by omega, by omega, ?_⟩
      rw [ec]
      rfl
    · have := of_decide_eq_false hd
      have e : g = 7 := by omega
      subst e
      rfl
    · have hlt := of_decide_eq_true hd2
      rw [hlm] at hlt
      have e : ((g2 : Int) + 1).toNat = g2 + 1 := by omega
      rw [e, Int.toNat_natCast]
      have hA := fx_ok hO (i := g2) (by omega)
      have hB := fx_ok hO (i := g2 + 1) (by omega)
      have hdt := seg_dt hO hsp (i := g2) (by omega)
      have hb := sums_b (x := x) (y := y) (z := z) hT hO hsp (g2 + 1) (by omega)
      rw [show lowN t l x y z (g2 + 1) = lowN t l x y z g2 + enLow t (fxAt l g2) (fxAt l (g2 + 1)) x y z from rfl, show highN t l x y z (g2 + 1) = highN t l x y z g2 + enHigh t (fxAt l g2) (fxAt l (g2 + 1)) x y z from rfl] at hb
      have r1 : nthR (List.map encFx l) g2 = encFx (fxAt l g2) := row_at encFx (by omega)
      have r2 : nthR (List.map encFx l) (g2 + 1) = encFx (fxAt l (g2 + 1)) := row_at encFx (by omega)
      rw [r1, r2]
      rw [show l.getD g2 default = fxAt l g2 from rfl, show l.getD (g2 + 1) default = fxAt l (g2 + 1) from rfl]
      have hlow : ∀ k, k = g2 + 1 → lowN t l x y z k = lowN t l x y z g2 + enLow t (fxAt l g2) (fxAt l (g2 + 1)) x y z ∧ highN t l x y z k = highN t l x y z g2 + enHigh t (fxAt l g2) (fxAt l (g2 + 1)) x y z := fun k hk => by
        subst hk
        exact ⟨rfl, rfl⟩
      have hlow := hlow (g2 + 1) rfl
      generalize fxAt l g2 = A at *
      generalize fxAt l (g2 + 1) = B at *
      obtain ⟨nx, fx⟩ := near_b hx hA.x hB.x
      obtain ⟨ny, fy⟩ := near_b hy hA.y hB.y
      obtain ⟨nz, fz⟩ := near_b (n := z) (a := A.z) (b := B.z) (by omega) (by have := hA.z; omega) (by have := hB.z; omega)
      have hp1 := min_b hA.p hB.p
      have hp2 := max_b hA.p hB.p
      have d1 : 0 ≤ minD t ∧ minD t ≤ 2000 := mnN_b fun i hi => hS.1 i (by omega)
      have d2 : 0 ≤ maxD t ∧ maxD t ≤ 2000 := mxN_b fun i hi => hS.1 i (by omega)
      obtain ⟨⟨e1, e2, e3, e4⟩, _, _, _, _⟩ := en_in (emi_b (d := enFar A B x y z) hK hp1.1 hp1.2) d1 hS.2 hdt
      obtain ⟨_, ⟨g1, g3, g4⟩, ⟨g5, g6, g7, g8⟩, _, _⟩ := en_in (emi_b (d := enNear A B x y z) hK hp2.1 hp2.2) d2 hS.2 hdt
      have s1 := sq_b nx
      have s2 := sq_b ny
      have s3 := sq_b nz
      have s4 := sq_b fx
      have s5 := sq_b fy
      have s6 := sq_b fz
      have bA := hA.t
      have bB := hB.t
      have xA := hA.x
      have xB := hB.x
      have yA := hA.y
      have yB := hB.y
      have zA := hA.z
      have zB := hB.z
      refine ⟨by omega, by omega, by unfold In64; omega, by omega, by omega, rfl, rfl, by unfold In64; omega, c111 _ _ _ (by omega) (by omega) (by omega), c111 _ _ _ (by omega) (by omega) (by omega), c111 _ _ _ (by omega) (by omega) (by omega),
        by unfold In64; omega, by unfold In64; omega, by unfold In64; omega, by unfold In64; omega, by unfold In64; omega, e1, e2, by decide, e3, e4, (show In64 (lowN t l x y z g2 + enLow t A B x y z) from by unfold In64; omega), c49 t _ _ hK hp1.1 hp1.2,
        by unfold In64; omega, by unfold In64; omega, by unfold In64; omega, by unfold In64; omega, by unfold In64; omega, g1, g3, (show In64 (highN t l x y z g2 + enHigh t A B x y z) from by unfold In64; omega), c49 t _ _ hK hp2.1 hp2.2, c96 _ _ (by decide) g5 g6 g7 g4 g8, by unfold In64; omega, g2 + 1, by omega, by omega, ?_⟩
      rw [hlow.1, hlow.2]
      rfl
    · have := of_decide_eq_false hd2
      rw [hlm] at this
      rw [show g2 = l.length - 1 by omega]
  exact c_of Tryz.f38 (fzB (mkB (sp38 t) 38 [(5, 4, rdJ), (5, 10, rdJ), (10, 3, rdL 5 encFx l 5 true), (10, 8, rdL 5 encFx l 5 true)] (fun i => if i.beq 0 then some (la38a t l x y z) else if i.beq 2 then some (la38b t l x y z) else none))) (by kernel_rfl) (by kernel_rfl) (by kernel_rfl) (by kernel_rfl) key (by kernel_rfl)
end Go.Proofs.YtjhjmncjidbieaaGreatDoor
