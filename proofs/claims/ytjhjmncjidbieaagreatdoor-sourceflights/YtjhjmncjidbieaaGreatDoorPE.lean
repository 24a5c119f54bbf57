/-
  What chapter 2's Flown of the reference returns. No condition but the theorems' own. The plain law of SourcePaths: what the program and the reference compute is the same. No condition but the theorems' own. Plain laws of a track: the state at a tick, and what is heard of it. No condition but the theorems' own. What chapter 2's reference returns of a track: the state at a tick, an exposure, a maximum. No condition but the theorems' own. What hearing hands over, tick by tick. No condition but the theorem's own. What chapter 2's source returns of a track: an exposure, a maximum. No condition but the theorems' own. What chapter 2's lists of types and of flights return: copies, searches, sizes. No condition but the theorems' own. What chapter 2's checks of flights return. No condition but the theorems' own.
-/
import Derived.Test.YtjhjmncjidbieaaGreatDoorPC
import Derived.Test.YtjhjmncjidbieaaGreatDoorAvD
import Derived.Test.YtjhjmncjidbieaaGreatDoorPD
import Derived.Test.YtjhjmncjidbieaaGreatDoorPA
namespace Go.Proofs.YtjhjmncjidbieaaGreatDoor
open Go Go.Av Go.RowKit
def kI (p : List St) (al : Int) : Nat → Nat
  | 0 => 0
  | j + 1 => if decide ((p.getD j default).a ≤ al) = true then j else kI p al j
theorem prv_succ (i : Nat) : prv (i + 1) = i := by
  unfold prv maxI
  split <;> omega
end Go.Proofs.YtjhjmncjidbieaaGreatDoor
namespace Go.Proofs.YtjhjmncjidbieaaGreatDoor
open Go Go.Av Go.RowKit
theorem scan_congr {f g : Nat → Int} {n : Nat} {fin : Int} (h : ∀ k, k < n → f k = g k) : sScan f n fin = sScan g n fin := by
  unfold sScan
  rw [List.map_congr_left (fun k hk => h k (List.mem_range.1 hk))]
theorem ls_congr {c : Int} {f g : Nat → Int} {n : Nat} {fin : Int} (h : ∀ k, k < n → f k = g k) : sLS c f n fin = sLS c g n fin := by
  unfold sLS
  rw [scan_congr h]
theorem first_nest (a b c d : Int) : sFirst [sFirst [a, b, c], d] = sFirst [a, b, c, d] := by
  unfold sFirst
  by_cases ha : a = 0
  · by_cases hb : b = 0
    · by_cases hc : c = 0
      · simp [sFirst, ha, hb, hc]
      · simp [sFirst, ha, hb, hc]
    · simp [sFirst, ha, hb]
  · simp [sFirst, ha]
theorem track_eq (l : List Fx) : sTrackS l = sTrackR l := by
  unfold sTrackS sTrackR
  refine ls_congr fun k _ => ?_
  unfold fTrackS fTrackR sFix
  exact first_nest _ _ _ _
end Go.Proofs.YtjhjmncjidbieaaGreatDoor
namespace Go.Proofs.YtjhjmncjidbieaaGreatDoor
open Go Go.Av Go.RowKit
def lastT (l : List Fx) : Int := (l.getD (l.length - 1) default).t
def firstT (l : List Fx) : Int := (l.getD 0 default).t
theorem track_ok {l : List Fx} (h : sTrackR l = 0) : TrackOK l ∧ lastT l - firstT l ≤ 1000 := by
  obtain ⟨h1, h2, h3⟩ := ls_zero' h
  have hn := len_ge (by rw [h1]; rfl)
  rw [List.length_map] at hn h2
  have key : ∀ i, i < l.length → (0 ≤ (l.getD i default).t ∧ (l.getD i default).t ≤ 100000000) ∧ sPlace (l.getD i default).x (l.getD i default).y (l.getD i default).z = 0 ∧ (1 ≤ (l.getD i default).p ∧ (l.getD i default).p ≤ 100) ∧ (if decide ((i : Int) > 0) = true then decide ((l.getD i default).t ≤ (l.getD (prv i) default).t) else false) = false := fun i hi => by
    have h4 := h2 i hi
    unfold fTrackR sPower at h4
    simp only [first_zero, within_zero] at h4
    exact ⟨h4.1, h4.2.1, h4.2.2.1, when_z (by decide) h4.2.2.2.1⟩
  refine ⟨⟨hn.1, hn.2, fun i hi => ?_, fun i hi => ?_⟩, ?_⟩
  · obtain ⟨a, b, c, _⟩ := key i hi
    have d := place_ok b
    exact ⟨a, d.1, d.2.1, d.2.2, c⟩
  · have h5 := (key (i + 1) hi).2.2.2
    rw [prv_succ, if_pos (decide_eq_true (by omega))] at h5
    have := of_decide_eq_false h5
    omega
  · have h6 := of_decide_eq_false (when_z (by decide) h3)
    rw [show lastOf (l.map encFx).length = l.length - 1 by rw [List.length_map, lastOf]; omega] at h6
    unfold lastT firstT
    omega
theorem atI_le {l : List Fx} {tk : Int} (h : firstT l ≤ tk) : ∀ m, (l.getD (atI l tk m) default).t ≤ tk
  | 0 => h
  | m + 1 => by
    simp only [atI]
    split
    · assumption
    · exact atI_le h m
theorem atI_gt {l : List Fx} {tk : Int} : ∀ m j, atI l tk m < j → j < m → tk < (l.getD j default).t
  | 0, j, _, h => absurd h (by omega)
  | m + 1, j, h1, h2 => by
    simp only [atI] at h1
    split at h1
    · omega
    · rename_i h3
      by_cases e : j = m
      · rw [e]
        omega
      · exact atI_gt m j h1 (by omega)
theorem at_seg {l : List Fx} {tk : Int} (h : TrackOK l) (h1 : firstT l ≤ tk) (h2 : tk < lastT l) : (atA l tk).t ≤ tk ∧ tk < (atB l tk).t := by
  have hn := h.n1
  have hi := atI_lt (l := l) (tk := tk) (m := l.length - 1) (by omega)
  refine ⟨atI_le h1 _, ?_⟩
  by_cases e : atI l tk (l.length - 1) + 1 = l.length - 1
  · unfold atB
    rw [e]
    exact h2
  · exact atI_gt (l.length - 1) _ (by omega) (by omega)
def aX (l : List Fx) (tk : Int) : Int := sBetween (atA l tk).x (atB l tk).x (tk - (atA l tk).t) ((atB l tk).t - (atA l tk).t)
def aY (l : List Fx) (tk : Int) : Int := sBetween (atA l tk).y (atB l tk).y (tk - (atA l tk).t) ((atB l tk).t - (atA l tk).t)
def aZ (l : List Fx) (tk : Int) : Int := sBetween (atA l tk).z (atB l tk).z (tk - (atA l tk).t) ((atB l tk).t - (atA l tk).t)
def aH (l : List Fx) (tk : Int) : Int := (atB l tk).x - (atA l tk).x
def aK (l : List Fx) (tk : Int) : Int := (atB l tk).y - (atA l tk).y
def aP (l : List Fx) (tk : Int) : Int := sBetween (atA l tk).p (atB l tk).p (tk - (atA l tk).t) ((atB l tk).t - (atA l tk).t)
structure AtOK (l : List Fx) (tk : Int) : Prop where
  x : -100000 ≤ aX l tk ∧ aX l tk ≤ 100000
  y : -100000 ≤ aY l tk ∧ aY l tk ≤ 100000
  z : 0 ≤ aZ l tk ∧ aZ l tk ≤ 20000
  h : -200000 ≤ aH l tk ∧ aH l tk ≤ 200000
  k : -200000 ≤ aK l tk ∧ aK l tk ≤ 200000
  p : 1 ≤ aP l tk ∧ aP l tk ≤ 100
theorem at_ok {l : List Fx} {tk : Int} (h : TrackOK l) (h1 : firstT l ≤ tk) (h2 : tk < lastT l) : AtOK l tk := by
  have hs := at_seg h h1 h2
  have hn := h.n1
  have hi := atI_lt (l := l) (tk := tk) (m := l.length - 1) (by omega)
  have bA : (0 ≤ (atA l tk).t ∧ (atA l tk).t ≤ 100000000) ∧ (-100000 ≤ (atA l tk).x ∧ (atA l tk).x ≤ 100000) ∧ (-100000 ≤ (atA l tk).y ∧ (atA l tk).y ≤ 100000) ∧ (0 ≤ (atA l tk).z ∧ (atA l tk).z ≤ 20000) ∧ 1 ≤ (atA l tk).p ∧ (atA l tk).p ≤ 100 := h.b _ (by omega)
  have bB : (0 ≤ (atB l tk).t ∧ (atB l tk).t ≤ 100000000) ∧ (-100000 ≤ (atB l tk).x ∧ (atB l tk).x ≤ 100000) ∧ (-100000 ≤ (atB l tk).y ∧ (atB l tk).y ≤ 100000) ∧ (0 ≤ (atB l tk).z ∧ (atB l tk).z ≤ 20000) ∧ 1 ≤ (atB l tk).p ∧ (atB l tk).p ≤ 100 := h.b _ (by omega)
  have w : 0 < (atB l tk).t - (atA l tk).t := by omega
  have p0 : 0 ≤ tk - (atA l tk).t := by omega
  have p1 : tk - (atA l tk).t ≤ (atB l tk).t - (atA l tk).t := by omega
  exact ⟨⟨bet_lo w p0 p1 (by omega) (by omega), bet_hi w p0 p1 (by omega) (by omega)⟩, ⟨bet_lo w p0 p1 (by omega) (by omega), bet_hi w p0 p1 (by omega) (by omega)⟩, ⟨bet_lo w p0 p1 (by omega) (by omega), bet_hi w p0 p1 (by omega) (by omega)⟩,
    by unfold aH; omega, by unfold aK; omega, ⟨bet_lo w p0 p1 (by omega) (by omega), bet_hi w p0 p1 (by omega) (by omega)⟩⟩
def hrdA (t : Ty) (l : List Fx) (rx ry rz tk : Int) : Int := hrd t (aH l tk) (aK l tk) (aP l tk) (rx - aX l tk) (ry - aY l tk) (rz - aZ l tk)
theorem hrd_b {t : Ty} {a b p u v w : Int} (hT : sTyS t = 0) (hp : 1 ≤ p ∧ p ≤ 100) : 0 ≤ hrd t a b p u v w ∧ hrd t a b p u v w ≤ 100000000000 := by
  have hO := ok_of hT
  have hS := side_of hT
  have h8 := sec_8 (secX a b u v) (secY a b u v)
  have hd := hS.1 (sec 4 0 (secX a b u v) (secY a b u v)).toNat (by omega)
  rw [← cI_map] at hd
  have he := emi_b (d := u * u + v * v + w * w) hO hp.1 hp.2
  have hn := emi_nn (p := p) (d := u * u + v * v + w * w) hT
  have h1 := mul_bound (A := 20000000000) (B := 2000) he.1 he.2 (by omega) hd.2
  have hv : hrdV t a b p u v w ≤ 20000000000 * 2000 := h1.2
  have hv0 : 0 ≤ hrdV t a b p u v w := Int.mul_nonneg hn hd.1
  have h2 := mul_bound (A := 40000000000000) (B := 1000) (x := hrdV t a b p u v w) (y := t.side) (by omega) (by omega) (by omega) hS.2.2
  have h3 : 0 ≤ hrdV t a b p u v w * t.side := Int.mul_nonneg hv0 hS.2.1
  unfold hrd
  split
  · rw [Int.tdiv_eq_ediv_of_nonneg h3]
    omega
  · rw [Int.tdiv_eq_ediv_of_nonneg hv0]
    omega
def sumH (f : Int → Int) (a : Int) : Nat → Int
  | 0 => 0
  | n + 1 => sumH f a n + f (a + n)
theorem sumH_b {f : Int → Int} {a : Int} {n : Nat} (h : ∀ i : Nat, i < n → 0 ≤ f (a + i) ∧ f (a + i) ≤ 100000000000) : ∀ i, i ≤ n → 0 ≤ sumH f a i ∧ sumH f a i ≤ 100000000000 * i
  | 0, _ => by simp [sumH]
  | i + 1, hi => by
    have h1 := sumH_b h i (by omega)
    have h2 := h i (by omega)
    simp only [sumH]
    rw [Int.natCast_add, Int.mul_add]
    omega
end Go.Proofs.YtjhjmncjidbieaaGreatDoor
namespace Go.Proofs.YtjhjmncjidbieaaGreatDoor
open Go Go.Av Go.RowKit
def rdX (l : List Fx) : List AV → Option AV
  | [.elt _ _ i _] => some (.i (l.getD i default).t)
  | _ => none
def la73 (l : List Fx) (tk : Int) : LA := {
  pre := [.keep [0, 1, 4, 5, 6] [1], .bound 2], post := [.keep [0, 1, 4, 5, 6] [1], .bound 2]
  Gh := Nat
  st := fun i => ⟨[(0, .sl 5 (l.map encFx)), (1, .i tk), (4, .ptr 1 0), (5, .i (atI l tk i)), (6, .i i)], [(1, .box [.i 0, .i 0, .i 0, .i 0, .i 0, .i 0])], 2⟩
  ok := fun i => i + 1 ≤ l.length
  ms := fun i => l.length - i }
theorem c73 (l : List Fx) (tk : Int) (h : TrackOK l) (htk : -1000 ≤ tk ∧ tk ≤ 200000000) : PCall Tryz.prog G0 73 [.sl 5 (l.map encFx), .i tk] (.agg (atV (atA l tk) (atB l tk) tk)) := by
  have key :
   (∃ (g : Nat), g + 1 ≤ l.length ∧ AS.mk [(0, AV.sl 5 (List.map encFx l)), (1, AV.i tk), (4, AV.ptr 1 0), (5, AV.i 0), (6, AV.i 0)] [(1, ABlk.box [AV.i 0, AV.i 0, AV.i 0, AV.i 0, AV.i 0, AV.i 0])] 2 = AS.mk [(0, AV.sl 5 (List.map
   encFx l)), (1, AV.i tk), (4, AV.ptr 1 0), (5, AV.i (↑(atI l tk g) : Int)), (6, AV.i (↑g : Int))] [(1, ABlk.box [AV.i 0, AV.i 0, AV.i 0, AV.i 0, AV.i 0, AV.i 0])] 2) ∧ ∀ (g : Nat), g + 1 ≤ l.length → In64 ((↑(List.map encFx
   l).length : Int) - 1) ∧ (decide ((↑g : Int) < (↑(List.map encFx l).length : Int) - 1) = true → (0 : Int) ≤ (↑g : Int) ∧ (↑g : Int) < (↑(List.map encFx l).length : Int) ∧ nth (nthR (List.map encFx l) (↑g : Int).toNat) 0 = AV.i
   (l.getD (↑g : Int).toNat default).t ∧ (decide ((l.getD (↑g : Int).toNat default).t ≤ tk) = true → In64 ((↑g : Int) + 1) ∧ ∃ (g' : Nat), g' + 1 ≤ l.length ∧ l.length - g' < l.length - g ∧ AS.mk [(0, AV.sl 5 (List.map encFx l)), (1,
   AV.i tk), (4, AV.ptr 1 0), (5, AV.i (↑g : Int)), (6, AV.i ((↑g : Int) + 1))] [(1, ABlk.box [AV.i 0, AV.i 0, AV.i 0, AV.i 0, AV.i 0, AV.i 0])] 2 = AS.mk [(0, AV.sl 5 (List.map encFx l)), (1, AV.i tk), (4, AV.ptr 1 0), (5, AV.i
   (↑(atI l tk g') : Int)), (6, AV.i (↑g' : Int))] [(1, ABlk.box [AV.i 0, AV.i 0, AV.i 0, AV.i 0, AV.i 0, AV.i 0])] 2) ∧ (decide ((l.getD (↑g : Int).toNat default).t ≤ tk) = false → In64 ((↑g : Int) + 1) ∧ ∃ (g' : Nat), g' + 1 ≤
   l.length ∧ l.length - g' < l.length - g ∧ AS.mk [(0, AV.sl 5 (List.map encFx l)), (1, AV.i tk), (4, AV.ptr 1 0), (5, AV.i (↑(atI l tk g) : Int)), (6, AV.i ((↑g : Int) + 1))] [(1, ABlk.box [AV.i 0, AV.i 0, AV.i 0, AV.i 0, AV.i 0,
   AV.i 0])] 2 = AS.mk [(0, AV.sl 5 (List.map encFx l)), (1, AV.i tk), (4, AV.ptr 1 0), (5, AV.i (↑(atI l tk g') : Int)), (6, AV.i (↑g' : Int))] [(1, ABlk.box [AV.i 0, AV.i 0, AV.i 0, AV.i 0, AV.i 0, AV.i 0])] 2)) ∧ (decide ((↑g :
   Int) < (↑(List.map encFx l).length : Int) - 1) = false → (0 : Int) ≤ (↑(atI l tk g) : Int) ∧ (↑(atI l tk g) : Int) < (↑(List.map encFx l).length : Int) ∧ In64 ((↑(atI l tk g) : Int) + 1) ∧ (0 : Int) ≤ (↑(atI l tk g) : Int) + 1 ∧
   (↑(atI l tk g) : Int) + 1 < (↑(List.map encFx l).length : Int) ∧ AV.agg (nthR (List.map encFx l) (↑(atI l tk g) : Int).toNat) = AV.agg [AV.i (l.getD (↑(atI l tk g) : Int).toNat default).t, AV.i (l.getD (↑(atI l tk g) : Int).toNat
   default).x, AV.i (l.getD (↑(atI l tk g) : Int).toNat default).y, AV.i (l.getD (↑(atI l tk g) : Int).toNat default).z, AV.i (l.getD (↑(atI l tk g) : Int).toNat default).p] ∧ AV.agg (nthR (List.map encFx l) ((↑(atI l tk g) : Int) +
   1).toNat) = AV.agg [AV.i (l.getD ((↑(atI l tk g) : Int) + 1).toNat default).t, AV.i (l.getD ((↑(atI l tk g) : Int) + 1).toNat default).x, AV.i (l.getD ((↑(atI l tk g) : Int) + 1).toNat default).y, AV.i (l.getD ((↑(atI l tk g) :
   Int) + 1).toNat default).z, AV.i (l.getD ((↑(atI l tk g) : Int) + 1).toNat default).p] ∧ In64 (tk - (l.getD (↑(atI l tk g) : Int).toNat default).t) ∧ In64 ((l.getD ((↑(atI l tk g) : Int) + 1).toNat default).t - (l.getD (↑(atI l tk
   g) : Int).toNat default).t) ∧ In64 ((l.getD ((↑(atI l tk g) : Int) + 1).toNat default).x - (l.getD (↑(atI l tk g) : Int).toNat default).x) ∧ In64 ((l.getD ((↑(atI l tk g) : Int) + 1).toNat default).y - (l.getD (↑(atI l tk g) :
   Int).toNat default).y) ∧ PCall Tryz.prog G0 97 [AV.i (l.getD (↑(atI l tk g) : Int).toNat default).x, AV.i (l.getD ((↑(atI l tk g) : Int) + 1).toNat default).x, AV.i (tk - (l.getD (↑(atI l tk g) : Int).toNat default).t), AV.i
   ((l.getD ((↑(atI l tk g) : Int) + 1).toNat default).t - (l.getD (↑(atI l tk g) : Int).toNat default).t)] (AV.i (sBetween (l.getD (↑(atI l tk g) : Int).toNat default).x (l.getD ((↑(atI l tk g) : Int) + 1).toNat default).x (tk -
   (l.getD (↑(atI l tk g) : Int).toNat default).t) ((l.getD ((↑(atI l tk g) : Int) + 1).toNat default).t - (l.getD (↑(atI l tk g) : Int).toNat default).t))) ∧ PCall Tryz.prog G0 97 [AV.i (l.getD (↑(atI l tk g) : Int).toNat default).y,
   AV.i (l.getD ((↑(atI l tk g) : Int) + 1).toNat default).y, AV.i (tk - (l.getD (↑(atI l tk g) : Int).toNat default).t), AV.i ((l.getD ((↑(atI l tk g) : Int) + 1).toNat default).t - (l.getD (↑(atI l tk g) : Int).toNat default).t)]
   (AV.i (sBetween (l.getD (↑(atI l tk g) : Int).toNat default).y (l.getD ((↑(atI l tk g) : Int) + 1).toNat default).y (tk - (l.getD (↑(atI l tk g) : Int).toNat default).t) ((l.getD ((↑(atI l tk g) : Int) + 1).toNat default).t -
   (l.getD (↑(atI l tk g) : Int).toNat default).t))) ∧ PCall Tryz.prog G0 97 [AV.i (l.getD (↑(atI l tk g) : Int).toNat default).z, AV.i (l.getD ((↑(atI l tk g) : Int) + 1).toNat default).z, AV.i (tk - (l.getD (↑(atI l tk g) :
   Int).toNat default).t), AV.i ((l.getD ((↑(atI l tk g) : Int) + 1).toNat default).t - (l.getD (↑(atI l tk g) : Int).toNat default).t)] (AV.i (sBetween (l.getD (↑(atI l tk g) : Int).toNat default).z (l.getD ((↑(atI l tk g) : Int) +
   1).toNat default).z (tk - (l.getD (↑(atI l tk g) : Int).toNat default).t) ((l.getD ((↑(atI l tk g) : Int) + 1).toNat default).t - (l.getD (↑(atI l tk g) : Int).toNat default).t))) ∧ PCall Tryz.prog G0 97 [AV.i (l.getD (↑(atI l tk
   g) : Int).toNat default).p, AV.i (l.getD ((↑(atI l tk g) : Int) + 1).toNat default).p, AV.i (tk - (l.getD (↑(atI l tk g) : Int).toNat default).t), AV.i ((l.getD ((↑(atI l tk g) : Int) + 1).toNat default).t - (l.getD (↑(atI l tk g)
   : Int).toNat default).t)] (AV.i (sBetween (l.getD (↑(atI l tk g) : Int).toNat default).p (l.getD ((↑(atI l tk g) : Int) + 1).toNat default).p (tk - (l.getD (↑(atI l tk g) : Int).toNat default).t) ((l.getD ((↑(atI l tk g) : Int) +
   1).toNat default).t - (l.getD (↑(atI l tk g) : Int).toNat default).t))) ∧ AV.agg [AV.i (sBetween (l.getD (↑(atI l tk g) : Int).toNat default).x (l.getD ((↑(atI l tk g) : Int) + 1).toNat default).x (tk - (l.getD (↑(atI l tk g) :
   Int).toNat default).t) ((l.getD ((↑(atI l tk g) : Int) + 1).toNat default).t - (l.getD (↑(atI l tk g) : Int).toNat default).t)), AV.i (sBetween (l.getD (↑(atI l tk g) : Int).toNat default).y (l.getD ((↑(atI l tk g) : Int) +
   1).toNat default).y (tk - (l.getD (↑(atI l tk g) : Int).toNat default).t) ((l.getD ((↑(atI l tk g) : Int) + 1).toNat default).t - (l.getD (↑(atI l tk g) : Int).toNat default).t)), AV.i (sBetween (l.getD (↑(atI l tk g) : Int).toNat
   default).z (l.getD ((↑(atI l tk g) : Int) + 1).toNat default).z (tk - (l.getD (↑(atI l tk g) : Int).toNat default).t) ((l.getD ((↑(atI l tk g) : Int) + 1).toNat default).t - (l.getD (↑(atI l tk g) : Int).toNat default).t)), AV.i
   ((l.getD ((↑(atI l tk g) : Int) + 1).toNat default).x - (l.getD (↑(atI l tk g) : Int).toNat default).x), AV.i ((l.getD ((↑(atI l tk g) : Int) + 1).toNat default).y - (l.getD (↑(atI l tk g) : Int).toNat default).y), AV.i (sBetween
   (l.getD (↑(atI l tk g) : Int).toNat default).p (l.getD ((↑(atI l tk g) : Int) + 1).toNat default).p (tk - (l.getD (↑(atI l tk g) : Int).toNat default).t) ((l.getD ((↑(atI l tk g) : Int) + 1).toNat default).t - (l.getD (↑(atI l tk
   g) : Int).toNat default).t))] = AV.agg [AV.i (sBetween (atA l tk).x (atB l tk).x (tk - (atA l tk).t) ((atB l tk).t - (atA l tk).t)), AV.i (sBetween (atA l tk).y (atB l tk).y (tk - (atA l tk).t) ((atB l tk).t - (atA l tk).t)), AV.i
   (sBetween (atA l tk).z (atB l tk).z (tk - (atA l tk).t) ((atB l tk).t - (atA l tk).t)), AV.i ((atB l tk).x - (atA l tk).x), AV.i ((atB l tk).y - (atA l tk).y), AV.i (sBetween (atA l tk).p (atB l tk).p (tk - (atA l tk).t) ((atB l
   tk).t - (atA l tk).t))]) := by
    have hlm : (List.map encFx l).length = l.length := List.length_map _
    have hn := h.n1
    have hl := h.n2
    refine ⟨⟨0, by omega, rfl⟩, fun g hg => ⟨by unfold In64; omega, fun hd => ?_, fun hd => ?_⟩⟩
    · rw [hlm] at hd
      have hlt := of_decide_eq_true hd
      simp only [Int.toNat_natCast]
      refine ⟨by omega, by omega, by rw [row_at encFx (by omega)]; rfl, fun hx => ⟨by unfold In64; omega, g + 1, by omega, by omega, ?_⟩, fun hx => ⟨by unfold In64; omega, g + 1, by omega, by omega, ?_⟩⟩
      · rw [show atI l tk (g + 1) = g from if_pos (of_decide_eq_true hx)]
        rfl
      · rw [show atI l tk (g + 1) = atI l tk g from if_neg (of_decide_eq_false hx)]
        rfl
    · rw [hlm] at hd
      have hge : g = l.length - 1 := by
        have := of_decide_eq_false hd
        omega
      subst hge
      have hi := atI_lt (l := l) (tk := tk) (m := l.length - 1) (by omega)
      have e3 : ((↑(atI l tk (l.length - 1)) : Int) + 1).toNat = atI l tk (l.length - 1) + 1 := by omega
      have r1 : nthR (List.map encFx l) (atI l tk (l.length - 1)) = encFx (atA l tk) := row_at encFx (by omega)
      have r2 : nthR (List.map encFx l) (atI l tk (l.length - 1) + 1) = encFx (atB l tk) := row_at encFx (by omega)
      have bA := h.b (atI l tk (l.length - 1)) (by omega)
      have bB := h.b (atI l tk (l.length - 1) + 1) (by omega)
      have up := h.up (atI l tk (l.length - 1)) (by omega)
      rw [e3, Int.toNat_natCast, r1, r2]
      rw [show l.getD (atI l tk (l.length - 1)) default = atA l tk from rfl] at bA up ⊢
      rw [show l.getD (atI l tk (l.length - 1) + 1) default = atB l tk from rfl] at bB up ⊢
      generalize atA l tk = A at *
      generalize atB l tk = B at *
      exact ⟨by omega, by omega, by unfold In64; omega, by omega, by omega, rfl, rfl, by unfold In64; omega, by unfold In64; omega, by unfold In64; omega, by unfold In64; omega, c97 _ _ _ _ ⟨by omega, by omega, by omega, by omega, by omega, by omega, by omega⟩, c97 _ _ _ _ ⟨by omega, by omega, by omega, by omega, by omega, by omega, by omega⟩, c97 _ _ _ _ ⟨by omega, by omega, by omega, by omega, by omega, by omega, by omega⟩, c97 _ _ _ _ ⟨by omega, by omega, by omega, by omega, by omega, by omega, by omega⟩, rfl⟩
  exact c_of Tryz.f73 (fzB (mkB sp126 73 [(5, 4, rdX l), (7, 3, rdL 5 encFx l 5 true), (7, 8, rdL 5 encFx l 5 true)] (fun i => if i.beq 0 then some (la73 l tk) else none))) (by kernel_rfl) (by kernel_rfl) (by kernel_rfl) (by kernel_rfl) key (by kernel_rfl)
theorem c101 (a b c d : Int)  : PCall Tryz.prog G0 101 [.agg [.i a, .i b], .agg [.i c, .i d]] (.agg [.i (maxI a c), .i (minI b d)]) := by
  have key :
   AV.agg [AV.i (maxI a c), AV.i (minI b d)] = AV.agg [AV.i (maxI a c), AV.i (minI b d)] := by
    rfl
  exact c_of Tryz.f101 (mkB spR 101 [] noLa) (by kernel_rfl) (by kernel_rfl) (by kernel_rfl) (by kernel_rfl) key (by kernel_rfl)
def sp36 (t : Ty) (l : List Fx) (x y z : Int) : Nat → List AV → Option AV
  | 73, [_, .int _ tk] => some (.agg (atV (atA l tk) (atB l tk) tk))
  | 51, [_, .agg [.int _ a, .int _ b, .int _ c, .int _ d, .int _ e, .int _ p], _] => some (.i (hrd t d e p (x - a) (y - b) (z - c)))
  | n, x => spR n x
def fromA (l : List Fx) (a : Int) : Int := maxI a (firstT l)
def toB (l : List Fx) (b : Int) : Int := minI b (lastT l)
def la36 (t : Ty) (l : List Fx) (a b x y z : Int) : LA := {
  pre := [.keep [1, 4, 6, 7, 9, 10] [], .bound 1], post := [.keep [1, 4, 6, 7, 9, 10] [], .bound 1]
  Gh := Nat
  st := fun i => ⟨[(1, .sl 5 (l.map encFx)), (4, .elt 13 [encTy t] 0 0), (6, .elt 2 [[.i a, .i b]] 0 0), (7, .elt 3 [[.i x, .i y, .i z]] 0 0), (9, .i (sumH (hrdA t l x y z) (fromA l a) i)), (10, .i (fromA l a + i))], [], 1⟩
  ok := fun i => i ≤ (toB l b - fromA l a).toNat
  ms := fun i => (toB l b - fromA l a).toNat - i }
theorem c36 (t : Ty) (l : List Fx) (a b x y z : Int) (hT : sTyS t = 0) (hO : TrackOK l) (hsp : lastT l - firstT l ≤ 1000) (ha : 0 ≤ a ∧ a ≤ 100000000) (hb : 0 ≤ b ∧ b ≤ 100000000) (hx : -100000 ≤ x ∧ x ≤ 100000) (hy : -100000 ≤ y ∧ y ≤ 100000) (hz : 0 ≤ z ∧ z ≤ 20000) : PCall Tryz.prog G0 36 [.agg (encTy t), .sl 5 (l.map encFx), .agg [.i a, .i b], .agg [.i x, .i y, .i z]] (.i (sumH (hrdA t l x y z) (fromA l a) (toB l b - fromA l a).toNat)) := by
  have key :
   (0 : Int) ≤ 0 ∧ (0 : Int) < (↑(List.map encFx l).length : Int) ∧ nth (nthR (List.map encFx l) 0) 0 = AV.i (l.getD (Int.toNat (0 : Int)) default).t ∧ (∃ (g : Nat), g ≤ (toB l b - fromA l a).toNat ∧ AS.mk [(1, AV.sl 5 (List.map encFx
   l)), (4, AV.elt 13 [(encTy t)] 0 0), (6, AV.elt 2 [[AV.i a, AV.i b]] 0 0), (7, AV.elt 3 [[AV.i x, AV.i y, AV.i z]] 0 0), (9, AV.i 0), (10, AV.i (maxI a (l.getD (Int.toNat (0 : Int)) default).t))] [] 1 = AS.mk [(1, AV.sl 5 (List.map
   encFx l)), (4, AV.elt 13 [(encTy t)] 0 0), (6, AV.elt 2 [[AV.i a, AV.i b]] 0 0), (7, AV.elt 3 [[AV.i x, AV.i y, AV.i z]] 0 0), (9, AV.i (sumH (hrdA t l x y z) (fromA l a) g)), (10, AV.i (fromA l a + (↑g : Int)))] [] 1) ∧ ∀ (g :
   Nat), g ≤ (toB l b - fromA l a).toNat → In64 ((↑(List.map encFx l).length : Int) - 1) ∧ (0 : Int) ≤ (↑(List.map encFx l).length : Int) - 1 ∧ (↑(List.map encFx l).length : Int) - 1 < (↑(List.map encFx l).length : Int) ∧ nth (nthR
   (List.map encFx l) ((↑(List.map encFx l).length : Int) - 1).toNat) 0 = AV.i (l.getD ((↑(List.map encFx l).length : Int) - 1).toNat default).t ∧ (decide (fromA l a + (↑g : Int) < minI b (l.getD ((↑(List.map encFx l).length : Int) -
   1).toNat default).t) = true → In64 (sumH (hrdA t l x y z) (fromA l a) g + hrd t ((atB l (fromA l a + (↑g : Int))).x - (atA l (fromA l a + (↑g : Int))).x) ((atB l (fromA l a + (↑g : Int))).y - (atA l (fromA l a + (↑g : Int))).y)
   (sBetween (atA l (fromA l a + (↑g : Int))).p (atB l (fromA l a + (↑g : Int))).p (fromA l a + (↑g : Int) - (atA l (fromA l a + (↑g : Int))).t) ((atB l (fromA l a + (↑g : Int))).t - (atA l (fromA l a + (↑g : Int))).t)) (x - sBetween
   (atA l (fromA l a + (↑g : Int))).x (atB l (fromA l a + (↑g : Int))).x (fromA l a + (↑g : Int) - (atA l (fromA l a + (↑g : Int))).t) ((atB l (fromA l a + (↑g : Int))).t - (atA l (fromA l a + (↑g : Int))).t)) (y - sBetween (atA l
   (fromA l a + (↑g : Int))).y (atB l (fromA l a + (↑g : Int))).y (fromA l a + (↑g : Int) - (atA l (fromA l a + (↑g : Int))).t) ((atB l (fromA l a + (↑g : Int))).t - (atA l (fromA l a + (↑g : Int))).t)) (z - sBetween (atA l (fromA l a
   + (↑g : Int))).z (atB l (fromA l a + (↑g : Int))).z (fromA l a + (↑g : Int) - (atA l (fromA l a + (↑g : Int))).t) ((atB l (fromA l a + (↑g : Int))).t - (atA l (fromA l a + (↑g : Int))).t))) ∧ PCall Tryz.prog G0 73 [AV.sl 5
   (List.map encFx l), AV.i (fromA l a + (↑g : Int))] (AV.agg [AV.i (sBetween (atA l (fromA l a + (↑g : Int))).x (atB l (fromA l a + (↑g : Int))).x (fromA l a + (↑g : Int) - (atA l (fromA l a + (↑g : Int))).t) ((atB l (fromA l a + (↑g
   : Int))).t - (atA l (fromA l a + (↑g : Int))).t)), AV.i (sBetween (atA l (fromA l a + (↑g : Int))).y (atB l (fromA l a + (↑g : Int))).y (fromA l a + (↑g : Int) - (atA l (fromA l a + (↑g : Int))).t) ((atB l (fromA l a + (↑g :
   Int))).t - (atA l (fromA l a + (↑g : Int))).t)), AV.i (sBetween (atA l (fromA l a + (↑g : Int))).z (atB l (fromA l a + (↑g : Int))).z (fromA l a + (↑g : Int) - (atA l (fromA l a + (↑g : Int))).t) ((atB l (fromA l a + (↑g : Int))).t
   - (atA l (fromA l a + (↑g : Int))).t)), AV.i ((atB l (fromA l a + (↑g : Int))).x - (atA l (fromA l a + (↑g : Int))).x), AV.i ((atB l (fromA l a + (↑g : Int))).y - (atA l (fromA l a + (↑g : Int))).y), AV.i (sBetween (atA l (fromA l
   a + (↑g : Int))).p (atB l (fromA l a + (↑g : Int))).p (fromA l a + (↑g : Int) - (atA l (fromA l a + (↑g : Int))).t) ((atB l (fromA l a + (↑g : Int))).t - (atA l (fromA l a + (↑g : Int))).t))]) ∧ PCall Tryz.prog G0 51 [AV.agg (encTy
   t), AV.agg [AV.i (sBetween (atA l (fromA l a + (↑g : Int))).x (atB l (fromA l a + (↑g : Int))).x (fromA l a + (↑g : Int) - (atA l (fromA l a + (↑g : Int))).t) ((atB l (fromA l a + (↑g : Int))).t - (atA l (fromA l a + (↑g :
   Int))).t)), AV.i (sBetween (atA l (fromA l a + (↑g : Int))).y (atB l (fromA l a + (↑g : Int))).y (fromA l a + (↑g : Int) - (atA l (fromA l a + (↑g : Int))).t) ((atB l (fromA l a + (↑g : Int))).t - (atA l (fromA l a + (↑g :
   Int))).t)), AV.i (sBetween (atA l (fromA l a + (↑g : Int))).z (atB l (fromA l a + (↑g : Int))).z (fromA l a + (↑g : Int) - (atA l (fromA l a + (↑g : Int))).t) ((atB l (fromA l a + (↑g : Int))).t - (atA l (fromA l a + (↑g :
   Int))).t)), AV.i ((atB l (fromA l a + (↑g : Int))).x - (atA l (fromA l a + (↑g : Int))).x), AV.i ((atB l (fromA l a + (↑g : Int))).y - (atA l (fromA l a + (↑g : Int))).y), AV.i (sBetween (atA l (fromA l a + (↑g : Int))).p (atB l
   (fromA l a + (↑g : Int))).p (fromA l a + (↑g : Int) - (atA l (fromA l a + (↑g : Int))).t) ((atB l (fromA l a + (↑g : Int))).t - (atA l (fromA l a + (↑g : Int))).t))], AV.agg [AV.i x, AV.i y, AV.i z]] (AV.i (hrd t ((atB l (fromA l a
   + (↑g : Int))).x - (atA l (fromA l a + (↑g : Int))).x) ((atB l (fromA l a + (↑g : Int))).y - (atA l (fromA l a + (↑g : Int))).y) (sBetween (atA l (fromA l a + (↑g : Int))).p (atB l (fromA l a + (↑g : Int))).p (fromA l a + (↑g :
   Int) - (atA l (fromA l a + (↑g : Int))).t) ((atB l (fromA l a + (↑g : Int))).t - (atA l (fromA l a + (↑g : Int))).t)) (x - sBetween (atA l (fromA l a + (↑g : Int))).x (atB l (fromA l a + (↑g : Int))).x (fromA l a + (↑g : Int) -
   (atA l (fromA l a + (↑g : Int))).t) ((atB l (fromA l a + (↑g : Int))).t - (atA l (fromA l a + (↑g : Int))).t)) (y - sBetween (atA l (fromA l a + (↑g : Int))).y (atB l (fromA l a + (↑g : Int))).y (fromA l a + (↑g : Int) - (atA l
   (fromA l a + (↑g : Int))).t) ((atB l (fromA l a + (↑g : Int))).t - (atA l (fromA l a + (↑g : Int))).t)) (z - sBetween (atA l (fromA l a + (↑g : Int))).z (atB l (fromA l a + (↑g : Int))).z (fromA l a + (↑g : Int) - (atA l (fromA l a
   + (↑g : Int))).t) ((atB l (fromA l a + (↑g : Int))).t - (atA l (fromA l a + (↑g : Int))).t)))) ∧ In64 (fromA l a + (↑g : Int) + 1) ∧ ∃ (g' : Nat), g' ≤ (toB l b - fromA l a).toNat ∧ (toB l b - fromA l a).toNat - g' < (toB l b -
   fromA l a).toNat - g ∧ AS.mk [(1, AV.sl 5 (List.map encFx l)), (4, AV.elt 13 [(encTy t)] 0 0), (6, AV.elt 2 [[AV.i a, AV.i b]] 0 0), (7, AV.elt 3 [[AV.i x, AV.i y, AV.i z]] 0 0), (9, AV.i (sumH (hrdA t l x y z) (fromA l a) g + hrd
   t ((atB l (fromA l a + (↑g : Int))).x - (atA l (fromA l a + (↑g : Int))).x) ((atB l (fromA l a + (↑g : Int))).y - (atA l (fromA l a + (↑g : Int))).y) (sBetween (atA l (fromA l a + (↑g : Int))).p (atB l (fromA l a + (↑g : Int))).p
   (fromA l a + (↑g : Int) - (atA l (fromA l a + (↑g : Int))).t) ((atB l (fromA l a + (↑g : Int))).t - (atA l (fromA l a + (↑g : Int))).t)) (x - sBetween (atA l (fromA l a + (↑g : Int))).x (atB l (fromA l a + (↑g : Int))).x (fromA l a
   + (↑g : Int) - (atA l (fromA l a + (↑g : Int))).t) ((atB l (fromA l a + (↑g : Int))).t - (atA l (fromA l a + (↑g : Int))).t)) (y - sBetween (atA l (fromA l a + (↑g : Int))).y (atB l (fromA l a + (↑g : Int))).y (fromA l a + (↑g :
   Int) - (atA l (fromA l a + (↑g : Int))).t) ((atB l (fromA l a + (↑g : Int))).t - (atA l (fromA l a + (↑g : Int))).t)) (z - sBetween (atA l (fromA l a + (↑g : Int))).z (atB l (fromA l a + (↑g : Int))).z (fromA l a + (↑g : Int) -
   (atA l (fromA l a + (↑g : Int))).t) ((atB l (fromA l a + (↑g : Int))).t - (atA l (fromA l a + (↑g : Int))).t)))), (10, AV.i (fromA l a + (↑g : Int) + 1))] [] 1 = AS.mk [(1, AV.sl 5 (List.map encFx l)), (4, AV.elt 13 [(encTy t)] 0
   0), (6, AV.elt 2 [[AV.i a, AV.i b]] 0 0), (7, AV.elt 3 [[AV.i x, AV.i y, AV.i z]] 0 0), (9, AV.i (sumH (hrdA t l x y z) (fromA l a) g')), (10, AV.i (fromA l a + (↑g' : Int)))] [] 1) ∧ (decide (fromA l a + (↑g : Int) < minI b
   (l.getD ((↑(List.map encFx l).length : Int) - 1).toNat default).t) = false → AV.i (sumH (hrdA t l x y z) (fromA l a) g) = AV.i (sumH (hrdA t l x y z) (fromA l a) (toB l b - fromA l a).toNat)) := by
    have hlm : (List.map encFx l).length = l.length := List.length_map _
    have hn := hO.n1
    have hn2 := hO.n2
    have e0 : ((↑(List.map encFx l).length : Int) - 1).toNat = l.length - 1 := by omega
    have b0 := hO.b 0 (by omega)
    have b1 := hO.b (l.length - 1) (by omega)
    have hf : firstT l = (l.getD 0 default).t := rfl
    have hl : lastT l = (l.getD (l.length - 1) default).t := rfl
    have f0 : firstT l ≤ fromA l a ∧ fromA l a ≤ 100000000 := by
      unfold fromA maxI
      split <;> omega
    have t0 : toB l b ≤ lastT l ∧ toB l b ≤ 100000000 := by
      unfold toB minI
      split <;> omega
    have hA : ∀ i : Nat, i < (toB l b - fromA l a).toNat → AtOK l (fromA l a + i) := fun i hi => at_ok hO (by omega) (by omega)
    have hH : ∀ i : Nat, i < (toB l b - fromA l a).toNat → 0 ≤ hrdA t l x y z (fromA l a + i) ∧ hrdA t l x y z (fromA l a + i) ≤ 100000000000 := fun i hi => hrd_b hT (hA i hi).p
    have hN : (toB l b - fromA l a).toNat ≤ 1000 := by omega
    have hS := sumH_b hH
    rw [e0]
    refine ⟨by omega, by omega, by rw [row_at encFx (by omega)]; rfl, ⟨0, Nat.zero_le _, ?_⟩, fun g hg => ⟨by unfold In64; omega, by omega, by omega, by rw [row_at encFx (by omega)]; rfl, fun hd => ?_, fun hd => ?_⟩⟩
    · rw [show fromA l a + ((0 : Nat) : Int) = fromA l a by omega]
      rfl
    · have hlt : fromA l a + (g : Int) < toB l b := of_decide_eq_true hd
      have hg' : g < (toB l b - fromA l a).toNat := by omega
      have a1 := hA g hg'
      have s1 := hS (g + 1) hg'
      refine ⟨(show In64 (sumH (hrdA t l x y z) (fromA l a) (g + 1)) from by unfold In64; omega), c73 l _ hO (by omega), c51 t _ _ _ _ _ _ _ _ _ (ok_of hT) a1.x a1.y a1.z a1.h a1.k a1.p hx hy hz (side_of hT).1 (side_of hT).2, by unfold In64; omega, g + 1, hg', by omega, ?_⟩
      rw [show fromA l a + ((g + 1 : Nat) : Int) = fromA l a + g + 1 by omega]
      rfl
    · have : ¬ (fromA l a + (g : Int) < toB l b) := of_decide_eq_false hd
      rw [show g = (toB l b - fromA l a).toNat by omega]
  exact c_of Tryz.f36 (fzB (mkB (sp36 t l x y z) 36 [(2, 5, rdX l), (3, 9, rdX l)] (fun i => if i.beq 0 then some (la36 t l a b x y z) else none))) (by kernel_rfl) (by kernel_rfl) (by kernel_rfl) (by kernel_rfl) key (by kernel_rfl)
end Go.Proofs.YtjhjmncjidbieaaGreatDoor
namespace Go.Proofs.YtjhjmncjidbieaaGreatDoor
open Go Go.Av Go.RowKit
def hrL (a : Int) (H : Nat → Int) (n : Nat) : List (List AV) := (List.range n).map fun (i : Nat) => [.i (a + i), .i (H i)]
def la144 (l : Nat) (a b : Int) (tc : List AV) (tr : AV) (rx ry rz : Int) (H : Nat → Int) : LA := {
  pre := [.keep [0, 1, 2, 3, 4, 6] [0], .bound 1], post := [.keep [0, 1, 2, 3, 4, 6] [0], .bound 1]
  Gh := Nat
  st := fun i => ⟨[(0, .yld l), (1, .elt 2 [[.i a, .i b]] 0 0), (2, .elt 13 [tc] 0 0), (3, .elt 1 [[tr]] 0 0), (4, .elt 3 [[.i rx, .i ry, .i rz]] 0 0), (6, .i (a + i))], [(0, .ready l (hrL a H i))], 1⟩
  ok := fun i => i ≤ (b - a).toNat
  ms := fun i => (b - a).toNat - i }
def sp144 (a : Int) (S : Nat → List AV) (hd : List AV → Int) : Nat → List AV → Option AV
  | 126, [_, .int _ t] => some (.agg (S (t - a).toNat))
  | 117, [_, .agg s, _] => some (.i (hd s))
  | _, _ => none
def B144 (a b : Int) (tc : List AV) (tr : AV) (rx ry rz : Int) (S : Nat → List AV) (hd : List AV → Int) (l : Nat) : BA :=
  mkB (sp144 a S hd) 144 [] (fun i => if i.beq 0 then some (la144 l a b tc tr rx ry rz fun i => hd (S i)) else none)
theorem s_of {f : Nat} {cap : List AV} {L : List (List AV)} (fn : Func) (B : Nat → BA) (hf : Tryz.prog.funcs[f]? = some fn) (hb : fn.body = some (bodyOf fn)) (hn : (fn.name == "runtime.NumGoroutine") = false) (hlen : Nat.ble (cap.length + 1) fn.ntmps = true) (hres : fn.results.toList = [])
    {q : Nat → Prop} (hq : ∀ l, q l) (h : ∀ l, VC (bodyE Tryz.prog T0 G0 fn.ntmps L) (B l) 10000 0 (bodyOf fn) (startI l cap) (seqQ l L) = q l) : PSeq Tryz.prog G0 f cap L :=
  seq_of_VC tok mix hf hb hn (Nat.le_of_ble_eq_true hlen) hres B fun l => vc_of (hq l) (h l)
theorem hr_succ (a : Int) (H : Nat → Int) (n : Nat) : hrL a H n ++ [[.i (a + n), .i (H n)]] = hrL a H (n + 1) := by
  simp [hrL, List.range_succ]
theorem hr_post (a : Int) (H : Nat → Int) : ∀ {n m : Nat}, n < m → ∃ post, hrL a H m = hrL a H n ++ [.i (a + n), .i (H n)] :: post
  | n, m, h => by
    refine ⟨(List.range' (n + 1) (m - (n + 1))).map fun (i : Nat) => [.i (a + i), .i (H i)], ?_⟩
    rw [← List.singleton_append, ← List.append_assoc, hr_succ]
    unfold hrL
    rw [← List.map_append, List.range_eq_range', List.range_eq_range', show List.range' (n + 1) (m - (n + 1)) = List.range' (0 + (n + 1)) (m - (n + 1)) by rw [Nat.zero_add], List.range'_append_1, show n + 1 + (m - (n + 1)) = m by omega]
theorem s144 (a b : Int) (c0 c1 c2 c3 c4 c5 c6 c7 c8 c9 c10 c11 c12 : AV) (rows : List (List AV)) (rx ry rz : Int) (S : Nat → List AV) (hd : List AV → Int) (ha : -1000000000 ≤ a) (hb : b ≤ 1000000000)
    (h1 : ∀ i : Nat, i < (b - a).toNat → PCall Tryz.prog G0 126 [.sl 5 rows, .i (a + i)] (.agg (S i)))
    (h2 : ∀ i : Nat, i < (b - a).toNat → PCall Tryz.prog G0 117 [.agg [c0, c1, c2, c3, c4, c5, c6, c7, c8, c9, c10, c11, c12], .agg (S i), .agg [.i rx, .i ry, .i rz]] (.i (hd (S i)))) :
    PSeq Tryz.prog G0 144 [.elt 2 [[.i a, .i b]] 0 0, .elt 13 [[c0, c1, c2, c3, c4, c5, c6, c7, c8, c9, c10, c11, c12]] 0 0, .elt 1 [[.sl 5 rows]] 0 0, .elt 3 [[.i rx, .i ry, .i rz]] 0 0] (hrL a (fun i => hd (S i)) (b - a).toNat) := by
  have key : ∀ l : Nat,
      (∃ (g : Nat),
      g ≤ (b - a).toNat ∧
      AS.mk
      [((0 : Nat), AV.yld l),
      ((1 : Nat), AV.elt (2 : Nat) [[AV.int IntKind.i64 a, AV.int IntKind.i64 b]] (0 : Nat) (0 : Nat)),
      ((2 : Nat),
      AV.elt (13 : Nat) [[c0, c1, c2, c3, c4, c5, c6, c7, c8, c9, c10, c11, c12]] (0 : Nat) (0 : Nat)),
      ((3 : Nat), AV.elt (1 : Nat) [[AV.sl (5 : Nat) rows]] (0 : Nat) (0 : Nat)),
      ((4 : Nat),
      AV.elt (3 : Nat) [[AV.int IntKind.i64 rx, AV.int IntKind.i64 ry, AV.int IntKind.i64 rz]] (0 : Nat)
      (0 : Nat)),
      ((6 : Nat), AV.int IntKind.i64 a)]
      [((0 : Nat), ABlk.ready l [])] (1 : Nat) =
      AS.mk
      [((0 : Nat), AV.yld l),
      ((1 : Nat), AV.elt (2 : Nat) [[AV.int IntKind.i64 a, AV.int IntKind.i64 b]] (0 : Nat) (0 : Nat)),
      ((2 : Nat),
      AV.elt (13 : Nat) [[c0, c1, c2, c3, c4, c5, c6, c7, c8, c9, c10, c11, c12]] (0 : Nat) (0 : Nat)),
      ((3 : Nat), AV.elt (1 : Nat) [[AV.sl (5 : Nat) rows]] (0 : Nat) (0 : Nat)),
      ((4 : Nat),
      AV.elt (3 : Nat) [[AV.int IntKind.i64 rx, AV.int IntKind.i64 ry, AV.int IntKind.i64 rz]] (0 : Nat)
      (0 : Nat)),
      ((6 : Nat), AV.int IntKind.i64 (a + (↑g : Int)))]
      [((0 : Nat), ABlk.ready l (hrL a (fun (i : Nat) => hd (S i)) g))] (1 : Nat)) ∧
      ∀ (g : Nat),
      g ≤ (b - a).toNat →
      (decide (a + (↑g : Int) < b) = true →
      l = l ∧
      PCall Tryz.prog G0 (126 : Nat) [AV.sl (5 : Nat) rows, AV.int IntKind.i64 (a + (↑g : Int))]
      (AV.agg (S (a + (↑g : Int) - a).toNat)) ∧
      PCall Tryz.prog G0 (117 : Nat)
      [AV.agg [c0, c1, c2, c3, c4, c5, c6, c7, c8, c9, c10, c11, c12],
      AV.agg (S (a + (↑g : Int) - a).toNat),
      AV.agg [AV.int IntKind.i64 rx, AV.int IntKind.i64 ry, AV.int IntKind.i64 rz]]
      (AV.int IntKind.i64 (hd (S (a + (↑g : Int) - a).toNat))) ∧
      (∃ (post : List (List AV)),
      hrL a (fun (i : Nat) => hd (S i)) (b - a).toNat =
      hrL a (fun (i : Nat) => hd (S i)) g ++
      [AV.int IntKind.i64 (a + (↑g : Int)),
      AV.int IntKind.i64 (hd (S (a + (↑g : Int) - a).toNat))] ::
      post) ∧
      l = l ∧
      (hrL a (fun (i : Nat) => hd (S i)) g ++
      [[AV.int IntKind.i64 (a + (↑g : Int)),
      AV.int IntKind.i64 (hd (S (a + (↑g : Int) - a).toNat))]]).length =
      (hrL a (fun (i : Nat) => hd (S i)) g).length + (1 : Nat) ∧
      (In64 (a + (↑g : Int) + (1 : Int)) ∧
      ∃ (g' : Nat),
      g' ≤ (b - a).toNat ∧
      (b - a).toNat - g' < (b - a).toNat - g ∧
      AS.mk
      [((0 : Nat), AV.yld l),
      ((1 : Nat),
      AV.elt (2 : Nat) [[AV.int IntKind.i64 a, AV.int IntKind.i64 b]] (0 : Nat)
      (0 : Nat)),
      ((2 : Nat),
      AV.elt (13 : Nat) [[c0, c1, c2, c3, c4, c5, c6, c7, c8, c9, c10, c11, c12]]
      (0 : Nat) (0 : Nat)),
      ((3 : Nat), AV.elt (1 : Nat) [[AV.sl (5 : Nat) rows]] (0 : Nat) (0 : Nat)),
      ((4 : Nat),
      AV.elt (3 : Nat)
      [[AV.int IntKind.i64 rx, AV.int IntKind.i64 ry, AV.int IntKind.i64 rz]]
      (0 : Nat) (0 : Nat)),
      ((6 : Nat), AV.int IntKind.i64 (a + (↑g : Int) + (1 : Int)))]
      [((0 : Nat),
      ABlk.ready l
      (hrL a (fun (i : Nat) => hd (S i)) g ++
      [[AV.int IntKind.i64 (a + (↑g : Int)),
      AV.int IntKind.i64 (hd (S (a + (↑g : Int) - a).toNat))]]))]
      (1 : Nat) =
      AS.mk
      [((0 : Nat), AV.yld l),
      ((1 : Nat),
      AV.elt (2 : Nat) [[AV.int IntKind.i64 a, AV.int IntKind.i64 b]] (0 : Nat)
      (0 : Nat)),
      ((2 : Nat),
      AV.elt (13 : Nat) [[c0, c1, c2, c3, c4, c5, c6, c7, c8, c9, c10, c11, c12]]
      (0 : Nat) (0 : Nat)),
      ((3 : Nat), AV.elt (1 : Nat) [[AV.sl (5 : Nat) rows]] (0 : Nat) (0 : Nat)),
      ((4 : Nat),
      AV.elt (3 : Nat)
      [[AV.int IntKind.i64 rx, AV.int IntKind.i64 ry, AV.int IntKind.i64 rz]]
      (0 : Nat) (0 : Nat)),
      ((6 : Nat), AV.int IntKind.i64 (a + (↑g' : Int)))]
      [((0 : Nat), ABlk.ready l (hrL a (fun (i : Nat) => hd (S i)) g'))] (1 : Nat)) ∧
      (ABlk.stop l = ABlk.ready l (hrL a (fun (i : Nat) => hd (S i)) (b - a).toNat) ∨
      ABlk.stop l = ABlk.stop l)) ∧
      (decide (a + (↑g : Int) < b) = false →
      ABlk.ready l (hrL a (fun (i : Nat) => hd (S i)) g) =
      ABlk.ready l (hrL a (fun (i : Nat) => hd (S i)) (b - a).toNat) ∨
      ABlk.ready l (hrL a (fun (i : Nat) => hd (S i)) g) = ABlk.stop l) := by
    intro l
    refine ⟨⟨0, by omega, by simp [hrL]⟩, fun g hg => ⟨fun hlt => ?_, fun hge => ?_⟩⟩
    · simp only [decide_eq_true_eq] at hlt
      have hl : g < (b - a).toNat := by omega
      have e : (a + (g : Int) - a).toNat = g := by omega
      simp only [e]
      have hs := hr_succ a (fun i => hd (S i)) g
      refine ⟨trivial, h1 g hl, h2 g hl, hr_post a (fun i => hd (S i)) hl, trivial, by simp, ⟨by unfold In64; omega, g + 1, hl, by omega, ?_⟩, .inr trivial⟩
      rw [hs, show a + (g : Int) + 1 = a + ((g + 1 : Nat) : Int) by omega]
    · simp only [decide_eq_false_iff_not] at hge
      have : g = (b - a).toNat := by omega
      subst this
      exact .inl rfl
  exact s_of Tryz.f144 (B144 a b [c0, c1, c2, c3, c4, c5, c6, c7, c8, c9, c10, c11, c12] (.sl 5 rows) rx ry rz S hd) (by kernel_rfl) (by kernel_rfl) (by kernel_rfl) (by kernel_rfl) (by kernel_rfl) key (fun l => by kernel_rfl)
end Go.Proofs.YtjhjmncjidbieaaGreatDoor
namespace Go.Proofs.YtjhjmncjidbieaaGreatDoor
open Go Go.Av Go.RowKit
theorem hear_ok {t : Ty} {l : List Fx} {a b x y z : Int} (hT : sTyS t = 0) (hO : TrackOK l) (hsp : lastT l - firstT l ≤ 1000) (ha : 0 ≤ a ∧ a ≤ 100000000) (hb : 0 ≤ b ∧ b ≤ 100000000) :
    (0 ≤ fromA l a ∧ fromA l a ≤ 100000000) ∧ toB l b ≤ 100000000 ∧ (toB l b - fromA l a).toNat ≤ 1000 ∧ (∀ i : Nat, i < (toB l b - fromA l a).toNat → AtOK l (fromA l a + i)) ∧ (∀ i : Nat, i < (toB l b - fromA l a).toNat → 0 ≤ hrdA t l x y z (fromA l a + i) ∧ hrdA t l x y z (fromA l a + i) ≤ 100000000000) := by
  have hn := hO.n1
  have b0 := hO.b 0 (by omega)
  have b1 := hO.b (l.length - 1) (by omega)
  have hf : firstT l = (l.getD 0 default).t := rfl
  have hl : lastT l = (l.getD (l.length - 1) default).t := rfl
  have f0 : firstT l ≤ fromA l a ∧ fromA l a ≤ 100000000 := by
    unfold fromA maxI
    split <;> omega
  have t0 : toB l b ≤ lastT l ∧ toB l b ≤ 100000000 := by
    unfold toB minI
    split <;> omega
  have hA : ∀ i : Nat, i < (toB l b - fromA l a).toNat → AtOK l (fromA l a + i) := fun i hi => at_ok hO (by omega) (by omega)
  exact ⟨by omega, t0.2, by omega, hA, fun i hi => hrd_b hT (hA i hi).p⟩
theorem range_split {n x : Nat} {pre post : List Nat} (h : List.range n = pre ++ x :: post) : x = pre.length ∧ pre.length < n := by
  have h1 : (List.range n)[pre.length]? = some x := by
    rw [h]
    simp
  have hl : pre.length < n := by
    have := congrArg List.length h
    simp at this
    omega
  rw [List.getElem?_range hl] at h1
  exact ⟨(Option.some.inj h1).symm, hl⟩
def hdV (t : Ty) (x y z : Int) : List AV → Int
  | [.int _ a, .int _ b, .int _ c, .int _ d, .int _ e, .int _ p] => hrd t d e p (x - a) (y - b) (z - c)
  | _ => 0
theorem hear_seq {t : Ty} {l : List Fx} {a b x y z : Int} (hT : sTyS t = 0) (hO : TrackOK l) (hA : ∀ i : Nat, i < (b - a).toNat → AtOK l (a + i)) (ha : 0 ≤ a ∧ a ≤ 100000000) (hb : b ≤ 100000000) (hx : -100000 ≤ x ∧ x ≤ 100000) (hy : -100000 ≤ y ∧ y ≤ 100000) (hz : 0 ≤ z ∧ z ≤ 20000) :
    PSeq Tryz.prog G0 144 [.elt 2 [[.i a, .i b]] 0 0, .elt 13 [encTy t] 0 0, .elt 1 [[.sl 5 (l.map encFx)]] 0 0, .elt 3 [[.i x, .i y, .i z]] 0 0] ((List.range (b - a).toNat).map fun (i : Nat) => [.i (a + i), .i (hrdA t l x y z (a + i))]) :=
  s144 a b (.str t.name) (.sl 1 (t.sh.map encI)) (.i t.d0) (.i t.d1) (.i t.d2) (.i t.d3) (.i t.d4) (.i t.d5) (.i t.d6) (.i t.d7) (.i t.side) (.sl 1 (t.sq.map encI)) (.sl 2 (t.st.map encSg)) (l.map encFx) x y z
    (fun i => atV (atA l (a + i)) (atB l (a + i)) (a + i)) (hdV t x y z) (by omega) (by omega) (fun i hi => c126 l _ hO (by omega))
    (fun i hi => c117 t _ _ _ _ _ _ _ _ _ (ok_of hT) (hA i hi).x (hA i hi).y (hA i hi).z (hA i hi).h (hA i hi).k (hA i hi).p hx hy hz (side_of hT).1 (side_of hT).2)
def fnH (t : Ty) (l : List Fx) (a b x y z : Int) : AV := .fn (.func 144) [] [.elt 2 [[.i a, .i b]] 0 0, .elt 13 [encTy t] 0 0, .elt 1 [[.sl 5 (l.map encFx)]] 0 0, .elt 3 [[.i x, .i y, .i z]] 0 0]
theorem c103 (t : Ty) (l : List Fx) (a b x y z : Int)  : PCall Tryz.prog G0 103 [.agg (encTy t), .sl 5 (l.map encFx), .agg [.i a, .i b], .agg [.i x, .i y, .i z]] (fnH t l a b x y z) := by
  have key :
   AV.fn (Fn.func 144) [] [AV.elt 2 [[AV.i a, AV.i b]] 0 0, AV.elt 13 [(encTy t)] 0 0, AV.elt 1 [[AV.sl 5 (List.map encFx l)]] 0 0, AV.elt 3 [[AV.i x, AV.i y, AV.i z]] 0 0] = AV.fn (Fn.func 144) [] [AV.elt 2 [[AV.i a, AV.i b]] 0 0,
   AV.elt 13 [(encTy t)] 0 0, AV.elt 1 [[AV.sl 5 (List.map encFx l)]] 0 0, AV.elt 3 [[AV.i x, AV.i y, AV.i z]] 0 0] := by
    rfl
  exact c_of Tryz.f103 (fzB (mkB spR 103 [] noLa)) (by kernel_rfl) (by kernel_rfl) (by kernel_rfl) (by kernel_rfl) key (by kernel_rfl)
def sp100 (t : Ty) (l : List Fx) (x y z : Int) : Nat → List AV → Option AV
  | 102, _ => some (.agg [.i (firstT l), .i (lastT l)])
  | 101, [.agg [.int _ a, .int _ b], .agg [.int _ c, .int _ d]] => some (.agg [.i (maxI a c), .i (minI b d)])
  | 103, [_, _, .agg [.int _ a, .int _ b], _] => some (fnH t l a b x y z)
  | n, x => spR n x
def fa100 (t : Ty) (l : List Fx) (a b x y z : Int) : FA := {
  X := Nat, xs := List.range (toB l b - fromA l a).toNat, enc := fun i => [.i (fromA l a + i), .i (hrdA t l x y z (fromA l a + i))]
  post := [.keep [] [1], .bound 2]
  Gh := Nat
  st := fun g => ⟨[(9, .ptr 1 0), (19, fnH t l (fromA l a) (toB l b) x y z)], [(1, .box [.i (sumH (hrdA t l x y z) (fromA l a) g)])], 2⟩
  ok := fun pre g => g = pre.length }
theorem c100 (t : Ty) (l : List Fx) (a b x y z : Int) (hT : sTyS t = 0) (hO : TrackOK l) (hsp : lastT l - firstT l ≤ 1000) (ha : 0 ≤ a ∧ a ≤ 100000000) (hb : 0 ≤ b ∧ b ≤ 100000000) (hx : -100000 ≤ x ∧ x ≤ 100000) (hy : -100000 ≤ y ∧ y ≤ 100000) (hz : 0 ≤ z ∧ z ≤ 20000) : PCall Tryz.prog G0 100 [.agg (encTy t), .sl 5 (l.map encFx), .agg [.i a, .i b], .agg [.i x, .i y, .i z]] (.i (sumH (hrdA t l x y z) (fromA l a) (toB l b - fromA l a).toNat)) := by
  have key :
   PCall Tryz.prog G0 102 [AV.sl 5 (List.map encFx l)] (AV.agg [AV.i (firstT l), AV.i (lastT l)]) ∧ PCall Tryz.prog G0 101 [AV.agg [AV.i a, AV.i b], AV.agg [AV.i (firstT l), AV.i (lastT l)]] (AV.agg [AV.i (maxI a (firstT l)), AV.i
   (minI b (lastT l))]) ∧ PCall Tryz.prog G0 103 [AV.agg (encTy t), AV.sl 5 (List.map encFx l), AV.agg [AV.i (maxI a (firstT l)), AV.i (minI b (lastT l))], AV.agg [AV.i x, AV.i y, AV.i z]] (AV.fn (Fn.func 144) [] [AV.elt 2 [[AV.i
   (maxI a (firstT l)), AV.i (minI b (lastT l))]] 0 0, AV.elt 13 [(encTy t)] 0 0, AV.elt 1 [[AV.sl 5 (List.map encFx l)]] 0 0, AV.elt 3 [[AV.i x, AV.i y, AV.i z]] 0 0]) ∧ PSeq Tryz.prog G0 144 [AV.elt 2 [[AV.i (maxI a (firstT l)),
   AV.i (minI b (lastT l))]] 0 0, AV.elt 13 [(encTy t)] 0 0, AV.elt 1 [[AV.sl 5 (List.map encFx l)]] 0 0, AV.elt 3 [[AV.i x, AV.i y, AV.i z]] 0 0] (List.map (fa100 t l a b x y z).enc (List.range (toB l b - fromA l a).toNat)) ∧ (∀ (x :
   Nat), 2 = 2) ∧ (∃ (g : Nat), g = 0 ∧ AS.mk [(9, AV.ptr 1 0), (19, AV.fn (Fn.func 144) [] [AV.elt 2 [[AV.i (maxI a (firstT l)), AV.i (minI b (lastT l))]] 0 0, AV.elt 13 [(encTy t)] 0 0, AV.elt 1 [[AV.sl 5 (List.map encFx l)]] 0 0,
   AV.elt 3 [[AV.i x, AV.i y, AV.i z]] 0 0])] [(1, ABlk.box [AV.i 0])] 2 = AS.mk [(9, AV.ptr 1 0), (19, AV.fn (Fn.func 144) [] [AV.elt 2 [[AV.i (fromA l a), AV.i (toB l b)]] 0 0, AV.elt 13 [(encTy t)] 0 0, AV.elt 1 [[AV.sl 5 (List.map
   encFx l)]] 0 0, AV.elt 3 [[AV.i x, AV.i y, AV.i z]] 0 0])] [(1, ABlk.box [AV.i (sumH (hrdA t l x y z) (fromA l a) g)])] 2) ∧ (∀ (pre : List Nat) (x_1 : Nat) (post : List Nat) (g : Nat), List.range (toB l b - fromA l a).toNat = pre
   ++ x_1 :: post → g = pre.length → Exit.normal = Exit.normal ∧ false = false ∧ In64 (sumH (hrdA t l x y z) (fromA l a) g + hrdA t l x y z (fromA l a + (↑x_1 : Int))) ∧ false = false ∧ ∃ (g' : Nat), g' = (pre ++ [x_1]).length ∧ AS.mk
   [(9, AV.ptr 1 0), (19, AV.fn (Fn.func 144) [] [AV.elt 2 [[AV.i (maxI a (firstT l)), AV.i (minI b (lastT l))]] 0 0, AV.elt 13 [(encTy t)] 0 0, AV.elt 1 [[AV.sl 5 (List.map encFx l)]] 0 0, AV.elt 3 [[AV.i x, AV.i y, AV.i z]] 0 0])]
   [(1, ABlk.box [AV.i (sumH (hrdA t l x y z) (fromA l a) g + hrdA t l x y z (fromA l a + (↑x_1 : Int)))])] 2 = AS.mk [(9, AV.ptr 1 0), (19, AV.fn (Fn.func 144) [] [AV.elt 2 [[AV.i (fromA l a), AV.i (toB l b)]] 0 0, AV.elt 13 [(encTy
   t)] 0 0, AV.elt 1 [[AV.sl 5 (List.map encFx l)]] 0 0, AV.elt 3 [[AV.i x, AV.i y, AV.i z]] 0 0])] [(1, ABlk.box [AV.i (sumH (hrdA t l x y z) (fromA l a) g')])] 2) ∧ ∀ (g : Nat), g = (List.range (toB l b - fromA l a).toNat).length →
   AV.i (sumH (hrdA t l x y z) (fromA l a) g) = AV.i (sumH (hrdA t l x y z) (fromA l a) (toB l b - fromA l a).toNat) := by
    obtain ⟨f0, t0, hN, hA, hH⟩ := hear_ok (t := t) (x := x) (y := y) (z := z) hT hO hsp ha hb
    have hS := sumH_b hH
    have hn := hO.n1
    have hn2 := hO.n2
    refine ⟨c102 l (by omega) (by omega), c101 _ _ _ _, c103 t l _ _ _ _ _, hear_seq (a := fromA l a) (b := toB l b) hT hO hA f0 t0 hx hy hz, fun _ => rfl, ⟨0, rfl, rfl⟩, fun pre i post g hr hg => ?_, fun g hg => ?_⟩
    · obtain ⟨e1, e2⟩ := range_split hr
      subst e1
      subst hg
      have s1 := hS (pre.length + 1) e2
      refine ⟨rfl, rfl, (show In64 (sumH (hrdA t l x y z) (fromA l a) (pre.length + 1)) from by unfold In64; omega), rfl, pre.length + 1, by simp, rfl⟩
    · rw [hg, List.length_range]
  exact c_of Tryz.f100 ({ fzB (mkB (sp100 t l x y z) 100 [] noLa) with fa := some (fa100 t l a b x y z), gs := fun i => if i.beq 2 then [.reno 9 1, .keep [9, 19] [1], .bound 2] else [] }) (by kernel_rfl) (by kernel_rfl) (by kernel_rfl) (by kernel_rfl) key (by kernel_rfl)
end Go.Proofs.YtjhjmncjidbieaaGreatDoor
namespace Go.Proofs.YtjhjmncjidbieaaGreatDoor
open Go Go.Av Go.RowKit
structure Fl where
  n : List UInt8
  y : List UInt8
  tr : List Fx
  deriving Inhabited
def encFl (f : Fl) : List AV := [.str f.n, .str f.y, .sl 5 (f.tr.map encFx)]
theorem getD_mem {α : Type} [Inhabited α] {l : List α} {i : Nat} (h : i < l.length) : l.getD i default ∈ l := by
  rw [List.getD_eq_getElem?_getD, List.getElem?_eq_getElem h]
  exact List.getElem_mem h
def fiN (p : Nat → Bool) : Nat → Nat
  | 0 => 0
  | n + 1 => if fiN p n < n then fiN p n else if p n then n else n + 1
theorem fi_none {p : Nat → Bool} : ∀ {i : Nat}, (∀ j, j < i → p j = false) → fiN p i = i
  | 0, _ => rfl
  | i + 1, h => by
    have h1 : fiN p i = i := fi_none fun j hj => h j (by omega)
    simp only [fiN]
    rw [h1, if_neg (by omega), if_neg (by rw [h i (by omega)]; exact Bool.false_ne_true)]
theorem fi_some {p : Nat → Bool} {i : Nat} (h : ∀ j, j < i → p j = false) (hp : p i = true) : ∀ {m : Nat}, i < m → fiN p m = i
  | 0, h0 => absurd h0 (by omega)
  | m + 1, h0 => by
    simp only [fiN]
    by_cases e : i = m
    · subst e
      rw [fi_none h, if_neg (by omega), if_pos hp]
    · rw [fi_some h hp (m := m) (by omega), if_pos (by omega)]
def fiI (p : Nat → Bool) (n : Nat) : Int := if fiN p n = n then -1 else fiN p n
theorem fi_congr {p q : Nat → Bool} : ∀ {n : Nat}, (∀ j, j < n → p j = q j) → fiN p n = fiN q n
  | 0, _ => rfl
  | n + 1, h => by
    simp only [fiN]
    rw [fi_congr (n := n) (fun j hj => h j (by omega)), h n (by omega)]
theorem fiI_congr {p q : Nat → Bool} {n : Nat} (h : ∀ j, j < n → p j = q j) : fiI p n = fiI q n := by
  unfold fiI
  rw [fi_congr h]
theorem fi_le {p : Nat → Bool} : ∀ n, fiN p n ≤ n
  | 0 => Nat.le_refl _
  | n + 1 => by
    have := fi_le (p := p) n
    simp only [fiN]
    split
    · omega
    · split <;> omega
theorem fi_hit {p : Nat → Bool} : ∀ {n : Nat}, fiN p n < n → p (fiN p n) = true
  | n + 1, h => by
    simp only [fiN] at h ⊢
    split
    · rename_i h1
      exact fi_hit h1
    · rename_i h1
      rw [if_neg h1] at h
      split
      · assumption
      · rename_i h2
        rw [if_neg h2] at h
        omega
theorem fi_all {p : Nat → Bool} : ∀ {n : Nat}, ¬ fiN p n < n → ∀ j, j < n → p j = false
  | n + 1, h, j, hj => by
    simp only [fiN] at h
    split at h
    · omega
    · rename_i h1
      split at h
      · omega
      · rename_i h2
        by_cases e : j = n
        · rw [e]; simpa using h2
        · exact fi_all h1 j (by omega)
theorem fi_ex {p : Nat → Bool} {n j : Nat} (hj : j < n) (hp : p j = true) : fiN p n < n := by
  refine Classical.byContradiction fun h => ?_
  rw [fi_all h j hj] at hp
  cases hp
theorem fiI_dec {p : Nat → Bool} {n : Nat} : decide (fiI p n ≥ 0) = decide (fiN p n < n) := by
  have := fi_le (p := p) n
  unfold fiI
  refine decide_eq_decide.2 ?_
  split <;> omega
theorem any_take {α : Type} [Inhabited α] {l : List α} {q : α → Bool} {i : Nat} (hi : i ≤ l.length) : (l.take i).any q = decide (fiN (fun j => q (l.getD j default)) i < i) := by
  rw [Bool.eq_iff_iff, decide_eq_true_eq]
  constructor
  · intro h
    obtain ⟨x, hx, hq⟩ := List.any_eq_true.1 h
    obtain ⟨j, hj, rfl⟩ := List.mem_iff_getElem.1 hx
    rw [List.length_take] at hj
    refine fi_ex (j := j) (by omega) ?_
    rw [List.getElem_take] at hq
    rw [List.getD_eq_getElem?_getD, List.getElem?_eq_getElem (by omega)]
    exact hq
  · intro h
    have hq := fi_hit h
    refine List.any_eq_true.2 ⟨_, ?_, hq⟩
    generalize fiN (fun j => q (l.getD j default)) i = j at h
    rw [List.getD_eq_getElem?_getD, List.getElem?_eq_getElem (show j < l.length by omega)]
    refine List.mem_iff_getElem.2 ⟨j, by rw [List.length_take]; omega, by rw [List.getElem_take]; rfl⟩
def pR (rows : List (List AV)) (s : List UInt8) (i : Nat) : Bool := match nth (nthR rows i) 0 with
  | .str x => x == s
  | _ => false
def pT (ts : List Ty) (s : List UInt8) (i : Nat) : Bool := (ts.getD i default).name == s
def pF (fs : List Fl) (s : List UInt8) (i : Nat) : Bool := (fs.getD i default).n == s
theorem pR_ty {ts : List Ty} {s : List UInt8} {i : Nat} (h : i < ts.length) : pR (ts.map encTy) s i = pT ts s i := by
  unfold pR
  rw [row_at encTy h]
  rfl
theorem pR_fl {fs : List Fl} {s : List UInt8} {i : Nat} (h : i < fs.length) : pR (fs.map encFl) s i = pF fs s i := by
  unfold pR
  rw [row_at encFl h]
  rfl
def rdN (f : Nat → List UInt8) : List AV → Option AV
  | [.elt _ _ i _] => some (.str (f i))
  | _ => none
def la131 (ts : List Ty) (s : List UInt8) : LA := {
  pre := [.keep [0, 1, 5] [], .bound 1], post := [.keep [0, 1, 5] [], .bound 1]
  Gh := Nat
  st := fun i => ⟨[(0, .sl 13 (ts.map encTy)), (1, .str s), (5, .i i)], [], 1⟩
  ok := fun i => i ≤ ts.length ∧ ∀ j, j < i → pT ts s j = false
  ms := fun i => ts.length - i }
theorem c131 (ts : List Ty) (s : List UInt8) (hl : ts.length ≤ 1000) : PCall Tryz.prog G0 131 [.sl 13 (ts.map encTy), .str s] (.i (fiI (pT ts s) ts.length)) := by
  have key :
   (∃ (g : Nat), (g ≤ ts.length ∧ ∀ (j : Nat), j < g → pT ts s j = false) ∧ AS.mk [(0, AV.sl 13 (List.map encTy ts)), (1, AV.str s), (5, AV.i 0)] [] 1 = AS.mk [(0, AV.sl 13 (List.map encTy ts)), (1, AV.str s), (5, AV.i (↑g : Int))] []
   1) ∧ ∀ (g : Nat), (g ≤ ts.length ∧ ∀ (j : Nat), j < g → pT ts s j = false) → (decide ((↑g : Int) < (↑(List.map encTy ts).length : Int)) = true → (0 : Int) ≤ (↑g : Int) ∧ (↑g : Int) < (↑(List.map encTy ts).length : Int) ∧ nth (nthR
   (List.map encTy ts) (↑g : Int).toNat) 0 = AV.str (ts.getD (↑g : Int).toNat default).name ∧ (((ts.getD (↑g : Int).toNat default).name == s) = true → AV.i (↑g : Int) = AV.i (fiI (pT ts s) ts.length)) ∧ (((ts.getD (↑g : Int).toNat
   default).name == s) = false → In64 ((↑g : Int) + 1) ∧ ∃ (g' : Nat), (g' ≤ ts.length ∧ ∀ (j : Nat), j < g' → pT ts s j = false) ∧ ts.length - g' < ts.length - g ∧ AS.mk [(0, AV.sl 13 (List.map encTy ts)), (1, AV.str s), (5, AV.i
   ((↑g : Int) + 1))] [] 1 = AS.mk [(0, AV.sl 13 (List.map encTy ts)), (1, AV.str s), (5, AV.i (↑g' : Int))] [] 1)) ∧ (decide ((↑g : Int) < (↑(List.map encTy ts).length : Int)) = false → AV.i (-1) = AV.i (fiI (pT ts s) ts.length)) :=
   by
    have hlm : (List.map encTy ts).length = ts.length := List.length_map _
    refine ⟨⟨0, ⟨by omega, by intros; omega⟩, rfl⟩, fun g ⟨hg, ha⟩ => ⟨fun hd => ?_, fun hd => ?_⟩⟩
    · rw [hlm] at hd
      have hlt := lt_of_dec hd
      refine ⟨by omega, by omega, by rw [show nthR (List.map encTy ts) ((g : Int)).toNat = encTy (ts.getD g default) from row_at encTy hlt]; rfl, fun hx => ?_, fun hx => ⟨by unfold In64; omega, g + 1, ⟨hlt, fun j hj => ?_⟩, by omega, rfl⟩⟩
      · rw [fiI, fi_some ha (show pT ts s g = true from hx) hlt, if_neg (by omega)]
      · by_cases e : j = g
        · rw [e]; exact hx
        · exact ha j (by omega)
    · rw [hlm] at hd
      have e := ge_of_dec hd hg
      subst e
      rw [fiI, fi_none ha, if_pos rfl]
  exact c_of Tryz.f131 (mkB spR 131 [(4, 4, rdN fun i => (ts.getD i default).name)] (fun j => if j.beq 0 then some (la131 ts s) else none)) (by kernel_rfl) (by kernel_rfl) (by kernel_rfl) (by kernel_rfl) key (by kernel_rfl)
def la83 (fs : List Fl) (s : List UInt8) : LA := {
  pre := [.keep [0, 1, 5] [], .bound 1], post := [.keep [0, 1, 5] [], .bound 1]
  Gh := Nat
  st := fun i => ⟨[(0, .sl 3 (fs.map encFl)), (1, .str s), (5, .i i)], [], 1⟩
  ok := fun i => i ≤ fs.length ∧ ∀ j, j < i → pF fs s j = false
  ms := fun i => fs.length - i }
theorem c83 (fs : List Fl) (s : List UInt8) (hl : fs.length ≤ 1000) : PCall Tryz.prog G0 83 [.sl 3 (fs.map encFl), .str s] (.i (fiI (pF fs s) fs.length)) := by
  have key :
   (∃ (g : Nat), (g ≤ fs.length ∧ ∀ (j : Nat), j < g → pF fs s j = false) ∧ AS.mk [(0, AV.sl 3 (List.map encFl fs)), (1, AV.str s), (5, AV.i 0)] [] 1 = AS.mk [(0, AV.sl 3 (List.map encFl fs)), (1, AV.str s), (5, AV.i (↑g : Int))] []
   1) ∧ ∀ (g : Nat), (g ≤ fs.length ∧ ∀ (j : Nat), j < g → pF fs s j = false) → (decide ((↑g : Int) < (↑(List.map encFl fs).length : Int)) = true → (0 : Int) ≤ (↑g : Int) ∧ (↑g : Int) < (↑(List.map encFl fs).length : Int) ∧ nth (nthR
   (List.map encFl fs) (↑g : Int).toNat) 0 = AV.str (fs.getD (↑g : Int).toNat default).n ∧ (((fs.getD (↑g : Int).toNat default).n == s) = true → AV.i (↑g : Int) = AV.i (fiI (pF fs s) fs.length)) ∧ (((fs.getD (↑g : Int).toNat
   default).n == s) = false → In64 ((↑g : Int) + 1) ∧ ∃ (g' : Nat), (g' ≤ fs.length ∧ ∀ (j : Nat), j < g' → pF fs s j = false) ∧ fs.length - g' < fs.length - g ∧ AS.mk [(0, AV.sl 3 (List.map encFl fs)), (1, AV.str s), (5, AV.i ((↑g :
   Int) + 1))] [] 1 = AS.mk [(0, AV.sl 3 (List.map encFl fs)), (1, AV.str s), (5, AV.i (↑g' : Int))] [] 1)) ∧ (decide ((↑g : Int) < (↑(List.map encFl fs).length : Int)) = false → AV.i (-1) = AV.i (fiI (pF fs s) fs.length)) := by
    have hlm : (List.map encFl fs).length = fs.length := List.length_map _
    refine ⟨⟨0, ⟨by omega, by intros; omega⟩, rfl⟩, fun g ⟨hg, ha⟩ => ⟨fun hd => ?_, fun hd => ?_⟩⟩
    · rw [hlm] at hd
      have hlt := lt_of_dec hd
      refine ⟨by omega, by omega, by rw [show nthR (List.map encFl fs) ((g : Int)).toNat = encFl (fs.getD g default) from row_at encFl hlt]; rfl, fun hx => ?_, fun hx => ⟨by unfold In64; omega, g + 1, ⟨hlt, fun j hj => ?_⟩, by omega, rfl⟩⟩
      · rw [fiI, fi_some ha (show pF fs s g = true from hx) hlt, if_neg (by omega)]
      · by_cases e : j = g
        · rw [e]; exact hx
        · exact ha j (by omega)
    · rw [hlm] at hd
      have e := ge_of_dec hd hg
      subst e
      rw [fiI, fi_none ha, if_pos rfl]
  exact c_of Tryz.f83 (mkB spR 83 [(4, 4, rdN fun i => (fs.getD i default).n)] (fun j => if j.beq 0 then some (la83 fs s) else none)) (by kernel_rfl) (by kernel_rfl) (by kernel_rfl) (by kernel_rfl) key (by kernel_rfl)
theorem c171 (t : Ty) (s : List UInt8)  : PCall Tryz.prog G0 171 [.agg (encTy t), .elt 1 [[.str s]] 0 0] (.bool (t.name == s)) := by
  have key :
   AV.bool (t.name == s) = AV.bool (t.name == s) := by
    rfl
  exact c_of Tryz.f171 (mkB spR 171 [] noLa) (by kernel_rfl) (by kernel_rfl) (by kernel_rfl) (by kernel_rfl) key (by kernel_rfl)
def sp170 : Nat → List AV → Option AV
  | 171, [.agg (.str n :: _), .elt _ [[.str s]] _ _] => some (.bool (n == s))
  | n, x => spR n x
def la170 (ts : List Ty) (s : List UInt8) : LA := {
  pre := [.keep [0, 1, 7, 8] [], .bound 1], post := [.keep [0, 1, 7, 8] [], .bound 1]
  Gh := Nat
  st := fun i => ⟨[(0, .sl 13 (ts.map encTy)), (1, .fn (.func 171) [] [.elt 1 [[.str s]] 0 0]), (7, .i ts.length), (8, .i i)], [], 1⟩
  ok := fun i => i ≤ ts.length ∧ ∀ j, j < i → pT ts s j = false
  ms := fun i => ts.length - i }
theorem c170 (ts : List Ty) (s : List UInt8) (hl : ts.length ≤ 1000) : PCall Tryz.prog G0 170 [.sl 13 (ts.map encTy), .fn (.func 171) [] [.elt 1 [[.str s]] 0 0]] (.i (fiI (pT ts s) ts.length)) := by
  have key :
   (∃ (g : Nat), (g ≤ ts.length ∧ ∀ (j : Nat), j < g → pT ts s j = false) ∧ AS.mk [(0, AV.sl 13 (List.map encTy ts)), (1, AV.fn (Fn.func 171) [] [AV.elt 1 [[AV.str s]] 0 0]), (7, AV.i (↑(List.map encTy ts).length : Int)), (8, AV.i 0)]
   [] 1 = AS.mk [(0, AV.sl 13 (List.map encTy ts)), (1, AV.fn (Fn.func 171) [] [AV.elt 1 [[AV.str s]] 0 0]), (7, AV.i (↑ts.length : Int)), (8, AV.i (↑g : Int))] [] 1) ∧ ∀ (g : Nat), (g ≤ ts.length ∧ ∀ (j : Nat), j < g → pT ts s j =
   false) → (decide ((↑g : Int) < (↑ts.length : Int)) = true → (0 : Int) ≤ (↑g : Int) ∧ (↑g : Int) < (↑(List.map encTy ts).length : Int) ∧ AV.agg (nthR (List.map encTy ts) (↑g : Int).toNat) = AV.agg [AV.str (ts.getD (↑g : Int).toNat
   default).name, AV.sl 1 (List.map encI (ts.getD (↑g : Int).toNat default).sh), AV.i (ts.getD (↑g : Int).toNat default).d0, AV.i (ts.getD (↑g : Int).toNat default).d1, AV.i (ts.getD (↑g : Int).toNat default).d2, AV.i (ts.getD (↑g :
   Int).toNat default).d3, AV.i (ts.getD (↑g : Int).toNat default).d4, AV.i (ts.getD (↑g : Int).toNat default).d5, AV.i (ts.getD (↑g : Int).toNat default).d6, AV.i (ts.getD (↑g : Int).toNat default).d7, AV.i (ts.getD (↑g : Int).toNat
   default).side, AV.sl 1 (List.map encI (ts.getD (↑g : Int).toNat default).sq), AV.sl 2 (List.map encSg (ts.getD (↑g : Int).toNat default).st)] ∧ PCall Tryz.prog G0 171 [AV.agg [AV.str (ts.getD (↑g : Int).toNat default).name, AV.sl 1
   (List.map encI (ts.getD (↑g : Int).toNat default).sh), AV.i (ts.getD (↑g : Int).toNat default).d0, AV.i (ts.getD (↑g : Int).toNat default).d1, AV.i (ts.getD (↑g : Int).toNat default).d2, AV.i (ts.getD (↑g : Int).toNat default).d3,
   AV.i (ts.getD (↑g : Int).toNat default).d4, AV.i (ts.getD (↑g : Int).toNat default).d5, AV.i (ts.getD (↑g : Int).toNat default).d6, AV.i (ts.getD (↑g : Int).toNat default).d7, AV.i (ts.getD (↑g : Int).toNat default).side, AV.sl 1
   (List.map encI (ts.getD (↑g : Int).toNat default).sq), AV.sl 2 (List.map encSg (ts.getD (↑g : Int).toNat default).st)], AV.elt 1 [[AV.str s]] 0 0] (AV.bool ((ts.getD (↑g : Int).toNat default).name == s)) ∧ (((ts.getD (↑g :
   Int).toNat default).name == s) = true → AV.i (↑g : Int) = AV.i (fiI (pT ts s) ts.length)) ∧ (((ts.getD (↑g : Int).toNat default).name == s) = false → In64 ((↑g : Int) + 1) ∧ ∃ (g' : Nat), (g' ≤ ts.length ∧ ∀ (j : Nat), j < g' → pT
   ts s j = false) ∧ ts.length - g' < ts.length - g ∧ AS.mk [(0, AV.sl 13 (List.map encTy ts)), (1, AV.fn (Fn.func 171) [] [AV.elt 1 [[AV.str s]] 0 0]), (7, AV.i (↑ts.length : Int)), (8, AV.i ((↑g : Int) + 1))] [] 1 = AS.mk [(0, AV.sl
   13 (List.map encTy ts)), (1, AV.fn (Fn.func 171) [] [AV.elt 1 [[AV.str s]] 0 0]), (7, AV.i (↑ts.length : Int)), (8, AV.i (↑g' : Int))] [] 1)) ∧ (decide ((↑g : Int) < (↑ts.length : Int)) = false → AV.i (-1) = AV.i (fiI (pT ts s)
   ts.length)) := by
    have hlm : (List.map encTy ts).length = ts.length := List.length_map _
    refine ⟨⟨0, ⟨by omega, by intros; omega⟩, by rw [hlm]; rfl⟩, fun g ⟨hg, ha⟩ => ⟨fun hd => ?_, fun hd => ?_⟩⟩
    · have hlt := lt_of_dec hd
      refine ⟨by omega, by omega, congrArg AV.agg (row_at encTy hlt), c171 (ts.getD g default) s, fun hx => ?_, fun hx => ⟨by unfold In64; omega, g + 1, ⟨hlt, fun j hj => ?_⟩, by omega, rfl⟩⟩
      · rw [fiI, fi_some ha (show pT ts s g = true from hx) hlt, if_neg (by omega)]
      · by_cases e : j = g
        · rw [e]; exact hx
        · exact ha j (by omega)
    · have e := ge_of_dec hd hg
      subst e
      rw [fiI, fi_none ha, if_pos rfl]
  exact c_of Tryz.f170 (mkB sp170 170 [(4, 4, rdL 13 encTy ts 13 true)] (fun j => if j.beq 0 then some (la170 ts s) else none)) (by kernel_rfl) (by kernel_rfl) (by kernel_rfl) (by kernel_rfl) key (by kernel_rfl)
def sp156 (ts : List Ty) : Nat → List AV → Option AV
  | 170, [_, .fn _ _ [.elt _ [[.str s]] _ _]] => some (.i (fiI (pT ts s) ts.length))
  | n, x => spR n x
theorem c156 (ts : List Ty) (s : List UInt8) (hl : ts.length ≤ 1000) : PCall Tryz.prog G0 156 [.sl 13 (ts.map encTy), .str s] (.i (fiI (pT ts s) ts.length)) := by
  have key :
   PCall Tryz.prog G0 170 [AV.sl 13 (List.map encTy ts), AV.fn (Fn.func 171) [] [AV.elt 1 [[AV.str s]] 0 0]] (AV.i (fiI (pT ts s) ts.length)) ∧ AV.i (fiI (pT ts s) ts.length) = AV.i (fiI (pT ts s) ts.length) := by
    exact ⟨c170 ts s hl, rfl⟩
  exact c_of Tryz.f156 (mkB (sp156 ts) 156 [] noLa) (by kernel_rfl) (by kernel_rfl) (by kernel_rfl) (by kernel_rfl) key (by kernel_rfl)
def sp62 : Nat → List AV → Option AV
  | 28, [.agg c] => some (.agg c)
  | 29, [.sl _ rows] => some (.sl 5 rows)
  | n, x => spR n x
def la62 (ts : List Ty) : LA := {
  pre := [.own 3 60 13, .reno 3 1, .keep [3, 6, 7, 8] [1], .bound 2], post := [.reno 3 1, .keep [3, 6, 7, 8] [1], .bound 2]
  Gh := Nat
  st := fun i => ⟨[(3, .own 1 ((ts.take i).map encTy).length), (6, .sl 13 (ts.map encTy)), (7, .i (ts.map encTy).length), (8, .i i)], [(1, .buf 60 13 ((ts.take i).map encTy))], 2⟩
  ok := fun i => i ≤ (ts.map encTy).length
  ms := fun i => (ts.map encTy).length - i }
theorem c62 (ts : List Ty) (hl : ts.length ≤ 1000) (hS : ∀ t, t ∈ ts → ShortTy t) : PCall Tryz.prog G0 62 [.sl 13 (ts.map encTy)] (.fresh 60 13 (ts.map encTy)) := by
  have key :
   (∃ (g : Nat), g ≤ (List.map encTy ts).length ∧ AS.mk [(3, AV.own 1 0), (6, AV.sl 13 (List.map encTy ts)), (7, AV.i (↑(List.map encTy ts).length : Int)), (8, AV.i 0)] [(1, ABlk.buf 60 13 [])] 2 = AS.mk [(3, AV.own 1 (List.map encTy
   (List.take g ts)).length), (6, AV.sl 13 (List.map encTy ts)), (7, AV.i (↑(List.map encTy ts).length : Int)), (8, AV.i (↑g : Int))] [(1, ABlk.buf 60 13 (List.map encTy (List.take g ts)))] 2) ∧ ∀ (g : Nat), g ≤ (List.map encTy
   ts).length → (decide ((↑g : Int) < (↑(List.map encTy ts).length : Int)) = true → (0 : Int) ≤ (↑g : Int) ∧ (↑g : Int) < (↑(List.map encTy ts).length : Int) ∧ AV.agg (nthR (List.map encTy ts) (↑g : Int).toNat) = AV.agg [AV.str
   (ts.getD (↑g : Int).toNat default).name, AV.sl 1 (List.map encI (ts.getD (↑g : Int).toNat default).sh), AV.i (ts.getD (↑g : Int).toNat default).d0, AV.i (ts.getD (↑g : Int).toNat default).d1, AV.i (ts.getD (↑g : Int).toNat
   default).d2, AV.i (ts.getD (↑g : Int).toNat default).d3, AV.i (ts.getD (↑g : Int).toNat default).d4, AV.i (ts.getD (↑g : Int).toNat default).d5, AV.i (ts.getD (↑g : Int).toNat default).d6, AV.i (ts.getD (↑g : Int).toNat
   default).d7, AV.i (ts.getD (↑g : Int).toNat default).side, AV.sl 1 (List.map encI (ts.getD (↑g : Int).toNat default).sq), AV.sl 2 (List.map encSg (ts.getD (↑g : Int).toNat default).st)] ∧ (List.map encTy (List.take g ts)).length +
   1 ≤ 9223372036854775807 ∧ ((List.map encTy (List.take g ts)).length + 1) * 160 ≤ 140737488355328 ∧ PCall Tryz.prog G0 28 [AV.agg [AV.str (ts.getD (↑g : Int).toNat default).name, AV.sl 1 (List.map encI (ts.getD (↑g : Int).toNat
   default).sh), AV.i (ts.getD (↑g : Int).toNat default).d0, AV.i (ts.getD (↑g : Int).toNat default).d1, AV.i (ts.getD (↑g : Int).toNat default).d2, AV.i (ts.getD (↑g : Int).toNat default).d3, AV.i (ts.getD (↑g : Int).toNat
   default).d4, AV.i (ts.getD (↑g : Int).toNat default).d5, AV.i (ts.getD (↑g : Int).toNat default).d6, AV.i (ts.getD (↑g : Int).toNat default).d7, AV.i (ts.getD (↑g : Int).toNat default).side, AV.sl 1 (List.map encI (ts.getD (↑g :
   Int).toNat default).sq), AV.sl 2 (List.map encSg (ts.getD (↑g : Int).toNat default).st)]] (AV.agg [AV.str (ts.getD (↑g : Int).toNat default).name, AV.sl 1 (List.map encI (ts.getD (↑g : Int).toNat default).sh), AV.i (ts.getD (↑g :
   Int).toNat default).d0, AV.i (ts.getD (↑g : Int).toNat default).d1, AV.i (ts.getD (↑g : Int).toNat default).d2, AV.i (ts.getD (↑g : Int).toNat default).d3, AV.i (ts.getD (↑g : Int).toNat default).d4, AV.i (ts.getD (↑g : Int).toNat
   default).d5, AV.i (ts.getD (↑g : Int).toNat default).d6, AV.i (ts.getD (↑g : Int).toNat default).d7, AV.i (ts.getD (↑g : Int).toNat default).side, AV.sl 1 (List.map encI (ts.getD (↑g : Int).toNat default).sq), AV.sl 2 (List.map
   encSg (ts.getD (↑g : Int).toNat default).st)]) ∧ In64 ((↑g : Int) + 1) ∧ ∃ (g' : Nat), g' ≤ (List.map encTy ts).length ∧ (List.map encTy ts).length - g' < (List.map encTy ts).length - g ∧ AS.mk [(3, AV.own 1 ((List.map encTy
   (List.take g ts)).length + 1)), (6, AV.sl 13 (List.map encTy ts)), (7, AV.i (↑(List.map encTy ts).length : Int)), (8, AV.i ((↑g : Int) + 1))] [(1, ABlk.buf 60 13 (List.map encTy (List.take g ts) ++ [[AV.str (ts.getD (↑g :
   Int).toNat default).name, AV.sl 1 (List.map encI (ts.getD (↑g : Int).toNat default).sh), AV.i (ts.getD (↑g : Int).toNat default).d0, AV.i (ts.getD (↑g : Int).toNat default).d1, AV.i (ts.getD (↑g : Int).toNat default).d2, AV.i
   (ts.getD (↑g : Int).toNat default).d3, AV.i (ts.getD (↑g : Int).toNat default).d4, AV.i (ts.getD (↑g : Int).toNat default).d5, AV.i (ts.getD (↑g : Int).toNat default).d6, AV.i (ts.getD (↑g : Int).toNat default).d7, AV.i (ts.getD
   (↑g : Int).toNat default).side, AV.sl 1 (List.map encI (ts.getD (↑g : Int).toNat default).sq), AV.sl 2 (List.map encSg (ts.getD (↑g : Int).toNat default).st)]]))] 2 = AS.mk [(3, AV.own 1 (List.map encTy (List.take g' ts)).length),
   (6, AV.sl 13 (List.map encTy ts)), (7, AV.i (↑(List.map encTy ts).length : Int)), (8, AV.i (↑g' : Int))] [(1, ABlk.buf 60 13 (List.map encTy (List.take g' ts)))] 2) ∧ (decide ((↑g : Int) < (↑(List.map encTy ts).length : Int)) =
   false → AV.fresh 60 13 (List.map encTy (List.take g ts)) = AV.fresh 60 13 (List.map encTy ts)) := by
    have hlm : (List.map encTy ts).length = ts.length := List.length_map _
    refine ⟨⟨0, by omega, rfl⟩, fun g hg => ⟨fun hd => ?_, fun hd => ?_⟩⟩
    · rw [hlm] at hd
      have hlt := lt_of_dec hd
      have hmem := getD_mem hlt
      have h2 := take_succ encTy hlt
      have h7 : (List.map encTy (List.take g ts)).length = g := by rw [List.length_map, List.length_take]; omega
      have h8 : (List.map encTy (List.take (g + 1) ts)).length = g + 1 := by rw [List.length_map, List.length_take]; omega
      refine ⟨by omega, by omega, congrArg AV.agg (row_at encTy hlt), by omega, by omega, by
        have h := hS _ hmem
        exact c28 (ts.getD g default) (by have := h.st; omega) (by have := h.s; omega) (by have := h.q; omega) (fun x hx => by have := h.e x hx; omega), by unfold In64; omega, g + 1, by omega, by omega, ?_⟩
      rw [h8, ← h2, h7]
      rfl
    · rw [ge_of_dec hd hg, hlm, List.take_length]
  exact c_of Tryz.f62 (fzB (mkB sp62 62 [(4, 1, rdL 13 encTy ts 13 true)] (fun i => if i.beq 0 then some (la62 ts) else none))) (by kernel_rfl) (by kernel_rfl) (by kernel_rfl) (by kernel_rfl) key (by kernel_rfl)
def la63 (fs : List Fl) : LA := {
  pre := [.own 3 168 3, .reno 3 1, .keep [3, 6, 7, 8] [1], .bound 2], post := [.reno 3 1, .keep [3, 6, 7, 8] [1], .bound 2]
  Gh := Nat
  st := fun i => ⟨[(3, .own 1 ((fs.take i).map encFl).length), (6, .sl 3 (fs.map encFl)), (7, .i (fs.map encFl).length), (8, .i i)], [(1, .buf 168 3 ((fs.take i).map encFl))], 2⟩
  ok := fun i => i ≤ (fs.map encFl).length
  ms := fun i => (fs.map encFl).length - i }
theorem c63 (fs : List Fl) (hl : fs.length ≤ 1000) (hS : ∀ f, f ∈ fs → f.tr.length ≤ 1000) : PCall Tryz.prog G0 63 [.sl 3 (fs.map encFl)] (.fresh 168 3 (fs.map encFl)) := by
  have key :
   (∃ (g : Nat), g ≤ (List.map encFl fs).length ∧ AS.mk [(3, AV.own 1 0), (6, AV.sl 3 (List.map encFl fs)), (7, AV.i (↑(List.map encFl fs).length : Int)), (8, AV.i 0)] [(1, ABlk.buf 168 3 [])] 2 = AS.mk [(3, AV.own 1 (List.map encFl
   (List.take g fs)).length), (6, AV.sl 3 (List.map encFl fs)), (7, AV.i (↑(List.map encFl fs).length : Int)), (8, AV.i (↑g : Int))] [(1, ABlk.buf 168 3 (List.map encFl (List.take g fs)))] 2) ∧ ∀ (g : Nat), g ≤ (List.map encFl
   fs).length → (decide ((↑g : Int) < (↑(List.map encFl fs).length : Int)) = true → (0 : Int) ≤ (↑g : Int) ∧ (↑g : Int) < (↑(List.map encFl fs).length : Int) ∧ AV.agg (nthR (List.map encFl fs) (↑g : Int).toNat) = AV.agg [AV.str
   (fs.getD (↑g : Int).toNat default).n, AV.str (fs.getD (↑g : Int).toNat default).y, AV.sl 5 (List.map encFx (fs.getD (↑g : Int).toNat default).tr)] ∧ (List.map encFl (List.take g fs)).length + 1 ≤ 9223372036854775807 ∧ ((List.map
   encFl (List.take g fs)).length + 1) * 56 ≤ 140737488355328 ∧ PCall Tryz.prog G0 29 [AV.sl 5 (List.map encFx (fs.getD (↑g : Int).toNat default).tr)] (AV.sl 5 (List.map encFx (fs.getD (↑g : Int).toNat default).tr)) ∧ In64 ((↑g : Int)
   + 1) ∧ ∃ (g' : Nat), g' ≤ (List.map encFl fs).length ∧ (List.map encFl fs).length - g' < (List.map encFl fs).length - g ∧ AS.mk [(3, AV.own 1 ((List.map encFl (List.take g fs)).length + 1)), (6, AV.sl 3 (List.map encFl fs)), (7,
   AV.i (↑(List.map encFl fs).length : Int)), (8, AV.i ((↑g : Int) + 1))] [(1, ABlk.buf 168 3 (List.map encFl (List.take g fs) ++ [[AV.str (fs.getD (↑g : Int).toNat default).n, AV.str (fs.getD (↑g : Int).toNat default).y, AV.sl 5
   (List.map encFx (fs.getD (↑g : Int).toNat default).tr)]]))] 2 = AS.mk [(3, AV.own 1 (List.map encFl (List.take g' fs)).length), (6, AV.sl 3 (List.map encFl fs)), (7, AV.i (↑(List.map encFl fs).length : Int)), (8, AV.i (↑g' : Int))]
   [(1, ABlk.buf 168 3 (List.map encFl (List.take g' fs)))] 2) ∧ (decide ((↑g : Int) < (↑(List.map encFl fs).length : Int)) = false → AV.fresh 168 3 (List.map encFl (List.take g fs)) = AV.fresh 168 3 (List.map encFl fs)) := by
    have hlm : (List.map encFl fs).length = fs.length := List.length_map _
    refine ⟨⟨0, by omega, rfl⟩, fun g hg => ⟨fun hd => ?_, fun hd => ?_⟩⟩
    · rw [hlm] at hd
      have hlt := lt_of_dec hd
      have hmem := getD_mem hlt
      have h2 := take_succ encFl hlt
      have h7 : (List.map encFl (List.take g fs)).length = g := by rw [List.length_map, List.length_take]; omega
      have h8 : (List.map encFl (List.take (g + 1) fs)).length = g + 1 := by rw [List.length_map, List.length_take]; omega
      refine ⟨by omega, by omega, congrArg AV.agg (row_at encFl hlt), by omega, by omega, (c29 _ (hS _ hmem)).un, by unfold In64; omega, g + 1, by omega, by omega, ?_⟩
      rw [h8, ← h2, h7]
      rfl
    · rw [ge_of_dec hd hg, hlm, List.take_length]
  exact c_of Tryz.f63 (fzB (mkB sp62 63 [(4, 1, rdL 3 encFl fs 3 true)] (fun i => if i.beq 0 then some (la63 fs) else none))) (by kernel_rfl) (by kernel_rfl) (by kernel_rfl) (by kernel_rfl) key (by kernel_rfl)
def shFl (f : Fl) : Bool := !(if (if !decide (f.tr.length ≤ 17) then true else decide ((f.n.length : Int) > 40)) then true else decide ((f.y.length : Int) > 40))
def szOK (n m : Int) : Bool := if (if decide (n ≤ 4) then true else n == 9) then (if decide (m ≤ 4) then true else m == 17) else false
def sSF (ts : List Ty) (fs : List Fl) : Bool := (List.range ts.length).all (fun i => sShort (ts.getD i default)) && ((List.range fs.length).all (fun i => shFl (fs.getD i default)) && szOK ts.length fs.length)
def decI (r : List AV) : Int := cI [r] 0
def decSg : List AV → Sg
  | [.int _ p, .sl _ rows] => ⟨p, rows.map decI⟩
  | _ => default
def decTy : List AV → Ty
  | [.str n, .sl _ sh, .int _ a, .int _ b, .int _ c, .int _ d, .int _ e, .int _ f, .int _ g, .int _ h, .int _ s, .sl _ sq, .sl _ st] => ⟨n, sh.map decI, a, b, c, d, e, f, g, h, s, sq.map decI, st.map decSg⟩
  | _ => default
theorem map_dec {α : Type} {enc : α → List AV} {dec : List AV → α} (h : ∀ x, dec (enc x) = x) (l : List α) : (l.map enc).map dec = l := by
  rw [List.map_map]
  conv => rhs; rw [← List.map_id l]
  exact List.map_congr_left fun x _ => h x
theorem decI_enc (x : Int) : decI (encI x) = x := rfl
theorem decSg_enc (s : Sg) : decSg (encSg s) = s := by
  show Sg.mk s.p ((s.e.map encI).map decI) = s
  rw [map_dec decI_enc]
theorem decTy_enc (t : Ty) : decTy (encTy t) = t := by
  show Ty.mk t.name ((t.sh.map encI).map decI) t.d0 t.d1 t.d2 t.d3 t.d4 t.d5 t.d6 t.d7 t.side ((t.sq.map encI).map decI) ((t.st.map encSg).map decSg) = t
  rw [map_dec decI_enc, map_dec decI_enc, map_dec decSg_enc]
def decFx (r : List AV) : Fx := ⟨cJ [r] 0 0, cJ [r] 0 1, cJ [r] 0 2, cJ [r] 0 3, cJ [r] 0 4⟩
theorem decFx_enc (x : Fx) : decFx (encFx x) = x := rfl
def decTr (rows : List (List AV)) : List Fx := rows.map decFx
theorem decTr_enc (l : List Fx) : decTr (l.map encFx) = l := map_dec decFx_enc l
def spF : Nat → List AV → Option AV
  | 25, [.agg c] => some (.bool (sShort (decTy c)))
  | 26, [.sl _ rows] => some (.bool (decide (rows.length ≤ 17)))
  | 53, [.agg c] => some (.i (sTyS (decTy c)))
  | 32, [.agg c] => some (.i (sTyR (decTy c)))
  | 76, [.sl _ rows] => some (.i (sTrackS (decTr rows)))
  | 33, [.sl _ rows] => some (.i (sTrackR (decTr rows)))
  | 131, [.sl _ rows, .str s] => some (.i (fiI (pR rows s) rows.length))
  | 83, [.sl _ rows, .str s] => some (.i (fiI (pR rows s) rows.length))
  | n, x => spR n x
def la60 (ts : List Ty) (fs : List Fl) (b : Nat) : Option LA :=
  if b.beq 0 then some {
    pre := [.keep [0, 1, 5] [], .bound 1], post := [.keep [0, 1, 5] [], .bound 1]
    Gh := Nat
    st := fun i => ⟨[(0, .sl 13 (ts.map encTy)), (1, .sl 3 (fs.map encFl)), (5, .i i)], [], 1⟩
    ok := fun i => i ≤ ts.length ∧ ∀ j, j < i → sShort (ts.getD j default) = true
    ms := fun i => ts.length - i }
  else some {
    pre := [.keep [0, 1, 6] [], .bound 1], post := [.keep [0, 1, 6] [], .bound 1]
    Gh := Nat
    st := fun i => ⟨[(0, .sl 13 (ts.map encTy)), (1, .sl 3 (fs.map encFl)), (6, .i i)], [], 1⟩
    ok := fun i => i ≤ fs.length ∧ ∀ j, j < i → shFl (fs.getD j default) = true
    ms := fun i => fs.length - i }
theorem c60 (ts : List Ty) (fs : List Fl) (hl : ts.length ≤ maxLen) (hm : fs.length ≤ maxLen) (hst : ∀ t, t ∈ ts → t.st.length ≤ maxLen) : PCall Tryz.prog G0 60 [.sl 13 (ts.map encTy), .sl 3 (fs.map encFl)] (.bool (sSF ts fs)) := by
  have key :
   (∃ (g : Nat), (g ≤ ts.length ∧ ∀ (j : Nat), j < g → sShort (ts.getD j default) = true) ∧ AS.mk [(0, AV.sl 13 (List.map encTy ts)), (1, AV.sl 3 (List.map encFl fs)), (5, AV.i 0)] [] 1 = AS.mk [(0, AV.sl 13 (List.map encTy ts)), (1,
   AV.sl 3 (List.map encFl fs)), (5, AV.i (↑g : Int))] [] 1) ∧ ∀ (g : Nat), (g ≤ ts.length ∧ ∀ (j : Nat), j < g → sShort (ts.getD j default) = true) → (decide ((↑g : Int) < (↑(List.map encTy ts).length : Int)) = true → (0 : Int) ≤ (↑g
   : Int) ∧ (↑g : Int) < (↑(List.map encTy ts).length : Int) ∧ AV.agg (nthR (List.map encTy ts) (↑g : Int).toNat) = AV.agg [AV.str (ts.getD (↑g : Int).toNat default).name, AV.sl 1 (List.map encI (ts.getD (↑g : Int).toNat default).sh),
   AV.i (ts.getD (↑g : Int).toNat default).d0, AV.i (ts.getD (↑g : Int).toNat default).d1, AV.i (ts.getD (↑g : Int).toNat default).d2, AV.i (ts.getD (↑g : Int).toNat default).d3, AV.i (ts.getD (↑g : Int).toNat default).d4, AV.i
   (ts.getD (↑g : Int).toNat default).d5, AV.i (ts.getD (↑g : Int).toNat default).d6, AV.i (ts.getD (↑g : Int).toNat default).d7, AV.i (ts.getD (↑g : Int).toNat default).side, AV.sl 1 (List.map encI (ts.getD (↑g : Int).toNat
   default).sq), AV.sl 2 (List.map encSg (ts.getD (↑g : Int).toNat default).st)] ∧ PCall Tryz.prog G0 25 [AV.agg [AV.str (ts.getD (↑g : Int).toNat default).name, AV.sl 1 (List.map encI (ts.getD (↑g : Int).toNat default).sh), AV.i
   (ts.getD (↑g : Int).toNat default).d0, AV.i (ts.getD (↑g : Int).toNat default).d1, AV.i (ts.getD (↑g : Int).toNat default).d2, AV.i (ts.getD (↑g : Int).toNat default).d3, AV.i (ts.getD (↑g : Int).toNat default).d4, AV.i (ts.getD
   (↑g : Int).toNat default).d5, AV.i (ts.getD (↑g : Int).toNat default).d6, AV.i (ts.getD (↑g : Int).toNat default).d7, AV.i (ts.getD (↑g : Int).toNat default).side, AV.sl 1 (List.map encI (ts.getD (↑g : Int).toNat default).sq),
   AV.sl 2 (List.map encSg (ts.getD (↑g : Int).toNat default).st)]] (AV.bool (sShort (decTy (List.take 13 (List.drop 0 (encTy (ts.getD (↑g : Int).toNat default))))))) ∧ ((!sShort (decTy (List.take 13 (List.drop 0 (encTy (ts.getD (↑g :
   Int).toNat default)))))) = true → AV.bool false = AV.bool (sSF ts fs)) ∧ ((!sShort (decTy (List.take 13 (List.drop 0 (encTy (ts.getD (↑g : Int).toNat default)))))) = false → In64 ((↑g : Int) + 1) ∧ ∃ (g' : Nat), (g' ≤ ts.length ∧ ∀
   (j : Nat), j < g' → sShort (ts.getD j default) = true) ∧ ts.length - g' < ts.length - g ∧ AS.mk [(0, AV.sl 13 (List.map encTy ts)), (1, AV.sl 3 (List.map encFl fs)), (5, AV.i ((↑g : Int) + 1))] [] 1 = AS.mk [(0, AV.sl 13 (List.map
   encTy ts)), (1, AV.sl 3 (List.map encFl fs)), (5, AV.i (↑g' : Int))] [] 1)) ∧ (decide ((↑g : Int) < (↑(List.map encTy ts).length : Int)) = false → (∃ (g : Nat), (g ≤ fs.length ∧ ∀ (j : Nat), j < g → shFl (fs.getD j default) = true)
   ∧ AS.mk [(0, AV.sl 13 (List.map encTy ts)), (1, AV.sl 3 (List.map encFl fs)), (6, AV.i 0)] [] 1 = AS.mk [(0, AV.sl 13 (List.map encTy ts)), (1, AV.sl 3 (List.map encFl fs)), (6, AV.i (↑g : Int))] [] 1) ∧ ∀ (g : Nat), (g ≤ fs.length
   ∧ ∀ (j : Nat), j < g → shFl (fs.getD j default) = true) → (decide ((↑g : Int) < (↑(List.map encFl fs).length : Int)) = true → ((!decide ((List.map encFx (fs.getD (↑g : Int).toNat default).tr).length ≤ 17)) = true → (true = true →
   (0 : Int) ≤ (↑g : Int) ∧ (↑g : Int) < (↑(List.map encFl fs).length : Int) ∧ (true = false → false = true) ∧ (true = false → false = true) ∧ nth (nthR (List.map encFl fs) (↑g : Int).toNat) 2 = AV.sl 5 (List.map encFx (fs.getD (↑g :
   Int).toNat default).tr) ∧ PCall Tryz.prog G0 26 [AV.sl 5 (List.map encFx (fs.getD (↑g : Int).toNat default).tr)] (AV.bool (decide ((List.map encFx (fs.getD (↑g : Int).toNat default).tr).length ≤ 17))) ∧ (AV.bool !decide ((List.map
   encFx (fs.getD (↑g : Int).toNat default).tr).length ≤ 17)) = AV.bool true ∧ AV.bool true = AV.bool true ∧ (true = true → AV.bool false = AV.bool (sSF ts fs)) ∧ (true = false → In64 ((↑g : Int) + 1) ∧ ∃ (g' : Nat), (g' ≤ fs.length ∧
   ∀ (j : Nat), j < g' → shFl (fs.getD j default) = true) ∧ fs.length - g' < fs.length - g ∧ AS.mk [(0, AV.sl 13 (List.map encTy ts)), (1, AV.sl 3 (List.map encFl fs)), (6, AV.i ((↑g : Int) + 1))] [] 1 = AS.mk [(0, AV.sl 13 (List.map
   encTy ts)), (1, AV.sl 3 (List.map encFl fs)), (6, AV.i (↑g' : Int))] [] 1)) ∧ (true = false → (0 : Int) ≤ (↑g : Int) ∧ (↑g : Int) < (↑(List.map encFl fs).length : Int) ∧ (true = false → false = true) ∧ (0 : Int) ≤ (↑g : Int) ∧ (↑g
   : Int) < (↑(List.map encFl fs).length : Int) ∧ nth (nthR (List.map encFl fs) (↑g : Int).toNat) 2 = AV.sl 5 (List.map encFx (fs.getD (↑g : Int).toNat default).tr) ∧ PCall Tryz.prog G0 26 [AV.sl 5 (List.map encFx (fs.getD (↑g :
   Int).toNat default).tr)] (AV.bool (decide ((List.map encFx (fs.getD (↑g : Int).toNat default).tr).length ≤ 17))) ∧ (AV.bool !decide ((List.map encFx (fs.getD (↑g : Int).toNat default).tr).length ≤ 17)) = AV.bool true ∧ AV.bool true
   = AV.bool false ∧ nth (nthR (List.map encFl fs) (↑g : Int).toNat) 1 = AV.str (fs.getD (↑g : Int).toNat default).y ∧ (decide ((↑(fs.getD (↑g : Int).toNat default).y.length : Int) > 40) = true → AV.bool false = AV.bool (sSF ts fs)) ∧
   (decide ((↑(fs.getD (↑g : Int).toNat default).y.length : Int) > 40) = false → In64 ((↑g : Int) + 1) ∧ ∃ (g' : Nat), (g' ≤ fs.length ∧ ∀ (j : Nat), j < g' → shFl (fs.getD j default) = true) ∧ fs.length - g' < fs.length - g ∧ AS.mk
   [(0, AV.sl 13 (List.map encTy ts)), (1, AV.sl 3 (List.map encFl fs)), (6, AV.i ((↑g : Int) + 1))] [] 1 = AS.mk [(0, AV.sl 13 (List.map encTy ts)), (1, AV.sl 3 (List.map encFl fs)), (6, AV.i (↑g' : Int))] [] 1))) ∧ ((!decide
   ((List.map encFx (fs.getD (↑g : Int).toNat default).tr).length ≤ 17)) = false → (decide ((↑(fs.getD (↑g : Int).toNat default).n.length : Int) > 40) = true → (0 : Int) ≤ (↑g : Int) ∧ (↑g : Int) < (↑(List.map encFl fs).length : Int)
   ∧ (0 : Int) ≤ (↑g : Int) ∧ (↑g : Int) < (↑(List.map encFl fs).length : Int) ∧ (true = false → false = true) ∧ nth (nthR (List.map encFl fs) (↑g : Int).toNat) 2 = AV.sl 5 (List.map encFx (fs.getD (↑g : Int).toNat default).tr) ∧
   PCall Tryz.prog G0 26 [AV.sl 5 (List.map encFx (fs.getD (↑g : Int).toNat default).tr)] (AV.bool (decide ((List.map encFx (fs.getD (↑g : Int).toNat default).tr).length ≤ 17))) ∧ (AV.bool !decide ((List.map encFx (fs.getD (↑g :
   Int).toNat default).tr).length ≤ 17)) = AV.bool false ∧ nth (nthR (List.map encFl fs) (↑g : Int).toNat) 0 = AV.str (fs.getD (↑g : Int).toNat default).n ∧ AV.bool (decide ((↑(fs.getD (↑g : Int).toNat default).n.length : Int) > 40))
   = AV.bool true ∧ (true = true → AV.bool false = AV.bool (sSF ts fs)) ∧ (true = false → In64 ((↑g : Int) + 1) ∧ ∃ (g' : Nat), (g' ≤ fs.length ∧ ∀ (j : Nat), j < g' → shFl (fs.getD j default) = true) ∧ fs.length - g' < fs.length - g
   ∧ AS.mk [(0, AV.sl 13 (List.map encTy ts)), (1, AV.sl 3 (List.map encFl fs)), (6, AV.i ((↑g : Int) + 1))] [] 1 = AS.mk [(0, AV.sl 13 (List.map encTy ts)), (1, AV.sl 3 (List.map encFl fs)), (6, AV.i (↑g' : Int))] [] 1)) ∧ (decide
   ((↑(fs.getD (↑g : Int).toNat default).n.length : Int) > 40) = false → (0 : Int) ≤ (↑g : Int) ∧ (↑g : Int) < (↑(List.map encFl fs).length : Int) ∧ (0 : Int) ≤ (↑g : Int) ∧ (↑g : Int) < (↑(List.map encFl fs).length : Int) ∧ (0 : Int)
   ≤ (↑g : Int) ∧ (↑g : Int) < (↑(List.map encFl fs).length : Int) ∧ nth (nthR (List.map encFl fs) (↑g : Int).toNat) 2 = AV.sl 5 (List.map encFx (fs.getD (↑g : Int).toNat default).tr) ∧ PCall Tryz.prog G0 26 [AV.sl 5 (List.map encFx
   (fs.getD (↑g : Int).toNat default).tr)] (AV.bool (decide ((List.map encFx (fs.getD (↑g : Int).toNat default).tr).length ≤ 17))) ∧ (AV.bool !decide ((List.map encFx (fs.getD (↑g : Int).toNat default).tr).length ≤ 17)) = AV.bool
   false ∧ nth (nthR (List.map encFl fs) (↑g : Int).toNat) 0 = AV.str (fs.getD (↑g : Int).toNat default).n ∧ AV.bool (decide ((↑(fs.getD (↑g : Int).toNat default).n.length : Int) > 40)) = AV.bool false ∧ nth (nthR (List.map encFl fs)
   (↑g : Int).toNat) 1 = AV.str (fs.getD (↑g : Int).toNat default).y ∧ (decide ((↑(fs.getD (↑g : Int).toNat default).y.length : Int) > 40) = true → AV.bool false = AV.bool (sSF ts fs)) ∧ (decide ((↑(fs.getD (↑g : Int).toNat
   default).y.length : Int) > 40) = false → In64 ((↑g : Int) + 1) ∧ ∃ (g' : Nat), (g' ≤ fs.length ∧ ∀ (j : Nat), j < g' → shFl (fs.getD j default) = true) ∧ fs.length - g' < fs.length - g ∧ AS.mk [(0, AV.sl 13 (List.map encTy ts)),
   (1, AV.sl 3 (List.map encFl fs)), (6, AV.i ((↑g : Int) + 1))] [] 1 = AS.mk [(0, AV.sl 13 (List.map encTy ts)), (1, AV.sl 3 (List.map encFl fs)), (6, AV.i (↑g' : Int))] [] 1)))) ∧ (decide ((↑g : Int) < (↑(List.map encFl fs).length :
   Int)) = false → (decide ((↑(List.map encTy ts).length : Int) ≤ 4) = true → (true = true → (decide ((↑(List.map encFl fs).length : Int) ≤ 4) = true → (true = false → false = true) ∧ (true = false → false = true) ∧ AV.bool (decide
   ((↑(List.map encTy ts).length : Int) ≤ 4)) = AV.bool true ∧ AV.bool true = AV.bool true ∧ AV.bool (decide ((↑(List.map encFl fs).length : Int) ≤ 4)) = AV.bool true ∧ AV.bool true = AV.bool (sSF ts fs)) ∧ (decide ((↑(List.map encFl
   fs).length : Int) ≤ 4) = false → (true = false → false = true) ∧ AV.bool (decide ((↑(List.map encTy ts).length : Int) ≤ 4)) = AV.bool true ∧ AV.bool true = AV.bool true ∧ AV.bool (decide ((↑(List.map encFl fs).length : Int) ≤ 4)) =
   AV.bool false ∧ AV.bool ((↑(List.map encFl fs).length : Int) == 17) = AV.bool (sSF ts fs))) ∧ (true = false → (true = false → false = true) ∧ (false = true → false = true) ∧ AV.bool (decide ((↑(List.map encTy ts).length : Int) ≤
   4)) = AV.bool true ∧ AV.bool true = AV.bool false ∧ AV.bool false = AV.bool (sSF ts fs))) ∧ (decide ((↑(List.map encTy ts).length : Int) ≤ 4) = false → (((↑(List.map encTy ts).length : Int) == 9) = true → (decide ((↑(List.map encFl
   fs).length : Int) ≤ 4) = true → (true = false → false = true) ∧ AV.bool (decide ((↑(List.map encTy ts).length : Int) ≤ 4)) = AV.bool false ∧ AV.bool ((↑(List.map encTy ts).length : Int) == 9) = AV.bool true ∧ AV.bool (decide
   ((↑(List.map encFl fs).length : Int) ≤ 4)) = AV.bool true ∧ AV.bool true = AV.bool (sSF ts fs)) ∧ (decide ((↑(List.map encFl fs).length : Int) ≤ 4) = false → AV.bool (decide ((↑(List.map encTy ts).length : Int) ≤ 4)) = AV.bool
   false ∧ AV.bool ((↑(List.map encTy ts).length : Int) == 9) = AV.bool true ∧ AV.bool (decide ((↑(List.map encFl fs).length : Int) ≤ 4)) = AV.bool false ∧ AV.bool ((↑(List.map encFl fs).length : Int) == 17) = AV.bool (sSF ts fs))) ∧
   (((↑(List.map encTy ts).length : Int) == 9) = false → (false = true → false = true) ∧ AV.bool (decide ((↑(List.map encTy ts).length : Int) ≤ 4)) = AV.bool false ∧ AV.bool ((↑(List.map encTy ts).length : Int) == 9) = AV.bool false ∧
   AV.bool false = AV.bool (sSF ts fs))))) := by
    have hlm : (List.map encTy ts).length = ts.length := List.length_map _
    have hfm : (List.map encFl fs).length = fs.length := List.length_map _
    have hM : maxLen ≤ 9223372036854775807 := by unfold maxLen; omega
    refine ⟨⟨0, ⟨by omega, by intros; omega⟩, rfl⟩, fun g ⟨hg, ha⟩ => ⟨fun hd => ?_, fun hd => ?_⟩⟩
    · rw [hlm] at hd
      have hlt := lt_of_dec hd
      have e1 : decTy (List.take 13 (List.drop 0 (encTy (ts.getD ((g : Int)).toNat default)))) = ts.getD g default := decTy_enc _
      rw [e1]
      refine ⟨by omega, by omega, congrArg AV.agg (row_at encTy hlt), c25 (ts.getD g default) (by have := hst _ (getD_mem hlt); omega), fun hx => ?_, fun hx => ⟨by unfold In64; omega, g + 1, ⟨hlt, fun j hj => ?_⟩, by omega, rfl⟩⟩
      · unfold sSF
        rw [List.all_eq_false.2 ⟨g, List.mem_range.2 hlt, by simpa using hx⟩]
        rfl
      · by_cases e : j = g
        · rw [e]; simpa using hx
        · exact ha j (by omega)
    · rw [hlm] at hd
      have e := ge_of_dec hd hg
      subst e
      have hA : (List.range ts.length).all (fun i => sShort (ts.getD i default)) = true := List.all_eq_true.2 fun i hi => ha i (List.mem_range.1 hi)
      refine ⟨⟨0, ⟨by omega, by intros; omega⟩, rfl⟩, fun g ⟨hg, ha⟩ => ⟨fun hd => ?_, fun hd => ?_⟩⟩
      · rw [hfm] at hd
        have hlt := lt_of_dec hd
        have hrow : nthR (List.map encFl fs) ((g : Int)).toNat = encFl (fs.getD g default) := row_at encFl hlt
        have hbad : shFl (fs.getD g default) = false → AV.bool false = AV.bool (sSF ts fs) := fun h => by
          unfold sSF
          rw [hA, List.all_eq_false.2 ⟨g, List.mem_range.2 hlt, by rw [h]; exact Bool.false_ne_true⟩]
          rfl
        have hgood : shFl (fs.getD g default) = true → ∃ g', (g' ≤ fs.length ∧ ∀ j, j < g' → shFl (fs.getD j default) = true) ∧ fs.length - g' < fs.length - g ∧ AS.mk [(0, AV.sl 13 (List.map encTy ts)), (1, AV.sl 3 (List.map encFl fs)), (6, AV.i ((g : Int) + 1))] [] 1 = AS.mk [(0, AV.sl 13 (List.map encTy ts)), (1, AV.sl 3 (List.map encFl fs)), (6, AV.i (g' : Int))] [] 1 := fun h => ⟨g + 1, ⟨hlt, fun j hj => by
          by_cases e : j = g
          · rw [e]; exact h
          · exact ha j (by omega)⟩, by omega, rfl⟩
        have k26 := c26 (fs.getD g default).tr
        rw [hrow, hfm]
        have e3 : shFl (fs.getD g default) = !(if (if !decide ((fs.getD g default).tr.length ≤ 17) then true else decide (((fs.getD g default).n.length : Int) > 40)) then true else decide (((fs.getD g default).y.length : Int) > 40)) := rfl
        have k0 : (0 : Int) ≤ g := by omega
        have k1 : (g : Int) < (fs.length : Int) := by omega
        simp only [List.length_map, Int.toNat_natCast]
        generalize decide ((fs.getD g default).tr.length ≤ 17) = a at *
        generalize decide (((fs.getD g default).n.length : Int) > 40) = b at *
        generalize decide (((fs.getD g default).y.length : Int) > 40) = c at *
        have kI : In64 ((g : Int) + 1) := by unfold In64; omega
        cases a <;> cases b <;> cases c <;> simp only [Bool.not_true, Bool.not_false, Bool.false_eq_true, if_true, if_false, true_implies, false_implies, and_true, true_and, reduceCtorEq] at e3 ⊢
        all_goals (repeat' (first | exact kI | apply And.intro | intro _))
        all_goals first
          | exact k0
          | exact k1
          | exact k26
          | rfl
          | exact hbad e3
          | exact hgood e3
      · rw [hfm] at hd
        have e := ge_of_dec hd hg
        subst e
        have hB : (List.range fs.length).all (fun i => shFl (fs.getD i default)) = true := List.all_eq_true.2 fun i hi => ha i (List.mem_range.1 hi)
        have e3 : sSF ts fs = szOK ts.length fs.length := by
          unfold sSF
          rw [hA, hB]
          rfl
        rw [hlm, hfm, e3]
        unfold szOK
        generalize decide ((ts.length : Int) ≤ 4) = a
        generalize ((ts.length : Int) == 9) = b
        generalize decide ((fs.length : Int) ≤ 4) = c
        generalize ((fs.length : Int) == 17) = d
        cases a <;> cases b <;> cases c <;> cases d <;> simp
  exact c_of Tryz.f60 ({ mkB spF 60 [(4, 3, rdL 13 encTy ts 13 true), (9, 4, rdL 3 encFl fs 1 false), (9, 12, rdL 3 encFl fs 1 false), (9, 21, rdL 3 encFl fs 1 false)] (la60 ts fs) with split := fun i => if i.beq 9 then 1 else if i.beq 11 then 1 else 0 }) (by kernel_rfl) (by kernel_rfl) (by kernel_rfl) (by kernel_rfl) key (by kernel_rfl)
end Go.Proofs.YtjhjmncjidbieaaGreatDoor
namespace Go.Proofs.YtjhjmncjidbieaaGreatDoor
open Go Go.Av Go.RowKit
def hasK (es : List (AV × AV)) : AV → Bool
  | .str s => es.any fun p => match p.1 with
    | .str x => x == s
    | _ => false
  | _ => false
def rdK : BL → List AV → Option AV := fun bs ins => match ins with
  | [.ref id, k] => match blkOf bs id with
    | .map es => some (.bool (hasK es k))
    | _ => none
  | _ => none
theorem beqL_comm (a b : List UInt8) : (a == b) = (b == a) := by
  rw [Bool.eq_iff_iff, beq_iff_eq, beq_iff_eq]
  exact eq_comm
def keyE (s : List UInt8) : AV × AV := (.str s, .bool true)
def knT (ts : List Ty) : List (AV × AV) := ts.map fun t => keyE t.name
def knF (fs : List Fl) : List (AV × AV) := fs.map fun f => keyE f.n
theorem has_map {α : Type} (f : α → List UInt8) (s : List UInt8) (l : List α) : hasK (l.map fun a => keyE (f a)) (.str s) = l.any fun a => f a == s := by
  show ((l.map fun a => keyE (f a)).any fun p => match p.1 with
    | .str x => x == s
    | _ => false) = _
  rw [List.any_map]
  rfl
theorem look_map {α : Type} (f : α → List UInt8) (s : List UInt8) : ∀ l : List α, mlook (.str s) (l.map fun a => keyE (f a)) = some (if (l.any fun a => f a == s) = true then some (.bool true) else none)
  | [] => rfl
  | a :: l => by
    have ih := look_map f s l
    simp only [List.map_cons, keyE, mlook, eqCell, List.any_cons] at ih ⊢
    rw [beqL_comm s (f a)]
    by_cases h : (f a == s) = true
    · simp only [h, Bool.true_or, if_true]
    · have h := Bool.eq_false_iff.2 h
      simp only [h, Bool.false_or]
      exact ih
theorem put_map {α : Type} (f : α → List UInt8) (s : List UInt8) : ∀ l : List α, (l.any fun a => f a == s) = false → mput (.str s) (.bool true) (l.map fun a => keyE (f a)) = some ((l.map fun a => keyE (f a)) ++ [keyE s])
  | [], _ => rfl
  | a :: l, h => by
    rw [List.any_cons, Bool.or_eq_false_iff] at h
    have ih := put_map f s l h.2
    simp only [List.map_cons, keyE, mput, eqCell] at ih ⊢
    rw [beqL_comm s (f a), h.1]
    simp only [ih, List.cons_append]
theorem look_key {α : Type} (f : α → List UInt8) (s : List UInt8) (l : List α) : lookV false (.bool false) (mlook (.str s) (l.map fun a => keyE (f a))) = .bool (hasK (l.map fun a => keyE (f a)) (.str s)) := by
  rw [look_map, has_map]
  cases l.any fun a => f a == s <;> rfl
theorem look_some {α : Type} (f : α → List UInt8) (s : List UInt8) (l : List α) : (mlook (.str s) (l.map fun a => keyE (f a))).isSome = true := by
  rw [look_map]
  rfl
theorem has_ty {ts : List Ty} {s : List UInt8} {i : Nat} (hi : i ≤ ts.length) : hasK (knT (ts.take i)) (.str s) = decide (fiI (pT ts s) i ≥ 0) := by
  unfold knT
  rw [has_map, any_take hi, fiI_dec]
  rfl
theorem has_fl {fs : List Fl} {s : List UInt8} {i : Nat} (hi : i ≤ fs.length) : hasK (knF (fs.take i)) (.str s) = decide (fiI (pF fs s) i ≥ 0) := by
  unfold knF
  rw [has_map, any_take hi, fiI_dec]
  rfl
theorem put_ty {ts : List Ty} {g : Nat} (hg : g < ts.length) (h : hasK (knT (ts.take g)) (.str (ts.getD g default).name) = false) : mput (.str (ts.getD g default).name) (.bool true) (knT (ts.take g)) = some (knT (ts.take (g + 1))) := by
  unfold knT at h ⊢
  rw [has_map] at h
  rw [put_map _ _ _ h, List.take_add_one, List.map_append]
  simp [List.getD_eq_getElem?_getD, hg]
theorem put_fl {fs : List Fl} {g : Nat} (hg : g < fs.length) (h : hasK (knF (fs.take g)) (.str (fs.getD g default).n) = false) : mput (.str (fs.getD g default).n) (.bool true) (knF (fs.take g)) = some (knF (fs.take (g + 1))) := by
  unfold knF at h ⊢
  rw [has_map] at h
  rw [put_map _ _ _ h, List.take_add_one, List.map_append]
  simp [List.getD_eq_getElem?_getD, hg]
def fTy (ts : List Ty) (i : Nat) : Int := sFirst [sTyS (ts.getD i default), sWhen (hasK (knT (ts.take i)) (.str (ts.getD i default).name)) 9]
def fFl (ts : List Ty) (fs : List Fl) (i : Nat) : Int := sFirst [sWhen (!sName (fs.getD i default).n) 8, sWhen (hasK (knF (fs.take i)) (.str (fs.getD i default).n)) 9, sWhen (!hasK (knT ts) (.str (fs.getD i default).y)) 10, sTrackS (fs.getD i default).tr]
def chkF (ts : List Ty) (fs : List Fl) : Int := if decide ((ts.length : Int) > 8) then 5 else sScan (fTy ts) ts.length (if decide ((fs.length : Int) > 16) then 5 else sScan (fFl ts fs) fs.length 0)
def la70 (ts : List Ty) (fs : List Fl) (b : Nat) : Option LA :=
  if b.beq 0 then some {
    pre := [.keep [1, 5, 6, 18, 19, 20] [5, 6], .bound 7], post := [.keep [1, 5, 6, 18, 19, 20] [5, 6], .bound 7]
    Gh := Nat
    st := fun i => ⟨[(1, .sl 3 (fs.map encFl)), (5, .ref 5), (6, .ref 6), (18, .sl 13 (ts.map encTy)), (19, .i ts.length), (20, .i i)], [(5, .map (knT (ts.take i))), (6, .map [])], 7⟩
    ok := fun i => i ≤ ts.length ∧ ∀ j, j < i → fTy ts j = 0
    ms := fun i => ts.length - i }
  else some {
    pre := [.keep [5, 6, 43, 44, 45] [5, 6], .bound 7], post := [.keep [5, 6, 43, 44, 45] [5, 6], .bound 7]
    Gh := Nat
    st := fun i => ⟨[(5, .ref 5), (6, .ref 6), (43, .sl 3 (fs.map encFl)), (44, .i fs.length), (45, .i i)], [(5, .map (knT ts)), (6, .map (knF (fs.take i)))], 7⟩
    ok := fun i => i ≤ fs.length ∧ ∀ j, j < i → fFl ts fs j = 0
    ms := fun i => fs.length - i }
def atK (B : BA) : BA := modA 7 5 (fun a => { a with rdb := rdK }) (modA 17 8 (fun a => { a with rdb := rdK }) (modA 17 13 (fun a => { a with rdb := rdK }) B))
theorem c70 (ts : List Ty) (fs : List Fl) (hl : ts.length ≤ 1000) (hm : fs.length ≤ 1000) (hS : ∀ t, t ∈ ts → ShortTy t) (hF : ∀ f, f ∈ fs → f.n.length ≤ 1000 ∧ f.y.length ≤ 1000 ∧ f.tr.length ≤ 1000) : PCall Tryz.prog G0 70 [.sl 13 (ts.map encTy), .sl 3 (fs.map encFl)] (.i (chkF ts fs)) := by
  have key :
   (decide ((↑(List.map encTy ts).length : Int) > 8) = true → AV.i 5 = AV.i (chkF ts fs)) ∧ (decide ((↑(List.map encTy ts).length : Int) > 8) = false → (∃ (g : Nat), (g ≤ ts.length ∧ ∀ (j : Nat), j < g → fTy ts j = (0 : Int)) ∧ AS.mk
   [(1, AV.sl 3 (List.map encFl fs)), (5, AV.ref 5), (6, AV.ref 6), (18, AV.sl 13 (List.map encTy ts)), (19, AV.i (↑(List.map encTy ts).length : Int)), (20, AV.i 0)] [(5, ABlk.map []), (6, ABlk.map [])] 7 = AS.mk [(1, AV.sl 3
   (List.map encFl fs)), (5, AV.ref 5), (6, AV.ref 6), (18, AV.sl 13 (List.map encTy ts)), (19, AV.i (↑ts.length : Int)), (20, AV.i (↑g : Int))] [(5, ABlk.map (knT (List.take g ts))), (6, ABlk.map [])] 7) ∧ ∀ (g : Nat), (g ≤ ts.length
   ∧ ∀ (j : Nat), j < g → fTy ts j = (0 : Int)) → (decide ((↑g : Int) < (↑ts.length : Int)) = true → (0 : Int) ≤ (↑g : Int) ∧ (↑g : Int) < (↑(List.map encTy ts).length : Int) ∧ AV.agg (nthR (List.map encTy ts) (↑g : Int).toNat) =
   AV.agg (encTy (ts.getD (↑g : Int).toNat default)) ∧ (mlook (AV.str (ts.getD (↑g : Int).toNat default).name) (knT (List.take g ts))).isSome = true ∧ PCall Tryz.prog G0 53 [AV.agg (encTy (ts.getD (↑g : Int).toNat default))] (AV.i
   (sTyS (decTy (encTy (ts.getD (↑g : Int).toNat default))))) ∧ lookV false (AV.bool false) (mlook (AV.str (ts.getD (↑g : Int).toNat default).name) (knT (List.take g ts))) = AV.bool (hasK (knT (List.take g ts)) (AV.str (ts.getD (↑g :
   Int).toNat default).name)) ∧ PCall Tryz.prog G0 92 [AV.bool (hasK (knT (List.take g ts)) (AV.str (ts.getD (↑g : Int).toNat default).name)), AV.i 9] (AV.i (sWhen (hasK (knT (List.take g ts)) (AV.str (ts.getD (↑g : Int).toNat
   default).name)) (9 : Int))) ∧ PCall Tryz.prog G0 87 [AV.sl 1 [[AV.i (sTyS (decTy (encTy (ts.getD (↑g : Int).toNat default))))], [AV.i (sWhen (hasK (knT (List.take g ts)) (AV.str (ts.getD (↑g : Int).toNat default).name)) (9 :
   Int))]]] (AV.i (sFirst [hdI [AV.i (sTyS (decTy (encTy (ts.getD (↑g : Int).toNat default))))], hdI [AV.i (sWhen (hasK (knT (List.take g ts)) (AV.str (ts.getD (↑g : Int).toNat default).name)) (9 : Int))]])) ∧ ((sFirst [hdI [AV.i
   (sTyS (decTy (encTy (ts.getD (↑g : Int).toNat default))))], hdI [AV.i (sWhen (hasK (knT (List.take g ts)) (AV.str (ts.getD (↑g : Int).toNat default).name)) (9 : Int))]] != 0) = true → AV.i (sFirst [hdI [AV.i (sTyS (decTy (encTy
   (ts.getD (↑g : Int).toNat default))))], hdI [AV.i (sWhen (hasK (knT (List.take g ts)) (AV.str (ts.getD (↑g : Int).toNat default).name)) (9 : Int))]]) = AV.i (chkF ts fs)) ∧ ((sFirst [hdI [AV.i (sTyS (decTy (encTy (ts.getD (↑g :
   Int).toNat default))))], hdI [AV.i (sWhen (hasK (knT (List.take g ts)) (AV.str (ts.getD (↑g : Int).toNat default).name)) (9 : Int))]] != 0) = false → (mput (AV.str (ts.getD (↑g : Int).toNat default).name) (AV.bool true) (knT
   (List.take g ts))).isSome = true ∧ In64 ((↑g : Int) + 1) ∧ ∃ (g' : Nat), (g' ≤ ts.length ∧ ∀ (j : Nat), j < g' → fTy ts j = (0 : Int)) ∧ ts.length - g' < ts.length - g ∧ AS.mk [(1, AV.sl 3 (List.map encFl fs)), (5, AV.ref 5), (6,
   AV.ref 6), (18, AV.sl 13 (List.map encTy ts)), (19, AV.i (↑ts.length : Int)), (20, AV.i ((↑g : Int) + 1))] [(5, ABlk.map ((mput (AV.str (ts.getD (↑g : Int).toNat default).name) (AV.bool true) (knT (List.take g ts))).getD [])), (6,
   ABlk.map [])] 7 = AS.mk [(1, AV.sl 3 (List.map encFl fs)), (5, AV.ref 5), (6, AV.ref 6), (18, AV.sl 13 (List.map encTy ts)), (19, AV.i (↑ts.length : Int)), (20, AV.i (↑g' : Int))] [(5, ABlk.map (knT (List.take g' ts))), (6,
   ABlk.map [])] 7)) ∧ (decide ((↑g : Int) < (↑ts.length : Int)) = false → (decide ((↑(List.map encFl fs).length : Int) > 16) = true → AV.i 5 = AV.i (chkF ts fs)) ∧ (decide ((↑(List.map encFl fs).length : Int) > 16) = false → (∃ (g_1
   : Nat), (g_1 ≤ fs.length ∧ ∀ (j : Nat), j < g_1 → fFl ts fs j = (0 : Int)) ∧ AS.mk [(5, AV.ref 5), (6, AV.ref 6), (43, AV.sl 3 (List.map encFl fs)), (44, AV.i (↑(List.map encFl fs).length : Int)), (45, AV.i 0)] [(5, ABlk.map (knT
   (List.take g ts))), (6, ABlk.map [])] 7 = AS.mk [(5, AV.ref 5), (6, AV.ref 6), (43, AV.sl 3 (List.map encFl fs)), (44, AV.i (↑fs.length : Int)), (45, AV.i (↑g_1 : Int))] [(5, ABlk.map (knT ts)), (6, ABlk.map (knF (List.take g_1
   fs)))] 7) ∧ ∀ (g : Nat), (g ≤ fs.length ∧ ∀ (j : Nat), j < g → fFl ts fs j = (0 : Int)) → (decide ((↑g : Int) < (↑fs.length : Int)) = true → (0 : Int) ≤ (↑g : Int) ∧ (↑g : Int) < (↑(List.map encFl fs).length : Int) ∧ AV.agg (nthR
   (List.map encFl fs) (↑g : Int).toNat) = AV.agg [AV.str (fs.getD (↑g : Int).toNat default).n, AV.str (fs.getD (↑g : Int).toNat default).y, AV.sl 5 (List.map encFx (fs.getD (↑g : Int).toNat default).tr)] ∧ (mlook (AV.str (fs.getD (↑g
   : Int).toNat default).n) (knF (List.take g fs))).isSome = true ∧ (mlook (AV.str (fs.getD (↑g : Int).toNat default).y) (knT ts)).isSome = true ∧ PCall Tryz.prog G0 122 [AV.str (fs.getD (↑g : Int).toNat default).n] (AV.bool (sName
   (fs.getD (↑g : Int).toNat default).n)) ∧ PCall Tryz.prog G0 92 [AV.bool !sName (fs.getD (↑g : Int).toNat default).n, AV.i 8] (AV.i (sWhen (!sName (fs.getD (↑g : Int).toNat default).n) (8 : Int))) ∧ lookV false (AV.bool false)
   (mlook (AV.str (fs.getD (↑g : Int).toNat default).n) (knF (List.take g fs))) = AV.bool (hasK (knF (List.take g fs)) (AV.str (fs.getD (↑g : Int).toNat default).n)) ∧ PCall Tryz.prog G0 92 [AV.bool (hasK (knF (List.take g fs))
   (AV.str (fs.getD (↑g : Int).toNat default).n)), AV.i 9] (AV.i (sWhen (hasK (knF (List.take g fs)) (AV.str (fs.getD (↑g : Int).toNat default).n)) (9 : Int))) ∧ lookV false (AV.bool false) (mlook (AV.str (fs.getD (↑g : Int).toNat
   default).y) (knT ts)) = AV.bool (hasK (knT ts) (AV.str (fs.getD (↑g : Int).toNat default).y)) ∧ PCall Tryz.prog G0 92 [AV.bool !hasK (knT ts) (AV.str (fs.getD (↑g : Int).toNat default).y), AV.i 10] (AV.i (sWhen (!hasK (knT ts)
   (AV.str (fs.getD (↑g : Int).toNat default).y)) (10 : Int))) ∧ PCall Tryz.prog G0 76 [AV.sl 5 (List.map encFx (fs.getD (↑g : Int).toNat default).tr)] (AV.i (sTrackS (decTr (List.map encFx (fs.getD (↑g : Int).toNat default).tr)))) ∧
   PCall Tryz.prog G0 87 [AV.sl 1 [[AV.i (sWhen (!sName (fs.getD (↑g : Int).toNat default).n) (8 : Int))], [AV.i (sWhen (hasK (knF (List.take g fs)) (AV.str (fs.getD (↑g : Int).toNat default).n)) (9 : Int))], [AV.i (sWhen (!hasK (knT
   ts) (AV.str (fs.getD (↑g : Int).toNat default).y)) (10 : Int))], [AV.i (sTrackS (decTr (List.map encFx (fs.getD (↑g : Int).toNat default).tr)))]]] (AV.i (sFirst [hdI [AV.i (sWhen (!sName (fs.getD (↑g : Int).toNat default).n) (8 :
   Int))], hdI [AV.i (sWhen (hasK (knF (List.take g fs)) (AV.str (fs.getD (↑g : Int).toNat default).n)) (9 : Int))], hdI [AV.i (sWhen (!hasK (knT ts) (AV.str (fs.getD (↑g : Int).toNat default).y)) (10 : Int))], hdI [AV.i (sTrackS
   (decTr (List.map encFx (fs.getD (↑g : Int).toNat default).tr)))]])) ∧ ((sFirst [hdI [AV.i (sWhen (!sName (fs.getD (↑g : Int).toNat default).n) (8 : Int))], hdI [AV.i (sWhen (hasK (knF (List.take g fs)) (AV.str (fs.getD (↑g :
   Int).toNat default).n)) (9 : Int))], hdI [AV.i (sWhen (!hasK (knT ts) (AV.str (fs.getD (↑g : Int).toNat default).y)) (10 : Int))], hdI [AV.i (sTrackS (decTr (List.map encFx (fs.getD (↑g : Int).toNat default).tr)))]] != 0) = true →
   AV.i (sFirst [hdI [AV.i (sWhen (!sName (fs.getD (↑g : Int).toNat default).n) (8 : Int))], hdI [AV.i (sWhen (hasK (knF (List.take g fs)) (AV.str (fs.getD (↑g : Int).toNat default).n)) (9 : Int))], hdI [AV.i (sWhen (!hasK (knT ts)
   (AV.str (fs.getD (↑g : Int).toNat default).y)) (10 : Int))], hdI [AV.i (sTrackS (decTr (List.map encFx (fs.getD (↑g : Int).toNat default).tr)))]]) = AV.i (chkF ts fs)) ∧ ((sFirst [hdI [AV.i (sWhen (!sName (fs.getD (↑g : Int).toNat
   default).n) (8 : Int))], hdI [AV.i (sWhen (hasK (knF (List.take g fs)) (AV.str (fs.getD (↑g : Int).toNat default).n)) (9 : Int))], hdI [AV.i (sWhen (!hasK (knT ts) (AV.str (fs.getD (↑g : Int).toNat default).y)) (10 : Int))], hdI
   [AV.i (sTrackS (decTr (List.map encFx (fs.getD (↑g : Int).toNat default).tr)))]] != 0) = false → (mput (AV.str (fs.getD (↑g : Int).toNat default).n) (AV.bool true) (knF (List.take g fs))).isSome = true ∧ In64 ((↑g : Int) + 1) ∧ ∃
   (g' : Nat), (g' ≤ fs.length ∧ ∀ (j : Nat), j < g' → fFl ts fs j = (0 : Int)) ∧ fs.length - g' < fs.length - g ∧ AS.mk [(5, AV.ref 5), (6, AV.ref 6), (43, AV.sl 3 (List.map encFl fs)), (44, AV.i (↑fs.length : Int)), (45, AV.i ((↑g :
   Int) + 1))] [(5, ABlk.map (knT ts)), (6, ABlk.map ((mput (AV.str (fs.getD (↑g : Int).toNat default).n) (AV.bool true) (knF (List.take g fs))).getD []))] 7 = AS.mk [(5, AV.ref 5), (6, AV.ref 6), (43, AV.sl 3 (List.map encFl fs)),
   (44, AV.i (↑fs.length : Int)), (45, AV.i (↑g' : Int))] [(5, ABlk.map (knT ts)), (6, ABlk.map (knF (List.take g' fs)))] 7)) ∧ (decide ((↑g : Int) < (↑fs.length : Int)) = false → AV.i 0 = AV.i (chkF ts fs))))) := by
    have hlm : (List.map encTy ts).length = ts.length := List.length_map _
    have hfm : (List.map encFl fs).length = fs.length := List.length_map _
    rw [hlm, hfm]
    simp only [decTy_enc, decTr_enc]
    refine ⟨fun h => ?_, fun h => ⟨⟨0, ⟨by omega, by intros; omega⟩, rfl⟩, fun g ⟨hg, ha⟩ => ⟨fun hd => ?_, fun hd => ?_⟩⟩⟩
    · unfold chkF
      rw [if_pos h]
    · have hlt := lt_of_dec hd
      have hs := hS _ (getD_mem hlt)
      have h8 : ¬ decide ((ts.length : Int) > 8) = true := by rw [h]; exact Bool.false_ne_true
      have hput : fTy ts g = 0 → mput (.str (ts.getD g default).name) (.bool true) (knT (ts.take g)) = some (knT (ts.take (g + 1))) := fun hz => by
        unfold fTy at hz
        rw [first_zero, first_zero] at hz
        exact put_ty hlt (when_z (by decide) hz.2.1)
      refine ⟨by omega, by omega, congrArg AV.agg (row_at encTy hlt), look_some Ty.name _ _, c53 (ts.getD g default) (by have := hs.st; omega) (by have := hs.s; omega) (by have := hs.q; omega) (fun x hx => by have := hs.e x hx; omega) (by have := hs.n; omega), look_key Ty.name _ _, c92 _ _, c87 [_, _] (by simp), fun hx => ?_, fun hx => ?_⟩
      · have hne : fTy ts g ≠ 0 := bne_t hx
        refine av_int ?_
        unfold chkF
        rw [if_neg h8, scan_hit hlt ha hne]
        rfl
      · have hz : fTy ts g = 0 := bne_f hx
        have hp := hput hz
        refine ⟨by rw [show mput (AV.str (ts.getD ((g : Int)).toNat default).name) (AV.bool true) (knT (List.take g ts)) = _ from hp]; rfl, by unfold In64; omega, g + 1, ⟨hlt, fun j hj => ?_⟩, by omega, ?_⟩
        · by_cases e : j = g
          · rw [e]; exact hz
          · exact ha j (by omega)
        · rw [show mput (AV.str (ts.getD ((g : Int)).toNat default).name) (AV.bool true) (knT (List.take g ts)) = _ from hp]
          rfl
    · have e := ge_of_dec hd hg
      subst e
      have h8 : ¬ decide ((ts.length : Int) > 8) = true := by rw [h]; exact Bool.false_ne_true
      have hc : chkF ts fs = if decide ((fs.length : Int) > 16) then 5 else sScan (fFl ts fs) fs.length 0 := by
        unfold chkF
        rw [if_neg h8, scan_end ha]
      refine ⟨fun h => ?_, fun h => ⟨⟨0, ⟨by omega, by intros; omega⟩, by rw [List.take_length]; rfl⟩, fun g ⟨hg, ha⟩ => ⟨fun hd => ?_, fun hd => ?_⟩⟩⟩
      · rw [hc, if_pos h]
      · have hlt := lt_of_dec hd
        have hs := hF _ (getD_mem hlt)
        have h8 : ¬ decide ((fs.length : Int) > 16) = true := by rw [h]; exact Bool.false_ne_true
        have hput : fFl ts fs g = 0 → mput (.str (fs.getD g default).n) (.bool true) (knF (fs.take g)) = some (knF (fs.take (g + 1))) := fun hz => by
          unfold fFl at hz
          rw [first_zero, first_zero] at hz
          exact put_fl hlt (when_z (by decide) hz.2.1)
        refine ⟨by omega, by omega, congrArg AV.agg (row_at encFl hlt), look_some Fl.n _ _, look_some Ty.name _ _, c122 (fs.getD g default).n (by omega), c92 _ _, look_key Fl.n _ _, c92 _ _, look_key Ty.name _ _, c92 _ _, ?_, c87 [_, _, _, _] (by simp), fun hx => ?_, fun hx => ?_⟩
        · exact c76 (fs.getD g default).tr (by rw [List.length_map]; omega)
        · have hne : fFl ts fs g ≠ 0 := bne_t hx
          refine av_int ?_
          rw [hc, if_neg h8, scan_hit hlt ha hne]
          rfl
        · have hz : fFl ts fs g = 0 := bne_f hx
          have hp := hput hz
          refine ⟨by rw [show mput (AV.str (fs.getD ((g : Int)).toNat default).n) (AV.bool true) (knF (List.take g fs)) = _ from hp]; rfl, by unfold In64; omega, g + 1, ⟨hlt, fun j hj => ?_⟩, by omega, ?_⟩
          · by_cases e : j = g
            · rw [e]; exact hz
            · exact ha j (by omega)
          · rw [show mput (AV.str (fs.getD ((g : Int)).toNat default).n) (AV.bool true) (knF (List.take g fs)) = _ from hp]
            rfl
      · have e := ge_of_dec hd hg
        subst e
        have h8 : ¬ decide ((fs.length : Int) > 16) = true := by rw [h]; exact Bool.false_ne_true
        rw [hc, if_neg h8, scan_end ha]
  exact c_of Tryz.f70 (atK (fzB (mkB spF 70 [(6, 1, rdL 13 encTy ts 13 true), (16, 1, rdL 3 encFl fs 3 true)] (la70 ts fs)))) (by kernel_rfl) (by kernel_rfl) (by kernel_rfl) (by kernel_rfl) key (by kernel_rfl)
def gTy (ts : List Ty) (i : Nat) : Int := sFirst [sTyR (ts.getD i default), sWhen (decide (fiI (pT ts (ts.getD i default).name) i ≥ 0)) 9]
def gFl (ts : List Ty) (fs : List Fl) (i : Nat) : Int := sFirst [sWhen (!sName (fs.getD i default).n) 8, sWhen (decide (fiI (pF fs (fs.getD i default).n) i ≥ 0)) 9, sWhen (decide (fiI (pT ts (fs.getD i default).y) ts.length < 0)) 10, sTrackR (fs.getD i default).tr]
def chkG (ts : List Ty) (fs : List Fl) : Int := if decide ((ts.length : Int) > 8) then 5 else sScan (gTy ts) ts.length (if decide ((fs.length : Int) > 16) then 5 else sScan (gFl ts fs) fs.length 0)
theorem pT_take {ts : List Ty} {s : List UInt8} {g j : Nat} (hj : j < g) : pT (ts.take g) s j = pT ts s j := by
  unfold pT
  rw [List.getD_eq_getElem?_getD, List.getD_eq_getElem?_getD, List.getElem?_take, if_pos hj]
theorem pF_take {fs : List Fl} {s : List UInt8} {g j : Nat} (hj : j < g) : pF (fs.take g) s j = pF fs s j := by
  unfold pF
  rw [List.getD_eq_getElem?_getD, List.getD_eq_getElem?_getD, List.getElem?_take, if_pos hj]
theorem fiT {ts : List Ty} {s : List UInt8} {g : Nat} (hg : g ≤ ts.length) : fiI (pR ((ts.take g).map encTy) s) ((ts.take g).map encTy).length = fiI (pT ts s) g := by
  have e : ((ts.take g).map encTy).length = g := by rw [List.length_map, List.length_take]; omega
  rw [e]
  exact fiI_congr fun j hj => (pR_ty (by rw [List.length_take]; omega)).trans (pT_take hj)
theorem fiF {fs : List Fl} {s : List UInt8} {g : Nat} (hg : g ≤ fs.length) : fiI (pR ((fs.take g).map encFl) s) ((fs.take g).map encFl).length = fiI (pF fs s) g := by
  have e : ((fs.take g).map encFl).length = g := by rw [List.length_map, List.length_take]; omega
  rw [e]
  exact fiI_congr fun j hj => (pR_fl (by rw [List.length_take]; omega)).trans (pF_take hj)
theorem c131t {ts : List Ty} {g : Nat} (s : List UInt8) (hl : ts.length ≤ 1000) (hg : g ≤ ts.length) : PCall Tryz.prog G0 131 [.sl 13 ((ts.take g).map encTy), .str s] (.i (fiI (pT ts s) g)) := by
  have h := c131 (ts.take g) s (by rw [List.length_take]; omega)
  rw [show (ts.take g).length = g by rw [List.length_take]; omega, fiI_congr (fun j hj => pT_take hj)] at h
  exact h
theorem c83t {fs : List Fl} {g : Nat} (s : List UInt8) (hl : fs.length ≤ 1000) (hg : g ≤ fs.length) : PCall Tryz.prog G0 83 [.sl 3 ((fs.take g).map encFl), .str s] (.i (fiI (pF fs s) g)) := by
  have h := c83 (fs.take g) s (by rw [List.length_take]; omega)
  rw [show (fs.take g).length = g by rw [List.length_take]; omega, fiI_congr (fun j hj => pF_take hj)] at h
  exact h
def la66 (ts : List Ty) (fs : List Fl) (b : Nat) : Option LA :=
  if b.beq 0 then some {
    pre := [.keep [0, 1, 5] [], .bound 1], post := [.keep [0, 1, 5] [], .bound 1]
    Gh := Nat
    st := fun i => ⟨[(0, .sl 13 (ts.map encTy)), (1, .sl 3 (fs.map encFl)), (5, .i i)], [], 1⟩
    ok := fun i => i ≤ ts.length ∧ ∀ j, j < i → gTy ts j = 0
    ms := fun i => ts.length - i }
  else some {
    pre := [.keep [0, 1, 7] [], .bound 1], post := [.keep [0, 1, 7] [], .bound 1]
    Gh := Nat
    st := fun i => ⟨[(0, .sl 13 (ts.map encTy)), (1, .sl 3 (fs.map encFl)), (7, .i i)], [], 1⟩
    ok := fun i => i ≤ fs.length ∧ ∀ j, j < i → gFl ts fs j = 0
    ms := fun i => fs.length - i }
theorem c66 (ts : List Ty) (fs : List Fl) (hl : ts.length ≤ 1000) (hm : fs.length ≤ 1000) (hS : ∀ t, t ∈ ts → ShortTy t) (hF : ∀ f, f ∈ fs → f.n.length ≤ 1000 ∧ f.y.length ≤ 1000 ∧ f.tr.length ≤ 1000) : PCall Tryz.prog G0 66 [.sl 13 (ts.map encTy), .sl 3 (fs.map encFl)] (.i (chkG ts fs)) := by
  have key :
   (decide ((↑(List.map encTy ts).length : Int) > 8) = true → AV.i 5 = AV.i (chkG ts fs)) ∧ (decide ((↑(List.map encTy ts).length : Int) > 8) = false → (∃ (g : Nat), (g ≤ ts.length ∧ ∀ (j : Nat), j < g → gTy ts j = (0 : Int)) ∧ AS.mk
   [(0, AV.sl 13 (List.map encTy ts)), (1, AV.sl 3 (List.map encFl fs)), (5, AV.i 0)] [] 1 = AS.mk [(0, AV.sl 13 (List.map encTy ts)), (1, AV.sl 3 (List.map encFl fs)), (5, AV.i (↑g : Int))] [] 1) ∧ ∀ (g : Nat), (g ≤ ts.length ∧ ∀ (j
   : Nat), j < g → gTy ts j = (0 : Int)) → (decide ((↑g : Int) < (↑(List.map encTy ts).length : Int)) = true → (0 : Int) ≤ (↑g : Int) ∧ (↑g : Int) < (↑(List.map encTy ts).length : Int) ∧ (0 : Int) ≤ 0 ∧ (0 : Int) ≤ (↑g : Int) ∧ (↑g :
   Int) ≤ (↑(List.map encTy ts).length : Int) ∧ (0 : Int) ≤ (↑g : Int) ∧ (↑g : Int) < (↑(List.map encTy ts).length : Int) ∧ AV.agg (nthR (List.map encTy ts) (↑g : Int).toNat) = AV.agg (encTy (ts.getD (↑g : Int).toNat default)) ∧ PCall
   Tryz.prog G0 32 [AV.agg (encTy (ts.getD (↑g : Int).toNat default))] (AV.i (sTyR (decTy (encTy (ts.getD (↑g : Int).toNat default))))) ∧ nth (nthR (List.map encTy ts) (↑g : Int).toNat) 0 = AV.str (ts.getD (↑g : Int).toNat
   default).name ∧ PCall Tryz.prog G0 131 [AV.sl 13 (List.take ((↑g : Int) - 0).toNat (List.drop 0 (List.map encTy ts))), AV.str (ts.getD (↑g : Int).toNat default).name] (AV.i (fiI (pR (List.take ((↑g : Int) - 0).toNat (List.drop
   (Int.toNat (0 : Int)) (List.map encTy ts))) (ts.getD (↑g : Int).toNat default).name) (List.take ((↑g : Int) - 0).toNat (List.drop 0 (List.map encTy ts))).length)) ∧ PCall Tryz.prog G0 94 [AV.bool (decide (fiI (pR (List.take ((↑g :
   Int) - 0).toNat (List.drop (Int.toNat (0 : Int)) (List.map encTy ts))) (ts.getD (↑g : Int).toNat default).name) (List.take ((↑g : Int) - 0).toNat (List.drop (Int.toNat (0 : Int)) (List.map encTy ts))).length ≥ 0)), AV.i 9] (AV.i
   (sWhen (decide (fiI (pR (List.take ((↑g : Int) - 0).toNat (List.drop (Int.toNat (0 : Int)) (List.map encTy ts))) (ts.getD (↑g : Int).toNat default).name) (List.take ((↑g : Int) - 0).toNat (List.drop (Int.toNat (0 : Int)) (List.map
   encTy ts))).length ≥ 0)) (9 : Int))) ∧ PCall Tryz.prog G0 93 [AV.sl 1 [[AV.i (sTyR (decTy (encTy (ts.getD (↑g : Int).toNat default))))], [AV.i (sWhen (decide (fiI (pR (List.take ((↑g : Int) - 0).toNat (List.drop (Int.toNat (0 :
   Int)) (List.map encTy ts))) (ts.getD (↑g : Int).toNat default).name) (List.take ((↑g : Int) - 0).toNat (List.drop (Int.toNat (0 : Int)) (List.map encTy ts))).length ≥ 0)) (9 : Int))]]] (AV.i (sFirst [hdI [AV.i (sTyR (decTy (encTy
   (ts.getD (↑g : Int).toNat default))))], hdI [AV.i (sWhen (decide (fiI (pR (List.take ((↑g : Int) - 0).toNat (List.drop (Int.toNat (0 : Int)) (List.map encTy ts))) (ts.getD (↑g : Int).toNat default).name) (List.take ((↑g : Int) -
   0).toNat (List.drop (Int.toNat (0 : Int)) (List.map encTy ts))).length ≥ 0)) (9 : Int))]])) ∧ ((sFirst [hdI [AV.i (sTyR (decTy (encTy (ts.getD (↑g : Int).toNat default))))], hdI [AV.i (sWhen (decide (fiI (pR (List.take ((↑g : Int)
   - 0).toNat (List.drop (Int.toNat (0 : Int)) (List.map encTy ts))) (ts.getD (↑g : Int).toNat default).name) (List.take ((↑g : Int) - 0).toNat (List.drop (Int.toNat (0 : Int)) (List.map encTy ts))).length ≥ 0)) (9 : Int))]] != 0) =
   true → AV.i (sFirst [hdI [AV.i (sTyR (decTy (encTy (ts.getD (↑g : Int).toNat default))))], hdI [AV.i (sWhen (decide (fiI (pR (List.take ((↑g : Int) - 0).toNat (List.drop (Int.toNat (0 : Int)) (List.map encTy ts))) (ts.getD (↑g :
   Int).toNat default).name) (List.take ((↑g : Int) - 0).toNat (List.drop (Int.toNat (0 : Int)) (List.map encTy ts))).length ≥ 0)) (9 : Int))]]) = AV.i (chkG ts fs)) ∧ ((sFirst [hdI [AV.i (sTyR (decTy (encTy (ts.getD (↑g : Int).toNat
   default))))], hdI [AV.i (sWhen (decide (fiI (pR (List.take ((↑g : Int) - 0).toNat (List.drop (Int.toNat (0 : Int)) (List.map encTy ts))) (ts.getD (↑g : Int).toNat default).name) (List.take ((↑g : Int) - 0).toNat (List.drop
   (Int.toNat (0 : Int)) (List.map encTy ts))).length ≥ 0)) (9 : Int))]] != 0) = false → In64 ((↑g : Int) + 1) ∧ ∃ (g' : Nat), (g' ≤ ts.length ∧ ∀ (j : Nat), j < g' → gTy ts j = (0 : Int)) ∧ ts.length - g' < ts.length - g ∧ AS.mk [(0,
   AV.sl 13 (List.map encTy ts)), (1, AV.sl 3 (List.map encFl fs)), (5, AV.i ((↑g : Int) + 1))] [] 1 = AS.mk [(0, AV.sl 13 (List.map encTy ts)), (1, AV.sl 3 (List.map encFl fs)), (5, AV.i (↑g' : Int))] [] 1)) ∧ (decide ((↑g : Int) <
   (↑(List.map encTy ts).length : Int)) = false → (decide ((↑(List.map encFl fs).length : Int) > 16) = true → AV.i 5 = AV.i (chkG ts fs)) ∧ (decide ((↑(List.map encFl fs).length : Int) > 16) = false → (∃ (g : Nat), (g ≤ fs.length ∧ ∀
   (j : Nat), j < g → gFl ts fs j = (0 : Int)) ∧ AS.mk [(0, AV.sl 13 (List.map encTy ts)), (1, AV.sl 3 (List.map encFl fs)), (7, AV.i 0)] [] 1 = AS.mk [(0, AV.sl 13 (List.map encTy ts)), (1, AV.sl 3 (List.map encFl fs)), (7, AV.i (↑g
   : Int))] [] 1) ∧ ∀ (g : Nat), (g ≤ fs.length ∧ ∀ (j : Nat), j < g → gFl ts fs j = (0 : Int)) → (decide ((↑g : Int) < (↑(List.map encFl fs).length : Int)) = true → (0 : Int) ≤ (↑g : Int) ∧ (↑g : Int) < (↑(List.map encFl fs).length :
   Int) ∧ (0 : Int) ≤ 0 ∧ (0 : Int) ≤ (↑g : Int) ∧ (↑g : Int) ≤ (↑(List.map encFl fs).length : Int) ∧ (0 : Int) ≤ (↑g : Int) ∧ (↑g : Int) < (↑(List.map encFl fs).length : Int) ∧ (0 : Int) ≤ (↑g : Int) ∧ (↑g : Int) < (↑(List.map encFl
   fs).length : Int) ∧ (0 : Int) ≤ (↑g : Int) ∧ (↑g : Int) < (↑(List.map encFl fs).length : Int) ∧ nth (nthR (List.map encFl fs) (↑g : Int).toNat) 0 = AV.str (fs.getD (↑g : Int).toNat default).n ∧ PCall Tryz.prog G0 106 [AV.str
   (fs.getD (↑g : Int).toNat default).n] (AV.i (sWhen (!sName (fs.getD (↑g : Int).toNat default).n) (8 : Int))) ∧ nth (nthR (List.map encFl fs) (↑g : Int).toNat) 0 = AV.str (fs.getD (↑g : Int).toNat default).n ∧ PCall Tryz.prog G0 83
   [AV.sl 3 (List.take ((↑g : Int) - 0).toNat (List.drop 0 (List.map encFl fs))), AV.str (fs.getD (↑g : Int).toNat default).n] (AV.i (fiI (pR (List.take ((↑g : Int) - 0).toNat (List.drop (Int.toNat (0 : Int)) (List.map encFl fs)))
   (fs.getD (↑g : Int).toNat default).n) (List.take ((↑g : Int) - 0).toNat (List.drop 0 (List.map encFl fs))).length)) ∧ PCall Tryz.prog G0 94 [AV.bool (decide (fiI (pR (List.take ((↑g : Int) - 0).toNat (List.drop (Int.toNat (0 :
   Int)) (List.map encFl fs))) (fs.getD (↑g : Int).toNat default).n) (List.take ((↑g : Int) - 0).toNat (List.drop (Int.toNat (0 : Int)) (List.map encFl fs))).length ≥ 0)), AV.i 9] (AV.i (sWhen (decide (fiI (pR (List.take ((↑g : Int) -
   0).toNat (List.drop (Int.toNat (0 : Int)) (List.map encFl fs))) (fs.getD (↑g : Int).toNat default).n) (List.take ((↑g : Int) - 0).toNat (List.drop (Int.toNat (0 : Int)) (List.map encFl fs))).length ≥ 0)) (9 : Int))) ∧ nth (nthR
   (List.map encFl fs) (↑g : Int).toNat) 1 = AV.str (fs.getD (↑g : Int).toNat default).y ∧ PCall Tryz.prog G0 131 [AV.sl 13 (List.map encTy ts), AV.str (fs.getD (↑g : Int).toNat default).y] (AV.i (fiI (pR (List.map encTy ts) (fs.getD
   (↑g : Int).toNat default).y) (List.map encTy ts).length)) ∧ PCall Tryz.prog G0 94 [AV.bool (decide (fiI (pR (List.map encTy ts) (fs.getD (↑g : Int).toNat default).y) (List.map encTy ts).length < 0)), AV.i 10] (AV.i (sWhen (decide
   (fiI (pR (List.map encTy ts) (fs.getD (↑g : Int).toNat default).y) (List.map encTy ts).length < 0)) (10 : Int))) ∧ nth (nthR (List.map encFl fs) (↑g : Int).toNat) 2 = AV.sl 5 (List.map encFx (fs.getD (↑g : Int).toNat default).tr) ∧
   PCall Tryz.prog G0 33 [AV.sl 5 (List.map encFx (fs.getD (↑g : Int).toNat default).tr)] (AV.i (sTrackR (decTr (List.map encFx (fs.getD (↑g : Int).toNat default).tr)))) ∧ PCall Tryz.prog G0 93 [AV.sl 1 [[AV.i (sWhen (!sName (fs.getD
   (↑g : Int).toNat default).n) (8 : Int))], [AV.i (sWhen (decide (fiI (pR (List.take ((↑g : Int) - 0).toNat (List.drop (Int.toNat (0 : Int)) (List.map encFl fs))) (fs.getD (↑g : Int).toNat default).n) (List.take ((↑g : Int) -
   0).toNat (List.drop (Int.toNat (0 : Int)) (List.map encFl fs))).length ≥ 0)) (9 : Int))], [AV.i (sWhen (decide (fiI (pR (List.map encTy ts) (fs.getD (↑g : Int).toNat default).y) (List.map encTy ts).length < 0)) (10 : Int))], [AV.i
   (sTrackR (decTr (List.map encFx (fs.getD (↑g : Int).toNat default).tr)))]]] (AV.i (sFirst [hdI [AV.i (sWhen (!sName (fs.getD (↑g : Int).toNat default).n) (8 : Int))], hdI [AV.i (sWhen (decide (fiI (pR (List.take ((↑g : Int) -
   0).toNat (List.drop (Int.toNat (0 : Int)) (List.map encFl fs))) (fs.getD (↑g : Int).toNat default).n) (List.take ((↑g : Int) - 0).toNat (List.drop (Int.toNat (0 : Int)) (List.map encFl fs))).length ≥ 0)) (9 : Int))], hdI [AV.i
   (sWhen (decide (fiI (pR (List.map encTy ts) (fs.getD (↑g : Int).toNat default).y) (List.map encTy ts).length < 0)) (10 : Int))], hdI [AV.i (sTrackR (decTr (List.map encFx (fs.getD (↑g : Int).toNat default).tr)))]])) ∧ ((sFirst [hdI
   [AV.i (sWhen (!sName (fs.getD (↑g : Int).toNat default).n) (8 : Int))], hdI [AV.i (sWhen (decide (fiI (pR (List.take ((↑g : Int) - 0).toNat (List.drop (Int.toNat (0 : Int)) (List.map encFl fs))) (fs.getD (↑g : Int).toNat
   default).n) (List.take ((↑g : Int) - 0).toNat (List.drop (Int.toNat (0 : Int)) (List.map encFl fs))).length ≥ 0)) (9 : Int))], hdI [AV.i (sWhen (decide (fiI (pR (List.map encTy ts) (fs.getD (↑g : Int).toNat default).y) (List.map
   encTy ts).length < 0)) (10 : Int))], hdI [AV.i (sTrackR (decTr (List.map encFx (fs.getD (↑g : Int).toNat default).tr)))]] != 0) = true → AV.i (sFirst [hdI [AV.i (sWhen (!sName (fs.getD (↑g : Int).toNat default).n) (8 : Int))], hdI
   [AV.i (sWhen (decide (fiI (pR (List.take ((↑g : Int) - 0).toNat (List.drop (Int.toNat (0 : Int)) (List.map encFl fs))) (fs.getD (↑g : Int).toNat default).n) (List.take ((↑g : Int) - 0).toNat (List.drop (Int.toNat (0 : Int))
   (List.map encFl fs))).length ≥ 0)) (9 : Int))], hdI [AV.i (sWhen (decide (fiI (pR (List.map encTy ts) (fs.getD (↑g : Int).toNat default).y) (List.map encTy ts).length < 0)) (10 : Int))], hdI [AV.i (sTrackR (decTr (List.map encFx
   (fs.getD (↑g : Int).toNat default).tr)))]]) = AV.i (chkG ts fs)) ∧ ((sFirst [hdI [AV.i (sWhen (!sName (fs.getD (↑g : Int).toNat default).n) (8 : Int))], hdI [AV.i (sWhen (decide (fiI (pR (List.take ((↑g : Int) - 0).toNat (List.drop
   (Int.toNat (0 : Int)) (List.map encFl fs))) (fs.getD (↑g : Int).toNat default).n) (List.take ((↑g : Int) - 0).toNat (List.drop (Int.toNat (0 : Int)) (List.map encFl fs))).length ≥ 0)) (9 : Int))], hdI [AV.i (sWhen (decide (fiI (pR
   (List.map encTy ts) (fs.getD (↑g : Int).toNat default).y) (List.map encTy ts).length < 0)) (10 : Int))], hdI [AV.i (sTrackR (decTr (List.map encFx (fs.getD (↑g : Int).toNat default).tr)))]] != 0) = false → In64 ((↑g : Int) + 1) ∧ ∃
   (g' : Nat), (g' ≤ fs.length ∧ ∀ (j : Nat), j < g' → gFl ts fs j = (0 : Int)) ∧ fs.length - g' < fs.length - g ∧ AS.mk [(0, AV.sl 13 (List.map encTy ts)), (1, AV.sl 3 (List.map encFl fs)), (7, AV.i ((↑g : Int) + 1))] [] 1 = AS.mk
   [(0, AV.sl 13 (List.map encTy ts)), (1, AV.sl 3 (List.map encFl fs)), (7, AV.i (↑g' : Int))] [] 1)) ∧ (decide ((↑g : Int) < (↑(List.map encFl fs).length : Int)) = false → AV.i 0 = AV.i (chkG ts fs))))) := by
    have hlm : (List.map encTy ts).length = ts.length := List.length_map _
    have hfm : (List.map encFl fs).length = fs.length := List.length_map _
    simp only [decTy_enc, decTr_enc, Int.sub_zero, Int.toNat_natCast, Int.toNat_zero, List.drop_zero, ← List.map_take]
    have hfi : ∀ s, fiI (pR (List.map encTy ts) s) (List.map encTy ts).length = fiI (pT ts s) ts.length := fun s => by
      rw [hlm]
      exact fiI_congr fun j hj => pR_ty hj
    simp only [hfi]
    rw [hlm, hfm]
    refine ⟨fun h => ?_, fun h => ⟨⟨0, ⟨by omega, by intros; omega⟩, rfl⟩, fun g ⟨hg, ha⟩ => ⟨fun hd => ?_, fun hd => ?_⟩⟩⟩
    · unfold chkG
      rw [if_pos h]
    · have hlt := lt_of_dec hd
      have hs := hS _ (getD_mem hlt)
      have h8 : ¬ decide ((ts.length : Int) > 8) = true := by rw [h]; exact Bool.false_ne_true
      rw [fiT (Nat.le_of_lt hlt)]
      have hrow : nthR (List.map encTy ts) g = encTy (ts.getD g default) := row_at encTy hlt
      rw [hrow]
      refine ⟨by omega, by omega, by omega, by omega, by omega, by omega, by omega, rfl, c32t hs, rfl, c131t _ hl (Nat.le_of_lt hlt), c94 _ _, c93 [_, _] (by simp), fun hx => ?_, fun hx => ?_⟩
      · have hne : gTy ts g ≠ 0 := bne_t hx
        refine av_int ?_
        unfold chkG
        rw [if_neg h8, scan_hit hlt ha hne]
        rfl
      · have hz : gTy ts g = 0 := bne_f hx
        refine ⟨by unfold In64; omega, g + 1, ⟨hlt, fun j hj => ?_⟩, by omega, rfl⟩
        by_cases e : j = g
        · rw [e]; exact hz
        · exact ha j (by omega)
    · have e := ge_of_dec hd hg
      subst e
      have h8 : ¬ decide ((ts.length : Int) > 8) = true := by rw [h]; exact Bool.false_ne_true
      have hc : chkG ts fs = if decide ((fs.length : Int) > 16) then 5 else sScan (gFl ts fs) fs.length 0 := by
        unfold chkG
        rw [if_neg h8, scan_end ha]
      refine ⟨fun h => ?_, fun h => ⟨⟨0, ⟨by omega, by intros; omega⟩, rfl⟩, fun g ⟨hg, ha⟩ => ⟨fun hd => ?_, fun hd => ?_⟩⟩⟩
      · rw [hc, if_pos h]
      · have hlt := lt_of_dec hd
        have hs := hF _ (getD_mem hlt)
        have h8 : ¬ decide ((fs.length : Int) > 16) = true := by rw [h]; exact Bool.false_ne_true
        rw [fiF (Nat.le_of_lt hlt)]
        have hrow : nthR (List.map encFl fs) g = encFl (fs.getD g default) := row_at encFl hlt
        rw [hrow]
        refine ⟨by omega, by omega, by omega, by omega, by omega, by omega, by omega, by omega, by omega, by omega, by omega, rfl, c106 (fs.getD g default).n (by omega), rfl, c83t _ hm (Nat.le_of_lt hlt), c94 _ _, rfl, c131 _ _ hl, c94 _ _, rfl, ?_, c93 [_, _, _, _] (by simp), fun hx => ?_, fun hx => ?_⟩
        · exact c33 (fs.getD g default).tr (by rw [List.length_map]; omega)
        · have hne : gFl ts fs g ≠ 0 := bne_t hx
          refine av_int ?_
          rw [hc, if_neg h8, scan_hit hlt ha hne]
          rfl
        · have hz : gFl ts fs g = 0 := bne_f hx
          refine ⟨by unfold In64; omega, g + 1, ⟨hlt, fun j hj => ?_⟩, by omega, rfl⟩
          by_cases e : j = g
          · rw [e]; exact hz
          · exact ha j (by omega)
      · have e := ge_of_dec hd hg
        subst e
        have h8 : ¬ decide ((fs.length : Int) > 16) = true := by rw [h]; exact Bool.false_ne_true
        rw [hc, if_neg h8, scan_end ha]
  exact c_of Tryz.f66 (fzB (mkB spF 66 [(6, 3, rdL 13 encTy ts 13 true), (6, 12, rdL 13 encTy ts 1 false), (14, 4, rdL 3 encFl fs 1 false), (14, 13, rdL 3 encFl fs 1 false), (14, 22, rdL 3 encFl fs 1 false), (14, 30, rdL 3 encFl fs 1 false)] (la66 ts fs))) (by kernel_rfl) (by kernel_rfl) (by kernel_rfl) (by kernel_rfl) key (by kernel_rfl)
theorem not_ge (a : Int) : (!decide (a ≥ 0)) = decide (a < 0) := by
  by_cases h : a ≥ 0
  · rw [decide_eq_true h, decide_eq_false (by omega)]; rfl
  · rw [decide_eq_false h, decide_eq_true (by omega)]; rfl
theorem chkF_eq (ts : List Ty) (fs : List Fl) : chkF ts fs = chkG ts fs := by
  unfold chkF chkG
  split
  · rfl
  · have e1 : sScan (fFl ts fs) fs.length 0 = sScan (gFl ts fs) fs.length 0 := scan_same fun k hk => by
      unfold fFl gFl
      have h1 := has_ty (ts := ts) (s := (fs.getD k default).y) (Nat.le_refl _)
      rw [List.take_length] at h1
      rw [has_fl (Nat.le_of_lt hk), h1, not_ge, track_eq]
    rw [e1]
    exact scan_same fun k hk => by
      unfold fTy gTy
      rw [has_ty (Nat.le_of_lt hk), ty_eq]
theorem chkF_z {ts : List Ty} {fs : List Fl} (h : chkF ts fs = 0) : ts.length ≤ 8 ∧ fs.length ≤ 16 ∧ (∀ i, i < ts.length → sTyS (ts.getD i default) = 0) ∧ ∀ i, i < fs.length → fiN (pT ts (fs.getD i default).y) ts.length < ts.length ∧ sTrackS (fs.getD i default).tr = 0 := by
  unfold chkF at h
  split at h
  · cases h
  rename_i h1
  obtain ⟨h2, h3⟩ := scan_zero h
  split at h3
  · cases h3
  rename_i h4
  obtain ⟨h5, _⟩ := scan_zero h3
  simp only [decide_eq_true_eq] at h1 h4
  refine ⟨by omega, by omega, fun i hi => ?_, fun i hi => ?_⟩
  · have := h2 i hi
    unfold fTy at this
    rw [first_zero] at this
    exact this.1
  · have := h5 i hi
    unfold fFl at this
    rw [first_zero, first_zero, first_zero, first_zero] at this
    have h6 := when_z (by decide) this.2.2.1
    have h7 := has_ty (ts := ts) (s := (fs.getD i default).y) (Nat.le_refl _)
    rw [List.take_length] at h7
    rw [h7, fiI_dec] at h6
    exact ⟨by simpa using h6, this.2.2.2.1⟩
end Go.Proofs.YtjhjmncjidbieaaGreatDoor
