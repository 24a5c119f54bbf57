/-
  What chapter 2's Flown of the reference returns. No condition but the theorems' own. The plain law of SourcePaths: what the program and the reference compute is the same. No condition but the theorems' own. Plain laws of a track: the state at a tick, and what is heard of it. No condition but the theorems' own. What chapter 2's reference returns of a track: the state at a tick, an exposure, a maximum. No condition but the theorems' own. What chapter 2's given and told return: the type itself. No condition but the theorems' own. What chapter 2's repairs of a track return, and its states at a tick. No condition but the theorems' own. What the source's repair of a track returns. No condition but the theorems' own. What is asked of a type; what the source returns of it. No condition but the theorems' own. Contracts from the parts of a body. No condition but the theorems' own. What chapter 2's joined tracks and states at a tick return. No condition but the theorems' own. Plain laws of a track that is flown along a path. No condition but the theorems' own.
-/
import Derived.Test.YtjhjmncjidbieaaGreatDoorPC
import Derived.Test.YtjhjmncjidbieaaGreatDoorAvC
import Derived.Test.YtjhjmncjidbieaaGreatDoorPD
namespace Go.Proofs.YtjhjmncjidbieaaGreatDoor
open Go Go.Av Go.RowKit
theorem prv_succ (i : Nat) : prv (i + 1) = i := by
  unfold prv maxI
  split <;> omega
theorem prv_le (i : Nat) : prv i ≤ i := by
  unfold prv maxI
  split <;> omega
end Go.Proofs.YtjhjmncjidbieaaGreatDoor
namespace Go.Proofs.YtjhjmncjidbieaaGreatDoor
open Go Go.Av Go.RowKit
theorem scan_congr {f g : Nat → Int} {n : Nat} {fin : Int} (h : ∀ k, k < n → f k = g k) : sScan f n fin = sScan g n fin := by
  unfold sScan
  rw [List.map_congr_left (fun k hk => h k (List.mem_range.1 hk))]
theorem ls_congr {c : Int} {f g : Nat → Int} {n : Nat} {fin : Int} (h : ∀ k, k < n → f k = g k) : sLS c f n fin = sLS c g n fin := by
  unfold sLS
  rw [scan_congr h]
theorem lastA_pos {l : List St} {i : Nat} (h : 0 < i) : lastA l i = (l.getD (prv i) default).a := by
  obtain ⟨j, rfl⟩ : ∃ j, i = j + 1 := ⟨i - 1, by omega⟩
  rw [prv_succ]
  rfl
theorem proc_eq (p : List St) : sProcS p = sProcR p := by
  unfold sProcS sProcR
  refine ls_congr fun k _ => ?_
  unfold fProcS fProcR
  have e : (if decide ((p.getD k default).a ≤ lastA p k) = true then true else if ((k : Int) == 0) = true then (p.getD k default).a != 0 else false) =
      (if (if ((k : Int) == 0) = true then (p.getD k default).a != 0 else false) = true then true else if decide ((k : Int) > 0) = true then decide ((p.getD k default).a ≤ (p.getD (prv k) default).a) else false) := by
    rcases Nat.eq_zero_or_pos k with rfl | hk
    · have h1 : lastA p 0 = -1 := rfl
      rw [h1]
      by_cases h2 : (p.getD 0 default).a ≤ -1
      · have h3 : ((p.getD 0 default).a != 0) = true := by rw [bne_iff_ne]; omega
        rw [decide_eq_true h2, h3]
        rfl
      · rw [decide_eq_false h2]
        cases hb : ((p.getD 0 default).a != 0) <;> rfl
    · rw [lastA_pos hk]
      have h1 : ((k : Int) == 0) = false := by rw [beq_eq_false_iff_ne]; omega
      have h2 : decide ((k : Int) > 0) = true := by rw [decide_eq_true_eq]; omega
      rw [h1, h2]
      cases hd : decide ((p.getD k default).a ≤ (p.getD (prv k) default).a) <;> rfl
  rw [e]
theorem first_nest (a b c d : Int) : sFirst [sFirst [a, b, c], d] = sFirst [a, b, c, d] := by
  unfold sFirst
  by_cases ha : a = 0
  · by_cases hb : b = 0
    · by_cases hc : c = 0
      · simp [sFirst, ha, hb, hc]
      · simp [sFirst, ha, hb, hc]
    · simp [sFirst, ha, hb]
  · simp [sFirst, ha]
theorem track_eq (l : List Fx) : sTrackS l = sTrackR l := by
  unfold sTrackS sTrackR
  refine ls_congr fun k _ => ?_
  unfold fTrackS fTrackR sFix
  exact first_nest _ _ _ _
end Go.Proofs.YtjhjmncjidbieaaGreatDoor
namespace Go.Proofs.YtjhjmncjidbieaaGreatDoor
open Go Go.Av Go.RowKit
def lastT (l : List Fx) : Int := (l.getD (l.length - 1) default).t
def firstT (l : List Fx) : Int := (l.getD 0 default).t
theorem track_ok {l : List Fx} (h : sTrackR l = 0) : TrackOK l ∧ lastT l - firstT l ≤ 1000 := by
  obtain ⟨h1, h2, h3⟩ := ls_zero' h
  have hn := len_ge (by rw [h1]; rfl)
  rw [List.length_map] at hn h2
  have key : ∀ i, i < l.length → (0 ≤ (l.getD i default).t ∧ (l.getD i default).t ≤ 100000000) ∧ sPlace (l.getD i default).x (l.getD i default).y (l.getD i default).z = 0 ∧ (1 ≤ (l.getD i default).p ∧ (l.getD i default).p ≤ 100) ∧ (if decide ((i : Int) > 0) = true then decide ((l.getD i default).t ≤ (l.getD (prv i) default).t) else false) = false := fun i hi => by
    have h4 := h2 i hi
    unfold fTrackR sPower at h4
    simp only [first_zero, within_zero] at h4
    exact ⟨h4.1, h4.2.1, h4.2.2.1, when_z (by decide) h4.2.2.2.1⟩
  refine ⟨⟨hn.1, hn.2, fun i hi => ?_, fun i hi => ?_⟩, ?_⟩
  · obtain ⟨a, b, c, _⟩ := key i hi
    have d := place_ok b
    exact ⟨a, d.1, d.2.1, d.2.2, c⟩
  · have h5 := (key (i + 1) hi).2.2.2
    rw [prv_succ, if_pos (decide_eq_true (by omega))] at h5
    have := of_decide_eq_false h5
    omega
  · have h6 := of_decide_eq_false (when_z (by decide) h3)
    rw [show lastOf (l.map encFx).length = l.length - 1 by rw [List.length_map, lastOf]; omega] at h6
    unfold lastT firstT
    omega
def aX (l : List Fx) (tk : Int) : Int := sBetween (atA l tk).x (atB l tk).x (tk - (atA l tk).t) ((atB l tk).t - (atA l tk).t)
def aY (l : List Fx) (tk : Int) : Int := sBetween (atA l tk).y (atB l tk).y (tk - (atA l tk).t) ((atB l tk).t - (atA l tk).t)
def aZ (l : List Fx) (tk : Int) : Int := sBetween (atA l tk).z (atB l tk).z (tk - (atA l tk).t) ((atB l tk).t - (atA l tk).t)
def aH (l : List Fx) (tk : Int) : Int := (atB l tk).x - (atA l tk).x
def aK (l : List Fx) (tk : Int) : Int := (atB l tk).y - (atA l tk).y
def aP (l : List Fx) (tk : Int) : Int := sBetween (atA l tk).p (atB l tk).p (tk - (atA l tk).t) ((atB l tk).t - (atA l tk).t)
structure AtOK (l : List Fx) (tk : Int) : Prop where
  x : -100000 ≤ aX l tk ∧ aX l tk ≤ 100000
  y : -100000 ≤ aY l tk ∧ aY l tk ≤ 100000
  z : 0 ≤ aZ l tk ∧ aZ l tk ≤ 20000
  h : -200000 ≤ aH l tk ∧ aH l tk ≤ 200000
  k : -200000 ≤ aK l tk ∧ aK l tk ≤ 200000
  p : 1 ≤ aP l tk ∧ aP l tk ≤ 100
end Go.Proofs.YtjhjmncjidbieaaGreatDoor
namespace Go.Proofs.YtjhjmncjidbieaaGreatDoor
open Go Go.Av Go.RowKit
def rdX (l : List Fx) : List AV → Option AV
  | [.elt _ _ i _] => some (.i (l.getD i default).t)
  | _ => none
def la73 (l : List Fx) (tk : Int) : LA := {
  pre := [.keep [0, 1, 4, 5, 6] [1], .bound 2], post := [.keep [0, 1, 4, 5, 6] [1], .bound 2]
  Gh := Nat
  st := fun i => ⟨[(0, .sl 5 (l.map encFx)), (1, .i tk), (4, .ptr 1 0), (5, .i (atI l tk i)), (6, .i i)], [(1, .box [.i 0, .i 0, .i 0, .i 0, .i 0, .i 0])], 2⟩
  ok := fun i => i + 1 ≤ l.length
  ms := fun i => l.length - i }
theorem c73 (l : List Fx) (tk : Int) (h : TrackOK l) (htk : -1000 ≤ tk ∧ tk ≤ 200000000) : PCall Tryz.prog G0 73 [.sl 5 (l.map encFx), .i tk] (.agg (atV (atA l tk) (atB l tk) tk)) := by
  have key :
   (∃ (g : Nat), g + 1 ≤ l.length ∧ AS.mk [(0, AV.sl 5 (List.map encFx l)), (1, AV.i tk), (4, AV.ptr 1 0), (5, AV.i 0), (6, AV.i 0)] [(1, ABlk.box [AV.i 0, AV.i 0, AV.i 0, AV.i 0, AV.i 0, AV.i 0])] 2 = AS.mk [(0, AV.sl 5 (List.map
   encFx l)), (1, AV.i tk), (4, AV.ptr 1 0), (5, AV.i (↑(atI l tk g) : Int)), (6, AV.i (↑g : Int))] [(1, ABlk.box [AV.i 0, AV.i 0, AV.i 0, AV.i 0, AV.i 0, AV.i 0])] 2) ∧ ∀ (g : Nat), g + 1 ≤ l.length → In64 ((↑(List.map encFx
   l).length : Int) - 1) ∧ (decide ((↑g : Int) < (↑(List.map encFx l).length : Int) - 1) = true → (0 : Int) ≤ (↑g : Int) ∧ (↑g : Int) < (↑(List.map encFx l).length : Int) ∧ nth (nthR (List.map encFx l) (↑g : Int).toNat) 0 = AV.i
   (l.getD (↑g : Int).toNat default).t ∧ (decide ((l.getD (↑g : Int).toNat default).t ≤ tk) = true → In64 ((↑g : Int) + 1) ∧ ∃ (g' : Nat), g' + 1 ≤ l.length ∧ l.length - g' < l.length - g ∧ AS.mk [(0, AV.sl 5 (List.map encFx l)), (1,
   AV.i tk), (4, AV.ptr 1 0), (5, AV.i (↑g : Int)), (6, AV.i ((↑g : Int) + 1))] [(1, ABlk.box [AV.i 0, AV.i 0, AV.i 0, AV.i 0, AV.i 0, AV.i 0])] 2 = AS.mk [(0, AV.sl 5 (List.map encFx l)), (1, AV.i tk), (4, AV.ptr 1 0), (5, AV.i
   (↑(atI l tk g') : Int)), (6, AV.i (↑g' : Int))] [(1, ABlk.box [AV.i 0, AV.i 0, AV.i 0, AV.i 0, AV.i 0, AV.i 0])] 2) ∧ (decide ((l.getD (↑g : Int).toNat default).t ≤ tk) = false → In64 ((↑g : Int) + 1) ∧ ∃ (g' : Nat), g' + 1 ≤
   l.length ∧ l.length - g' < l.length - g ∧ AS.mk [(0, AV.sl 5 (List.map encFx l)), (1, AV.i tk), (4, AV.ptr 1 0), (5, AV.i (↑(atI l tk g) : Int)), (6, AV.i ((↑g : Int) + 1))] [(1, ABlk.box [AV.i 0, AV.i 0, AV.i 0, AV.i 0, AV.i 0,
   AV.i 0])] 2 = AS.mk [(0, AV.sl 5 (List.map encFx l)), (1, AV.i tk), (4, AV.ptr 1 0), (5, AV.i (↑(atI l tk g') : Int)), (6, AV.i (↑g' : Int))] [(1, ABlk.box [AV.i 0, AV.i 0, AV.i 0, AV.i 0, AV.i 0, AV.i 0])] 2)) ∧ (decide ((↑g :
   Int) < (↑(List.map encFx l).length : Int) - 1) = false → (0 : Int) ≤ (↑(atI l tk g) : Int) ∧ (↑(atI l tk g) : Int) < (↑(List.map encFx l).length : Int) ∧ In64 ((↑(atI l tk g) : Int) + 1) ∧ (0 : Int) ≤ (↑(atI l tk g) : Int) + 1 ∧
   (↑(atI l tk g) : Int) + 1 < (↑(List.map encFx l).length : Int) ∧ AV.agg (nthR (List.map encFx l) (↑(atI l tk g) : Int).toNat) = AV.agg [AV.i (l.getD (↑(atI l tk g) : Int).toNat default).t, AV.i (l.getD (↑(atI l tk g) : Int).toNat
   default).x, AV.i (l.getD (↑(atI l tk g) : Int).toNat default).y, AV.i (l.getD (↑(atI l tk g) : Int).toNat default).z, AV.i (l.getD (↑(atI l tk g) : Int).toNat default).p] ∧ AV.agg (nthR (List.map encFx l) ((↑(atI l tk g) : Int) +
   1).toNat) = AV.agg [AV.i (l.getD ((↑(atI l tk g) : Int) + 1).toNat default).t, AV.i (l.getD ((↑(atI l tk g) : Int) + 1).toNat default).x, AV.i (l.getD ((↑(atI l tk g) : Int) + 1).toNat default).y, AV.i (l.getD ((↑(atI l tk g) :
   Int) + 1).toNat default).z, AV.i (l.getD ((↑(atI l tk g) : Int) + 1).toNat default).p] ∧ In64 (tk - (l.getD (↑(atI l tk g) : Int).toNat default).t) ∧ In64 ((l.getD ((↑(atI l tk g) : Int) + 1).toNat default).t - (l.getD (↑(atI l tk
   g) : Int).toNat default).t) ∧ In64 ((l.getD ((↑(atI l tk g) : Int) + 1).toNat default).x - (l.getD (↑(atI l tk g) : Int).toNat default).x) ∧ In64 ((l.getD ((↑(atI l tk g) : Int) + 1).toNat default).y - (l.getD (↑(atI l tk g) :
   Int).toNat default).y) ∧ PCall Tryz.prog G0 97 [AV.i (l.getD (↑(atI l tk g) : Int).toNat default).x, AV.i (l.getD ((↑(atI l tk g) : Int) + 1).toNat default).x, AV.i (tk - (l.getD (↑(atI l tk g) : Int).toNat default).t), AV.i
   ((l.getD ((↑(atI l tk g) : Int) + 1).toNat default).t - (l.getD (↑(atI l tk g) : Int).toNat default).t)] (AV.i (sBetween (l.getD (↑(atI l tk g) : Int).toNat default).x (l.getD ((↑(atI l tk g) : Int) + 1).toNat default).x (tk -
   (l.getD (↑(atI l tk g) : Int).toNat default).t) ((l.getD ((↑(atI l tk g) : Int) + 1).toNat default).t - (l.getD (↑(atI l tk g) : Int).toNat default).t))) ∧ PCall Tryz.prog G0 97 [AV.i (l.getD (↑(atI l tk g) : Int).toNat default).y,
   AV.i (l.getD ((↑(atI l tk g) : Int) + 1).toNat default).y, AV.i (tk - (l.getD (↑(atI l tk g) : Int).toNat default).t), AV.i ((l.getD ((↑(atI l tk g) : Int) + 1).toNat default).t - (l.getD (↑(atI l tk g) : Int).toNat default).t)]
   (AV.i (sBetween (l.getD (↑(atI l tk g) : Int).toNat default).y (l.getD ((↑(atI l tk g) : Int) + 1).toNat default).y (tk - (l.getD (↑(atI l tk g) : Int).toNat default).t) ((l.getD ((↑(atI l tk g) : Int) + 1).toNat default).t -
   (l.getD (↑(atI l tk g) : Int).toNat default).t))) ∧ PCall Tryz.prog G0 97 [AV.i (l.getD (↑(atI l tk g) : Int).toNat default).z, AV.i (l.getD ((↑(atI l tk g) : Int) + 1).toNat default).z, AV.i (tk - (l.getD (↑(atI l tk g) :
   Int).toNat default).t), AV.i ((l.getD ((↑(atI l tk g) : Int) + 1).toNat default).t - (l.getD (↑(atI l tk g) : Int).toNat default).t)] (AV.i (sBetween (l.getD (↑(atI l tk g) : Int).toNat default).z (l.getD ((↑(atI l tk g) : Int) +
   1).toNat default).z (tk - (l.getD (↑(atI l tk g) : Int).toNat default).t) ((l.getD ((↑(atI l tk g) : Int) + 1).toNat default).t - (l.getD (↑(atI l tk g) : Int).toNat default).t))) ∧ PCall Tryz.prog G0 97 [AV.i (l.getD (↑(atI l tk
   g) : Int).toNat default).p, AV.i (l.getD ((↑(atI l tk g) : Int) + 1).toNat default).p, AV.i (tk - (l.getD (↑(atI l tk g) : Int).toNat default).t), AV.i ((l.getD ((↑(atI l tk g) : Int) + 1).toNat default).t - (l.getD (↑(atI l tk g)
   : Int).toNat default).t)] (AV.i (sBetween (l.getD (↑(atI l tk g) : Int).toNat default).p (l.getD ((↑(atI l tk g) : Int) + 1).toNat default).p (tk - (l.getD (↑(atI l tk g) : Int).toNat default).t) ((l.getD ((↑(atI l tk g) : Int) +
   1).toNat default).t - (l.getD (↑(atI l tk g) : Int).toNat default).t))) ∧ AV.agg [AV.i (sBetween (l.getD (↑(atI l tk g) : Int).toNat default).x (l.getD ((↑(atI l tk g) : Int) + 1).toNat default).x (tk - (l.getD (↑(atI l tk g) :
   Int).toNat default).t) ((l.getD ((↑(atI l tk g) : Int) + 1).toNat default).t - (l.getD (↑(atI l tk g) : Int).toNat default).t)), AV.i (sBetween (l.getD (↑(atI l tk g) : Int).toNat default).y (l.getD ((↑(atI l tk g) : Int) +
   1).toNat default).y (tk - (l.getD (↑(atI l tk g) : Int).toNat default).t) ((l.getD ((↑(atI l tk g) : Int) + 1).toNat default).t - (l.getD (↑(atI l tk g) : Int).toNat default).t)), AV.i (sBetween (l.getD (↑(atI l tk g) : Int).toNat
   default).z (l.getD ((↑(atI l tk g) : Int) + 1).toNat default).z (tk - (l.getD (↑(atI l tk g) : Int).toNat default).t) ((l.getD ((↑(atI l tk g) : Int) + 1).toNat default).t - (l.getD (↑(atI l tk g) : Int).toNat default).t)), AV.i
   ((l.getD ((↑(atI l tk g) : Int) + 1).toNat default).x - (l.getD (↑(atI l tk g) : Int).toNat default).x), AV.i ((l.getD ((↑(atI l tk g) : Int) + 1).toNat default).y - (l.getD (↑(atI l tk g) : Int).toNat default).y), AV.i (sBetween
   (l.getD (↑(atI l tk g) : Int).toNat default).p (l.getD ((↑(atI l tk g) : Int) + 1).toNat default).p (tk - (l.getD (↑(atI l tk g) : Int).toNat default).t) ((l.getD ((↑(atI l tk g) : Int) + 1).toNat default).t - (l.getD (↑(atI l tk
   g) : Int).toNat default).t))] = AV.agg [AV.i (sBetween (atA l tk).x (atB l tk).x (tk - (atA l tk).t) ((atB l tk).t - (atA l tk).t)), AV.i (sBetween (atA l tk).y (atB l tk).y (tk - (atA l tk).t) ((atB l tk).t - (atA l tk).t)), AV.i
   (sBetween (atA l tk).z (atB l tk).z (tk - (atA l tk).t) ((atB l tk).t - (atA l tk).t)), AV.i ((atB l tk).x - (atA l tk).x), AV.i ((atB l tk).y - (atA l tk).y), AV.i (sBetween (atA l tk).p (atB l tk).p (tk - (atA l tk).t) ((atB l
   tk).t - (atA l tk).t))]) := by
    have hlm : (List.map encFx l).length = l.length := List.length_map _
    have hn := h.n1
    have hl := h.n2
    refine ⟨⟨0, by omega, rfl⟩, fun g hg => ⟨by unfold In64; omega, fun hd => ?_, fun hd => ?_⟩⟩
    · rw [hlm] at hd
      have hlt := of_decide_eq_true hd
      simp only [Int.toNat_natCast]
      refine ⟨by omega, by omega, by rw [row_at encFx (by omega)]; rfl, fun hx => ⟨by unfold In64; omega, g + 1, by omega, by omega, ?_⟩, fun hx => ⟨by unfold In64; omega, g + 1, by omega, by omega, ?_⟩⟩
      · rw [show atI l tk (g + 1) = g from if_pos (of_decide_eq_true hx)]
        rfl
      · rw [show atI l tk (g + 1) = atI l tk g from if_neg (of_decide_eq_false hx)]
        rfl
    · rw [hlm] at hd
      have hge : g = l.length - 1 := by
        have := of_decide_eq_false hd
        omega
      subst hge
      have hi := atI_lt (l := l) (tk := tk) (m := l.length - 1) (by omega)
      have e3 : ((↑(atI l tk (l.length - 1)) : Int) + 1).toNat = atI l tk (l.length - 1) + 1 := by omega
      have r1 : nthR (List.map encFx l) (atI l tk (l.length - 1)) = encFx (atA l tk) := row_at encFx (by omega)
      have r2 : nthR (List.map encFx l) (atI l tk (l.length - 1) + 1) = encFx (atB l tk) := row_at encFx (by omega)
      have bA := h.b (atI l tk (l.length - 1)) (by omega)
      have bB := h.b (atI l tk (l.length - 1) + 1) (by omega)
      have up := h.up (atI l tk (l.length - 1)) (by omega)
      rw [e3, Int.toNat_natCast, r1, r2]
      rw [show l.getD (atI l tk (l.length - 1)) default = atA l tk from rfl] at bA up ⊢
      rw [show l.getD (atI l tk (l.length - 1) + 1) default = atB l tk from rfl] at bB up ⊢
      generalize atA l tk = A at *
      generalize atB l tk = B at *
      exact ⟨by omega, by omega, by unfold In64; omega, by omega, by omega, rfl, rfl, by unfold In64; omega, by unfold In64; omega, by unfold In64; omega, by unfold In64; omega, c97 _ _ _ _ ⟨by omega, by omega, by omega, by omega, by omega, by omega, by omega⟩, c97 _ _ _ _ ⟨by omega, by omega, by omega, by omega, by omega, by omega, by omega⟩, c97 _ _ _ _ ⟨by omega, by omega, by omega, by omega, by omega, by omega, by omega⟩, c97 _ _ _ _ ⟨by omega, by omega, by omega, by omega, by omega, by omega, by omega⟩, rfl⟩
  exact c_of Tryz.f73 (fzB (mkB sp126 73 [(5, 4, rdX l), (7, 3, rdL 5 encFx l 5 true), (7, 8, rdL 5 encFx l 5 true)] (fun i => if i.beq 0 then some (la73 l tk) else none))) (by kernel_rfl) (by kernel_rfl) (by kernel_rfl) (by kernel_rfl) key (by kernel_rfl)
end Go.Proofs.YtjhjmncjidbieaaGreatDoor
namespace Go.Proofs.YtjhjmncjidbieaaGreatDoor
open Go Go.Av Go.RowKit
end Go.Proofs.YtjhjmncjidbieaaGreatDoor
namespace Go.Proofs.YtjhjmncjidbieaaGreatDoor
open Go Go.Av Go.RowKit
def sqF (f g : Fx) : Int := (f.x - g.x) * (f.x - g.x) + (f.y - g.y) * (f.y - g.y) + (f.z - g.z) * (f.z - g.z)
def lastF (r : List Fx) : Fx := r.getD (r.length - 1) default
def repL (l : List Fx) (sp : Int) : Nat → List Fx
  | 0 => [l.getD 0 default]
  | i + 1 => if decide (sqF (l.getD (i + 1) default) (lastF (repL l sp i)) ≤ sp * ((l.getD (i + 1) default).t - (lastF (repL l sp i)).t) * (sp * ((l.getD (i + 1) default).t - (lastF (repL l sp i)).t))) then repL l sp i ++ [l.getD (i + 1) default] else repL l sp i
theorem rep_len {l : List Fx} {sp : Int} : ∀ i, 1 ≤ (repL l sp i).length ∧ (repL l sp i).length ≤ i + 1
  | 0 => by simp [repL]
  | i + 1 => by
    have ih := rep_len (l := l) (sp := sp) i
    unfold repL
    split
    · rw [List.length_append, List.length_singleton]; omega
    · omega
theorem rep_last {l : List Fx} {sp : Int} : ∀ i, ∃ j, j ≤ i ∧ lastF (repL l sp i) = l.getD j default
  | 0 => ⟨0, Nat.le_refl _, rfl⟩
  | i + 1 => by
    obtain ⟨j, h1, h2⟩ := rep_last (l := l) (sp := sp) i
    unfold repL
    split
    · refine ⟨i + 1, Nat.le_refl _, ?_⟩
      unfold lastF
      rw [List.length_append, List.length_singleton, Nat.add_sub_cancel, List.getD_eq_getElem?_getD, List.getElem?_append, if_neg (by omega), Nat.sub_self]
      rfl
    · exact ⟨j, by omega, h2⟩
theorem t_mono {l : List Fx} (h : TrackOK l) (i : Nat) : ∀ j, i ≤ j → j < l.length → (l.getD i default).t ≤ (l.getD j default).t
  | 0, h1, _ => by rw [show i = 0 by omega]; exact Int.le_refl _
  | j + 1, h1, h2 => by
    by_cases e : i = j + 1
    · rw [e]; exact Int.le_refl _
    · have := t_mono h i j (by omega) (by omega)
      have := h.up j h2
      omega
theorem rep_row {l : List Fx} {sp : Int} (i : Nat) : nthR ((repL l sp i).map encFx) (((((repL l sp i).map encFx).length : Nat) : Int) - 1).toNat = encFx (lastF (repL l sp i)) := by
  have := (rep_len (l := l) (sp := sp) i).1
  rw [List.length_map, show ((((repL l sp i).length : Nat) : Int) - 1).toNat = (repL l sp i).length - 1 by omega, row_at encFx (by omega)]
  rfl
theorem sq_le {a N : Int} (h1 : -N ≤ a) (h2 : a ≤ N) : 0 ≤ a * a ∧ a * a ≤ N * N := by
  refine ⟨?_, ?_⟩
  · by_cases h : 0 ≤ a
    · exact Int.mul_nonneg h h
    · have := Int.mul_nonneg (show 0 ≤ -a by omega) (show 0 ≤ -a by omega)
      rwa [Int.neg_mul_neg] at this
  · by_cases h : 0 ≤ a
    · exact Int.mul_le_mul h2 h2 h (by omega)
    · have := Int.mul_le_mul (show -a ≤ N by omega) (show -a ≤ N by omega) (show 0 ≤ -a by omega) (by omega)
      rwa [Int.neg_mul_neg] at this
structure FxB (f : Fx) : Prop where
  t : 0 ≤ f.t ∧ f.t ≤ 100000000
  x : -100000 ≤ f.x ∧ f.x ≤ 100000
  y : -100000 ≤ f.y ∧ f.y ≤ 100000
  z : 0 ≤ f.z ∧ f.z ≤ 20000
theorem TrackOK.fb {l : List Fx} (h : TrackOK l) {i : Nat} (hi : i < l.length) : FxB (l.getD i default) := ⟨(h.b i hi).1, (h.b i hi).2.1, (h.b i hi).2.2.1, (h.b i hi).2.2.2.1⟩
theorem rep_b {l : List Fx} {sp : Int} (hO : TrackOK l) (hsp : lastT l - firstT l ≤ 1000) {g : Nat} (hg : g + 1 < l.length) : FxB (lastF (repL l sp g)) ∧ 0 ≤ (l.getD (g + 1) default).t - (lastF (repL l sp g)).t ∧ (l.getD (g + 1) default).t - (lastF (repL l sp g)).t ≤ 1000 := by
  obtain ⟨j, h1, h2⟩ := rep_last (l := l) (sp := sp) g
  rw [h2]
  have a := t_mono hO j (g + 1) (by omega) hg
  have b := t_mono hO (g + 1) (l.length - 1) (by omega) (by omega)
  have c := t_mono hO 0 j (by omega) (by omega)
  have d : lastT l = (l.getD (l.length - 1) default).t := rfl
  have e : firstT l = (l.getD 0 default).t := rfl
  exact ⟨hO.fb (by omega), by omega, by omega⟩
theorem way_b {sp d : Int} (hs : 1 ≤ sp ∧ sp ≤ 1000) (h0 : 0 ≤ d) (h1 : d ≤ 1000) : In64 (sp * d) ∧ In64 (sp * d * (sp * d)) := by
  have a := Int.mul_nonneg (show 0 ≤ sp by omega) h0
  have b := Int.mul_le_mul hs.2 h1 h0 (by omega : (0 : Int) ≤ 1000)
  generalize sp * d = e at *
  have c := sq_le (a := e) (N := 1000000) (by omega) (by omega)
  generalize e * e = f at *
  constructor <;> (unfold In64; omega)
structure DiffB (f q : Fx) : Prop where
  x : In64 (f.x - q.x)
  y : In64 (f.y - q.y)
  z : In64 (f.z - q.z)
  x2 : In64 ((f.x - q.x) * (f.x - q.x))
  y2 : In64 ((f.y - q.y) * (f.y - q.y))
  z2 : In64 ((f.z - q.z) * (f.z - q.z))
  xy : In64 ((f.x - q.x) * (f.x - q.x) + (f.y - q.y) * (f.y - q.y))
  s : In64 (sqF f q)
theorem diff_b {f q : Fx} (hf : FxB f) (hq : FxB q) : DiffB f q := by
  have a1 := hf.x; have a2 := hf.y; have a3 := hf.z; have b1 := hq.x; have b2 := hq.y; have b3 := hq.z
  have u := sq_le (a := f.x - q.x) (N := 200000) (by omega) (by omega)
  have v := sq_le (a := f.y - q.y) (N := 200000) (by omega) (by omega)
  have w := sq_le (a := f.z - q.z) (N := 200000) (by omega) (by omega)
  refine ⟨by unfold In64; omega, by unfold In64; omega, by unfold In64; omega, ?_, ?_, ?_, ?_, ?_⟩
  all_goals (try unfold sqF)
  all_goals (generalize (f.x - q.x) * (f.x - q.x) = X at *; generalize (f.y - q.y) * (f.y - q.y) = Y at *; generalize (f.z - q.z) * (f.z - q.z) = Z at *; unfold In64; omega)
def row5 : BL → List AV → Option AV := fun bs ins => match ins with
  | [.optr id i _] => match blkOf bs id with
    | .buf _ _ rows => some (.agg [.i (cJ rows i 0), .i (cJ rows i 1), .i (cJ rows i 2), .i (cJ rows i 3), .i (cJ rows i 4)])
    | _ => none
  | _ => none
def sp74 : Nat → List AV → Option AV
  | 133, [.agg [.int _ x, .int _ y, .int _ z], .agg [.int _ p, .int _ q, .int _ r]] => some (.i ((x - p) * (x - p) + (y - q) * (y - q) + (z - r) * (z - r)))
  | n, w => spR n w
def rdP (l : List Fx) : List AV → Option AV
  | [.elt _ _ i _] => some (.agg [.i (l.getD i default).x, .i (l.getD i default).y, .i (l.getD i default).z])
  | _ => none
def repR (l : List Fx) (sp : Int) : List Fx := if decide ((repL l sp (l.length - 1)).length < 2) then [] else repL l sp (l.length - 1)
def repE (l : List Fx) (sp : Int) : Int := if decide ((repL l sp (l.length - 1)).length < 2) then 16 else 0
def la74 (l : List Fx) (sp : Int) : LA := {
  pre := [.reno 6 1, .keep [0, 1, 6, 7] [1], .bound 2], post := [.reno 6 1, .keep [0, 1, 6, 7] [1], .bound 2]
  Gh := Nat
  st := fun i => ⟨[(0, .sl 5 (l.map encFx)), (1, .i sp), (6, .own 1 ((repL l sp i).map encFx).length), (7, .i ((i : Int) + 1))], [(1, .buf 110 5 ((repL l sp i).map encFx))], 2⟩
  ok := fun i => i + 1 ≤ l.length
  ms := fun i => l.length - i }
theorem c74 (l : List Fx) (sp : Int) (hO : TrackOK l) (hsp : lastT l - firstT l ≤ 1000) (hs : 1 ≤ sp ∧ sp ≤ 1000) : PCall Tryz.prog G0 74 [.sl 5 (l.map encFx), .i sp] (.tup [.sl 5 ((repR l sp).map encFx), .i (repE l sp)]) := by
  have key :
   (0 : Int) ≤ 0 ∧ (0 : Int) < (↑(List.map encFx l).length : Int) ∧ AV.agg (nthR (List.map encFx l) 0) = AV.agg [AV.i (l.getD (Int.toNat (0 : Int)) default).t, AV.i (l.getD (Int.toNat (0 : Int)) default).x, AV.i (l.getD (Int.toNat (0
   : Int)) default).y, AV.i (l.getD (Int.toNat (0 : Int)) default).z, AV.i (l.getD (Int.toNat (0 : Int)) default).p] ∧ (∃ (g : Nat), g + 1 ≤ l.length ∧ AS.mk [(0, AV.sl 5 (List.map encFx l)), (1, AV.i sp), (6, AV.own 1 1), (7, AV.i
   1)] [(1, ABlk.buf 110 5 [[AV.i (l.getD (Int.toNat (0 : Int)) default).t, AV.i (l.getD (Int.toNat (0 : Int)) default).x, AV.i (l.getD (Int.toNat (0 : Int)) default).y, AV.i (l.getD (Int.toNat (0 : Int)) default).z, AV.i (l.getD
   (Int.toNat (0 : Int)) default).p]])] 2 = AS.mk [(0, AV.sl 5 (List.map encFx l)), (1, AV.i sp), (6, AV.own 1 (List.map encFx (repL l sp g)).length), (7, AV.i ((↑g : Int) + 1))] [(1, ABlk.buf 110 5 (List.map encFx (repL l sp g)))] 2)
   ∧ ∀ (g : Nat), g + 1 ≤ l.length → (decide ((↑g : Int) + 1 < (↑(List.map encFx l).length : Int)) = true → In64 ((↑(List.map encFx (repL l sp g)).length : Int) - 1) ∧ (0 : Int) ≤ (↑(List.map encFx (repL l sp g)).length : Int) - 1 ∧
   (↑(List.map encFx (repL l sp g)).length : Int) - 1 < (↑(List.map encFx (repL l sp g)).length : Int) ∧ ((↑(List.map encFx (repL l sp g)).length : Int) - 1).toNat < (List.map encFx (repL l sp g)).length ∧ AV.agg (nthR (List.map encFx
   (repL l sp g)) ((↑(List.map encFx (repL l sp g)).length : Int) - 1).toNat) = AV.agg [AV.i (cJ (List.map encFx (repL l sp g)) ((↑(List.map encFx (repL l sp g)).length : Int) - 1).toNat 0), AV.i (cJ (List.map encFx (repL l sp g))
   ((↑(List.map encFx (repL l sp g)).length : Int) - 1).toNat 1), AV.i (cJ (List.map encFx (repL l sp g)) ((↑(List.map encFx (repL l sp g)).length : Int) - 1).toNat 2), AV.i (cJ (List.map encFx (repL l sp g)) ((↑(List.map encFx (repL
   l sp g)).length : Int) - 1).toNat 3), AV.i (cJ (List.map encFx (repL l sp g)) ((↑(List.map encFx (repL l sp g)).length : Int) - 1).toNat 4)] ∧ (0 : Int) ≤ (↑g : Int) + 1 ∧ (↑g : Int) + 1 < (↑(List.map encFx l).length : Int) ∧ In64
   ((l.getD ((↑g : Int) + 1).toNat default).t - cJ (List.map encFx (repL l sp g)) ((↑(List.map encFx (repL l sp g)).length : Int) - 1).toNat 0) ∧ In64 (sp * ((l.getD ((↑g : Int) + 1).toNat default).t - cJ (List.map encFx (repL l sp
   g)) ((↑(List.map encFx (repL l sp g)).length : Int) - 1).toNat 0)) ∧ nth (nthR (List.map encFx l) ((↑g : Int) + 1).toNat) 0 = AV.i (l.getD ((↑g : Int) + 1).toNat default).t ∧ (0 : Int) ≤ (↑g : Int) + 1 ∧ (↑g : Int) + 1 <
   (↑(List.map encFx l).length : Int) ∧ In64 (sp * ((l.getD ((↑g : Int) + 1).toNat default).t - cJ (List.map encFx (repL l sp g)) ((↑(List.map encFx (repL l sp g)).length : Int) - 1).toNat 0) * (sp * ((l.getD ((↑g : Int) + 1).toNat
   default).t - cJ (List.map encFx (repL l sp g)) ((↑(List.map encFx (repL l sp g)).length : Int) - 1).toNat 0))) ∧ AV.agg (List.take 3 (List.drop 1 (nthR (List.map encFx l) ((↑g : Int) + 1).toNat))) = AV.agg [AV.i (l.getD ((↑g : Int)
   + 1).toNat default).x, AV.i (l.getD ((↑g : Int) + 1).toNat default).y, AV.i (l.getD ((↑g : Int) + 1).toNat default).z] ∧ PCall Tryz.prog G0 133 [AV.agg [AV.i (l.getD ((↑g : Int) + 1).toNat default).x, AV.i (l.getD ((↑g : Int) +
   1).toNat default).y, AV.i (l.getD ((↑g : Int) + 1).toNat default).z], AV.agg [AV.i (cJ (List.map encFx (repL l sp g)) ((↑(List.map encFx (repL l sp g)).length : Int) - 1).toNat 1), AV.i (cJ (List.map encFx (repL l sp g))
   ((↑(List.map encFx (repL l sp g)).length : Int) - 1).toNat 2), AV.i (cJ (List.map encFx (repL l sp g)) ((↑(List.map encFx (repL l sp g)).length : Int) - 1).toNat 3)]] (AV.i (((l.getD ((↑g : Int) + 1).toNat default).x - cJ (List.map
   encFx (repL l sp g)) ((↑(List.map encFx (repL l sp g)).length : Int) - 1).toNat 1) * ((l.getD ((↑g : Int) + 1).toNat default).x - cJ (List.map encFx (repL l sp g)) ((↑(List.map encFx (repL l sp g)).length : Int) - 1).toNat 1) +
   ((l.getD ((↑g : Int) + 1).toNat default).y - cJ (List.map encFx (repL l sp g)) ((↑(List.map encFx (repL l sp g)).length : Int) - 1).toNat 2) * ((l.getD ((↑g : Int) + 1).toNat default).y - cJ (List.map encFx (repL l sp g))
   ((↑(List.map encFx (repL l sp g)).length : Int) - 1).toNat 2) + ((l.getD ((↑g : Int) + 1).toNat default).z - cJ (List.map encFx (repL l sp g)) ((↑(List.map encFx (repL l sp g)).length : Int) - 1).toNat 3) * ((l.getD ((↑g : Int) +
   1).toNat default).z - cJ (List.map encFx (repL l sp g)) ((↑(List.map encFx (repL l sp g)).length : Int) - 1).toNat 3))) ∧ (decide (((l.getD ((↑g : Int) + 1).toNat default).x - cJ (List.map encFx (repL l sp g)) ((↑(List.map encFx
   (repL l sp g)).length : Int) - 1).toNat 1) * ((l.getD ((↑g : Int) + 1).toNat default).x - cJ (List.map encFx (repL l sp g)) ((↑(List.map encFx (repL l sp g)).length : Int) - 1).toNat 1) + ((l.getD ((↑g : Int) + 1).toNat default).y
   - cJ (List.map encFx (repL l sp g)) ((↑(List.map encFx (repL l sp g)).length : Int) - 1).toNat 2) * ((l.getD ((↑g : Int) + 1).toNat default).y - cJ (List.map encFx (repL l sp g)) ((↑(List.map encFx (repL l sp g)).length : Int) -
   1).toNat 2) + ((l.getD ((↑g : Int) + 1).toNat default).z - cJ (List.map encFx (repL l sp g)) ((↑(List.map encFx (repL l sp g)).length : Int) - 1).toNat 3) * ((l.getD ((↑g : Int) + 1).toNat default).z - cJ (List.map encFx (repL l sp
   g)) ((↑(List.map encFx (repL l sp g)).length : Int) - 1).toNat 3) ≤ sp * ((l.getD ((↑g : Int) + 1).toNat default).t - cJ (List.map encFx (repL l sp g)) ((↑(List.map encFx (repL l sp g)).length : Int) - 1).toNat 0) * (sp * ((l.getD
   ((↑g : Int) + 1).toNat default).t - cJ (List.map encFx (repL l sp g)) ((↑(List.map encFx (repL l sp g)).length : Int) - 1).toNat 0))) = true → (0 : Int) ≤ (↑g : Int) + 1 ∧ (↑g : Int) + 1 < (↑(List.map encFx l).length : Int) ∧
   (List.map encFx (repL l sp g)).length + 1 ≤ 9223372036854775807 ∧ ((List.map encFx (repL l sp g)).length + 1) * 40 ≤ 140737488355328 ∧ AV.agg (nthR (List.map encFx l) ((↑g : Int) + 1).toNat) = AV.agg [AV.i (l.getD ((↑g : Int) +
   1).toNat default).t, AV.i (l.getD ((↑g : Int) + 1).toNat default).x, AV.i (l.getD ((↑g : Int) + 1).toNat default).y, AV.i (l.getD ((↑g : Int) + 1).toNat default).z, AV.i (l.getD ((↑g : Int) + 1).toNat default).p] ∧ In64 ((↑g : Int)
   + 1 + 1) ∧ ∃ (g' : Nat), g' + 1 ≤ l.length ∧ l.length - g' < l.length - g ∧ AS.mk [(0, AV.sl 5 (List.map encFx l)), (1, AV.i sp), (6, AV.own 1 ((List.map encFx (repL l sp g)).length + 1)), (7, AV.i ((↑g : Int) + 1 + 1))] [(1,
   ABlk.buf 110 5 (List.map encFx (repL l sp g) ++ [[AV.i (l.getD ((↑g : Int) + 1).toNat default).t, AV.i (l.getD ((↑g : Int) + 1).toNat default).x, AV.i (l.getD ((↑g : Int) + 1).toNat default).y, AV.i (l.getD ((↑g : Int) + 1).toNat
   default).z, AV.i (l.getD ((↑g : Int) + 1).toNat default).p]]))] 2 = AS.mk [(0, AV.sl 5 (List.map encFx l)), (1, AV.i sp), (6, AV.own 1 (List.map encFx (repL l sp g')).length), (7, AV.i ((↑g' : Int) + 1))] [(1, ABlk.buf 110 5
   (List.map encFx (repL l sp g')))] 2) ∧ (decide (((l.getD ((↑g : Int) + 1).toNat default).x - cJ (List.map encFx (repL l sp g)) ((↑(List.map encFx (repL l sp g)).length : Int) - 1).toNat 1) * ((l.getD ((↑g : Int) + 1).toNat
   default).x - cJ (List.map encFx (repL l sp g)) ((↑(List.map encFx (repL l sp g)).length : Int) - 1).toNat 1) + ((l.getD ((↑g : Int) + 1).toNat default).y - cJ (List.map encFx (repL l sp g)) ((↑(List.map encFx (repL l sp g)).length
   : Int) - 1).toNat 2) * ((l.getD ((↑g : Int) + 1).toNat default).y - cJ (List.map encFx (repL l sp g)) ((↑(List.map encFx (repL l sp g)).length : Int) - 1).toNat 2) + ((l.getD ((↑g : Int) + 1).toNat default).z - cJ (List.map encFx
   (repL l sp g)) ((↑(List.map encFx (repL l sp g)).length : Int) - 1).toNat 3) * ((l.getD ((↑g : Int) + 1).toNat default).z - cJ (List.map encFx (repL l sp g)) ((↑(List.map encFx (repL l sp g)).length : Int) - 1).toNat 3) ≤ sp *
   ((l.getD ((↑g : Int) + 1).toNat default).t - cJ (List.map encFx (repL l sp g)) ((↑(List.map encFx (repL l sp g)).length : Int) - 1).toNat 0) * (sp * ((l.getD ((↑g : Int) + 1).toNat default).t - cJ (List.map encFx (repL l sp g))
   ((↑(List.map encFx (repL l sp g)).length : Int) - 1).toNat 0))) = false → In64 ((↑g : Int) + 1 + 1) ∧ ∃ (g' : Nat), g' + 1 ≤ l.length ∧ l.length - g' < l.length - g ∧ AS.mk [(0, AV.sl 5 (List.map encFx l)), (1, AV.i sp), (6, AV.own
   1 (List.map encFx (repL l sp g)).length), (7, AV.i ((↑g : Int) + 1 + 1))] [(1, ABlk.buf 110 5 (List.map encFx (repL l sp g)))] 2 = AS.mk [(0, AV.sl 5 (List.map encFx l)), (1, AV.i sp), (6, AV.own 1 (List.map encFx (repL l sp
   g')).length), (7, AV.i ((↑g' : Int) + 1))] [(1, ABlk.buf 110 5 (List.map encFx (repL l sp g')))] 2)) ∧ (decide ((↑g : Int) + 1 < (↑(List.map encFx l).length : Int)) = false → (decide ((↑(List.map encFx (repL l sp g)).length : Int)
   < 2) = true → AV.tup [AV.sl 5 [], AV.i 16] = AV.tup [AV.sl 5 (List.map encFx (repR l sp)), AV.i (repE l sp)]) ∧ (decide ((↑(List.map encFx (repL l sp g)).length : Int) < 2) = false → AV.tup [AV.sl 5 (List.map encFx (repL l sp g)),
   AV.i 0] = AV.tup [AV.sl 5 (List.map encFx (repR l sp)), AV.i (repE l sp)])) := by
    have hlm : (List.map encFx l).length = l.length := List.length_map _
    have hn1 := hO.n1
    have hn2 := hO.n2
    refine ⟨by omega, by omega, by rw [row_at encFx (by omega)]; rfl, ⟨0, by omega, rfl⟩, fun g hg => ⟨fun hd => ?_, fun hd => ?_⟩⟩
    · have hlt : g + 1 < l.length := by
        have := of_decide_eq_true hd
        omega
      have hrl := rep_len (l := l) (sp := sp) g
      obtain ⟨hqb, hd0, hd1⟩ := rep_b (sp := sp) hO hsp hlt
      have hfb := hO.fb hlt
      have hrow := rep_row (l := l) (sp := sp) g
      have hdf := diff_b hfb hqb
      have hw := way_b hs hd0 hd1
      have hmr : (List.map encFx (repL l sp g)).length = (repL l sp g).length := List.length_map _
      have e1 : ((g : Int) + 1).toNat = g + 1 := by omega
      have r1 : nthR (List.map encFx l) (g + 1) = encFx (l.getD (g + 1) default) := row_at encFx hlt
      have c : ∀ j, cJ (List.map encFx (repL l sp g)) (((List.map encFx (repL l sp g)).length : Int) - 1).toNat j = cJ [encFx (lastF (repL l sp g))] 0 j := fun j => by
        unfold cJ
        rw [hrow]
        rfl
      have c0 : cJ (List.map encFx (repL l sp g)) (((List.map encFx (repL l sp g)).length : Int) - 1).toNat 0 = (lastF (repL l sp g)).t := c 0
      have c1 : cJ (List.map encFx (repL l sp g)) (((List.map encFx (repL l sp g)).length : Int) - 1).toNat 1 = (lastF (repL l sp g)).x := c 1
      have c2 : cJ (List.map encFx (repL l sp g)) (((List.map encFx (repL l sp g)).length : Int) - 1).toNat 2 = (lastF (repL l sp g)).y := c 2
      have c3 : cJ (List.map encFx (repL l sp g)) (((List.map encFx (repL l sp g)).length : Int) - 1).toNat 3 = (lastF (repL l sp g)).z := c 3
      have c4 : cJ (List.map encFx (repL l sp g)) (((List.map encFx (repL l sp g)).length : Int) - 1).toNat 4 = (lastF (repL l sp g)).p := c 4
      rw [e1, c0, c1, c2, c3, c4, hrow, r1]
      refine ⟨by unfold In64; omega, by omega, by omega, by omega, rfl, by omega, by omega, by unfold In64; omega, hw.1, rfl, by omega, by omega, hw.2, rfl, c133 _ _ _ _ _ _ hdf.x hdf.y hdf.z hdf.x2 hdf.y2 hdf.z2 hdf.xy hdf.s, fun hx => ⟨by omega, by omega, by omega, by omega, rfl, by unfold In64; omega, g + 1, hlt, by omega, ?_⟩, fun hx => ⟨by unfold In64; omega, g + 1, hlt, by omega, ?_⟩⟩
      · have hR : repL l sp (g + 1) = repL l sp g ++ [l.getD (g + 1) default] := if_pos hx
        rw [hR, List.map_append, List.length_append]
        rfl
      · have hR : repL l sp (g + 1) = repL l sp g := if_neg (by rw [show decide (sqF (l.getD (g + 1) default) (lastF (repL l sp g)) ≤ sp * ((l.getD (g + 1) default).t - (lastF (repL l sp g)).t) * (sp * ((l.getD (g + 1) default).t - (lastF (repL l sp g)).t))) = false from hx]; exact Bool.false_ne_true)
        rw [hR]
        rfl
    · have hge : g = l.length - 1 := by
        have := of_decide_eq_false hd
        omega
      subst hge
      have hmr : (List.map encFx (repL l sp (l.length - 1))).length = (repL l sp (l.length - 1)).length := List.length_map _
      unfold repR repE
      refine ⟨fun h => ?_, fun h => ?_⟩
      · rw [if_pos (decide_eq_true (by have := of_decide_eq_true h; omega)), if_pos (decide_eq_true (by have := of_decide_eq_true h; omega))]
        rfl
      · have hx : ¬ decide ((repL l sp (l.length - 1)).length < 2) = true := by
          have := of_decide_eq_false h
          simp only [decide_eq_true_eq]
          omega
        rw [if_neg hx, if_neg hx]
  exact c_of Tryz.f74 (gsB (fun i => if i.beq 10 then [.nil 4 5] else []) (modA 5 5 (fun a => { a with rdb := row5 }) (fzB (mkB sp74 74 [(1, 2, rdL 5 encFx l 5 true), (6, 5, rdX l), (7, 4, rdP l), (8, 4, rdL 5 encFx l 5 true)] (fun i => if i.beq 0 then some (la74 l sp) else none))))) (by kernel_rfl) (by kernel_rfl) (by kernel_rfl) (by kernel_rfl) key (by kernel_rfl)
end Go.Proofs.YtjhjmncjidbieaaGreatDoor
namespace Go.Proofs.YtjhjmncjidbieaaGreatDoor
open Go Go.Av Go.RowKit
def chkRep (l : List Fx) (sp : Int) : Int := if sFirst [sTrackS l, sWithin sp 1 1000] != 0 then sFirst [sTrackS l, sWithin sp 1 1000] else repE l sp
def rRep (l : List Fx) (sp : Int) : List Fx := if sFirst [sTrackS l, sWithin sp 1 1000] != 0 then [] else repR l sp
def sp39 (l : List Fx) : Nat → List AV → Option AV
  | 76, _ => some (.i (sTrackS l))
  | 113, [.agg [.int _ x, .int _ y, .int _ z], .agg [.int _ p, .int _ q, .int _ r]] => some (.agg [.i (x - p), .i (y - q), .i (z - r)])
  | 112, [.agg [.int _ x, .int _ y, .int _ z]] => some (.agg [.i (x * x + y * y), .i (z * z)])
  | n, w => spR n w
def la39 (l : List Fx) (sp : Int) : LA := {
  pre := [.reno 7 1, .keep [1, 7, 29, 30, 31] [1], .bound 2], post := [.reno 7 1, .keep [1, 7, 29, 30, 31] [1], .bound 2]
  Gh := Nat
  st := fun i => ⟨[(1, .i sp), (7, .own 1 ((repL l sp i).map encFx).length), (29, .sl 5 ((l.drop 1).map encFx)), (30, .i ((l.length : Int) - 1)), (31, .i (i : Int))], [(1, .buf 83 5 ((repL l sp i).map encFx))], 2⟩
  ok := fun i => i + 1 ≤ l.length
  ms := fun i => l.length - i }
theorem c39 (l : List Fx) (sp : Int) (hl : l.length ≤ 1000) : PCall Tryz.prog G0 39 [.sl 5 (l.map encFx), .i sp] (.tup [.sl 5 ((rRep l sp).map encFx), .i (chkRep l sp)]) := by
  have key :
   PCall Tryz.prog G0 76 [AV.sl 5 (List.map encFx l)] (AV.i (sTrackS l)) ∧ PCall Tryz.prog G0 89 [AV.i sp, AV.i 1, AV.i 1000] (AV.i (sWithin sp (1 : Int) (1000 : Int))) ∧ PCall Tryz.prog G0 87 [AV.sl 1 [[AV.i (sTrackS l)], [AV.i
   (sWithin sp (1 : Int) (1000 : Int))]]] (AV.i (sFirst [hdI [AV.i (sTrackS l)], hdI [AV.i (sWithin sp (1 : Int) (1000 : Int))]])) ∧ ((sFirst [hdI [AV.i (sTrackS l)], hdI [AV.i (sWithin sp (1 : Int) (1000 : Int))]] != 0) = true →
   AV.tup [AV.sl 5 [], AV.i (sFirst [hdI [AV.i (sTrackS l)], hdI [AV.i (sWithin sp (1 : Int) (1000 : Int))]])] = AV.tup [AV.sl 5 (List.map encFx (rRep l sp)), AV.i (chkRep l sp)]) ∧ ((sFirst [hdI [AV.i (sTrackS l)], hdI [AV.i (sWithin
   sp (1 : Int) (1000 : Int))]] != 0) = false → (0 : Int) ≤ 1 ∧ (1 : Int) ≤ (↑(List.map encFx l).length : Int) ∧ (↑(List.map encFx l).length : Int) ≤ 9223372036854775807 ∧ (↑(List.map encFx l).length : Int) * (↑40 : Int) ≤
   140737488355328 ∧ (0 : Int) ≤ 1 ∧ (1 : Int) ≤ (↑(List.map encFx l).length : Int) ∧ (↑(List.map encFx l).length : Int) ≤ (↑(List.map encFx l).length : Int) ∧ (∃ (g : Nat), g + 1 ≤ l.length ∧ AS.mk [(1, AV.i sp), (7, AV.own 1 1),
   (29, AV.sl 5 (List.take ((↑(List.map encFx l).length : Int) - 1).toNat (List.drop 1 (List.map encFx l)))), (30, AV.i (↑(List.take ((↑(List.map encFx l).length : Int) - 1).toNat (List.drop 1 (List.map encFx l))).length : Int)), (31,
   AV.i 0)] [(1, ABlk.buf 83 5 (List.take 1 (List.map encFx l) ++ List.drop (List.map encFx l).length [[AV.i 0, AV.i 0, AV.i 0, AV.i 0, AV.i 0]]))] 2 = AS.mk [(1, AV.i sp), (7, AV.own 1 (List.map encFx (repL l sp g)).length), (29,
   AV.sl 5 (List.map encFx (List.drop 1 l))), (30, AV.i ((↑l.length : Int) - 1)), (31, AV.i (↑g : Int))] [(1, ABlk.buf 83 5 (List.map encFx (repL l sp g)))] 2) ∧ ∀ (g : Nat), g + 1 ≤ l.length → (decide ((↑g : Int) < (↑l.length : Int)
   - 1) = true → (0 : Int) ≤ (↑g : Int) ∧ (↑g : Int) < (↑(List.map encFx (List.drop 1 l)).length : Int) ∧ AV.agg (nthR (List.map encFx (List.drop 1 l)) (↑g : Int).toNat) = AV.agg [AV.i ((List.drop 1 l).getD (↑g : Int).toNat
   default).t, AV.i ((List.drop 1 l).getD (↑g : Int).toNat default).x, AV.i ((List.drop 1 l).getD (↑g : Int).toNat default).y, AV.i ((List.drop 1 l).getD (↑g : Int).toNat default).z, AV.i ((List.drop 1 l).getD (↑g : Int).toNat
   default).p] ∧ In64 ((↑(List.map encFx (repL l sp g)).length : Int) - 1) ∧ (0 : Int) ≤ (↑(List.map encFx (repL l sp g)).length : Int) - 1 ∧ (↑(List.map encFx (repL l sp g)).length : Int) - 1 < (↑(List.map encFx (repL l sp g)).length
   : Int) ∧ ((↑(List.map encFx (repL l sp g)).length : Int) - 1).toNat < (List.map encFx (repL l sp g)).length ∧ AV.agg (nthR (List.map encFx (repL l sp g)) ((↑(List.map encFx (repL l sp g)).length : Int) - 1).toNat) = AV.agg [AV.i
   (cJ (List.map encFx (repL l sp g)) ((↑(List.map encFx (repL l sp g)).length : Int) - 1).toNat 0), AV.i (cJ (List.map encFx (repL l sp g)) ((↑(List.map encFx (repL l sp g)).length : Int) - 1).toNat 1), AV.i (cJ (List.map encFx (repL
   l sp g)) ((↑(List.map encFx (repL l sp g)).length : Int) - 1).toNat 2), AV.i (cJ (List.map encFx (repL l sp g)) ((↑(List.map encFx (repL l sp g)).length : Int) - 1).toNat 3), AV.i (cJ (List.map encFx (repL l sp g)) ((↑(List.map
   encFx (repL l sp g)).length : Int) - 1).toNat 4)] ∧ In64 (((List.drop 1 l).getD (↑g : Int).toNat default).t - cJ (List.map encFx (repL l sp g)) ((↑(List.map encFx (repL l sp g)).length : Int) - 1).toNat 0) ∧ In64 (sp * (((List.drop
   1 l).getD (↑g : Int).toNat default).t - cJ (List.map encFx (repL l sp g)) ((↑(List.map encFx (repL l sp g)).length : Int) - 1).toNat 0)) ∧ PCall Tryz.prog G0 113 [AV.agg [AV.i ((List.drop 1 l).getD (↑g : Int).toNat default).x, AV.i
   ((List.drop 1 l).getD (↑g : Int).toNat default).y, AV.i ((List.drop 1 l).getD (↑g : Int).toNat default).z], AV.agg [AV.i (cJ (List.map encFx (repL l sp g)) ((↑(List.map encFx (repL l sp g)).length : Int) - 1).toNat 1), AV.i (cJ
   (List.map encFx (repL l sp g)) ((↑(List.map encFx (repL l sp g)).length : Int) - 1).toNat 2), AV.i (cJ (List.map encFx (repL l sp g)) ((↑(List.map encFx (repL l sp g)).length : Int) - 1).toNat 3)]] (AV.agg [AV.i (((List.drop 1
   l).getD (↑g : Int).toNat default).x - cJ (List.map encFx (repL l sp g)) ((↑(List.map encFx (repL l sp g)).length : Int) - 1).toNat 1), AV.i (((List.drop 1 l).getD (↑g : Int).toNat default).y - cJ (List.map encFx (repL l sp g))
   ((↑(List.map encFx (repL l sp g)).length : Int) - 1).toNat 2), AV.i (((List.drop 1 l).getD (↑g : Int).toNat default).z - cJ (List.map encFx (repL l sp g)) ((↑(List.map encFx (repL l sp g)).length : Int) - 1).toNat 3)]) ∧ PCall
   Tryz.prog G0 112 [AV.agg [AV.i (((List.drop 1 l).getD (↑g : Int).toNat default).x - cJ (List.map encFx (repL l sp g)) ((↑(List.map encFx (repL l sp g)).length : Int) - 1).toNat 1), AV.i (((List.drop 1 l).getD (↑g : Int).toNat
   default).y - cJ (List.map encFx (repL l sp g)) ((↑(List.map encFx (repL l sp g)).length : Int) - 1).toNat 2), AV.i (((List.drop 1 l).getD (↑g : Int).toNat default).z - cJ (List.map encFx (repL l sp g)) ((↑(List.map encFx (repL l sp
   g)).length : Int) - 1).toNat 3)]] (AV.agg [AV.i ((((List.drop 1 l).getD (↑g : Int).toNat default).x - cJ (List.map encFx (repL l sp g)) ((↑(List.map encFx (repL l sp g)).length : Int) - 1).toNat 1) * (((List.drop 1 l).getD (↑g :
   Int).toNat default).x - cJ (List.map encFx (repL l sp g)) ((↑(List.map encFx (repL l sp g)).length : Int) - 1).toNat 1) + (((List.drop 1 l).getD (↑g : Int).toNat default).y - cJ (List.map encFx (repL l sp g)) ((↑(List.map encFx
   (repL l sp g)).length : Int) - 1).toNat 2) * (((List.drop 1 l).getD (↑g : Int).toNat default).y - cJ (List.map encFx (repL l sp g)) ((↑(List.map encFx (repL l sp g)).length : Int) - 1).toNat 2)), AV.i ((((List.drop 1 l).getD (↑g :
   Int).toNat default).z - cJ (List.map encFx (repL l sp g)) ((↑(List.map encFx (repL l sp g)).length : Int) - 1).toNat 3) * (((List.drop 1 l).getD (↑g : Int).toNat default).z - cJ (List.map encFx (repL l sp g)) ((↑(List.map encFx
   (repL l sp g)).length : Int) - 1).toNat 3))]) ∧ (0 : Int) ≤ 0 ∧ (0 : Int) < (↑2 : Int) ∧ (0 : Int) ≤ 1 ∧ (1 : Int) < (↑2 : Int) ∧ In64 ((((List.drop 1 l).getD (↑g : Int).toNat default).x - cJ (List.map encFx (repL l sp g))
   ((↑(List.map encFx (repL l sp g)).length : Int) - 1).toNat 1) * (((List.drop 1 l).getD (↑g : Int).toNat default).x - cJ (List.map encFx (repL l sp g)) ((↑(List.map encFx (repL l sp g)).length : Int) - 1).toNat 1) + (((List.drop 1
   l).getD (↑g : Int).toNat default).y - cJ (List.map encFx (repL l sp g)) ((↑(List.map encFx (repL l sp g)).length : Int) - 1).toNat 2) * (((List.drop 1 l).getD (↑g : Int).toNat default).y - cJ (List.map encFx (repL l sp g))
   ((↑(List.map encFx (repL l sp g)).length : Int) - 1).toNat 2) + (((List.drop 1 l).getD (↑g : Int).toNat default).z - cJ (List.map encFx (repL l sp g)) ((↑(List.map encFx (repL l sp g)).length : Int) - 1).toNat 3) * (((List.drop 1
   l).getD (↑g : Int).toNat default).z - cJ (List.map encFx (repL l sp g)) ((↑(List.map encFx (repL l sp g)).length : Int) - 1).toNat 3)) ∧ In64 (sp * (((List.drop 1 l).getD (↑g : Int).toNat default).t - cJ (List.map encFx (repL l sp
   g)) ((↑(List.map encFx (repL l sp g)).length : Int) - 1).toNat 0) * (sp * (((List.drop 1 l).getD (↑g : Int).toNat default).t - cJ (List.map encFx (repL l sp g)) ((↑(List.map encFx (repL l sp g)).length : Int) - 1).toNat 0))) ∧
   (decide ((((List.drop 1 l).getD (↑g : Int).toNat default).x - cJ (List.map encFx (repL l sp g)) ((↑(List.map encFx (repL l sp g)).length : Int) - 1).toNat 1) * (((List.drop 1 l).getD (↑g : Int).toNat default).x - cJ (List.map encFx
   (repL l sp g)) ((↑(List.map encFx (repL l sp g)).length : Int) - 1).toNat 1) + (((List.drop 1 l).getD (↑g : Int).toNat default).y - cJ (List.map encFx (repL l sp g)) ((↑(List.map encFx (repL l sp g)).length : Int) - 1).toNat 2) *
   (((List.drop 1 l).getD (↑g : Int).toNat default).y - cJ (List.map encFx (repL l sp g)) ((↑(List.map encFx (repL l sp g)).length : Int) - 1).toNat 2) + (((List.drop 1 l).getD (↑g : Int).toNat default).z - cJ (List.map encFx (repL l
   sp g)) ((↑(List.map encFx (repL l sp g)).length : Int) - 1).toNat 3) * (((List.drop 1 l).getD (↑g : Int).toNat default).z - cJ (List.map encFx (repL l sp g)) ((↑(List.map encFx (repL l sp g)).length : Int) - 1).toNat 3) ≤ sp *
   (((List.drop 1 l).getD (↑g : Int).toNat default).t - cJ (List.map encFx (repL l sp g)) ((↑(List.map encFx (repL l sp g)).length : Int) - 1).toNat 0) * (sp * (((List.drop 1 l).getD (↑g : Int).toNat default).t - cJ (List.map encFx
   (repL l sp g)) ((↑(List.map encFx (repL l sp g)).length : Int) - 1).toNat 0))) = true → (List.map encFx (repL l sp g)).length + 1 ≤ 9223372036854775807 ∧ ((List.map encFx (repL l sp g)).length + 1) * 40 ≤ 140737488355328 ∧ In64
   ((↑g : Int) + 1) ∧ ∃ (g' : Nat), g' + 1 ≤ l.length ∧ l.length - g' < l.length - g ∧ AS.mk [(1, AV.i sp), (7, AV.own 1 ((List.map encFx (repL l sp g)).length + 1)), (29, AV.sl 5 (List.map encFx (List.drop 1 l))), (30, AV.i
   ((↑l.length : Int) - 1)), (31, AV.i ((↑g : Int) + 1))] [(1, ABlk.buf 83 5 (List.map encFx (repL l sp g) ++ [[AV.i ((List.drop (1 : Nat) l).getD (↑g : Int).toNat default).t, AV.i ((List.drop (1 : Nat) l).getD (↑g : Int).toNat
   default).x, AV.i ((List.drop (1 : Nat) l).getD (↑g : Int).toNat default).y, AV.i ((List.drop (1 : Nat) l).getD (↑g : Int).toNat default).z, AV.i ((List.drop (1 : Nat) l).getD (↑g : Int).toNat default).p]]))] 2 = AS.mk [(1, AV.i
   sp), (7, AV.own 1 (List.map encFx (repL l sp g')).length), (29, AV.sl 5 (List.map encFx (List.drop 1 l))), (30, AV.i ((↑l.length : Int) - 1)), (31, AV.i (↑g' : Int))] [(1, ABlk.buf 83 5 (List.map encFx (repL l sp g')))] 2) ∧
   (decide ((((List.drop 1 l).getD (↑g : Int).toNat default).x - cJ (List.map encFx (repL l sp g)) ((↑(List.map encFx (repL l sp g)).length : Int) - 1).toNat 1) * (((List.drop 1 l).getD (↑g : Int).toNat default).x - cJ (List.map encFx
   (repL l sp g)) ((↑(List.map encFx (repL l sp g)).length : Int) - 1).toNat 1) + (((List.drop 1 l).getD (↑g : Int).toNat default).y - cJ (List.map encFx (repL l sp g)) ((↑(List.map encFx (repL l sp g)).length : Int) - 1).toNat 2) *
   (((List.drop 1 l).getD (↑g : Int).toNat default).y - cJ (List.map encFx (repL l sp g)) ((↑(List.map encFx (repL l sp g)).length : Int) - 1).toNat 2) + (((List.drop 1 l).getD (↑g : Int).toNat default).z - cJ (List.map encFx (repL l
   sp g)) ((↑(List.map encFx (repL l sp g)).length : Int) - 1).toNat 3) * (((List.drop 1 l).getD (↑g : Int).toNat default).z - cJ (List.map encFx (repL l sp g)) ((↑(List.map encFx (repL l sp g)).length : Int) - 1).toNat 3) ≤ sp *
   (((List.drop 1 l).getD (↑g : Int).toNat default).t - cJ (List.map encFx (repL l sp g)) ((↑(List.map encFx (repL l sp g)).length : Int) - 1).toNat 0) * (sp * (((List.drop 1 l).getD (↑g : Int).toNat default).t - cJ (List.map encFx
   (repL l sp g)) ((↑(List.map encFx (repL l sp g)).length : Int) - 1).toNat 0))) = false → In64 ((↑g : Int) + 1) ∧ ∃ (g' : Nat), g' + 1 ≤ l.length ∧ l.length - g' < l.length - g ∧ AS.mk [(1, AV.i sp), (7, AV.own 1 (List.map encFx
   (repL l sp g)).length), (29, AV.sl 5 (List.map encFx (List.drop 1 l))), (30, AV.i ((↑l.length : Int) - 1)), (31, AV.i ((↑g : Int) + 1))] [(1, ABlk.buf 83 5 (List.map encFx (repL l sp g)))] 2 = AS.mk [(1, AV.i sp), (7, AV.own 1
   (List.map encFx (repL l sp g')).length), (29, AV.sl 5 (List.map encFx (List.drop 1 l))), (30, AV.i ((↑l.length : Int) - 1)), (31, AV.i (↑g' : Int))] [(1, ABlk.buf 83 5 (List.map encFx (repL l sp g')))] 2)) ∧ (decide ((↑g : Int) <
   (↑l.length : Int) - 1) = false → (decide ((↑(List.map encFx (repL l sp g)).length : Int) < 2) = true → AV.tup [AV.sl 5 [], AV.i 16] = AV.tup [AV.sl 5 (List.map encFx (rRep l sp)), AV.i (chkRep l sp)]) ∧ (decide ((↑(List.map encFx
   (repL l sp g)).length : Int) < 2) = false → AV.tup [AV.sl 5 (List.map encFx (repL l sp g)), AV.i 0] = AV.tup [AV.sl 5 (List.map encFx (rRep l sp)), AV.i (chkRep l sp)]))) := by
    have hlm : (List.map encFx l).length = l.length := List.length_map _
    refine ⟨c76 l (by omega), c89 _ _ _, c87 [_, _] (by simp), fun h => ?_, fun h => ?_⟩
    · have h' : (sFirst [sTrackS l, sWithin sp 1 1000] != 0) = true := h
      unfold rRep chkRep
      rw [if_pos h', if_pos h']
      rfl
    have h' : ¬ (sFirst [sTrackS l, sWithin sp 1 1000] != 0) = true := by rw [show (sFirst [sTrackS l, sWithin sp 1 1000] != 0) = false from h]; exact Bool.false_ne_true
    have hz : sFirst [sTrackS l, sWithin sp 1 1000] = 0 := by simpa using h'
    simp only [first_zero, within_zero] at hz
    obtain ⟨hz1, hs, _⟩ := hz
    rw [track_eq] at hz1
    obtain ⟨hO, hsp⟩ := track_ok hz1
    have hn1 := hO.n1
    have hn2 := hO.n2
    have dlen : (List.drop 1 l).length = l.length - 1 := List.length_drop
    have hdm : (List.map encFx (List.drop 1 l)).length = l.length - 1 := by rw [List.length_map, dlen]
    refine ⟨by omega, by omega, by omega, by omega, by omega, by omega, by omega, ⟨0, by omega, ?_⟩, fun g hg => ⟨fun hd => ?_, fun hd => ?_⟩⟩
    · have e1 : List.take ((↑(List.map encFx l).length : Int) - 1).toNat (List.drop 1 (List.map encFx l)) = List.map encFx (List.drop 1 l) := by
        rw [← List.map_drop]
        exact List.take_of_length_le (by omega)
      have e2 : List.take 1 (List.map encFx l) ++ List.drop (List.map encFx l).length [[AV.i 0, AV.i 0, AV.i 0, AV.i 0, AV.i 0]] = List.map encFx (repL l sp 0) := by
        rw [List.drop_eq_nil_of_le (by simp; omega), List.append_nil]
        match l, hn1 with
        | a :: _, _ => rfl
      rw [e1, e2, hdm, show ((l.length - 1 : Nat) : Int) = (l.length : Int) - 1 by omega]
      rfl
    · have hlt : g + 1 < l.length := by
        have := of_decide_eq_true hd
        omega
      have hrl := rep_len (l := l) (sp := sp) g
      obtain ⟨hqb, hd0, hd1⟩ := rep_b (sp := sp) hO hsp hlt
      have hfb := hO.fb hlt
      have hrow := rep_row (l := l) (sp := sp) g
      have hdf := diff_b hfb hqb
      have hw := way_b hs hd0 hd1
      have hmr : (List.map encFx (repL l sp g)).length = (repL l sp g).length := List.length_map _
      have r1 : nthR (List.map encFx (List.drop 1 l)) g = encFx (l.getD (g + 1) default) := by
        rw [row_at encFx (by omega), List.getD_eq_getElem?_getD, List.getElem?_drop, ← List.getD_eq_getElem?_getD, Nat.add_comm]
      have r2 : (List.drop 1 l).getD g default = l.getD (g + 1) default := by
        rw [List.getD_eq_getElem?_getD, List.getElem?_drop, ← List.getD_eq_getElem?_getD, Nat.add_comm]
      have c : ∀ j, cJ (List.map encFx (repL l sp g)) (((List.map encFx (repL l sp g)).length : Int) - 1).toNat j = cJ [encFx (lastF (repL l sp g))] 0 j := fun j => by
        unfold cJ
        rw [hrow]
        rfl
      have c0 : cJ (List.map encFx (repL l sp g)) (((List.map encFx (repL l sp g)).length : Int) - 1).toNat 0 = (lastF (repL l sp g)).t := c 0
      have c1 : cJ (List.map encFx (repL l sp g)) (((List.map encFx (repL l sp g)).length : Int) - 1).toNat 1 = (lastF (repL l sp g)).x := c 1
      have c2 : cJ (List.map encFx (repL l sp g)) (((List.map encFx (repL l sp g)).length : Int) - 1).toNat 2 = (lastF (repL l sp g)).y := c 2
      have c3 : cJ (List.map encFx (repL l sp g)) (((List.map encFx (repL l sp g)).length : Int) - 1).toNat 3 = (lastF (repL l sp g)).z := c 3
      have c4 : cJ (List.map encFx (repL l sp g)) (((List.map encFx (repL l sp g)).length : Int) - 1).toNat 4 = (lastF (repL l sp g)).p := c 4
      rw [Int.toNat_natCast, c0, c1, c2, c3, c4, hrow, r1, r2]
      refine ⟨by omega, by omega, rfl, by unfold In64; omega, by omega, by omega, by omega, rfl, by unfold In64; omega, hw.1, c113 _ _ _ _ _ _ hdf.x hdf.y hdf.z, c112 _ _ _ hdf.x2 hdf.y2 hdf.xy hdf.z2, by omega, by omega, by omega, by omega, hdf.s, hw.2, fun hx => ⟨by omega, by omega, by unfold In64; omega, g + 1, hlt, by omega, ?_⟩, fun hx => ⟨by unfold In64; omega, g + 1, hlt, by omega, ?_⟩⟩
      · have hR : repL l sp (g + 1) = repL l sp g ++ [l.getD (g + 1) default] := if_pos hx
        rw [hR, List.map_append, List.length_append]
        rfl
      · have hR : repL l sp (g + 1) = repL l sp g := if_neg (by rw [show decide (sqF (l.getD (g + 1) default) (lastF (repL l sp g)) ≤ sp * ((l.getD (g + 1) default).t - (lastF (repL l sp g)).t) * (sp * ((l.getD (g + 1) default).t - (lastF (repL l sp g)).t))) = false from hx]; exact Bool.false_ne_true)
        rw [hR]
        rfl
    · have hge : g = l.length - 1 := by
        have := of_decide_eq_false hd
        omega
      subst hge
      have hmr : (List.map encFx (repL l sp (l.length - 1))).length = (repL l sp (l.length - 1)).length := List.length_map _
      unfold rRep chkRep repR repE
      rw [if_neg h', if_neg h']
      refine ⟨fun h => ?_, fun h => ?_⟩
      · rw [if_pos (decide_eq_true (by have := of_decide_eq_true h; omega)), if_pos (decide_eq_true (by have := of_decide_eq_true h; omega))]
        rfl
      · have hx : ¬ decide ((repL l sp (l.length - 1)).length < 2) = true := by
          have := of_decide_eq_false h
          simp only [decide_eq_true_eq]
          omega
        rw [if_neg hx, if_neg hx]
  exact c_of Tryz.f39 (gsB (fun i => if i.beq 3 then [.nil 4 5] else if i.beq 15 then [.nil 4 5] else []) (modA 9 5 (fun a => { a with rdb := row5 }) (fzB (mkB (sp39 l) 39 [(8, 1, rdL 5 encFx (l.drop 1) 5 true)] (fun i => if i.beq 0 then some (la39 l sp) else none))))) (by kernel_rfl) (by kernel_rfl) (by kernel_rfl) (by kernel_rfl) key (by kernel_rfl)
end Go.Proofs.YtjhjmncjidbieaaGreatDoor
namespace Go.Proofs.YtjhjmncjidbieaaGreatDoor
open Go Go.Av Go.RowKit
structure Ask where
  p : Int
  d : Int
  x : Int
  y : Int
  z : Int
  a : Int
  b : Int
  q : Int
  x2 : Int
  y2 : Int
  z2 : Int
  u : Int
  v : Int
  e : Int
def encAsk (k : Ask) : List AV := [.i k.p, .i k.d, .i k.x, .i k.y, .i k.z, .i k.a, .i k.b, .i k.q, .i k.x2, .i k.y2, .i k.z2, .i k.u, .i k.v, .i k.e]
structure ShortTy (t : Ty) : Prop where
  n : t.name.length ≤ 40
  s : t.sh.length ≤ 9
  q : t.sq.length ≤ 9
  st : t.st.length ≤ 7
  e : ∀ x, x ∈ t.st → x.e.length ≤ 9
def rdT : List AV → Option AV := fun _ => some (.bool true)
def noSym (r : Nat) (B : BA) : BA := { B with ra := fun i => if i.beq r then { B.ra i with ans := (B.ra i).ans.map fun a => { a with sym := false } } else B.ra i }
def b6 (t : Ty) (k : Ask) : List (Nat × AV) := [(2, .elt 13 [encTy t] 0 0), (3, .elt 14 [encAsk k] 0 0), (4, .bool false)]
end Go.Proofs.YtjhjmncjidbieaaGreatDoor
namespace Go.Proofs.YtjhjmncjidbieaaGreatDoor
open Go Go.Av Go.RowKit
def rdF : List AV → Option AV := fun _ => some (.bool false)
def md (g : List GS) (l : List (Nat × AV)) : Option (List GS × AS) := some (g ++ [.keep (l.map (·.1)) [], .bound 1], ⟨l, [], 1⟩)
theorem c_ofG {f : Nat} {args : List AV} {r : AV} (fn : Func) (B : BA) (ms : List (Option (List GS × AS))) (hf : Tryz.prog.funcs[f]? = some fn) (hb : fn.body = some (bodyOf fn)) (hn : (fn.name == "runtime.NumGoroutine") = false) (hlen : Nat.ble args.length fn.ntmps = true)
    {q : Prop} (hq : q) (h : partsG (bodyE Tryz.prog T0 G0 fn.ntmps []) B (retQ T0 fn fun v => v = r) (flatSeq (bodyOf fn)) ms (startS args) = q) : PCall Tryz.prog G0 f args r :=
  call_of_partsG tok mix hf hb hn (Nat.le_of_ble_eq_true hlen) B ms (vc_of hq h)
end Go.Proofs.YtjhjmncjidbieaaGreatDoor
namespace Go.Proofs.YtjhjmncjidbieaaGreatDoor
open Go Go.Av Go.RowKit
def outT (l : List Fx) (k : Int) : Bool := if decide (k < firstT l) then true else decide (k ≥ lastT l)
def chkAt (l : List Fx) (k : Int) : Int := if sTrackS l != 0 then sTrackS l else sWhen (outT l k) 7
def rAt (l : List Fx) (k : Int) : List AV := if sTrackS l != 0 then [.i 0, .i 0, .i 0, .i 0, .i 0, .i 0] else if outT l k then [.i 0, .i 0, .i 0, .i 0, .i 0, .i 0] else atV (atA l k) (atB l k) k
theorem c72 (l : List Fx) (k : Int) (h : 1 ≤ l.length) (hl : l.length ≤ 1000) : PCall Tryz.prog G0 72 [.sl 5 (l.map encFx), .i k] (.i (sWhen (outT l k) 7)) := by
  have key :
   (0 : Int) ≤ 0 ∧ (0 : Int) < (↑(List.map encFx l).length : Int) ∧ ((!decide (k < (l.getD (Int.toNat (0 : Int)) default).t)) = true → (!decide (k < (l.getD (Int.toNat (0 : Int)) default).t)) = true) ∧ ((!decide (k < (l.getD
   (Int.toNat (0 : Int)) default).t)) = true → (!decide (k < (l.getD (Int.toNat (0 : Int)) default).t)) = true) ∧ ((!decide (k < (l.getD (Int.toNat (0 : Int)) default).t)) = true → In64 ((↑(List.map encFx l).length : Int) - 1)) ∧
   ((!decide (k < (l.getD (Int.toNat (0 : Int)) default).t)) = true → (!decide (k < (l.getD (Int.toNat (0 : Int)) default).t)) = true) ∧ ((!decide (k < (l.getD (Int.toNat (0 : Int)) default).t)) = true → (!decide (k < (l.getD
   (Int.toNat (0 : Int)) default).t)) = true) ∧ ((!decide (k < (l.getD (Int.toNat (0 : Int)) default).t)) = true → (0 : Int) ≤ (↑(List.map encFx l).length : Int) - 1) ∧ ((!decide (k < (l.getD (Int.toNat (0 : Int)) default).t)) = true
   → (↑(List.map encFx l).length : Int) - 1 < (↑(List.map encFx l).length : Int)) ∧ ((!decide (k < (l.getD (Int.toNat (0 : Int)) default).t)) = true → (!decide (k < (l.getD (Int.toNat (0 : Int)) default).t)) = true) ∧ ((!decide (k <
   (l.getD (Int.toNat (0 : Int)) default).t)) = true → (!decide (k < (l.getD (Int.toNat (0 : Int)) default).t)) = true) ∧ ((!decide (k < (l.getD (Int.toNat (0 : Int)) default).t)) = true → (!decide (k < (l.getD (Int.toNat (0 : Int))
   default).t)) = true) ∧ ((!decide (k < (l.getD (Int.toNat (0 : Int)) default).t)) = true → (!decide (k < (l.getD (Int.toNat (0 : Int)) default).t)) = true) ∧ (decide (k < (l.getD (Int.toNat (0 : Int)) default).t) = false → (!decide
   (k < (l.getD (Int.toNat (0 : Int)) default).t)) = true) ∧ nth (nthR (List.map encFx l) 0) 0 = AV.i (l.getD (Int.toNat (0 : Int)) default).t ∧ impB (!decide (k < (l.getD (Int.toNat (0 : Int)) default).t)) (nth (nthR (List.map encFx
   l) ((↑(List.map encFx l).length : Int) - 1).toNat) 0 = AV.i (l.getD ((↑(List.map encFx l).length : Int) - 1).toNat default).t) ∧ PCall Tryz.prog G0 94 [AV.bool (if decide (k < (l.getD (Int.toNat (0 : Int)) default).t) = true then
   true else decide (k ≥ (l.getD ((↑(List.map encFx l).length : Int) - 1).toNat default).t)), AV.i 7] (AV.i (sWhen (if decide (k < (l.getD (Int.toNat (0 : Int)) default).t) = true then true else decide (k ≥ (l.getD ((↑(List.map encFx
   l).length : Int) - 1).toNat default).t)) (7 : Int))) ∧ AV.i (sWhen (if decide (k < (l.getD (Int.toNat (0 : Int)) default).t) = true then true else decide (k ≥ (l.getD ((↑(List.map encFx l).length : Int) - 1).toNat default).t)) (7 :
   Int)) = AV.i (sWhen (outT l k) (7 : Int)) := by
    have hlm : (List.map encFx l).length = l.length := List.length_map _
    have e1 : ((↑(List.map encFx l).length : Int) - 1).toNat = l.length - 1 := by omega
    have e2 : nthR (List.map encFx l) 0 = encFx (l.getD 0 default) := row_at encFx (by omega)
    have e3 : nthR (List.map encFx l) (l.length - 1) = encFx (l.getD (l.length - 1) default) := row_at encFx (by omega)
    rw [e1, e2, e3]
    exact ⟨by omega, by omega, fun h => h, fun h => h, fun _ => by unfold In64; omega, fun h => h, fun h => h, fun _ => by omega, fun _ => by omega, fun h => h, fun h => h, fun h => h, fun h => h, fun h => by rw [h]; rfl, rfl, impB_iff.2 fun _ => rfl, c94 _ _, rfl⟩
  exact c_of Tryz.f72 (mkB spR 72 [(1, 4, rdX l), (1, 14, rdX l)] noLa) (by kernel_rfl) (by kernel_rfl) (by kernel_rfl) (by kernel_rfl) key (by kernel_rfl)
def sp56 (l : List Fx) (k : Int) : Nat → List AV → Option AV
  | 76, _ => some (.i (sTrackS l))
  | 102, _ => some (.agg [.i (firstT l), .i (lastT l)])
  | 126, _ => some (.agg (atV (atA l k) (atB l k) k))
  | n, w => spR n w
theorem c56 (l : List Fx) (k : Int) (hl : l.length ≤ 1000) : PCall Tryz.prog G0 56 [.sl 5 (l.map encFx), .i k] (.tup [.agg (rAt l k), .i (chkAt l k)]) := by
  have key :
   PCall Tryz.prog G0 76 [AV.sl 5 (List.map encFx l)] (AV.i (sTrackS l)) ∧ ((sTrackS l != 0) = true → AV.tup [AV.agg [AV.i 0, AV.i 0, AV.i 0, AV.i 0, AV.i 0, AV.i 0], AV.i (sTrackS l)] = AV.tup [AV.agg (rAt l k), AV.i (chkAt l k)]) ∧
   ((sTrackS l != 0) = false → PCall Tryz.prog G0 102 [AV.sl 5 (List.map encFx l)] (AV.agg [AV.i (firstT l), AV.i (lastT l)]) ∧ ((!decide (k < firstT l)) = true → (!decide (k < firstT l)) = true) ∧ ((!decide (k < firstT l)) = true →
   (!decide (k < firstT l)) = true) ∧ ((!decide (k < firstT l)) = true → (!decide (k < firstT l)) = true) ∧ (decide (k < firstT l) = false → (!decide (k < firstT l)) = true) ∧ ((if decide (k < firstT l) = true then true else decide (k
   ≥ lastT l)) = true → AV.tup [AV.agg [AV.i 0, AV.i 0, AV.i 0, AV.i 0, AV.i 0, AV.i 0], AV.i 7] = AV.tup [AV.agg (rAt l k), AV.i (chkAt l k)]) ∧ ((if decide (k < firstT l) = true then true else decide (k ≥ lastT l)) = false → PCall
   Tryz.prog G0 126 [AV.sl 5 (List.map encFx l), AV.i k] (AV.agg [AV.i (sBetween (atA l k).x (atB l k).x (k - (atA l k).t) ((atB l k).t - (atA l k).t)), AV.i (sBetween (atA l k).y (atB l k).y (k - (atA l k).t) ((atB l k).t - (atA l
   k).t)), AV.i (sBetween (atA l k).z (atB l k).z (k - (atA l k).t) ((atB l k).t - (atA l k).t)), AV.i ((atB l k).x - (atA l k).x), AV.i ((atB l k).y - (atA l k).y), AV.i (sBetween (atA l k).p (atB l k).p (k - (atA l k).t) ((atB l
   k).t - (atA l k).t))]) ∧ AV.tup [AV.agg [AV.i (sBetween (atA l k).x (atB l k).x (k - (atA l k).t) ((atB l k).t - (atA l k).t)), AV.i (sBetween (atA l k).y (atB l k).y (k - (atA l k).t) ((atB l k).t - (atA l k).t)), AV.i (sBetween
   (atA l k).z (atB l k).z (k - (atA l k).t) ((atB l k).t - (atA l k).t)), AV.i ((atB l k).x - (atA l k).x), AV.i ((atB l k).y - (atA l k).y), AV.i (sBetween (atA l k).p (atB l k).p (k - (atA l k).t) ((atB l k).t - (atA l k).t))],
   AV.i 0] = AV.tup [AV.agg (rAt l k), AV.i (chkAt l k)])) := by
    refine ⟨c76 l (by rw [List.length_map]; omega), fun h => ?_, fun h => ?_⟩
    · unfold rAt chkAt
      rw [if_pos h, if_pos h]
    · have hz : sTrackS l = 0 := by simpa using h
      rw [track_eq] at hz
      obtain ⟨hO, hsp⟩ := track_ok hz
      have h' : ¬ (sTrackS l != 0) = true := by rw [h]; exact Bool.false_ne_true
      have hn := hO.n1
      refine ⟨c102 l (by omega) hl, fun h => h, fun h => h, fun h => h, fun h => by rw [h]; rfl, fun ho => ?_, fun ho => ?_⟩
      · unfold rAt chkAt
        rw [if_neg h', if_neg h', if_pos (show outT l k = true from ho), show outT l k = true from ho]
        rfl
      · have ho' : ¬ outT l k = true := by rw [show outT l k = false from ho]; exact Bool.false_ne_true
        have h1 : ¬ k < firstT l ∧ ¬ k ≥ lastT l := by
          by_cases hx : k < firstT l
          · simp [hx] at ho
          · simp [hx] at ho
            exact ⟨hx, by omega⟩
        have b0 := (hO.b 0 (by omega)).1
        have b1 := (hO.b (l.length - 1) (by omega)).1
        rw [show (l.getD 0 default).t = firstT l from rfl] at b0
        rw [show (l.getD (l.length - 1) default).t = lastT l from rfl] at b1
        refine ⟨c126 l k hO ⟨by omega, by omega⟩, ?_⟩
        unfold rAt chkAt
        rw [if_neg h', if_neg h', if_neg ho', show outT l k = false from ho]
        rfl
  exact c_of Tryz.f56 (fzB (mkB (sp56 l k) 56 [] noLa)) (by kernel_rfl) (by kernel_rfl) (by kernel_rfl) (by kernel_rfl) key (by kernel_rfl)
def cl160 : Operand → Bool
  | .tmp t => t.beq 16
  | _ => false
theorem c160_0 (n : Int) (hn : n = 0) : PCall Tryz.prog G0 160 [.ex (.slice none 0 0), .i n] (.fresh 83 5 []) := by
  have key :
   (decide (n < 0) = true → False) ∧ (decide (n < 0) = false → In64 ((0 : Int) - 0) ∧ In64 (n - ((0 : Int) - 0)) ∧ AV.bool (decide (n - ((0 : Int) - 0) > 0)) = AV.bool false ∧ AV.fresh 83 5 [] = AV.fresh 83 5 []) := by
    subst hn
    exact ⟨fun h => absurd (of_decide_eq_true h) (by omega), fun _ => ⟨by unfold In64; omega, by unfold In64; omega, rfl, rfl⟩⟩
  exact c_of Tryz.f160 ({ gsB (fun i => if i.beq 6 then [.own 4 83 5] else []) (mkB spR 160 [(4, 1, rdF)] noLa) with cl := cl160 }) (by kernel_rfl) (by kernel_rfl) (by kernel_rfl) (by kernel_rfl) key (by kernel_rfl)
theorem c160_1 (n : Int) (h1 : 1 ≤ n) (h2 : n ≤ 100000) : PCall Tryz.prog G0 160 [.ex (.slice none 0 0), .i n] (.fresh 83 5 []) := by
  have key :
   (decide (n < 0) = true → False) ∧ (decide (n < 0) = false → In64 ((0 : Int) - 0) ∧ In64 (n - ((0 : Int) - 0)) ∧ AV.bool (decide (n - ((0 : Int) - 0) > 0)) = AV.bool true ∧ (0 : Int) ≤ 0 ∧ (0 : Int) ≤ 0 ∧ (1 : Int) ≤ n - ((0 : Int)
   - 0) ∧ n - ((0 : Int) - 0) ≤ 9223372036854775807 ∧ (n - ((0 : Int) - 0)) * (↑40 : Int) ≤ 140737488355328 ∧ (0 : Int) ≤ 0 ∧ (0 : Int) ≤ (↑(n - ((0 : Int) - 0)).toNat : Int) ∧ AV.fresh 83 5 [] = AV.fresh 83 5 []) := by
    refine ⟨fun h => absurd (of_decide_eq_true h) (by omega), fun _ => ⟨by unfold In64; omega, by unfold In64; omega, congrArg AV.bool (decide_eq_true (by omega)), by omega, by omega, by omega, by omega, by omega, by omega, by omega, rfl⟩⟩
  exact c_of Tryz.f160 ({ modA 5 5 (fun a => { a with fz := false }) (mkB spR 160 [(4, 1, rdT)] noLa) with cl := cl160 }) (by kernel_rfl) (by kernel_rfl) (by kernel_rfl) (by kernel_rfl) key (by kernel_rfl)
theorem c160 (n : Int) (h0 : 0 ≤ n) (h2 : n ≤ 100000) : PCall Tryz.prog G0 160 [.ex (.slice none 0 0), .i n] (.fresh 83 5 []) := by
  by_cases h : n = 0
  · exact c160_0 n h
  · exact c160_1 n (by omega) h2
def sp132 : Nat → List AV → Option AV
  | 160, _ => some (.fresh 83 5 [])
  | n, w => spR n w
theorem c132 (a b : List Fx) (ha : a.length ≤ 1000) (hb : b.length ≤ 1000) : PCall Tryz.prog G0 132 [.sl 1 [[.sl 5 (a.map encFx)], [.sl 5 (b.map encFx)]]] (.fresh 83 5 (a.map encFx ++ b.map encFx)) := by
  have key :
   (true = true → (0 : Int) ≤ 0 ∧ (0 : Int) < (↑2 : Int) ∧ In64 ((0 : Int) + (↑(List.map encFx a).length : Int)) ∧ (false = true → False) ∧ (false = false → In64 ((0 : Int) + 1) ∧ (true = true → (0 : Int) ≤ 0 + 1 ∧ (0 : Int) + 1 < (↑2
   : Int) ∧ In64 ((0 : Int) + (↑(List.map encFx a).length : Int) + (↑(List.map encFx b).length : Int)) ∧ (false = true → False) ∧ (false = false → In64 ((0 : Int) + 1 + 1) ∧ (false = true → (0 : Int) ≤ 0 + 1 + 1 ∧ (0 : Int) + 1 + 1 <
   (↑2 : Int) ∧ False) ∧ (false = false → PCall Tryz.prog G0 160 [AV.ex (Value.slice none 0 0), AV.i ((0 : Int) + (↑(List.map encFx a).length : Int) + (↑(List.map encFx b).length : Int))] (AV.fresh 83 5 []) ∧ (true = true → (0 : Int)
   ≤ 0 ∧ (0 : Int) < (↑2 : Int) ∧ 0 + (List.map encFx a).length ≤ 9223372036854775807 ∧ (0 + (List.map encFx a).length) * 40 ≤ 140737488355328 ∧ In64 ((0 : Int) + 1) ∧ (true = true → (0 : Int) ≤ 0 + 1 ∧ (0 : Int) + 1 < (↑2 : Int) ∧ 0
   + (List.map encFx a).length + (List.map encFx b).length ≤ 9223372036854775807 ∧ (0 + (List.map encFx a).length + (List.map encFx b).length) * 40 ≤ 140737488355328 ∧ In64 ((0 : Int) + 1 + 1) ∧ (false = true → (0 : Int) ≤ 0 + 1 + 1 ∧
   (0 : Int) + 1 + 1 < (↑2 : Int) ∧ False) ∧ (false = false → AV.fresh 83 5 ([] ++ List.map encFx a ++ List.map encFx b) = AV.fresh 83 5 (List.map encFx a ++ List.map encFx b))) ∧ (true = false → AV.fresh 83 5 ([] ++ List.map encFx a)
   = AV.fresh 83 5 (List.map encFx a ++ List.map encFx b))) ∧ (true = false → AV.fresh 83 5 [] = AV.fresh 83 5 (List.map encFx a ++ List.map encFx b))))) ∧ (true = false → PCall Tryz.prog G0 160 [AV.ex (Value.slice none 0 0), AV.i ((0
   : Int) + (↑(List.map encFx a).length : Int))] (AV.fresh 83 5 []) ∧ (true = true → (0 : Int) ≤ 0 ∧ (0 : Int) < (↑2 : Int) ∧ 0 + (List.map encFx a).length ≤ 9223372036854775807 ∧ (0 + (List.map encFx a).length) * 40 ≤ 140737488355328
   ∧ In64 ((0 : Int) + 1) ∧ (true = true → (0 : Int) ≤ 0 + 1 ∧ (0 : Int) + 1 < (↑2 : Int) ∧ 0 + (List.map encFx a).length + (List.map encFx b).length ≤ 9223372036854775807 ∧ (0 + (List.map encFx a).length + (List.map encFx b).length)
   * 40 ≤ 140737488355328 ∧ In64 ((0 : Int) + 1 + 1) ∧ (false = true → (0 : Int) ≤ 0 + 1 + 1 ∧ (0 : Int) + 1 + 1 < (↑2 : Int) ∧ False) ∧ (false = false → AV.fresh 83 5 ([] ++ List.map encFx a ++ List.map encFx b) = AV.fresh 83 5
   (List.map encFx a ++ List.map encFx b))) ∧ (true = false → AV.fresh 83 5 ([] ++ List.map encFx a) = AV.fresh 83 5 (List.map encFx a ++ List.map encFx b))) ∧ (true = false → AV.fresh 83 5 [] = AV.fresh 83 5 (List.map encFx a ++
   List.map encFx b))))) ∧ (true = false → PCall Tryz.prog G0 160 [AV.ex (Value.slice none 0 0), AV.i 0] (AV.fresh 83 5 []) ∧ (true = true → (0 : Int) ≤ 0 ∧ (0 : Int) < (↑2 : Int) ∧ 0 + (List.map encFx a).length ≤ 9223372036854775807
   ∧ (0 + (List.map encFx a).length) * 40 ≤ 140737488355328 ∧ In64 ((0 : Int) + 1) ∧ (true = true → (0 : Int) ≤ 0 + 1 ∧ (0 : Int) + 1 < (↑2 : Int) ∧ 0 + (List.map encFx a).length + (List.map encFx b).length ≤ 9223372036854775807 ∧ (0
   + (List.map encFx a).length + (List.map encFx b).length) * 40 ≤ 140737488355328 ∧ In64 ((0 : Int) + 1 + 1) ∧ (false = true → (0 : Int) ≤ 0 + 1 + 1 ∧ (0 : Int) + 1 + 1 < (↑2 : Int) ∧ False) ∧ (false = false → AV.fresh 83 5 ([] ++
   List.map encFx a ++ List.map encFx b) = AV.fresh 83 5 (List.map encFx a ++ List.map encFx b))) ∧ (true = false → AV.fresh 83 5 ([] ++ List.map encFx a) = AV.fresh 83 5 (List.map encFx a ++ List.map encFx b))) ∧ (true = false →
   AV.fresh 83 5 [] = AV.fresh 83 5 (List.map encFx a ++ List.map encFx b))) := by
    have ea : (List.map encFx a).length = a.length := List.length_map _
    have eb : (List.map encFx b).length = b.length := List.length_map _
    have hF : ∀ {p : Prop}, true = false → p := fun h => by cases h
    have hT : ∀ {p : Prop}, false = true → p := fun h => by cases h
    exact ⟨fun _ => ⟨by omega, by omega, by unfold In64; omega, hT, fun _ => ⟨by unfold In64; omega, fun _ => ⟨by omega, by omega, by unfold In64; omega, hT, fun _ => ⟨by unfold In64; omega, hT, fun _ => ⟨c160 _ (by omega) (by omega), fun _ => ⟨by omega, by omega, by omega, by omega, by unfold In64; omega, fun _ => ⟨by omega, by omega, by omega, by omega, by unfold In64; omega, hT, fun _ => rfl⟩, hF⟩, hF⟩⟩⟩, hF⟩⟩, hF⟩
  exact c_of Tryz.f132 (mkB sp132 132 [] noLa) (by kernel_rfl) (by kernel_rfl) (by kernel_rfl) (by kernel_rfl) key (by kernel_rfl)
def trkS (rows : List (List AV)) : List Fx := rows.map fun r => ⟨cJ [r] 0 0, cJ [r] 0 1, cJ [r] 0 2, cJ [r] 0 3, cJ [r] 0 4⟩
theorem trk_enc (l : List Fx) : trkS (l.map encFx) = l := by
  unfold trkS
  rw [List.map_map]
  conv => rhs; rw [← List.map_id l]
  exact List.map_congr_left fun x _ => rfl
def jChk (l m : List Fx) : Int := sFirst [sWhen (decide (firstT m ≤ lastT l)) 11, sWhen (decide ((l.length : Int) + (m.length : Int) > 16)) 5, sWhen (decide (lastT m - firstT l > 1000)) 14]
def jRes (l m : List Fx) : List Fx := if jChk l m != 0 then [] else l ++ m
def chkJ (l m : List Fx) : Int := if sFirst [sTrackS l, sTrackS m] != 0 then sFirst [sTrackS l, sTrackS m] else jChk l m
def rJ (l m : List Fx) : List Fx := if sFirst [sTrackS l, sTrackS m] != 0 then [] else jRes l m
def sp71 (l m : List Fx) : Nat → List AV → Option AV
  | 76, [.sl _ rows] => some (.i (sTrackS (trkS rows)))
  | 102, [.sl _ rows] => some (.agg [.i (firstT (trkS rows)), .i (lastT (trkS rows))])
  | 132, _ => some (.sl 5 ((l ++ m).map encFx))
  | n, w => spR n w
theorem c71 (l m : List Fx) (hl : l.length ≤ 1000) (hm : m.length ≤ 1000) : PCall Tryz.prog G0 71 [.sl 5 (l.map encFx), .sl 5 (m.map encFx)] (.tup [.sl 5 ((rJ l m).map encFx), .i (chkJ l m)]) := by
  have key :
   PCall Tryz.prog G0 76 [AV.sl 5 (List.map encFx l)] (AV.i (sTrackS (trkS (List.map encFx l)))) ∧ PCall Tryz.prog G0 76 [AV.sl 5 (List.map encFx m)] (AV.i (sTrackS (trkS (List.map encFx m)))) ∧ PCall Tryz.prog G0 87 [AV.sl 1 [[AV.i
   (sTrackS (trkS (List.map encFx l)))], [AV.i (sTrackS (trkS (List.map encFx m)))]]] (AV.i (sFirst [hdI [AV.i (sTrackS (trkS (List.map encFx l)))], hdI [AV.i (sTrackS (trkS (List.map encFx m)))]])) ∧ ((sFirst [hdI [AV.i (sTrackS
   (trkS (List.map encFx l)))], hdI [AV.i (sTrackS (trkS (List.map encFx m)))]] != 0) = true → AV.tup [AV.sl 5 [], AV.i (sFirst [hdI [AV.i (sTrackS (trkS (List.map encFx l)))], hdI [AV.i (sTrackS (trkS (List.map encFx m)))]])] =
   AV.tup [AV.sl 5 (List.map encFx (rJ l m)), AV.i (chkJ l m)]) ∧ ((sFirst [hdI [AV.i (sTrackS (trkS (List.map encFx l)))], hdI [AV.i (sTrackS (trkS (List.map encFx m)))]] != 0) = false → In64 ((↑(List.map encFx l).length : Int) +
   (↑(List.map encFx m).length : Int)) ∧ In64 (lastT (trkS (List.map encFx m)) - firstT (trkS (List.map encFx l))) ∧ PCall Tryz.prog G0 102 [AV.sl 5 (List.map encFx m)] (AV.agg [AV.i (firstT (trkS (List.map encFx m))), AV.i (lastT
   (trkS (List.map encFx m)))]) ∧ PCall Tryz.prog G0 102 [AV.sl 5 (List.map encFx l)] (AV.agg [AV.i (firstT (trkS (List.map encFx l))), AV.i (lastT (trkS (List.map encFx l)))]) ∧ PCall Tryz.prog G0 92 [AV.bool (decide (firstT (trkS
   (List.map encFx m)) ≤ lastT (trkS (List.map encFx l)))), AV.i 11] (AV.i (sWhen (decide (firstT (trkS (List.map encFx m)) ≤ lastT (trkS (List.map encFx l)))) (11 : Int))) ∧ PCall Tryz.prog G0 92 [AV.bool (decide ((↑(List.map encFx
   l).length : Int) + (↑(List.map encFx m).length : Int) > 16)), AV.i 5] (AV.i (sWhen (decide ((↑(List.map encFx l).length : Int) + (↑(List.map encFx m).length : Int) > 16)) (5 : Int))) ∧ PCall Tryz.prog G0 102 [AV.sl 5 (List.map
   encFx m)] (AV.agg [AV.i (firstT (trkS (List.map encFx m))), AV.i (lastT (trkS (List.map encFx m)))]) ∧ PCall Tryz.prog G0 102 [AV.sl 5 (List.map encFx l)] (AV.agg [AV.i (firstT (trkS (List.map encFx l))), AV.i (lastT (trkS
   (List.map encFx l)))]) ∧ PCall Tryz.prog G0 92 [AV.bool (decide (lastT (trkS (List.map encFx m)) - firstT (trkS (List.map encFx l)) > 1000)), AV.i 14] (AV.i (sWhen (decide (lastT (trkS (List.map encFx m)) - firstT (trkS (List.map
   encFx l)) > 1000)) (14 : Int))) ∧ PCall Tryz.prog G0 87 [AV.sl 1 [[AV.i (sWhen (decide (firstT (trkS (List.map encFx m)) ≤ lastT (trkS (List.map encFx l)))) (11 : Int))], [AV.i (sWhen (decide ((↑(List.map encFx l).length : Int) +
   (↑(List.map encFx m).length : Int) > 16)) (5 : Int))], [AV.i (sWhen (decide (lastT (trkS (List.map encFx m)) - firstT (trkS (List.map encFx l)) > 1000)) (14 : Int))]]] (AV.i (sFirst [hdI [AV.i (sWhen (decide (firstT (trkS (List.map
   encFx m)) ≤ lastT (trkS (List.map encFx l)))) (11 : Int))], hdI [AV.i (sWhen (decide ((↑(List.map encFx l).length : Int) + (↑(List.map encFx m).length : Int) > 16)) (5 : Int))], hdI [AV.i (sWhen (decide (lastT (trkS (List.map encFx
   m)) - firstT (trkS (List.map encFx l)) > 1000)) (14 : Int))]])) ∧ ((sFirst [hdI [AV.i (sWhen (decide (firstT (trkS (List.map encFx m)) ≤ lastT (trkS (List.map encFx l)))) (11 : Int))], hdI [AV.i (sWhen (decide ((↑(List.map encFx
   l).length : Int) + (↑(List.map encFx m).length : Int) > 16)) (5 : Int))], hdI [AV.i (sWhen (decide (lastT (trkS (List.map encFx m)) - firstT (trkS (List.map encFx l)) > 1000)) (14 : Int))]] != 0) = true → AV.tup [AV.sl 5 [], AV.i
   (sFirst [hdI [AV.i (sWhen (decide (firstT (trkS (List.map encFx m)) ≤ lastT (trkS (List.map encFx l)))) (11 : Int))], hdI [AV.i (sWhen (decide ((↑(List.map encFx l).length : Int) + (↑(List.map encFx m).length : Int) > 16)) (5 :
   Int))], hdI [AV.i (sWhen (decide (lastT (trkS (List.map encFx m)) - firstT (trkS (List.map encFx l)) > 1000)) (14 : Int))]])] = AV.tup [AV.sl 5 (List.map encFx (rJ l m)), AV.i (chkJ l m)]) ∧ ((sFirst [hdI [AV.i (sWhen (decide
   (firstT (trkS (List.map encFx m)) ≤ lastT (trkS (List.map encFx l)))) (11 : Int))], hdI [AV.i (sWhen (decide ((↑(List.map encFx l).length : Int) + (↑(List.map encFx m).length : Int) > 16)) (5 : Int))], hdI [AV.i (sWhen (decide
   (lastT (trkS (List.map encFx m)) - firstT (trkS (List.map encFx l)) > 1000)) (14 : Int))]] != 0) = false → PCall Tryz.prog G0 132 [AV.sl 1 [[AV.sl 5 (List.map encFx l)], [AV.sl 5 (List.map encFx m)]]] (AV.sl 5 (List.map encFx (l ++
   m))) ∧ AV.tup [AV.sl 5 (List.map encFx (l ++ m)), AV.i 0] = AV.tup [AV.sl 5 (List.map encFx (rJ l m)), AV.i (chkJ l m)])) := by
    have hlm : (List.map encFx l).length = l.length := List.length_map _
    have hmm : (List.map encFx m).length = m.length := List.length_map _
    rw [trk_enc, trk_enc]
    refine ⟨c76 l (by omega), c76 m (by omega), c87 [_, _] (by simp), fun h => ?_, fun h => ?_⟩
    · have h' : (sFirst [sTrackS l, sTrackS m] != 0) = true := h
      unfold rJ chkJ
      rw [if_pos h', if_pos h']
      rfl
    · have h' : ¬ (sFirst [sTrackS l, sTrackS m] != 0) = true := by rw [show (sFirst [sTrackS l, sTrackS m] != 0) = false from h]; exact Bool.false_ne_true
      have hz : sFirst [sTrackS l, sTrackS m] = 0 := by simpa using h'
      simp only [first_zero] at hz
      obtain ⟨hz1, hz2, _⟩ := hz
      rw [track_eq] at hz1 hz2
      obtain ⟨hO, _⟩ := track_ok hz1
      obtain ⟨hM, _⟩ := track_ok hz2
      have n1 := hO.n1
      have n2 := hM.n1
      have b0 := (hO.b 0 (by omega)).1
      have b1 := (hM.b (m.length - 1) (by omega)).1
      rw [show (l.getD 0 default).t = firstT l from rfl] at b0
      rw [show (m.getD (m.length - 1) default).t = lastT m from rfl] at b1
      refine ⟨by unfold In64; omega, by unfold In64; omega, c102 m (by omega) hm, c102 l (by omega) hl, c92 _ _, c92 _ _, c102 m (by omega) hm, c102 l (by omega) hl, c92 _ _, c87 [_, _, _] (by simp), fun hj => ?_, fun hj => ⟨?_, ?_⟩⟩
      · have hj' : (jChk l m != 0) = true := by
          rw [hlm, hmm] at hj
          exact hj
        unfold rJ chkJ jRes
        rw [if_neg h', if_neg h', if_pos hj', hlm, hmm]
        rfl
      · rw [List.map_append]
        exact (c132 l m hl hm).un
      · have hj' : (jChk l m != 0) = false := by
          rw [hlm, hmm] at hj
          exact hj
        have hj2 : ¬ (jChk l m != 0) = true := by rw [hj']; exact Bool.false_ne_true
        have hj3 : jChk l m = 0 := by simpa using hj2
        unfold rJ chkJ jRes
        rw [if_neg h', if_neg h', if_neg hj2, hj3]
  exact c_of Tryz.f71 (gsB (fun i => if i.beq 3 then [.nil 4 5] else if i.beq 6 then [.nil 4 5] else []) (mkB (sp71 l m) 71 [] noLa)) (by kernel_rfl) (by kernel_rfl) (by kernel_rfl) (by kernel_rfl) key (by kernel_rfl)
theorem c75 (l m : List Fx) (hO : TrackOK l) (hM : TrackOK m) (h1 : 1 ≤ l.length) (h2 : 1 ≤ m.length) (hl : l.length ≤ 1000) (hm : m.length ≤ 1000) : PCall Tryz.prog G0 75 [.sl 5 (l.map encFx), .sl 5 (m.map encFx)] (.tup [.sl 5 ((jRes l m).map encFx), .i (jChk l m)]) := by
  have key :
   (0 : Int) ≤ 0 ∧ (0 : Int) < (↑(List.map encFx m).length : Int) ∧ In64 ((↑(List.map encFx l).length : Int) - 1) ∧ (0 : Int) ≤ (↑(List.map encFx l).length : Int) - 1 ∧ (↑(List.map encFx l).length : Int) - 1 < (↑(List.map encFx
   l).length : Int) ∧ In64 ((↑(List.map encFx l).length : Int) + (↑(List.map encFx m).length : Int)) ∧ In64 ((↑(List.map encFx m).length : Int) - 1) ∧ (0 : Int) ≤ (↑(List.map encFx m).length : Int) - 1 ∧ (↑(List.map encFx m).length :
   Int) - 1 < (↑(List.map encFx m).length : Int) ∧ (0 : Int) ≤ 0 ∧ (0 : Int) < (↑(List.map encFx l).length : Int) ∧ In64 ((m.getD ((↑(List.map encFx m).length : Int) - 1).toNat default).t - (l.getD (Int.toNat (0 : Int)) default).t) ∧
   nth (nthR (List.map encFx m) 0) 0 = AV.i (m.getD (Int.toNat (0 : Int)) default).t ∧ nth (nthR (List.map encFx l) ((↑(List.map encFx l).length : Int) - 1).toNat) 0 = AV.i (l.getD ((↑(List.map encFx l).length : Int) - 1).toNat
   default).t ∧ PCall Tryz.prog G0 94 [AV.bool (decide ((m.getD (Int.toNat (0 : Int)) default).t ≤ (l.getD ((↑(List.map encFx l).length : Int) - 1).toNat default).t)), AV.i 11] (AV.i (sWhen (decide ((m.getD (Int.toNat (0 : Int))
   default).t ≤ (l.getD ((↑(List.map encFx l).length : Int) - 1).toNat default).t)) (11 : Int))) ∧ PCall Tryz.prog G0 94 [AV.bool (decide ((↑(List.map encFx l).length : Int) + (↑(List.map encFx m).length : Int) > 16)), AV.i 5] (AV.i
   (sWhen (decide ((↑(List.map encFx l).length : Int) + (↑(List.map encFx m).length : Int) > 16)) (5 : Int))) ∧ nth (nthR (List.map encFx m) ((↑(List.map encFx m).length : Int) - 1).toNat) 0 = AV.i (m.getD ((↑(List.map encFx m).length
   : Int) - 1).toNat default).t ∧ nth (nthR (List.map encFx l) 0) 0 = AV.i (l.getD (Int.toNat (0 : Int)) default).t ∧ PCall Tryz.prog G0 94 [AV.bool (decide ((m.getD ((↑(List.map encFx m).length : Int) - 1).toNat default).t - (l.getD
   (Int.toNat (0 : Int)) default).t > 1000)), AV.i 14] (AV.i (sWhen (decide ((m.getD ((↑(List.map encFx m).length : Int) - 1).toNat default).t - (l.getD (Int.toNat (0 : Int)) default).t > 1000)) (14 : Int))) ∧ PCall Tryz.prog G0 93
   [AV.sl 1 [[AV.i (sWhen (decide ((m.getD (Int.toNat (0 : Int)) default).t ≤ (l.getD ((↑(List.map encFx l).length : Int) - 1).toNat default).t)) (11 : Int))], [AV.i (sWhen (decide ((↑(List.map encFx l).length : Int) + (↑(List.map
   encFx m).length : Int) > 16)) (5 : Int))], [AV.i (sWhen (decide ((m.getD ((↑(List.map encFx m).length : Int) - 1).toNat default).t - (l.getD (Int.toNat (0 : Int)) default).t > 1000)) (14 : Int))]]] (AV.i (sFirst [hdI [AV.i (sWhen
   (decide ((m.getD (Int.toNat (0 : Int)) default).t ≤ (l.getD ((↑(List.map encFx l).length : Int) - 1).toNat default).t)) (11 : Int))], hdI [AV.i (sWhen (decide ((↑(List.map encFx l).length : Int) + (↑(List.map encFx m).length : Int)
   > 16)) (5 : Int))], hdI [AV.i (sWhen (decide ((m.getD ((↑(List.map encFx m).length : Int) - 1).toNat default).t - (l.getD (Int.toNat (0 : Int)) default).t > 1000)) (14 : Int))]])) ∧ ((sFirst [hdI [AV.i (sWhen (decide ((m.getD
   (Int.toNat (0 : Int)) default).t ≤ (l.getD ((↑(List.map encFx l).length : Int) - 1).toNat default).t)) (11 : Int))], hdI [AV.i (sWhen (decide ((↑(List.map encFx l).length : Int) + (↑(List.map encFx m).length : Int) > 16)) (5 :
   Int))], hdI [AV.i (sWhen (decide ((m.getD ((↑(List.map encFx m).length : Int) - 1).toNat default).t - (l.getD (Int.toNat (0 : Int)) default).t > 1000)) (14 : Int))]] != 0) = true → AV.tup [AV.sl 5 [], AV.i (sFirst [hdI [AV.i (sWhen
   (decide ((m.getD (Int.toNat (0 : Int)) default).t ≤ (l.getD ((↑(List.map encFx l).length : Int) - 1).toNat default).t)) (11 : Int))], hdI [AV.i (sWhen (decide ((↑(List.map encFx l).length : Int) + (↑(List.map encFx m).length : Int)
   > 16)) (5 : Int))], hdI [AV.i (sWhen (decide ((m.getD ((↑(List.map encFx m).length : Int) - 1).toNat default).t - (l.getD (Int.toNat (0 : Int)) default).t > 1000)) (14 : Int))]])] = AV.tup [AV.sl 5 (List.map encFx (jRes l m)), AV.i
   (jChk l m)]) ∧ ((sFirst [hdI [AV.i (sWhen (decide ((m.getD (Int.toNat (0 : Int)) default).t ≤ (l.getD ((↑(List.map encFx l).length : Int) - 1).toNat default).t)) (11 : Int))], hdI [AV.i (sWhen (decide ((↑(List.map encFx l).length :
   Int) + (↑(List.map encFx m).length : Int) > 16)) (5 : Int))], hdI [AV.i (sWhen (decide ((m.getD ((↑(List.map encFx m).length : Int) - 1).toNat default).t - (l.getD (Int.toNat (0 : Int)) default).t > 1000)) (14 : Int))]] != 0) =
   false → 0 + (List.map encFx l).length ≤ 9223372036854775807 ∧ (0 + (List.map encFx l).length) * 40 ≤ 140737488355328 ∧ 0 + (List.map encFx l).length + (List.map encFx m).length ≤ 9223372036854775807 ∧ (0 + (List.map encFx l).length
   + (List.map encFx m).length) * 40 ≤ 140737488355328 ∧ AV.tup [AV.sl 5 ([] ++ List.map encFx l ++ List.map encFx m), AV.i 0] = AV.tup [AV.sl 5 (List.map encFx (jRes l m)), AV.i (jChk l m)]) := by
    have hlm : (List.map encFx l).length = l.length := List.length_map _
    have hmm : (List.map encFx m).length = m.length := List.length_map _
    have e1 : ((↑(List.map encFx l).length : Int) - 1).toNat = l.length - 1 := by omega
    have e2 : ((↑(List.map encFx m).length : Int) - 1).toNat = m.length - 1 := by omega
    have r1 : nthR (List.map encFx l) 0 = encFx (l.getD 0 default) := row_at encFx (by omega)
    have r2 : nthR (List.map encFx l) (l.length - 1) = encFx (l.getD (l.length - 1) default) := row_at encFx (by omega)
    have r3 : nthR (List.map encFx m) 0 = encFx (m.getD 0 default) := row_at encFx (by omega)
    have r4 : nthR (List.map encFx m) (m.length - 1) = encFx (m.getD (m.length - 1) default) := row_at encFx (by omega)
    rw [e1, e2, r1, r2, r3, r4]
    have b0 := (hO.b 0 (by omega)).1
    have b1 := (hM.b (m.length - 1) (by omega)).1
    refine ⟨by omega, by omega, by unfold In64; omega, by omega, by omega, by unfold In64; omega, by unfold In64; omega, by omega, by omega, by omega, by omega, ?_, rfl, rfl, c94 _ _, c94 _ _, rfl, rfl, c94 _ _, c93 [_, _, _] (by simp), fun hj => ?_, fun hj => ⟨by omega, by omega, by omega, by omega, ?_⟩⟩
    · show In64 ((m.getD (m.length - 1) default).t - (l.getD 0 default).t)
      unfold In64
      omega
    · have hj' : (jChk l m != 0) = true := by
        rw [hlm, hmm] at hj
        exact hj
      unfold jRes
      rw [if_pos hj', hlm, hmm]
      rfl
    · have hj' : (jChk l m != 0) = false := by
        rw [hlm, hmm] at hj
        exact hj
      have hj2 : ¬ (jChk l m != 0) = true := by rw [hj']; exact Bool.false_ne_true
      have hj3 : jChk l m = 0 := by simpa using hj2
      unfold jRes
      rw [if_neg hj2, hj3, List.map_append, List.nil_append]
  exact c_of Tryz.f75 (gsB (fun i => if i.beq 3 then [.nil 4 5] else []) (mkB spR 75 [(1, 3, rdX m), (1, 10, rdX l), (1, 26, rdX m), (1, 30, rdX l)] noLa)) (by kernel_rfl) (by kernel_rfl) (by kernel_rfl) (by kernel_rfl) key (by kernel_rfl)
end Go.Proofs.YtjhjmncjidbieaaGreatDoor
namespace Go.Proofs.YtjhjmncjidbieaaGreatDoor
open Go Go.Av Go.RowKit
def stpS (rows : List (List AV)) : List St := rows.map fun r => ⟨cJ [r] 0 0, cJ [r] 0 1, cJ [r] 0 2⟩
theorem stp_enc (l : List St) : stpS (l.map encSt) = l := by
  unfold stpS
  rw [List.map_map]
  conv => rhs; rw [← List.map_id l]
  exact List.map_congr_left fun x _ => rfl
def ptsS (rows : List (List AV)) : List Pt := rows.map fun r => ⟨cJ [r] 0 0, cJ [r] 0 1⟩
theorem pts_enc (l : List Pt) : ptsS (l.map encPt) = l := by
  unfold ptsS
  rw [List.map_map]
  conv => rhs; rw [← List.map_id l]
  exact List.map_congr_left fun x _ => rfl
def vSp (u : Int) : Int := 1 + (IntKind.wrap .i64 u).tmod 100
def vTk (v : Int) : Int := (IntKind.wrap .i64 v).tmod 100001
theorem wrap_pos {u : Int} (h : 0 ≤ u ∧ u ≤ 4294967295) : IntKind.wrap .i64 u = u := by
  simp [IntKind.wrap, IntKind.bits, IntKind.signed]
  omega
theorem vSp_b {u : Int} (h : 0 ≤ u ∧ u ≤ 4294967295) : 1 ≤ vSp u ∧ vSp u ≤ 100 := by
  unfold vSp
  rw [wrap_pos h]
  have a := Int.tmod_lt_of_pos u (show (0 : Int) < 100 by omega)
  have b := Int.tmod_nonneg 100 h.1
  omega
theorem vTk_b {v : Int} (h : 0 ≤ v ∧ v ≤ 4294967295) : 0 ≤ vTk v ∧ vTk v ≤ 100000 := by
  unfold vTk
  rw [wrap_pos h]
  have a := Int.tmod_lt_of_pos v (show (0 : Int) < 100001 by omega)
  have b := Int.tmod_nonneg 100001 h.1
  omega
def gd5 (l : List Pt) (p : List St) : Bool := if (if (if decide ((l.length : Int) > 6) then true else sPath l != 0) then true else decide ((p.length : Int) > 8)) then true else sProcR p != 0
theorem gd5_f {l : List Pt} {p : List St} (h : gd5 l p = false) : l.length ≤ 6 ∧ sPath l = 0 ∧ sProcS p = 0 := by
  rw [proc_eq]
  unfold gd5 at h
  by_cases h1 : (l.length : Int) > 6
  · simp [h1] at h
  · by_cases h2 : sPath l = 0
    · by_cases h3 : (p.length : Int) > 8
      · simp [h3] at h
      · by_cases h4 : sProcR p = 0
        · exact ⟨by omega, h2, h4⟩
        · simp [h4] at h
    · simp [h2] at h
def lvH (p : List St) : Int := (p.getD (p.length - 1) default).h
def atH (c : Int) (s : St) : St := ⟨s.a, c, s.p⟩
def lvl (p : List St) (i : Nat) : List St := (p.take i).map (atH (lvH p)) ++ p.drop i
def lev (p : List St) : List St := p.map (atH (lvH p))
theorem lev_len (p : List St) : (lev p).length = p.length := List.length_map _
theorem lev_at {p : List St} {i : Nat} (h : i < p.length) : (lev p).getD i default = atH (lvH p) (p.getD i default) := by
  unfold lev
  simp [List.getD_eq_getElem?_getD, h]
theorem lvl_end (p : List St) : lvl p p.length = lev p := by
  unfold lvl lev
  rw [List.take_length, List.drop_length, List.append_nil]
theorem lvl_len (p : List St) (i : Nat) : (lvl p i).length = p.length := by
  unfold lvl
  rw [List.length_append, List.length_map, List.length_take, List.length_drop]
  omega
theorem lvl_set {p : List St} {i : Nat} (h : i < p.length) : (lvl p i).set i (atH (lvH p) (p.getD i default)) = lvl p (i + 1) := by
  have hl : ((p.take i).map (atH (lvH p))).length = i := by rw [List.length_map, List.length_take]; omega
  have hg : p.getD i default = p[i] := by simp [List.getD_eq_getElem?_getD, h]
  unfold lvl
  rw [List.drop_eq_getElem_cons h, List.set_append, hl, if_neg (by omega), Nat.sub_self, List.set_cons_zero, hg, List.take_add_one, List.getElem?_eq_getElem h, List.map_append, List.append_assoc]
  rfl
theorem lvl_at {p : List St} {i : Nat} (h : i < p.length) : (lvl p i).getD i default = p.getD i default := by
  unfold lvl
  rw [List.getD_eq_getElem?_getD, List.getElem?_append, if_neg (by rw [List.length_map, List.length_take]; omega), List.length_map, List.length_take, List.getElem?_drop, show i + (i - min i p.length) = i by omega, List.getD_eq_getElem?_getD]
def loF (f : St → Int) (p : List St) : Nat → Int
  | 0 => f (p.getD 0 default)
  | i + 1 => minI (loF f p i) (f (p.getD i default))
def hiF (f : St → Int) (p : List St) : Nat → Int
  | 0 => f (p.getD 0 default)
  | i + 1 => maxI (hiF f p i) (f (p.getD i default))
theorem lo_le (f : St → Int) (p : List St) : ∀ n i, i < n → loF f p n ≤ f (p.getD i default)
  | 0, i, h => absurd h (by omega)
  | n + 1, i, h => by
    simp only [loF, minI]
    by_cases e : i = n
    · subst e
      split <;> omega
    · have := lo_le f p n i (by omega)
      split <;> omega
theorem hi_ge (f : St → Int) (p : List St) : ∀ n i, i < n → f (p.getD i default) ≤ hiF f p n
  | 0, i, h => absurd h (by omega)
  | n + 1, i, h => by
    simp only [hiF, maxI]
    by_cases e : i = n
    · subst e
      split <;> omega
    · have := hi_ge f p n i (by omega)
      split <;> omega
theorem step_b {p : List St} (hp : ProcOK p) {along : Int} : ∀ n i, n + i + 1 = p.length → (p.getD i default).a ≤ along →
    (sStepF (lev p) along n i).h = lvH p ∧ (sStepF (lev p) along n i).p = (sStepF p along n i).p ∧
    (loF (·.h) p p.length ≤ (sStepF p along n i).h ∧ (sStepF p along n i).h ≤ hiF (·.h) p p.length) ∧ (loF (·.p) p p.length ≤ (sStepF p along n i).p ∧ (sStepF p along n i).p ≤ hiF (·.p) p p.length)
  | 0, i, hn, ha => by
    have e1 : lastOf (p.map encSt).length = i := by unfold lastOf; rw [List.length_map]; omega
    have e2 : lastOf ((lev p).map encSt).length = i := by unfold lastOf; rw [List.length_map, lev_len]; omega
    have hi : i < p.length := by omega
    simp only [sStepF]
    rw [e1, e2, lev_at hi]
    exact ⟨rfl, rfl, ⟨lo_le (·.h) p _ i hi, hi_ge (·.h) p _ i hi⟩, ⟨lo_le (·.p) p _ i hi, hi_ge (·.p) p _ i hi⟩⟩
  | n + 1, i, hn, ha => by
    have h1 : i < p.length := by omega
    have h2 : i + 1 < p.length := by omega
    have hs := hp.s i h2
    have eL : sStepF (lev p) along (n + 1) i = (if decide (along < (p.getD (i + 1) default).a) = true then ⟨along, sBetween (lvH p) (lvH p) (along - (p.getD i default).a) ((p.getD (i + 1) default).a - (p.getD i default).a),
        sBetween (p.getD i default).p (p.getD (i + 1) default).p (along - (p.getD i default).a) ((p.getD (i + 1) default).a - (p.getD i default).a)⟩ else sStepF (lev p) along n (i + 1)) := by
      rw [sStepF, lev_at h1, lev_at h2]
      rfl
    have eR : sStepF p along (n + 1) i = (if decide (along < (p.getD (i + 1) default).a) = true then ⟨along, sBetween (p.getD i default).h (p.getD (i + 1) default).h (along - (p.getD i default).a) ((p.getD (i + 1) default).a - (p.getD i default).a),
        sBetween (p.getD i default).p (p.getD (i + 1) default).p (along - (p.getD i default).a) ((p.getD (i + 1) default).a - (p.getD i default).a)⟩ else sStepF p along n (i + 1)) := rfl
    rw [eL, eR]
    by_cases hc : along < (p.getD (i + 1) default).a
    · rw [if_pos (decide_eq_true hc), if_pos (decide_eq_true hc)]
      have w : 0 < (p.getD (i + 1) default).a - (p.getD i default).a := by omega
      have q0 : 0 ≤ along - (p.getD i default).a := by omega
      have q1 : along - (p.getD i default).a ≤ (p.getD (i + 1) default).a - (p.getD i default).a := by omega
      exact ⟨bet_same w, rfl, ⟨bet_lo w q0 q1 (lo_le (·.h) p _ i h1) (lo_le (·.h) p _ (i + 1) h2), bet_hi w q0 q1 (hi_ge (·.h) p _ i h1) (hi_ge (·.h) p _ (i + 1) h2)⟩,
        ⟨bet_lo w q0 q1 (lo_le (·.p) p _ i h1) (lo_le (·.p) p _ (i + 1) h2), bet_hi w q0 q1 (hi_ge (·.p) p _ i h1) (hi_ge (·.p) p _ (i + 1) h2)⟩⟩
    · have hx : ¬ decide (along < (p.getD (i + 1) default).a) = true := by simp only [decide_eq_true_eq]; exact hc
      rw [if_neg hx, if_neg hx]
      exact step_b hp n (i + 1) (by omega) (by omega)
theorem stp_b {p : List St} (hp : ProcOK p) {along : Int} (ha : 0 ≤ along) :
    (sStep (lev p) along).h = lvH p ∧ (sStep (lev p) along).p = (sStep p along).p ∧
    (loF (·.h) p p.length ≤ (sStep p along).h ∧ (sStep p along).h ≤ hiF (·.h) p p.length) ∧ (loF (·.p) p p.length ≤ (sStep p along).p ∧ (sStep p along).p ≤ hiF (·.p) p p.length) := by
  have hn := hp.n1
  have hz := hp.z
  unfold sStep
  rw [List.length_map, List.length_map, lev_len]
  exact step_b hp _ 0 (by omega) (by omega)
theorem lo_ge {f : St → Int} {p : List St} {c : Int} (h0 : 0 < p.length) (h : ∀ i, i < p.length → c ≤ f (p.getD i default)) : ∀ n, n ≤ p.length → c ≤ loF f p n
  | 0, _ => h 0 h0
  | n + 1, hn => by
    have a := lo_ge h0 h n (by omega)
    have b := h n (by omega)
    simp only [loF, minI]
    split <;> omega
theorem hi_le {f : St → Int} {p : List St} {c : Int} (h0 : 0 < p.length) (h : ∀ i, i < p.length → f (p.getD i default) ≤ c) : ∀ n, n ≤ p.length → hiF f p n ≤ c
  | 0, _ => h 0 h0
  | n + 1, hn => by
    have a := hi_le h0 h n (by omega)
    have b := h n (by omega)
    simp only [hiF, maxI]
    split <;> omega
theorem stp_ok {p : List St} (hp : ProcOK p) {along : Int} (ha : 0 ≤ along) : (0 ≤ (sStep p along).h ∧ (sStep p along).h ≤ 20000) ∧ (1 ≤ (sStep p along).p ∧ (sStep p along).p ≤ 100) := by
  have hn := hp.n1
  obtain ⟨_, _, ⟨a, b⟩, c, d⟩ := stp_b hp ha
  have e1 := lo_ge (f := (·.h)) (p := p) (c := 0) (by omega) (fun i hi => (hp.b i hi).2.2.1) p.length (Nat.le_refl _)
  have e2 := hi_le (f := (·.h)) (p := p) (c := 20000) (by omega) (fun i hi => (hp.b i hi).2.2.2.1) p.length (Nat.le_refl _)
  have e3 := lo_ge (f := (·.p)) (p := p) (c := 1) (by omega) (fun i hi => (hp.b i hi).2.2.2.2.1) p.length (Nat.le_refl _)
  have e4 := hi_le (f := (·.p)) (p := p) (c := 100) (by omega) (fun i hi => (hp.b i hi).2.2.2.2.2) p.length (Nat.le_refl _)
  omega
theorem lev_proc {p : List St} (h : sProcS p = 0) : sProcS (lev p) = 0 := by
  have hp := proc_ok h
  obtain ⟨h1, h2⟩ := ls_zero h
  rw [List.length_map] at h1 h2
  have hn := hp.n1
  have hH := (hp.b (p.length - 1) (by omega)).2.2
  unfold sProcS
  rw [List.length_map, lev_len, sLS, if_neg (by rw [h1]; decide), scan_end]
  intro k hk
  have h3 := h2 k hk
  have e : lastA (lev p) k = lastA p k := by
    cases k with
    | zero => rfl
    | succ k =>
      show ((lev p).getD k default).a = (p.getD k default).a
      rw [lev_at (by omega)]
      rfl
  unfold fProcS at h3 ⊢
  rw [e, lev_at hk]
  simp only [first_zero] at h3 ⊢
  refine ⟨h3.1, within_zero.2 ⟨hH.1, hH.2.1⟩, h3.2.2.1, h3.2.2.2⟩
def tO (l : List Pt) (sp : Int) (i : Nat) : Int := 0 - sFloor (0 - sAl l i) sp
def gT (l : List Pt) (sp : Int) (k : Nat) : Int := sWhen (if decide ((k : Int) > 0) = true then decide (tO l sp k ≤ tO l sp (prv k)) else false) 11
def sT (l : List Pt) (sp : Int) : Int := sLS 0 (gT l sp) l.length (sWhen (decide (tO l sp (l.length - 1) - tO l sp 0 > 1000)) 14)
def errE (l : List Pt) (sp : Int) : Int := sFirst [sWhen (decide (alB l l.length > 400000)) 4, sT l sp]
theorem first_in {P : Int → Prop} (h0 : P 0) : ∀ {l : List Int}, (∀ x, x ∈ l → P x) → P (sFirst l)
  | [], _ => h0
  | x :: l, h => by
    unfold sFirst
    split
    · exact h x (by simp)
    · exact first_in h0 fun y hy => h y (by simp [hy])
theorem errE_in (l : List Pt) (sp : Int) : errE l sp = 0 ∨ errE l sp = 4 ∨ errE l sp = 11 ∨ errE l sp = 14 := by
  have w : ∀ (b : Bool) (e : Int), sWhen b e = 0 ∨ sWhen b e = e := fun b e => by cases b <;> simp [sWhen]
  unfold errE
  refine first_in (P := fun x => x = 0 ∨ x = 4 ∨ x = 11 ∨ x = 14) (.inl rfl) fun x hx => ?_
  simp only [List.mem_cons, List.not_mem_nil, or_false] at hx
  rcases hx with rfl | rfl
  · have := w (decide (alB l l.length > 400000)) 4
    omega
  · unfold sT sLS
    rw [if_neg (by decide)]
    unfold sScan
    refine first_in (P := fun x => x = 0 ∨ x = 4 ∨ x = 11 ∨ x = 14) (.inl rfl) fun x hx => ?_
    rw [List.mem_append, List.mem_map, List.mem_singleton] at hx
    rcases hx with ⟨k, _, rfl⟩ | rfl
    · unfold gT
      have := w (if decide ((k : Int) > 0) = true then decide (tO l sp k ≤ tO l sp (prv k)) else false) 11
      omega
    · have := w (decide (tO l sp (l.length - 1) - tO l sp 0 > 1000)) 14
      omega
theorem fl_at {l : List Pt} {q : List St} {sp tk : Int} {i n : Nat} (h : i < n) : (flL l q sp tk n).getD i default = flFx l q sp tk i := by
  unfold flL
  simp [List.getD_eq_getElem?_getD, h]
theorem fl_len (l : List Pt) (q : List St) (sp tk : Int) (n : Nat) : (flL l q sp tk n).length = n := by
  unfold flL
  simp
theorem al_mono (l : List Pt) : ∀ i j, i ≤ j → sAl l i ≤ sAl l j
  | i, 0, h => by rw [show i = 0 by omega]; exact Int.le_refl _
  | i, j + 1, h => by
    by_cases e : i = j + 1
    · rw [e]; exact Int.le_refl _
    · have := al_mono l i j (by omega)
      have m : ∀ x : Int, 0 ≤ maxI x (0 - x) := fun x => by unfold maxI; split <;> omega
      have a := m (dX l j)
      have b := m (dY l j)
      simp only [sAl]
      omega
theorem tO_b {l : List Pt} {sp : Int} {i : Nat} (hs : 1 ≤ sp) (h0 : 0 ≤ sAl l i) (h : sAl l i ≤ 400000) : 0 ≤ tO l sp i ∧ tO l sp i ≤ 400000 := by
  have hf := floor_facts (n := 0 - sAl l i) (d := sp) (by omega)
  unfold tO
  generalize sFloor (0 - sAl l i) sp = F at *
  constructor
  · by_cases e : F ≤ 0
    · omega
    · have := Int.mul_le_mul (show 1 ≤ F by omega) hs (by omega) (by omega)
      omega
  · by_cases e : -400000 ≤ F
    · omega
    · have := Int.mul_le_mul (show 400001 ≤ -F by omega) hs (by omega) (by omega)
      rw [Int.neg_mul] at this
      have h2 : (F + 1) * sp = F * sp + sp := by rw [Int.add_mul, Int.one_mul]
      have h3 := Int.mul_le_mul (show 400000 ≤ -(F + 1) by omega) hs (by omega) (by omega)
      rw [Int.neg_mul, h2] at h3
      omega
theorem post_err {l : List Pt} {q : List St} {sp tk : Int} (hP : PathOK l) (hq : ProcOK q) (hs : 1 ≤ sp ∧ sp ≤ 1000) (ht : 0 ≤ tk ∧ tk ≤ 1000000) : sPost l q sp tk = errE l sp := by
  have hn := hP.n1
  have hn2 := hP.n2
  unfold sPost errE
  by_cases hal : alB l l.length > 400000
  · rw [decide_eq_true hal]
    rfl
  rw [decide_eq_false hal]
  have ea : alB l l.length = sAl l (l.length - 1) := by
    obtain ⟨m, hm⟩ : ∃ m, l.length = m + 1 := ⟨l.length - 1, by omega⟩
    rw [hm]
    rfl
  have hle : ∀ i, i < l.length → 0 ≤ sAl l i ∧ sAl l i ≤ 400000 := fun i hi => by
    have a := al_mono l i (l.length - 1) (by omega)
    have b := al_mono l 0 i (by omega)
    have c : sAl l 0 = 0 := rfl
    omega
  suffices hT : sTrackS (flL l q sp tk l.length) = sT l sp by rw [hT]
  unfold sTrackS sT
  rw [List.length_map, fl_len, show sLen l.length = 0 by
    unfold sLen
    rw [decide_eq_false (by omega), decide_eq_false (by omega)]
    rfl]
  have e1 : sSpan (flL l q sp tk l.length) = sWhen (decide (tO l sp (l.length - 1) - tO l sp 0 > 1000)) 14 := by
    unfold sSpan
    rw [List.length_map, fl_len, show lastOf l.length = l.length - 1 by unfold lastOf; omega, fl_at (by omega), fl_at (by omega)]
    congr 1
    rw [decide_eq_decide]
    unfold flFx tO
    simp only
    omega
  rw [e1]
  refine ls_congr fun k hk => ?_
  have hk' := hle k hk
  have ho := stp_ok hq hk'.1
  have hb := hP.b k hk
  have hto := tO_b hs.1 hk'.1 hk'.2
  unfold tO at hto
  unfold fTrackS gT
  rw [fl_at hk]
  have e2 : sFix (flFx l q sp tk k).t (flFx l q sp tk k).x (flFx l q sp tk k).y (flFx l q sp tk k).z (flFx l q sp tk k).p = 0 := by
    unfold sFix sPlace sPower flFx
    simp only [first_zero, within_zero]
    refine ⟨by omega, ⟨by omega, by omega, by omega, rfl⟩, by omega, rfl⟩
  rw [e2]
  have e3 : (if decide ((k : Int) > 0) = true then decide ((flFx l q sp tk k).t ≤ ((flL l q sp tk l.length).getD (prv k) default).t) else false) = (if decide ((k : Int) > 0) = true then decide (tO l sp k ≤ tO l sp (prv k)) else false) := by
    by_cases h0 : (k : Int) > 0
    · rw [if_pos (decide_eq_true h0), if_pos (decide_eq_true h0), fl_at (Nat.lt_of_le_of_lt (prv_le k) hk), decide_eq_decide]
      unfold flFx tO
      simp only
      omega
    · have hx : ¬ decide ((k : Int) > 0) = true := by simp only [decide_eq_true_eq]; exact h0
      rw [if_neg hx, if_neg hx]
  rw [e3, first_c, first_c, first_n, orE_0]
  rfl
theorem errE_al {l : List Pt} {sp : Int} (hP : PathOK l) (h : errE l sp = 0) : ∀ i, i < l.length → 0 ≤ sAl l i ∧ sAl l i ≤ 400000 := fun i hi => by
  unfold errE at h
  simp only [first_zero] at h
  have hal := of_decide_eq_false (when_z (by decide) h.1)
  have hn := hP.n1
  have ea : alB l l.length = sAl l (l.length - 1) := by
    obtain ⟨m, hm⟩ : ∃ m, l.length = m + 1 := ⟨l.length - 1, by omega⟩
    rw [hm]
    rfl
  have a := al_mono l i (l.length - 1) (by omega)
  have b := al_mono l 0 i (by omega)
  have c : sAl l 0 = 0 := rfl
  omega
theorem put_lvl {p : List St} {g : Nat} (h : g < p.length) : putRow ((lvl p g).map encSt) g 1 [.i (lvH p)] = (lvl p (g + 1)).map encSt := by
  unfold putRow
  rw [row_at encSt (by rw [lvl_len]; exact h), lvl_at h, ← lvl_set h, List.map_set]
  rfl
theorem flown_e {l : List Pt} {q : List St} {sp tk : Int} (h1 : sPath l = 0) (h2 : sProcS q = 0) (hs : 1 ≤ sp ∧ sp ≤ 1000) (ht : 0 ≤ tk ∧ tk ≤ 1000000) : sFlown l q sp tk = if errE l sp != 0 then ([], errE l sp) else (flL l q sp tk l.length, 0) := by
  have e : sPre l q sp tk = 0 := by
    unfold sPre
    simp only [first_zero, within_zero]
    exact ⟨h1, h2, ⟨hs.1, hs.2⟩, ⟨ht.1, by omega⟩, rfl⟩
  unfold sFlown
  rw [e, post_err (path_ok h1) (proc_ok h2) hs ht, if_neg (by decide)]
theorem track_z {l : List Pt} {q : List St} {sp tk : Int} (hP : PathOK l) (hq : ProcOK q) (hs : 1 ≤ sp ∧ sp ≤ 1000) (ht : 0 ≤ tk ∧ tk ≤ 1000000) (hE : errE l sp = 0) : sTrackS (flL l q sp tk l.length) = 0 := by
  rw [← post_err hP hq hs ht] at hE
  unfold sPost at hE
  simp only [first_zero] at hE
  exact hE.2.1
theorem sq_sum {a b D : Int} (h : maxI a (0 - a) + maxI b (0 - b) ≤ D) : a * a + b * b ≤ D * D := by
  have key : ∀ x y : Int, 0 ≤ x → 0 ≤ y → x + y ≤ D → x * x + y * y ≤ D * D := fun x y hx hy hxy => by
    have h1 := Int.mul_le_mul hxy hxy (by omega) (by omega)
    rw [Int.add_mul, Int.mul_add, Int.mul_add] at h1
    have h2 := Int.mul_nonneg hx hy
    have h3 := Int.mul_nonneg hy hx
    omega
  have ea : maxI a (0 - a) * maxI a (0 - a) = a * a ∧ 0 ≤ maxI a (0 - a) := by
    unfold maxI
    split
    · exact ⟨by rw [Int.zero_sub, Int.neg_mul_neg], by omega⟩
    · exact ⟨rfl, by omega⟩
  have eb : maxI b (0 - b) * maxI b (0 - b) = b * b ∧ 0 ≤ maxI b (0 - b) := by
    unfold maxI
    split
    · exact ⟨by rw [Int.zero_sub, Int.neg_mul_neg], by omega⟩
    · exact ⟨rfl, by omega⟩
  have := key _ _ ea.2 eb.2 h
  rwa [ea.1, eb.1] at this
theorem rep_self {l : List Pt} {p : List St} {sp tk : Int} (hP : PathOK l) (hp : sProcS p = 0) (hs : 1 ≤ sp ∧ sp ≤ 100) (ht : 0 ≤ tk ∧ tk ≤ 1000000) (hE : errE l sp = 0) : ∀ i, i < l.length → repL (flL l (lev p) sp tk l.length) (2 * sp) i = (flL l (lev p) sp tk l.length).take (i + 1)
  | 0, hi => by
    have hl := fl_len l (lev p) sp tk l.length
    generalize flL l (lev p) sp tk l.length = A at *
    match A, hl with
    | [], hl => rw [List.length_nil] at hl; omega
    | a :: A, _ => rfl
  | i + 1, hi => by
    have ih := rep_self hP hp hs ht hE i (by omega)
    have hO := proc_ok hp
    have hl := fl_len l (lev p) sp tk l.length
    have hz := track_z hP (proc_ok (lev_proc hp)) ⟨hs.1, by omega⟩ ht hE
    rw [track_eq] at hz
    have hup := (track_ok hz).1.up i (by rw [hl]; exact hi)
    rw [fl_at (by omega), fl_at hi] at hup
    have hlast : lastF (repL (flL l (lev p) sp tk l.length) (2 * sp) i) = flFx l (lev p) sp tk i := by
      rw [ih]
      unfold lastF
      rw [List.length_take, hl, show min (i + 1) l.length - 1 = i by omega, List.getD_eq_getElem?_getD, List.getElem?_take, if_pos (by omega), ← List.getD_eq_getElem?_getD, fl_at (by omega)]
    unfold repL
    rw [hlast, fl_at hi, ih]
    have a0 := al_mono l 0 i (by omega)
    have a1 := al_mono l 0 (i + 1) (by omega)
    have z0 : sAl l 0 = 0 := rfl
    have hD : sAl l (i + 1) = sAl l i + (maxI (dX l i) (0 - dX l i) + maxI (dY l i) (0 - dY l i)) := rfl
    have f0 := floor_facts (n := 0 - sAl l i) (d := sp) (by omega)
    have f1 := floor_facts (n := 0 - sAl l (i + 1)) (d := sp) (by omega)
    have hz1 := (stp_b hO (along := sAl l i) (by omega)).1
    have hz2 := (stp_b hO (along := sAl l (i + 1)) (by omega)).1
    have hle : sqF (flFx l (lev p) sp tk (i + 1)) (flFx l (lev p) sp tk i) ≤ 2 * sp * ((flFx l (lev p) sp tk (i + 1)).t - (flFx l (lev p) sp tk i).t) * (2 * sp * ((flFx l (lev p) sp tk (i + 1)).t - (flFx l (lev p) sp tk i).t)) := by
      unfold sqF
      unfold flFx at hup ⊢
      simp only at hup ⊢
      rw [hz1, hz2, Int.sub_self, Int.mul_zero, Int.add_zero]
      refine sq_sum ?_
      show maxI (dX l i) (0 - dX l i) + maxI (dY l i) (0 - dY l i) ≤ _
      generalize maxI (dX l i) (0 - dX l i) + maxI (dY l i) (0 - dY l i) = D at *
      generalize sFloor (0 - sAl l i) sp = F at *
      generalize sFloor (0 - sAl l (i + 1)) sp = G at *
      obtain ⟨d, rfl⟩ : ∃ d, F = G + d := ⟨F - G, by omega⟩
      have e : tk - G - (tk - (G + d)) = d := by omega
      rw [e]
      have h1 := Int.mul_le_mul_of_nonneg_left (show 1 ≤ d by omega) (show 0 ≤ sp by omega)
      rw [Int.add_mul] at f0
      rw [Int.mul_assoc]
      have h2 : d * sp = sp * d := Int.mul_comm _ _
      omega
    rw [if_pos (decide_eq_true hle)]
    rw [← fl_at (n := l.length) hi, List.take_add_one (i := i + 1), List.getD_eq_getElem?_getD, List.getElem?_eq_getElem (by rw [hl]; exact hi)]
    rfl
theorem rRep_self {l : List Pt} {p : List St} {sp tk : Int} (hP : PathOK l) (hp : sProcS p = 0) (hs : 1 ≤ sp ∧ sp ≤ 100) (ht : 0 ≤ tk ∧ tk ≤ 1000000) (hE : errE l sp = 0) :
    rRep (flL l (lev p) sp tk l.length) (2 * sp) = flL l (lev p) sp tk l.length ∧ chkRep (flL l (lev p) sp tk l.length) (2 * sp) = 0 := by
  have hz := track_z hP (proc_ok (lev_proc hp)) ⟨hs.1, by omega⟩ ht hE
  have hn := hP.n1
  have hl := fl_len l (lev p) sp tk l.length
  have hf : sFirst [sTrackS (flL l (lev p) sp tk l.length), sWithin (2 * sp) 1 1000] = 0 := by
    simp only [first_zero, within_zero]
    exact ⟨hz, ⟨by omega, by omega⟩, rfl⟩
  have hr := rep_self hP hp hs ht hE (l.length - 1) (by omega)
  have hr2 : repL (flL l (lev p) sp tk l.length) (2 * sp) ((flL l (lev p) sp tk l.length).length - 1) = flL l (lev p) sp tk l.length := by
    rw [hl, hr, List.take_of_length_le (by omega)]
  have hx : ¬ decide ((flL l (lev p) sp tk l.length).length < 2) = true := by
    rw [hl, decide_eq_true_eq]
    omega
  unfold rRep chkRep repR repE
  have h0 : ¬ ((0 : Int) != 0) = true := by decide
  rw [hf, if_neg h0, if_neg h0, hr2, if_neg hx, if_neg hx]
  exact ⟨rfl, rfl⟩
def fl0 (l : List Pt) (p : List St) (u v : Int) : List Fx := flL l (lev p) (vSp u) (vTk v) l.length
def fl7 (l : List Pt) (p : List St) (u v : Int) : List Fx := flL l (lev p) (vSp u) (vTk v + 7) l.length
def flC (l : List Pt) (p : List St) (u v : Int) : List Fx := flL l p (vSp u) (vTk v) l.length
end Go.Proofs.YtjhjmncjidbieaaGreatDoor
