/-
  What chapter 2's Flown returns. No condition but the theorems' own. What chapter 2's Flown of the reference returns. No condition but the theorems' own. The plain law of SourcePaths: what the program and the reference compute is the same. No condition but the theorems' own. SourcePaths returns true, if awake does. No condition but the theorems' own.
-/
import Derived.Test.YtjhjmncjidbieaaGreatDoorPB
import Derived.Test.YtjhjmncjidbieaaGreatDoorAvC
namespace Go.Proofs.YtjhjmncjidbieaaGreatDoor
open Go Go.Av Go.RowKit
theorem ls_zero {c : Int} {f : Nat → Int} {n : Nat} (h : sLS c f n 0 = 0) : c = 0 ∧ ∀ k, k < n → f k = 0 := by
  unfold sLS at h
  split at h
  · rename_i hc; rw [h] at hc; simp at hc
  · rename_i hc
    refine ⟨by simpa using hc, fun k => ?_⟩
    induction k using Nat.strongRecOn with
    | _ k ih =>
      intro hk
      by_cases e : f k = 0
      · exact e
      · rw [scan_hit hk (fun j hj => ih j hj (by omega)) e] at h
        exact absurd h e
structure PathOK (l : List Pt) : Prop where
  n1 : 2 ≤ l.length
  n2 : l.length ≤ 16
  b : ∀ i, i < l.length → -100000 ≤ (l.getD i default).x ∧ (l.getD i default).x ≤ 100000 ∧ -100000 ≤ (l.getD i default).y ∧ (l.getD i default).y ≤ 100000
theorem path_ok {l : List Pt} (h : sPath l = 0) : PathOK l := by
  obtain ⟨h1, h2⟩ := ls_zero h
  have hn := len_ge (n := (l.map encPt).length) (by rw [h1]; rfl)
  rw [List.length_map] at hn h2
  refine ⟨hn.1, hn.2, fun i hi => ?_⟩
  have := h2 i hi
  simp only [fPath, first_zero, within_zero] at this
  exact ⟨this.1.1, this.1.2, this.2.1.1, this.2.1.2⟩
theorem len8_ge {n : Nat} (h : sLen8 n = 0) : 2 ≤ n ∧ n ≤ 8 := by
  unfold sLen8 at h
  simp only [first_zero, sWhen] at h
  by_cases h1 : (n : Int) < 2
  · simp [h1] at h
  · by_cases h2 : (n : Int) > 8
    · simp [h2] at h
    · omega
theorem when_zero {b : Bool} {e : Int} (he : e ≠ 0) : sWhen b e = 0 ↔ b = false := by
  cases b <;> simp [sWhen, he]
theorem proc_ok {l : List St} (h : sProcS l = 0) : ProcOK l := by
  obtain ⟨h1, h2⟩ := ls_zero h
  have hn := len8_ge h1
  rw [List.length_map] at hn h2
  have key : ∀ i, i < l.length → (0 ≤ (l.getD i default).a ∧ (l.getD i default).a ≤ 400000) ∧ (0 ≤ (l.getD i default).h ∧ (l.getD i default).h ≤ 20000) ∧ (1 ≤ (l.getD i default).p ∧ (l.getD i default).p ≤ 100) ∧
      (if decide ((l.getD i default).a ≤ lastA l i) = true then true else if ((i : Int) == 0) = true then (l.getD i default).a != 0 else false) = false := by
    intro i hi
    have := h2 i hi
    simp only [fProcS, sPower, first_zero, within_zero, when_zero (show (11 : Int) ≠ 0 by decide)] at this
    exact ⟨this.1, this.2.1, this.2.2.1, this.2.2.2.1⟩
  refine ⟨hn.1, hn.2, fun i hi => ?_, fun i hi => ?_, ?_⟩
  · have := key i hi
    omega
  · have := (key (i + 1) hi).2.2.2
    have e : lastA l (i + 1) = (l.getD i default).a := rfl
    rw [e] at this
    by_cases hc : (l.getD (i + 1) default).a ≤ (l.getD i default).a
    · rw [decide_eq_true hc] at this; cases this
    · omega
  · have := (key 0 (by omega)).2.2.2
    have e : lastA l 0 = -1 := rfl
    rw [e] at this
    by_cases hc : (l.getD 0 default).a ≤ -1
    · rw [decide_eq_true hc] at this; cases this
    · rw [decide_eq_false hc] at this
      have h3 : ((l.getD 0 default).a != 0) = false := this
      exact bne_f h3
def dX (l : List Pt) (i : Nat) : Int := (l.getD (i + 1) default).x - (l.getD i default).x
def dY (l : List Pt) (i : Nat) : Int := (l.getD (i + 1) default).y - (l.getD i default).y
/-- The length at a point. -/
def sAl (l : List Pt) : Nat → Int
  | 0 => 0
  | i + 1 => sAl l i + (maxI (dX l i) (0 - dX l i) + maxI (dY l i) (0 - dY l i))
/-- The length ahead of a round. -/
def alB (l : List Pt) : Nat → Int
  | 0 => 0
  | i + 1 => sAl l i
theorem al_bound {l : List Pt} (h : PathOK l) : ∀ i, i < l.length → 0 ≤ sAl l i ∧ sAl l i ≤ 400000 * i
  | 0, _ => by simp [sAl]
  | i + 1, hi => by
    have ih := al_bound h i (by omega)
    have b1 := h.b i (by omega)
    have b2 := h.b (i + 1) hi
    have m1 : ∀ x : Int, -200000 ≤ x → x ≤ 200000 → 0 ≤ maxI x (0 - x) ∧ maxI x (0 - x) ≤ 200000 := fun x _ _ => by
      unfold maxI
      split <;> omega
    have m2 := m1 (dX l i) (by unfold dX; omega) (by unfold dX; omega)
    have m3 := m1 (dY l i) (by unfold dY; omega) (by unfold dY; omega)
    simp only [sAl]
    omega
def flFx (l : List Pt) (p : List St) (sp tk : Int) (i : Nat) : Fx := ⟨tk - sFloor (0 - sAl l i) sp, (l.getD i default).x, (l.getD i default).y, (sStep p (sAl l i)).h, (sStep p (sAl l i)).p⟩
def flL (l : List Pt) (p : List St) (sp tk : Int) (n : Nat) : List Fx := (List.range n).map (flFx l p sp tk)
def sPre (l : List Pt) (p : List St) (sp tk : Int) : Int := sFirst [sPath l, sProcS p, sWithin sp 1 1000, sWithin tk 0 100000000]
def sPost (l : List Pt) (p : List St) (sp tk : Int) : Int := sFirst [sWhen (decide (alB l l.length > 400000)) 4, sTrackS (flL l p sp tk l.length)]
def sFlown (l : List Pt) (p : List St) (sp tk : Int) : List Fx × Int :=
  if sPre l p sp tk != 0 then ([], sPre l p sp tk) else if sPost l p sp tk != 0 then ([], sPost l p sp tk) else (flL l p sp tk l.length, 0)
def spD (l : List Pt) (p : List St) (fl : List Fx) : Nat → List AV → Option AV
  | 88, _ => some (.i (sPath l))
  | 22, _ => some (.i (sProcS p))
  | 90, [_, .int _ along] => some (.agg (encSt (sStep p along)))
  | 76, _ => some (.i (sTrackS fl))
  | n, x => spC n x
def la14 (l : List Pt) (p : List St) (sp tk : Int) : LA := {
  pre := [.own 11 83 5, .ren 20 21, .keep [0, 1, 2, 3, 11, 12, 31, 32, 33] [20], .bound 21], post := [.ren 20 53, .keep [0, 1, 2, 3, 11, 12, 31, 32, 33] [20], .bound 21]
  Gh := Nat
  st := fun i => ⟨[(0, .sl 2 (l.map encPt)), (1, .sl 3 (p.map encSt)), (2, .i sp), (3, .i tk), (11, .own 20 ((flL l p sp tk i).map encFx).length), (12, .i (alB l i)), (31, .sl 2 (l.map encPt)), (32, .i (l.map encPt).length), (33, .i i)], [(20, .buf 83 5 ((flL l p sp tk i).map encFx))], 21⟩
  ok := fun i => i ≤ l.length
  ms := fun i => l.length - i }
def gs14 (i : Nat) : List GS := if i.beq 3 then [.nil 8 5] else if i.beq 17 then [.nil 8 5] else if i.beq 11 then [.keep [0, 1, 2, 3, 11, 12, 13, 14, 31, 32, 33] [20, 25], .bound 30] else []
def B14 (l : List Pt) (p : List St) (sp tk : Int) (rds : List (Nat × Nat × (List AV → Option AV))) : BA :=
  { mkB (spD l p (flL l p sp tk l.length)) 14 rds (fun i => if i.beq 0 then some (la14 l p sp tk) else none) with gs := gs14 }
theorem c14 (l : List Pt) (p : List St) (sp tk : Int) (hl : l.length ≤ 1000) (hp : p.length ≤ 1000) : PCall Tryz.prog G0 14 [.sl 2 (l.map encPt), .sl 3 (p.map encSt), .i sp, .i tk] (.tup [.sl 5 ((sFlown l p sp tk).1.map encFx), .i (sFlown l p sp tk).2]) := by
  have key :
      PCall Tryz.prog G0 (88 : Nat) [AV.sl (2 : Nat) (List.map encPt l)] (AV.int IntKind.i64 (sPath l)) ∧
      PCall Tryz.prog G0 (22 : Nat) [AV.sl (3 : Nat) (List.map encSt p)] (AV.int IntKind.i64 (sProcS p)) ∧
      PCall Tryz.prog G0 (89 : Nat)
      [AV.int IntKind.i64 sp, AV.int IntKind.i64 (1 : Int), AV.int IntKind.i64 (1000 : Int)]
      (AV.int IntKind.i64 (sWithin sp (1 : Int) (1000 : Int))) ∧
      PCall Tryz.prog G0 (89 : Nat)
      [AV.int IntKind.i64 tk, AV.int IntKind.i64 (0 : Int), AV.int IntKind.i64 (100000000 : Int)]
      (AV.int IntKind.i64 (sWithin tk (0 : Int) (100000000 : Int))) ∧
      PCall Tryz.prog G0 (87 : Nat)
      [AV.sl (1 : Nat)
      [[AV.int IntKind.i64 (sPath l)], [AV.int IntKind.i64 (sProcS p)],
      [AV.int IntKind.i64 (sWithin sp (1 : Int) (1000 : Int))],
      [AV.int IntKind.i64 (sWithin tk (0 : Int) (100000000 : Int))]]]
      (AV.int IntKind.i64
      (sFirst
      [hdI [AV.int IntKind.i64 (sPath l)], hdI [AV.int IntKind.i64 (sProcS p)],
      hdI [AV.int IntKind.i64 (sWithin sp (1 : Int) (1000 : Int))],
      hdI [AV.int IntKind.i64 (sWithin tk (0 : Int) (100000000 : Int))]])) ∧
      ((sFirst
      [hdI [AV.int IntKind.i64 (sPath l)], hdI [AV.int IntKind.i64 (sProcS p)],
      hdI [AV.int IntKind.i64 (sWithin sp (1 : Int) (1000 : Int))],
      hdI [AV.int IntKind.i64 (sWithin tk (0 : Int) (100000000 : Int))]] !=
      (0 : Int)) =
      true →
      AV.tup
      [AV.sl (5 : Nat) [],
      AV.int IntKind.i64
      (sFirst
      [hdI [AV.int IntKind.i64 (sPath l)], hdI [AV.int IntKind.i64 (sProcS p)],
      hdI [AV.int IntKind.i64 (sWithin sp (1 : Int) (1000 : Int))],
      hdI [AV.int IntKind.i64 (sWithin tk (0 : Int) (100000000 : Int))]])] =
      AV.tup
      [AV.sl (5 : Nat) (List.map encFx (sFlown l p sp tk).fst),
      AV.int IntKind.i64 (sFlown l p sp tk).snd]) ∧
      ((sFirst
      [hdI [AV.int IntKind.i64 (sPath l)], hdI [AV.int IntKind.i64 (sProcS p)],
      hdI [AV.int IntKind.i64 (sWithin sp (1 : Int) (1000 : Int))],
      hdI [AV.int IntKind.i64 (sWithin tk (0 : Int) (100000000 : Int))]] !=
      (0 : Int)) =
      false →
      (∃ (g : Nat),
      g ≤ l.length ∧
      AS.mk
      [((0 : Nat), AV.sl (2 : Nat) (List.map encPt l)),
      ((1 : Nat), AV.sl (3 : Nat) (List.map encSt p)), ((2 : Nat), AV.int IntKind.i64 sp),
      ((3 : Nat), AV.int IntKind.i64 tk), ((11 : Nat), AV.own (20 : Nat) (0 : Nat)),
      ((12 : Nat), AV.int IntKind.i64 (0 : Int)),
      ((31 : Nat), AV.sl (2 : Nat) (List.map encPt l)),
      ((32 : Nat), AV.int IntKind.i64 (↑(List.map encPt l).length : Int)),
      ((33 : Nat), AV.int IntKind.i64 (0 : Int))]
      [((20 : Nat), ABlk.buf (83 : Nat) (5 : Nat) [])] (21 : Nat) =
      AS.mk
      [((0 : Nat), AV.sl (2 : Nat) (List.map encPt l)),
      ((1 : Nat), AV.sl (3 : Nat) (List.map encSt p)), ((2 : Nat), AV.int IntKind.i64 sp),
      ((3 : Nat), AV.int IntKind.i64 tk),
      ((11 : Nat), AV.own (20 : Nat) (List.map encFx (flL l p sp tk g)).length),
      ((12 : Nat), AV.int IntKind.i64 (alB l g)),
      ((31 : Nat), AV.sl (2 : Nat) (List.map encPt l)),
      ((32 : Nat), AV.int IntKind.i64 (↑(List.map encPt l).length : Int)),
      ((33 : Nat), AV.int IntKind.i64 (↑g : Int))]
      [((20 : Nat), ABlk.buf (83 : Nat) (5 : Nat) (List.map encFx (flL l p sp tk g)))] (21 : Nat)) ∧
      ∀ (g : Nat),
      g ≤ l.length →
      (decide ((↑g : Int) < (↑(List.map encPt l).length : Int)) = true →
      (0 : Int) ≤ (↑g : Int) ∧
      (↑g : Int) < (↑(List.map encPt l).length : Int) ∧
      AV.agg (nthR (List.map encPt l) (↑g : Int).toNat) =
      AV.agg
      [AV.int IntKind.i64 (l.getD (↑g : Int).toNat default).x,
      AV.int IntKind.i64 (l.getD (↑g : Int).toNat default).y] ∧
      (decide ((↑g : Int) > (0 : Int)) = true →
      In64 ((↑g : Int) - (1 : Int)) ∧
      (0 : Int) ≤ (↑g : Int) - (1 : Int) ∧
      (↑g : Int) - (1 : Int) < (↑(List.map encPt l).length : Int) ∧
      In64
      ((l.getD (↑g : Int).toNat default).x -
      (l.getD ((↑g : Int) - (1 : Int)).toNat default).x) ∧
      In64 ((↑g : Int) - (1 : Int)) ∧
      (0 : Int) ≤ (↑g : Int) - (1 : Int) ∧
      (↑g : Int) - (1 : Int) < (↑(List.map encPt l).length : Int) ∧
      In64
      ((l.getD (↑g : Int).toNat default).y -
      (l.getD ((↑g : Int) - (1 : Int)).toNat default).y) ∧
      nth (nthR (List.map encPt l) ((↑g : Int) - (1 : Int)).toNat)
      (0 : Nat) =
      AV.int IntKind.i64
      (l.getD ((↑g : Int) - (1 : Int)).toNat default).x ∧
      nth (nthR (List.map encPt l) ((↑g : Int) - (1 : Int)).toNat)
      (1 : Nat) =
      AV.int IntKind.i64
      (l.getD ((↑g : Int) - (1 : Int)).toNat default).y ∧
      In64
      ((0 : Int) -
      ((l.getD (↑g : Int).toNat default).x -
      (l.getD ((↑g : Int) - (1 : Int)).toNat default).x)) ∧
      In64
      ((0 : Int) -
      ((l.getD (↑g : Int).toNat default).y -
      (l.getD ((↑g : Int) - (1 : Int)).toNat default).y)) ∧
      In64
      (maxI
      ((l.getD (↑g : Int).toNat default).x -
      (l.getD ((↑g : Int) - (1 : Int)).toNat default).x)
      ((0 : Int) -
      ((l.getD (↑g : Int).toNat default).x -
      (l.getD ((↑g : Int) - (1 : Int)).toNat
      default).x)) +
      maxI
      ((l.getD (↑g : Int).toNat default).y -
      (l.getD ((↑g : Int) - (1 : Int)).toNat default).y)
      ((0 : Int) -
      ((l.getD (↑g : Int).toNat default).y -
      (l.getD ((↑g : Int) - (1 : Int)).toNat
      default).y))) ∧
      In64
      (alB l g +
      (maxI
      ((l.getD (↑g : Int).toNat default).x -
      (l.getD ((↑g : Int) - (1 : Int)).toNat
      default).x)
      ((0 : Int) -
      ((l.getD (↑g : Int).toNat default).x -
      (l.getD ((↑g : Int) - (1 : Int)).toNat
      default).x)) +
      maxI
      ((l.getD (↑g : Int).toNat default).y -
      (l.getD ((↑g : Int) - (1 : Int)).toNat
      default).y)
      ((0 : Int) -
      ((l.getD (↑g : Int).toNat default).y -
      (l.getD ((↑g : Int) - (1 : Int)).toNat
      default).y)))) ∧
      PCall Tryz.prog G0 (90 : Nat)
      [AV.sl (3 : Nat) (List.map encSt p),
      AV.int IntKind.i64
      (alB l g +
      (maxI
      ((l.getD (↑g : Int).toNat default).x -
      (l.getD ((↑g : Int) - (1 : Int)).toNat
      default).x)
      ((0 : Int) -
      ((l.getD (↑g : Int).toNat default).x -
      (l.getD ((↑g : Int) - (1 : Int)).toNat
      default).x)) +
      maxI
      ((l.getD (↑g : Int).toNat default).y -
      (l.getD ((↑g : Int) - (1 : Int)).toNat
      default).y)
      ((0 : Int) -
      ((l.getD (↑g : Int).toNat default).y -
      (l.getD ((↑g : Int) - (1 : Int)).toNat
      default).y))))]
      (AV.agg
      [AV.int IntKind.i64
      (sStep p
      (alB l g +
      (maxI
      ((l.getD (↑g : Int).toNat
      default).x -
      (l.getD
      ((↑g : Int) - (1 : Int)).toNat
      default).x)
      ((0 : Int) -
      ((l.getD (↑g : Int).toNat
      default).x -
      (l.getD
      ((↑g : Int) -
      (1 : Int)).toNat
      default).x)) +
      maxI
      ((l.getD (↑g : Int).toNat
      default).y -
      (l.getD
      ((↑g : Int) - (1 : Int)).toNat
      default).y)
      ((0 : Int) -
      ((l.getD (↑g : Int).toNat
      default).y -
      (l.getD
      ((↑g : Int) -
      (1 : Int)).toNat
      default).y))))).a,
      AV.int IntKind.i64
      (sStep p
      (alB l g +
      (maxI
      ((l.getD (↑g : Int).toNat
      default).x -
      (l.getD
      ((↑g : Int) - (1 : Int)).toNat
      default).x)
      ((0 : Int) -
      ((l.getD (↑g : Int).toNat
      default).x -
      (l.getD
      ((↑g : Int) -
      (1 : Int)).toNat
      default).x)) +
      maxI
      ((l.getD (↑g : Int).toNat
      default).y -
      (l.getD
      ((↑g : Int) - (1 : Int)).toNat
      default).y)
      ((0 : Int) -
      ((l.getD (↑g : Int).toNat
      default).y -
      (l.getD
      ((↑g : Int) -
      (1 : Int)).toNat
      default).y))))).h,
      AV.int IntKind.i64
      (sStep p
      (alB l g +
      (maxI
      ((l.getD (↑g : Int).toNat
      default).x -
      (l.getD
      ((↑g : Int) - (1 : Int)).toNat
      default).x)
      ((0 : Int) -
      ((l.getD (↑g : Int).toNat
      default).x -
      (l.getD
      ((↑g : Int) -
      (1 : Int)).toNat
      default).x)) +
      maxI
      ((l.getD (↑g : Int).toNat
      default).y -
      (l.getD
      ((↑g : Int) - (1 : Int)).toNat
      default).y)
      ((0 : Int) -
      ((l.getD (↑g : Int).toNat
      default).y -
      (l.getD
      ((↑g : Int) -
      (1 : Int)).toNat
      default).y))))).p]) ∧
      In64
      ((0 : Int) -
      (alB l g +
      (maxI
      ((l.getD (↑g : Int).toNat default).x -
      (l.getD ((↑g : Int) - (1 : Int)).toNat
      default).x)
      ((0 : Int) -
      ((l.getD (↑g : Int).toNat default).x -
      (l.getD ((↑g : Int) - (1 : Int)).toNat
      default).x)) +
      maxI
      ((l.getD (↑g : Int).toNat default).y -
      (l.getD ((↑g : Int) - (1 : Int)).toNat
      default).y)
      ((0 : Int) -
      ((l.getD (↑g : Int).toNat default).y -
      (l.getD ((↑g : Int) - (1 : Int)).toNat
      default).y))))) ∧
      In64
      (tk -
      sFloor
      ((0 : Int) -
      (alB l g +
      (maxI
      ((l.getD (↑g : Int).toNat
      default).x -
      (l.getD
      ((↑g : Int) - (1 : Int)).toNat
      default).x)
      ((0 : Int) -
      ((l.getD (↑g : Int).toNat
      default).x -
      (l.getD
      ((↑g : Int) -
      (1 : Int)).toNat
      default).x)) +
      maxI
      ((l.getD (↑g : Int).toNat
      default).y -
      (l.getD
      ((↑g : Int) - (1 : Int)).toNat
      default).y)
      ((0 : Int) -
      ((l.getD (↑g : Int).toNat
      default).y -
      (l.getD
      ((↑g : Int) -
      (1 : Int)).toNat
      default).y)))))
      sp) ∧
      (List.map encFx (flL l p sp tk g)).length +
      (1 : Nat) ≤
      (9223372036854775807 : Nat) ∧
      ((List.map encFx (flL l p sp tk g)).length +
      (1 : Nat)) *
      (40 : Nat) ≤
      (140737488355328 : Nat) ∧
      PCall Tryz.prog G0 (91 : Nat)
      [AV.int IntKind.i64
      ((0 : Int) -
      (alB l g +
      (maxI
      ((l.getD (↑g : Int).toNat
      default).x -
      (l.getD
      ((↑g : Int) -
      (1 : Int)).toNat
      default).x)
      ((0 : Int) -
      ((l.getD (↑g : Int).toNat
      default).x -
      (l.getD
      ((↑g : Int) -
      (1 : Int)).toNat
      default).x)) +
      maxI
      ((l.getD (↑g : Int).toNat
      default).y -
      (l.getD
      ((↑g : Int) -
      (1 : Int)).toNat
      default).y)
      ((0 : Int) -
      ((l.getD (↑g : Int).toNat
      default).y -
      (l.getD
      ((↑g : Int) -
      (1 : Int)).toNat
      default).y))))),
      AV.int IntKind.i64 sp]
      (AV.int IntKind.i64
      (sFloor
      ((0 : Int) -
      (alB l g +
      (maxI
      ((l.getD (↑g : Int).toNat
      default).x -
      (l.getD
      ((↑g : Int) -
      (1 : Int)).toNat
      default).x)
      ((0 : Int) -
      ((l.getD (↑g : Int).toNat
      default).x -
      (l.getD
      ((↑g : Int) -
      (1 : Int)).toNat
      default).x)) +
      maxI
      ((l.getD (↑g : Int).toNat
      default).y -
      (l.getD
      ((↑g : Int) -
      (1 : Int)).toNat
      default).y)
      ((0 : Int) -
      ((l.getD (↑g : Int).toNat
      default).y -
      (l.getD
      ((↑g : Int) -
      (1 : Int)).toNat
      default).y)))))
      sp)) ∧
      In64 ((↑g : Int) + (1 : Int)) ∧
      ∃ (g' : Nat),
      g' ≤ l.length ∧
      l.length - g' < l.length - g ∧
      AS.mk
      [((0 : Nat),
      AV.sl (2 : Nat)
      (List.map encPt l)),
      ((1 : Nat),
      AV.sl (3 : Nat)
      (List.map encSt p)),
      ((2 : Nat),
      AV.int IntKind.i64 sp),
      ((3 : Nat),
      AV.int IntKind.i64 tk),
      ((11 : Nat),
      AV.own (20 : Nat)
      ((List.map encFx
      (flL l p sp tk
      g)).length +
      (1 : Nat))),
      ((12 : Nat),
      AV.int IntKind.i64
      (alB l g +
      (maxI
      ((l.getD
      (↑g :
      Int).toNat
      default).x -
      (l.getD
      ((↑g : Int) -
      (1 :
      Int)).toNat
      default).x)
      ((0 : Int) -
      ((l.getD
      (↑g :
      Int).toNat
      default).x -
      (l.getD
      ((↑g :
      Int) -
      (1 :
      Int)).toNat
      default).x)) +
      maxI
      ((l.getD
      (↑g :
      Int).toNat
      default).y -
      (l.getD
      ((↑g : Int) -
      (1 :
      Int)).toNat
      default).y)
      ((0 : Int) -
      ((l.getD
      (↑g :
      Int).toNat
      default).y -
      (l.getD
      ((↑g :
      Int) -
      (1 :
      Int)).toNat
      default).y))))),
      ((31 : Nat),
      AV.sl (2 : Nat)
      (List.map encPt l)),
      ((32 : Nat),
      AV.int IntKind.i64
      (↑(List.map encPt
      l).length :
      Int)),
      ((33 : Nat),
      AV.int IntKind.i64
      ((↑g : Int) + (1 : Int)))]
      [((20 : Nat),
      ABlk.buf (83 : Nat)
      (5 : Nat)
      (List.map encFx
      (flL l p sp tk g) ++
      [[AV.int IntKind.i64
      (tk -
      sFloor
      ((0 : Int) -
      (alB l g +
      (maxI
      ((l.getD
      (↑g :
      Int).toNat
      default).x -
      (l.getD
      ((↑g :
      Int) -
      (1 :
      Int)).toNat
      default).x)
      ((0 :
      Int) -
      ((l.getD
      (↑g :
      Int).toNat
      default).x -
      (l.getD
      ((↑g :
      Int) -
      (1 :
      Int)).toNat
      default).x)) +
      maxI
      ((l.getD
      (↑g :
      Int).toNat
      default).y -
      (l.getD
      ((↑g :
      Int) -
      (1 :
      Int)).toNat
      default).y)
      ((0 :
      Int) -
      ((l.getD
      (↑g :
      Int).toNat
      default).y -
      (l.getD
      ((↑g :
      Int) -
      (1 :
      Int)).toNat
      default).y)))))
      sp),
      AV.int IntKind.i64
      (l.getD
      (↑g :
      Int).toNat
      default).x,
      AV.int IntKind.i64
      (l.getD
      (↑g :
      Int).toNat
      default).y,
      AV.int IntKind.i64
      (sStep p
      (alB l g +
      (maxI
      ((l.getD
      (↑g :
      Int).toNat
      default).x -
      (l.getD
      ((↑g :
      Int) -
      (1 :
      Int)).toNat
      default).x)
      ((0 :
      Int) -
      ((l.getD
      (↑g :
      Int).toNat
      default).x -
      (l.getD
      ((↑g :
      Int) -
      (1 :
      Int)).toNat
      default).x)) +
      maxI
      ((l.getD
      (↑g :
      Int).toNat
      default).y -
      (l.getD
      ((↑g :
      Int) -
      (1 :
      Int)).toNat
      default).y)
      ((0 :
      Int) -
      ((l.getD
      (↑g :
      Int).toNat
      default).y -
      (l.getD
      ((↑g :
      Int) -
      (1 :
      Int)).toNat
      default).y))))).h,
      AV.int IntKind.i64
      (sStep p
      (alB l g +
      (maxI
      ((l.getD
      (↑g :
      Int).toNat
      default).x -
      (l.getD
      ((↑g :
      Int) -
      (1 :
      Int)).toNat
      default).x)
      ((0 :
      Int) -
      ((l.getD
      (↑g :
      Int).toNat
      default).x -
      (l.getD
      ((↑g :
      Int) -
      (1 :
      Int)).toNat
      default).x)) +
      maxI
      ((l.getD
      (↑g :
      Int).toNat
      default).y -
      (l.getD
      ((↑g :
      Int) -
      (1 :
      Int)).toNat
      default).y)
      ((0 :
      Int) -
      ((l.getD
      (↑g :
      Int).toNat
      default).y -
      (l.getD
      ((↑g :
      Int) -
      (1 :
      Int)).toNat
      default).y))))).p]]))]
      (21 : Nat) =
      AS.mk
      [((0 : Nat),
      AV.sl (2 : Nat)
      (List.map encPt l)),
      ((1 : Nat),
      AV.sl (3 : Nat)
      (List.map encSt p)),
      ((2 : Nat),
      AV.int IntKind.i64 sp),
      ((3 : Nat),
      AV.int IntKind.i64 tk),
      ((11 : Nat),
      AV.own (20 : Nat)
      (List.map encFx
      (flL l p sp tk
      g')).length),
      ((12 : Nat),
      AV.int IntKind.i64
      (alB l g')),
      ((31 : Nat),
      AV.sl (2 : Nat)
      (List.map encPt l)),
      ((32 : Nat),
      AV.int IntKind.i64
      (↑(List.map encPt
      l).length :
      Int)),
      ((33 : Nat),
      AV.int IntKind.i64
      (↑g' : Int))]
      [((20 : Nat),
      ABlk.buf (83 : Nat)
      (5 : Nat)
      (List.map encFx
      (flL l p sp tk g')))]
      (21 : Nat)) ∧
      (decide ((↑g : Int) > (0 : Int)) = false →
      PCall Tryz.prog G0 (90 : Nat)
      [AV.sl (3 : Nat) (List.map encSt p), AV.int IntKind.i64 (alB l g)]
      (AV.agg
      [AV.int IntKind.i64 (sStep p (alB l g)).a,
      AV.int IntKind.i64 (sStep p (alB l g)).h,
      AV.int IntKind.i64 (sStep p (alB l g)).p]) ∧
      In64 ((0 : Int) - alB l g) ∧
      In64 (tk - sFloor ((0 : Int) - alB l g) sp) ∧
      (List.map encFx (flL l p sp tk g)).length + (1 : Nat) ≤
      (9223372036854775807 : Nat) ∧
      ((List.map encFx (flL l p sp tk g)).length + (1 : Nat)) * (40 : Nat) ≤
      (140737488355328 : Nat) ∧
      PCall Tryz.prog G0 (91 : Nat)
      [AV.int IntKind.i64 ((0 : Int) - alB l g), AV.int IntKind.i64 sp]
      (AV.int IntKind.i64 (sFloor ((0 : Int) - alB l g) sp)) ∧
      In64 ((↑g : Int) + (1 : Int)) ∧
      ∃ (g' : Nat),
      g' ≤ l.length ∧
      l.length - g' < l.length - g ∧
      AS.mk
      [((0 : Nat), AV.sl (2 : Nat) (List.map encPt l)),
      ((1 : Nat), AV.sl (3 : Nat) (List.map encSt p)),
      ((2 : Nat), AV.int IntKind.i64 sp),
      ((3 : Nat), AV.int IntKind.i64 tk),
      ((11 : Nat),
      AV.own (20 : Nat)
      ((List.map encFx (flL l p sp tk g)).length +
      (1 : Nat))),
      ((12 : Nat), AV.int IntKind.i64 (alB l g)),
      ((31 : Nat), AV.sl (2 : Nat) (List.map encPt l)),
      ((32 : Nat),
      AV.int IntKind.i64 (↑(List.map encPt l).length : Int)),
      ((33 : Nat), AV.int IntKind.i64 ((↑g : Int) + (1 : Int)))]
      [((20 : Nat),
      ABlk.buf (83 : Nat) (5 : Nat)
      (List.map encFx (flL l p sp tk g) ++
      [[AV.int IntKind.i64
      (tk - sFloor ((0 : Int) - alB l g) sp),
      AV.int IntKind.i64
      (l.getD (↑g : Int).toNat default).x,
      AV.int IntKind.i64
      (l.getD (↑g : Int).toNat default).y,
      AV.int IntKind.i64 (sStep p (alB l g)).h,
      AV.int IntKind.i64 (sStep p (alB l g)).p]]))]
      (21 : Nat) =
      AS.mk
      [((0 : Nat), AV.sl (2 : Nat) (List.map encPt l)),
      ((1 : Nat), AV.sl (3 : Nat) (List.map encSt p)),
      ((2 : Nat), AV.int IntKind.i64 sp),
      ((3 : Nat), AV.int IntKind.i64 tk),
      ((11 : Nat),
      AV.own (20 : Nat)
      (List.map encFx (flL l p sp tk g')).length),
      ((12 : Nat), AV.int IntKind.i64 (alB l g')),
      ((31 : Nat), AV.sl (2 : Nat) (List.map encPt l)),
      ((32 : Nat),
      AV.int IntKind.i64 (↑(List.map encPt l).length : Int)),
      ((33 : Nat), AV.int IntKind.i64 (↑g' : Int))]
      [((20 : Nat),
      ABlk.buf (83 : Nat) (5 : Nat)
      (List.map encFx (flL l p sp tk g')))]
      (21 : Nat))) ∧
      (decide ((↑g : Int) < (↑(List.map encPt l).length : Int)) = false →
      PCall Tryz.prog G0 (92 : Nat)
      [AV.bool (decide (alB l g > (400000 : Int))), AV.int IntKind.i64 (4 : Int)]
      (AV.int IntKind.i64 (sWhen (decide (alB l g > (400000 : Int))) (4 : Int))) ∧
      PCall Tryz.prog G0 (76 : Nat) [AV.sl (5 : Nat) (List.map encFx (flL l p sp tk g))]
      (AV.int IntKind.i64 (sTrackS (flL l p sp tk l.length))) ∧
      PCall Tryz.prog G0 (87 : Nat)
      [AV.sl (1 : Nat)
      [[AV.int IntKind.i64 (sWhen (decide (alB l g > (400000 : Int))) (4 : Int))],
      [AV.int IntKind.i64 (sTrackS (flL l p sp tk l.length))]]]
      (AV.int IntKind.i64
      (sFirst
      [hdI [AV.int IntKind.i64 (sWhen (decide (alB l g > (400000 : Int))) (4 : Int))],
      hdI [AV.int IntKind.i64 (sTrackS (flL l p sp tk l.length))]])) ∧
      ((sFirst
      [hdI
      [AV.int IntKind.i64
      (sWhen (decide (alB l g > (400000 : Int))) (4 : Int))],
      hdI [AV.int IntKind.i64 (sTrackS (flL l p sp tk l.length))]] !=
      (0 : Int)) =
      true →
      AV.tup
      [AV.sl (5 : Nat) [],
      AV.int IntKind.i64
      (sFirst
      [hdI
      [AV.int IntKind.i64
      (sWhen (decide (alB l g > (400000 : Int))) (4 : Int))],
      hdI [AV.int IntKind.i64 (sTrackS (flL l p sp tk l.length))]])] =
      AV.tup
      [AV.sl (5 : Nat) (List.map encFx (sFlown l p sp tk).fst),
      AV.int IntKind.i64 (sFlown l p sp tk).snd]) ∧
      ((sFirst
      [hdI
      [AV.int IntKind.i64
      (sWhen (decide (alB l g > (400000 : Int))) (4 : Int))],
      hdI [AV.int IntKind.i64 (sTrackS (flL l p sp tk l.length))]] !=
      (0 : Int)) =
      false →
      AV.tup
      [AV.sl (5 : Nat) (List.map encFx (flL l p sp tk g)),
      AV.int IntKind.i64 (0 : Int)] =
      AV.tup
      [AV.sl (5 : Nat) (List.map encFx (sFlown l p sp tk).fst),
      AV.int IntKind.i64 (sFlown l p sp tk).snd]))) := by
    refine ⟨c88 l (by simp; omega), c22 p (by simp; omega), c89 _ _ _, c89 _ _ _, c87 [_, _, _, _] (by simp), fun h => ?_, fun h => ?_⟩
    · have h' : (sPre l p sp tk != 0) = true := h
      rw [sFlown, if_pos h']; rfl
    · have h' : sPre l p sp tk = 0 := bne_f h
      have hb := h'
      simp only [sPre, first_zero, within_zero] at hb
      obtain ⟨hb1, hb2, ⟨hs1, hs2⟩, ⟨ht1, ht2⟩, -⟩ := hb
      have hP := path_ok hb1
      have hv := proc_ok hb2
      have hn1 := hP.n1
      have hn2 := hP.n2
      simp only [List.length_map]
      refine ⟨⟨0, by omega, rfl⟩, fun g hg => ⟨fun hd => ?_, fun hd => ?_⟩⟩
      · have hlt := lt_of_dec hd
        have hal := al_bound hP g hlt
        have hfl := floor_in (n := 0 - sAl l g) (d := sp) (by omega) (by omega) (by omega)
        have hff := floor_facts (n := 0 - sAl l g) (d := sp) (by omega)
        have hsuc : (flL l p sp tk g).map encFx ++ [encFx (flFx l p sp tk g)] = (flL l p sp tk (g + 1)).map encFx := by
          simp [flL, List.range_succ]
        have hll : (flL l p sp tk g).length = g := by simp [flL]
        have hll1 : (flL l p sp tk g).length + 1 = (flL l p sp tk (g + 1)).length := by simp [flL]
        rcases g with _ | g
        · have e0 : alB l 0 = sAl l 0 := rfl
          simp only [e0]
          refine ⟨by omega, by omega, by simp only [Int.toNat_natCast]; rw [row_at _ hlt]; rfl, fun h0 => by simp at h0, fun _ => ?_⟩
          exact ⟨c90 p _ hv hal.1 (by omega), by unfold In64; omega, by unfold In64; omega, by omega, by omega, c91 _ _ (by omega) hfl.1 hfl.2.1 hfl.2.2.1, by unfold In64; omega, 1, by omega, by omega, rfl⟩
        · have e2 : (((g + 1 : Nat) : Int) - 1).toNat = g := by omega
          have ee : alB l (g + 1) + (maxI ((l.getD (g + 1) default).x - (l.getD g default).x) (0 - ((l.getD (g + 1) default).x - (l.getD g default).x)) + maxI ((l.getD (g + 1) default).y - (l.getD g default).y) (0 - ((l.getD (g + 1) default).y - (l.getD g default).y))) = sAl l (g + 1) := rfl
          have b1 := hP.b g (by omega)
          have b2 := hP.b (g + 1) hlt
          have m1 : ∀ x : Int, -200000 ≤ x → x ≤ 200000 → 0 ≤ maxI x (0 - x) ∧ maxI x (0 - x) ≤ 200000 := fun x _ _ => by
            unfold maxI
            split <;> omega
          have m2 := m1 ((l.getD (g + 1) default).x - (l.getD g default).x) (by omega) (by omega)
          have m3 := m1 ((l.getD (g + 1) default).y - (l.getD g default).y) (by omega) (by omega)
          simp only [Int.toNat_natCast, e2, ee]
          refine ⟨by omega, by omega, by rw [row_at _ hlt]; rfl, fun _ => ?_, fun h0 => by simp at h0⟩
          refine ⟨by unfold In64; omega, by omega, by omega, by unfold In64; omega, by unfold In64; omega, by omega, by omega, by unfold In64; omega, by rw [row_at _ (by omega)]; rfl, by rw [row_at _ (by omega)]; rfl, by unfold In64; omega, by unfold In64; omega, by unfold In64; omega, by unfold In64; omega,
            c90 p _ hv hal.1 (by omega), by unfold In64; omega, by unfold In64; omega, by omega, by omega, c91 _ _ (by omega) hfl.1 hfl.2.1 hfl.2.2.1, by unfold In64; omega, g + 2, by omega, by omega, ?_⟩
          rw [hll1]
          have h2 := hsuc
          simp only [encFx, flFx] at h2
          rw [h2]
          rfl
      · obtain rfl := ge_of_dec hd hg
        refine ⟨c92 _ _, c76 _ (by simp [flL]; omega), c87 [_, _] (by simp), fun hq => ?_, fun hq => ?_⟩
        · have hq' : (sPost l p sp tk != 0) = true := hq
          rw [sFlown, if_neg (by rw [h']; decide), if_pos hq']; rfl
        · have hq' : ¬ (sPost l p sp tk != 0) = true := by rw [show (sPost l p sp tk != 0) = false from hq]; decide
          rw [sFlown, if_neg (by rw [h']; decide), if_neg hq']
  exact c_of Tryz.f14 (B14 l p sp tk [(8, 2, rdOr [rdL 2 encPt l 2 true]), (10, 1, rdOr [rdL 2 encPt l 1 false]), (10, 7, rdOr [rdL 2 encPt l 1 false]), (10, 10, rdOr [rdL 2 encPt l 1 false]), (10, 16, rdOr [rdL 2 encPt l 1 false]), (11, 2, rdOr [rdL 2 encPt l 1 false]), (11, 4, rdOr [rdL 2 encPt l 1 false]), (11, 8, rdOr [rdL 2 encPt l 1 false]), (11, 10, rdOr [rdL 2 encPt l 1 false]), (13, 8, rdOr [rdL 2 encPt l 1 false]), (13, 10, rdOr [rdL 2 encPt l 1 false]), (13, 12, rdOr [rdL 2 encPt l 1 false]), (13, 15, rdOr [rdL 2 encPt l 1 false])]) (by kernel_rfl) (by kernel_rfl) (by kernel_rfl) (by kernel_rfl) key (by kernel_rfl)
end Go.Proofs.YtjhjmncjidbieaaGreatDoor
namespace Go.Proofs.YtjhjmncjidbieaaGreatDoor
open Go Go.Av Go.RowKit
/-- The length ahead of a round. -/
def sAlR (l : List Pt) : Nat → Int
  | 0 => 0
  | i + 1 => sAlR l i + maxI ((l.getD i default).x - (l.getD (prv i) default).x) ((l.getD (prv i) default).x - (l.getD i default).x) + maxI ((l.getD i default).y - (l.getD (prv i) default).y) ((l.getD (prv i) default).y - (l.getD i default).y)
/-- The last of the first j steps whose length is not above. -/
def kI (p : List St) (al : Int) : Nat → Nat
  | 0 => 0
  | j + 1 => if decide ((p.getD j default).a ≤ al) = true then j else kI p al j
def flFxR (l : List Pt) (p : List St) (sp tk : Int) (i : Nat) : Fx :=
  if decide ((kI p (sAlR l (i + 1)) p.length : Int) + 1 < (p.length : Int)) = true then
    ⟨tk + (0 - sFloor (0 - sAlR l (i + 1)) sp), (l.getD i default).x, (l.getD i default).y,
      sBetween (p.getD (kI p (sAlR l (i + 1)) p.length) default).h (p.getD (kI p (sAlR l (i + 1)) p.length + 1) default).h (sAlR l (i + 1) - (p.getD (kI p (sAlR l (i + 1)) p.length) default).a) ((p.getD (kI p (sAlR l (i + 1)) p.length + 1) default).a - (p.getD (kI p (sAlR l (i + 1)) p.length) default).a),
      sBetween (p.getD (kI p (sAlR l (i + 1)) p.length) default).p (p.getD (kI p (sAlR l (i + 1)) p.length + 1) default).p (sAlR l (i + 1) - (p.getD (kI p (sAlR l (i + 1)) p.length) default).a) ((p.getD (kI p (sAlR l (i + 1)) p.length + 1) default).a - (p.getD (kI p (sAlR l (i + 1)) p.length) default).a)⟩
  else ⟨tk + (0 - sFloor (0 - sAlR l (i + 1)) sp), (l.getD i default).x, (l.getD i default).y, (p.getD (kI p (sAlR l (i + 1)) p.length) default).h, (p.getD (kI p (sAlR l (i + 1)) p.length) default).p⟩
def flR (l : List Pt) (p : List St) (sp tk : Int) (n : Nat) : List Fx := (List.range n).map (flFxR l p sp tk)
def sFlownR (l : List Pt) (p : List St) (sp tk : Int) : List Fx × Int :=
  if decide (sAlR l l.length > 400000) = true then ([], 4) else if sTrackR (flR l p sp tk l.length) != 0 then ([], sTrackR (flR l p sp tk l.length)) else (flR l p sp tk l.length, 0)
theorem prv_succ (i : Nat) : prv (i + 1) = i := by
  unfold prv maxI
  split <;> omega
theorem prv_zero : prv 0 = 0 := rfl
theorem prv_le (i : Nat) : prv i ≤ i := by
  unfold prv maxI
  split <;> omega
theorem alR_eq (l : List Pt) : ∀ i, sAlR l (i + 1) = sAl l i
  | 0 => by
    simp [sAlR, sAl, prv_zero, maxI]
  | i + 1 => by
    have e : sAlR l (i + 1 + 1) = sAlR l (i + 1) + maxI ((l.getD (i + 1) default).x - (l.getD (prv (i + 1)) default).x) ((l.getD (prv (i + 1)) default).x - (l.getD (i + 1) default).x) + maxI ((l.getD (i + 1) default).y - (l.getD (prv (i + 1)) default).y) ((l.getD (prv (i + 1)) default).y - (l.getD (i + 1) default).y) := rfl
    rw [e, alR_eq l i, prv_succ]
    simp only [sAl, dX, dY]
    have hmx : ∀ a b : Int, maxI (a - b) (b - a) = maxI (a - b) (0 - (a - b)) := fun a b => by rw [show b - a = 0 - (a - b) by omega]
    rw [hmx, hmx]
    omega
theorem alR_bound {l : List Pt} (h : PathOK l) : ∀ i, i ≤ l.length → 0 ≤ sAlR l i ∧ sAlR l i ≤ 6400000
  | 0, _ => by simp [sAlR]
  | i + 1, hi => by
    rw [alR_eq]
    have := al_bound h i hi
    have := h.n2
    omega
theorem kI_lt {p : List St} {al : Int} {n : Nat} (hn : 0 < n) : ∀ j, j ≤ n → kI p al j < n
  | 0, _ => hn
  | j + 1, h => by
    simp only [kI]
    split
    · omega
    · exact kI_lt hn j (by omega)
def spE (fl : List Fx) : Nat → List AV → Option AV
  | 33, _ => some (.i (sTrackR fl))
  | n, x => spC n x
def la21a (l : List Pt) (p : List St) (sp tk : Int) : LA := {
  pre := [.own 10 110 5, .keep [0, 1, 2, 3, 10, 11, 12] [6], .bound 7], post := [.ren 6 48, .keep [0, 1, 2, 3, 10, 11, 12] [6], .bound 7]
  Gh := Nat
  st := fun i => ⟨[(0, .sl 2 (l.map encPt)), (1, .sl 3 (p.map encSt)), (2, .i sp), (3, .i tk), (10, .own 6 ((flR l p sp tk i).map encFx).length), (11, .i (sAlR l i)), (12, .i i)], [(6, .buf 110 5 ((flR l p sp tk i).map encFx))], 7⟩
  ok := fun i => i ≤ l.length
  ms := fun i => l.length - i }
def la21b (l : List Pt) (p : List St) (sp tk : Int) : LA := {
  pre := [.keep [0, 1, 2, 3, 10, 11, 12, 14, 15] [6], .bound 7], post := [.keep [0, 1, 2, 3, 10, 11, 12, 14, 15] [6], .bound 7]
  Gh := Nat × Nat
  st := fun g => ⟨[(0, .sl 2 (l.map encPt)), (1, .sl 3 (p.map encSt)), (2, .i sp), (3, .i tk), (10, .own 6 ((flR l p sp tk g.1).map encFx).length), (11, .i (sAlR l (g.1 + 1))), (12, .i g.1), (14, .i (kI p (sAlR l (g.1 + 1)) g.2)), (15, .i g.2)], [(6, .buf 110 5 ((flR l p sp tk g.1).map encFx))], 7⟩
  ok := fun g => g.1 < l.length ∧ g.2 ≤ p.length
  ms := fun g => p.length - g.2
  rel := some fun g h => h.1 = g.1 }
def gs21 (i : Nat) : List GS := if i.beq 20 then [.nil 8 5] else if i.beq 23 then [.nil 8 5] else if i.beq 17 then [.keep [0, 1, 2, 3, 10, 11, 12, 14, 16] [6, 38], .bound 45] else []
def B21 (l : List Pt) (p : List St) (sp tk : Int) (rds : List (Nat × Nat × (List AV → Option AV))) : BA :=
  { mkB (spE (flR l p sp tk l.length)) 21 rds (fun i => if i.beq 0 then some (la21a l p sp tk) else if i.beq 2 then some (la21b l p sp tk) else none) with gs := gs21 }
theorem c21 (l : List Pt) (p : List St) (sp tk : Int) (hP : PathOK l) (hv : ProcOK p) (hs1 : 1 ≤ sp) (hs2 : sp ≤ 1000) (ht1 : 0 ≤ tk) (ht2 : tk ≤ 100000000) : PCall Tryz.prog G0 21 [.sl 2 (l.map encPt), .sl 3 (p.map encSt), .i sp, .i tk] (.tup [.sl 5 ((sFlownR l p sp tk).1.map encFx), .i (sFlownR l p sp tk).2]) := by
  have key :
      (∃ (g : Nat),
      g ≤ l.length ∧
      AS.mk
      [((0 : Nat), AV.sl (2 : Nat) (List.map encPt l)), ((1 : Nat), AV.sl (3 : Nat) (List.map encSt p)),
      ((2 : Nat), AV.int IntKind.i64 sp), ((3 : Nat), AV.int IntKind.i64 tk),
      ((10 : Nat), AV.own (6 : Nat) (0 : Nat)), ((11 : Nat), AV.int IntKind.i64 (0 : Int)),
      ((12 : Nat), AV.int IntKind.i64 (0 : Int))]
      [((6 : Nat), ABlk.buf (110 : Nat) (5 : Nat) [])] (7 : Nat) =
      AS.mk
      [((0 : Nat), AV.sl (2 : Nat) (List.map encPt l)), ((1 : Nat), AV.sl (3 : Nat) (List.map encSt p)),
      ((2 : Nat), AV.int IntKind.i64 sp), ((3 : Nat), AV.int IntKind.i64 tk),
      ((10 : Nat), AV.own (6 : Nat) (List.map encFx (flR l p sp tk g)).length),
      ((11 : Nat), AV.int IntKind.i64 (sAlR l g)), ((12 : Nat), AV.int IntKind.i64 (↑g : Int))]
      [((6 : Nat), ABlk.buf (110 : Nat) (5 : Nat) (List.map encFx (flR l p sp tk g)))] (7 : Nat)) ∧
      ∀ (g : Nat),
      g ≤ l.length →
      (decide ((↑g : Int) < (↑(List.map encPt l).length : Int)) = true →
      In64 ((↑g : Int) - (1 : Int)) ∧
      (0 : Int) ≤ maxI (0 : Int) ((↑g : Int) - (1 : Int)) ∧
      maxI (0 : Int) ((↑g : Int) - (1 : Int)) < (↑(List.map encPt l).length : Int) ∧
      AV.agg (nthR (List.map encPt l) (maxI (0 : Int) ((↑g : Int) - (1 : Int))).toNat) =
      AV.agg
      [AV.int IntKind.i64 (l.getD (maxI (0 : Int) ((↑g : Int) - (1 : Int))).toNat default).x,
      AV.int IntKind.i64 (l.getD (maxI (0 : Int) ((↑g : Int) - (1 : Int))).toNat default).y] ∧
      (0 : Int) ≤ (↑g : Int) ∧
      (↑g : Int) < (↑(List.map encPt l).length : Int) ∧
      In64
      ((l.getD (↑g : Int).toNat default).x -
      (l.getD (maxI (0 : Int) ((↑g : Int) - (1 : Int))).toNat default).x) ∧
      (0 : Int) ≤ (↑g : Int) ∧
      (↑g : Int) < (↑(List.map encPt l).length : Int) ∧
      In64
      ((l.getD (maxI (0 : Int) ((↑g : Int) - (1 : Int))).toNat default).x -
      (l.getD (↑g : Int).toNat default).x) ∧
      In64
      (sAlR l g +
      maxI
      ((l.getD (↑g : Int).toNat default).x -
      (l.getD (maxI (0 : Int) ((↑g : Int) - (1 : Int))).toNat default).x)
      ((l.getD (maxI (0 : Int) ((↑g : Int) - (1 : Int))).toNat default).x -
      (l.getD (↑g : Int).toNat default).x)) ∧
      (0 : Int) ≤ (↑g : Int) ∧
      (↑g : Int) < (↑(List.map encPt l).length : Int) ∧
      In64
      ((l.getD (↑g : Int).toNat default).y -
      (l.getD (maxI (0 : Int) ((↑g : Int) - (1 : Int))).toNat default).y) ∧
      (0 : Int) ≤ (↑g : Int) ∧
      (↑g : Int) < (↑(List.map encPt l).length : Int) ∧
      In64
      ((l.getD (maxI (0 : Int) ((↑g : Int) - (1 : Int))).toNat default).y -
      (l.getD (↑g : Int).toNat default).y) ∧
      In64
      (sAlR l g +
      maxI
      ((l.getD (↑g : Int).toNat default).x -
      (l.getD (maxI (0 : Int) ((↑g : Int) - (1 : Int))).toNat
      default).x)
      ((l.getD (maxI (0 : Int) ((↑g : Int) - (1 : Int))).toNat
      default).x -
      (l.getD (↑g : Int).toNat default).x) +
      maxI
      ((l.getD (↑g : Int).toNat default).y -
      (l.getD (maxI (0 : Int) ((↑g : Int) - (1 : Int))).toNat
      default).y)
      ((l.getD (maxI (0 : Int) ((↑g : Int) - (1 : Int))).toNat
      default).y -
      (l.getD (↑g : Int).toNat default).y)) ∧
      nth (nthR (List.map encPt l) (↑g : Int).toNat) (0 : Nat) =
      AV.int IntKind.i64 (l.getD (↑g : Int).toNat default).x ∧
      nth (nthR (List.map encPt l) (↑g : Int).toNat) (0 : Nat) =
      AV.int IntKind.i64 (l.getD (↑g : Int).toNat default).x ∧
      nth (nthR (List.map encPt l) (↑g : Int).toNat) (1 : Nat) =
      AV.int IntKind.i64 (l.getD (↑g : Int).toNat default).y ∧
      nth (nthR (List.map encPt l) (↑g : Int).toNat) (1 : Nat) =
      AV.int IntKind.i64 (l.getD (↑g : Int).toNat default).y ∧
      ∃ (g0 : Nat × Nat),
      (g0.fst < l.length ∧ g0.snd ≤ p.length) ∧
      g0.fst = g0.fst ∧
      AS.mk
      [((0 : Nat), AV.sl (2 : Nat) (List.map encPt l)),
      ((1 : Nat), AV.sl (3 : Nat) (List.map encSt p)),
      ((2 : Nat), AV.int IntKind.i64 sp),
      ((3 : Nat), AV.int IntKind.i64 tk),
      ((10 : Nat),
      AV.own (6 : Nat)
      (List.map encFx (flR l p sp tk g)).length),
      ((11 : Nat),
      AV.int IntKind.i64
      (sAlR l g +
      maxI
      ((l.getD (↑g : Int).toNat default).x -
      (l.getD
      (maxI (0 : Int)
      ((↑g : Int) -
      (1 : Int))).toNat
      default).x)
      ((l.getD
      (maxI (0 : Int)
      ((↑g : Int) -
      (1 : Int))).toNat
      default).x -
      (l.getD (↑g : Int).toNat default).x) +
      maxI
      ((l.getD (↑g : Int).toNat default).y -
      (l.getD
      (maxI (0 : Int)
      ((↑g : Int) - (1 : Int))).toNat
      default).y)
      ((l.getD
      (maxI (0 : Int)
      ((↑g : Int) - (1 : Int))).toNat
      default).y -
      (l.getD (↑g : Int).toNat default).y))),
      ((12 : Nat), AV.int IntKind.i64 (↑g : Int)),
      ((14 : Nat), AV.int IntKind.i64 (0 : Int)),
      ((15 : Nat), AV.int IntKind.i64 (0 : Int))]
      [((6 : Nat),
      ABlk.buf (110 : Nat) (5 : Nat)
      (List.map encFx (flR l p sp tk g)))]
      (7 : Nat) =
      AS.mk
      [((0 : Nat), AV.sl (2 : Nat) (List.map encPt l)),
      ((1 : Nat), AV.sl (3 : Nat) (List.map encSt p)),
      ((2 : Nat), AV.int IntKind.i64 sp),
      ((3 : Nat), AV.int IntKind.i64 tk),
      ((10 : Nat),
      AV.own (6 : Nat)
      (List.map encFx
      (flR l p sp tk g0.fst)).length),
      ((11 : Nat),
      AV.int IntKind.i64
      (sAlR l (g0.fst + (1 : Nat)))),
      ((12 : Nat), AV.int IntKind.i64 (↑g0.fst : Int)),
      ((14 : Nat),
      AV.int IntKind.i64
      (↑(kI p (sAlR l (g0.fst + (1 : Nat)))
      g0.snd) :
      Int)),
      ((15 : Nat), AV.int IntKind.i64 (↑g0.snd : Int))]
      [((6 : Nat),
      ABlk.buf (110 : Nat) (5 : Nat)
      (List.map encFx (flR l p sp tk g0.fst)))]
      (7 : Nat) ∧
      ∀ (g_1 : Nat × Nat),
      g_1.fst < l.length ∧ g_1.snd ≤ p.length →
      g_1.fst = g0.fst →
      (decide
      ((↑g_1.snd : Int) <
      (↑(List.map encSt p).length : Int)) =
      true →
      (0 : Int) ≤ (↑g_1.snd : Int) ∧
      (↑g_1.snd : Int) <
      (↑(List.map encSt p).length : Int) ∧
      nth
      (nthR (List.map encSt p)
      (↑g_1.snd : Int).toNat)
      (0 : Nat) =
      AV.int IntKind.i64
      (p.getD (↑g_1.snd : Int).toNat
      default).a ∧
      (decide
      ((p.getD (↑g_1.snd : Int).toNat
      default).a ≤
      sAlR l
      (g_1.fst + (1 : Nat))) =
      true →
      In64
      ((↑g_1.snd : Int) + (1 : Int)) ∧
      ∃ (g' : Nat × Nat),
      (g'.fst < l.length ∧
      g'.snd ≤ p.length) ∧
      g'.fst = g0.fst ∧
      p.length - g'.snd <
      p.length - g_1.snd ∧
      AS.mk
      [((0 : Nat),
      AV.sl (2 : Nat)
      (List.map encPt
      l)),
      ((1 : Nat),
      AV.sl (3 : Nat)
      (List.map encSt
      p)),
      ((2 : Nat),
      AV.int IntKind.i64
      sp),
      ((3 : Nat),
      AV.int IntKind.i64
      tk),
      ((10 : Nat),
      AV.own (6 : Nat)
      (List.map encFx
      (flR l p sp
      tk
      g_1.fst)).length),
      ((11 : Nat),
      AV.int IntKind.i64
      (sAlR l
      (g_1.fst +
      (1 :
      Nat)))),
      ((12 : Nat),
      AV.int IntKind.i64
      (↑g_1.fst :
      Int)),
      ((14 : Nat),
      AV.int IntKind.i64
      (↑g_1.snd :
      Int)),
      ((15 : Nat),
      AV.int IntKind.i64
      ((↑g_1.snd :
      Int) +
      (1 : Int)))]
      [((6 : Nat),
      ABlk.buf
      (110 : Nat)
      (5 : Nat)
      (List.map encFx
      (flR l p sp tk
      g_1.fst)))]
      (7 : Nat) =
      AS.mk
      [((0 : Nat),
      AV.sl (2 : Nat)
      (List.map encPt
      l)),
      ((1 : Nat),
      AV.sl (3 : Nat)
      (List.map encSt
      p)),
      ((2 : Nat),
      AV.int IntKind.i64
      sp),
      ((3 : Nat),
      AV.int IntKind.i64
      tk),
      ((10 : Nat),
      AV.own (6 : Nat)
      (List.map encFx
      (flR l p sp
      tk
      g'.fst)).length),
      ((11 : Nat),
      AV.int IntKind.i64
      (sAlR l
      (g'.fst +
      (1 :
      Nat)))),
      ((12 : Nat),
      AV.int IntKind.i64
      (↑g'.fst :
      Int)),
      ((14 : Nat),
      AV.int IntKind.i64
      (↑(kI p
      (sAlR l
      (g'.fst +
      (1 :
      Nat)))
      g'.snd) :
      Int)),
      ((15 : Nat),
      AV.int IntKind.i64
      (↑g'.snd :
      Int))]
      [((6 : Nat),
      ABlk.buf
      (110 : Nat)
      (5 : Nat)
      (List.map encFx
      (flR l p sp tk
      g'.fst)))]
      (7 : Nat)) ∧
      (decide
      ((p.getD (↑g_1.snd : Int).toNat
      default).a ≤
      sAlR l
      (g_1.fst + (1 : Nat))) =
      false →
      In64
      ((↑g_1.snd : Int) + (1 : Int)) ∧
      ∃ (g' : Nat × Nat),
      (g'.fst < l.length ∧
      g'.snd ≤ p.length) ∧
      g'.fst = g0.fst ∧
      p.length - g'.snd <
      p.length - g_1.snd ∧
      AS.mk
      [((0 : Nat),
      AV.sl (2 : Nat)
      (List.map encPt
      l)),
      ((1 : Nat),
      AV.sl (3 : Nat)
      (List.map encSt
      p)),
      ((2 : Nat),
      AV.int IntKind.i64
      sp),
      ((3 : Nat),
      AV.int IntKind.i64
      tk),
      ((10 : Nat),
      AV.own (6 : Nat)
      (List.map encFx
      (flR l p sp
      tk
      g_1.fst)).length),
      ((11 : Nat),
      AV.int IntKind.i64
      (sAlR l
      (g_1.fst +
      (1 :
      Nat)))),
      ((12 : Nat),
      AV.int IntKind.i64
      (↑g_1.fst :
      Int)),
      ((14 : Nat),
      AV.int IntKind.i64
      (↑(kI p
      (sAlR l
      (g_1.fst +
      (1 :
      Nat)))
      g_1.snd) :
      Int)),
      ((15 : Nat),
      AV.int IntKind.i64
      ((↑g_1.snd :
      Int) +
      (1 : Int)))]
      [((6 : Nat),
      ABlk.buf
      (110 : Nat)
      (5 : Nat)
      (List.map encFx
      (flR l p sp tk
      g_1.fst)))]
      (7 : Nat) =
      AS.mk
      [((0 : Nat),
      AV.sl (2 : Nat)
      (List.map encPt
      l)),
      ((1 : Nat),
      AV.sl (3 : Nat)
      (List.map encSt
      p)),
      ((2 : Nat),
      AV.int IntKind.i64
      sp),
      ((3 : Nat),
      AV.int IntKind.i64
      tk),
      ((10 : Nat),
      AV.own (6 : Nat)
      (List.map encFx
      (flR l p sp
      tk
      g'.fst)).length),
      ((11 : Nat),
      AV.int IntKind.i64
      (sAlR l
      (g'.fst +
      (1 :
      Nat)))),
      ((12 : Nat),
      AV.int IntKind.i64
      (↑g'.fst :
      Int)),
      ((14 : Nat),
      AV.int IntKind.i64
      (↑(kI p
      (sAlR l
      (g'.fst +
      (1 :
      Nat)))
      g'.snd) :
      Int)),
      ((15 : Nat),
      AV.int IntKind.i64
      (↑g'.snd :
      Int))]
      [((6 : Nat),
      ABlk.buf
      (110 : Nat)
      (5 : Nat)
      (List.map encFx
      (flR l p sp tk
      g'.fst)))]
      (7 : Nat))) ∧
      (decide
      ((↑g_1.snd : Int) <
      (↑(List.map encSt p).length : Int)) =
      false →
      In64
      (tk +
      ((0 : Int) -
      sFloor
      ((0 : Int) -
      sAlR l (g_1.fst + (1 : Nat)))
      sp)) ∧
      (0 : Int) ≤ (↑g_1.fst : Int) ∧
      (↑g_1.fst : Int) <
      (↑(List.map encPt l).length : Int) ∧
      (0 : Int) ≤ (↑g_1.fst : Int) ∧
      (↑g_1.fst : Int) <
      (↑(List.map encPt l).length :
      Int) ∧
      (0 : Int) ≤
      (↑(kI p
      (sAlR l
      (g_1.fst + (1 : Nat)))
      g_1.snd) :
      Int) ∧
      (↑(kI p
      (sAlR l
      (g_1.fst + (1 : Nat)))
      g_1.snd) :
      Int) <
      (↑(List.map encSt p).length :
      Int) ∧
      (0 : Int) ≤
      (↑(kI p
      (sAlR l
      (g_1.fst +
      (1 : Nat)))
      g_1.snd) :
      Int) ∧
      (↑(kI p
      (sAlR l
      (g_1.fst +
      (1 : Nat)))
      g_1.snd) :
      Int) <
      (↑(List.map encSt
      p).length :
      Int) ∧
      PCall Tryz.prog G0
      (96 : Nat)
      [AV.int IntKind.i64
      (sAlR l
      (g_1.fst +
      (1 : Nat))),
      AV.int IntKind.i64 sp]
      (AV.int IntKind.i64
      ((0 : Int) -
      sFloor
      ((0 : Int) -
      sAlR l
      (g_1.fst +
      (1 : Nat)))
      sp)) ∧
      nth
      (nthR
      (List.map encPt l)
      (↑g_1.fst :
      Int).toNat)
      (0 : Nat) =
      AV.int IntKind.i64
      (l.getD
      (↑g_1.fst :
      Int).toNat
      default).x ∧
      nth
      (nthR
      (List.map encPt
      l)
      (↑g_1.fst :
      Int).toNat)
      (1 : Nat) =
      AV.int IntKind.i64
      (l.getD
      (↑g_1.fst :
      Int).toNat
      default).y ∧
      nth
      (nthR
      (List.map
      encSt p)
      (↑(kI p
      (sAlR
      l
      (g_1.fst +
      (1 :
      Nat)))
      g_1.snd) :
      Int).toNat)
      (1 : Nat) =
      AV.int IntKind.i64
      (p.getD
      (↑(kI p
      (sAlR
      l
      (g_1.fst +
      (1 :
      Nat)))
      g_1.snd) :
      Int).toNat
      default).h ∧
      nth
      (nthR
      (List.map
      encSt p)
      (↑(kI p
      (sAlR
      l
      (g_1.fst +
      (1 :
      Nat)))
      g_1.snd) :
      Int).toNat)
      (2 : Nat) =
      AV.int
      IntKind.i64
      (p.getD
      (↑(kI p
      (sAlR
      l
      (g_1.fst +
      (1 :
      Nat)))
      g_1.snd) :
      Int).toNat
      default).p ∧
      In64
      ((↑(kI p
      (sAlR
      l
      (g_1.fst +
      (1 :
      Nat)))
      g_1.snd) :
      Int) +
      (1 : Int)) ∧
      (decide
      ((↑(kI p
      (sAlR
      l
      (g_1.fst +
      (1 :
      Nat)))
      g_1.snd) :
      Int) +
      (1 :
      Int) <
      (↑(List.map
      encSt
      p).length :
      Int)) =
      true →
      (0 : Int) ≤
      (↑(kI p
      (sAlR
      l
      (g_1.fst +
      (1 :
      Nat)))
      g_1.snd) :
      Int) ∧
      (↑(kI p
      (sAlR
      l
      (g_1.fst +
      (1 :
      Nat)))
      g_1.snd) :
      Int) <
      (↑(List.map
      encSt
      p).length :
      Int) ∧
      In64
      (sAlR
      l
      (g_1.fst +
      (1 :
      Nat)) -
      (p.getD
      (↑(kI
      p
      (sAlR
      l
      (g_1.fst +
      (1 :
      Nat)))
      g_1.snd) :
      Int).toNat
      default).a) ∧
      In64
      ((↑(kI
      p
      (sAlR
      l
      (g_1.fst +
      (1 :
      Nat)))
      g_1.snd) :
      Int) +
      (1 :
      Int)) ∧
      (0 :
      Int) ≤
      (↑(kI
      p
      (sAlR
      l
      (g_1.fst +
      (1 :
      Nat)))
      g_1.snd) :
      Int) +
      (1 :
      Int) ∧
      (↑(kI
      p
      (sAlR
      l
      (g_1.fst +
      (1 :
      Nat)))
      g_1.snd) :
      Int) +
      (1 :
      Int) <
      (↑(List.map
      encSt
      p).length :
      Int) ∧
      (0 :
      Int) ≤
      (↑(kI
      p
      (sAlR
      l
      (g_1.fst +
      (1 :
      Nat)))
      g_1.snd) :
      Int) ∧
      (↑(kI
      p
      (sAlR
      l
      (g_1.fst +
      (1 :
      Nat)))
      g_1.snd) :
      Int) <
      (↑(List.map
      encSt
      p).length :
      Int) ∧
      In64
      ((p.getD
      ((↑(kI
      p
      (sAlR
      l
      (g_1.fst +
      (1 :
      Nat)))
      g_1.snd) :
      Int) +
      (1 :
      Int)).toNat
      default).a -
      (p.getD
      (↑(kI
      p
      (sAlR
      l
      (g_1.fst +
      (1 :
      Nat)))
      g_1.snd) :
      Int).toNat
      default).a) ∧
      nth
      (nthR
      (List.map
      encSt
      p)
      (↑(kI
      p
      (sAlR
      l
      (g_1.fst +
      (1 :
      Nat)))
      g_1.snd) :
      Int).toNat)
      (0 :
      Nat) =
      AV.int
      IntKind.i64
      (p.getD
      (↑(kI
      p
      (sAlR
      l
      (g_1.fst +
      (1 :
      Nat)))
      g_1.snd) :
      Int).toNat
      default).a ∧
      nth
      (nthR
      (List.map
      encSt
      p)
      ((↑(kI
      p
      (sAlR
      l
      (g_1.fst +
      (1 :
      Nat)))
      g_1.snd) :
      Int) +
      (1 :
      Int)).toNat)
      (0 :
      Nat) =
      AV.int
      IntKind.i64
      (p.getD
      ((↑(kI
      p
      (sAlR
      l
      (g_1.fst +
      (1 :
      Nat)))
      g_1.snd) :
      Int) +
      (1 :
      Int)).toNat
      default).a ∧
      nth
      (nthR
      (List.map
      encSt
      p)
      (↑(kI
      p
      (sAlR
      l
      (g_1.fst +
      (1 :
      Nat)))
      g_1.snd) :
      Int).toNat)
      (0 :
      Nat) =
      AV.int
      IntKind.i64
      (p.getD
      (↑(kI
      p
      (sAlR
      l
      (g_1.fst +
      (1 :
      Nat)))
      g_1.snd) :
      Int).toNat
      default).a ∧
      (0 :
      Int) ≤
      (↑(kI
      p
      (sAlR
      l
      (g_1.fst +
      (1 :
      Nat)))
      g_1.snd) :
      Int) ∧
      (↑(kI
      p
      (sAlR
      l
      (g_1.fst +
      (1 :
      Nat)))
      g_1.snd) :
      Int) <
      (↑(List.map
      encSt
      p).length :
      Int) ∧
      In64
      ((↑(kI
      p
      (sAlR
      l
      (g_1.fst +
      (1 :
      Nat)))
      g_1.snd) :
      Int) +
      (1 :
      Int)) ∧
      (0 :
      Int) ≤
      (↑(kI
      p
      (sAlR
      l
      (g_1.fst +
      (1 :
      Nat)))
      g_1.snd) :
      Int) +
      (1 :
      Int) ∧
      (↑(kI
      p
      (sAlR
      l
      (g_1.fst +
      (1 :
      Nat)))
      g_1.snd) :
      Int) +
      (1 :
      Int) <
      (↑(List.map
      encSt
      p).length :
      Int) ∧
      (0 :
      Int) ≤
      (↑(kI
      p
      (sAlR
      l
      (g_1.fst +
      (1 :
      Nat)))
      g_1.snd) :
      Int) ∧
      (↑(kI
      p
      (sAlR
      l
      (g_1.fst +
      (1 :
      Nat)))
      g_1.snd) :
      Int) <
      (↑(List.map
      encSt
      p).length :
      Int) ∧
      In64
      ((↑(kI
      p
      (sAlR
      l
      (g_1.fst +
      (1 :
      Nat)))
      g_1.snd) :
      Int) +
      (1 :
      Int)) ∧
      (0 :
      Int) ≤
      (↑(kI
      p
      (sAlR
      l
      (g_1.fst +
      (1 :
      Nat)))
      g_1.snd) :
      Int) +
      (1 :
      Int) ∧
      (↑(kI
      p
      (sAlR
      l
      (g_1.fst +
      (1 :
      Nat)))
      g_1.snd) :
      Int) +
      (1 :
      Int) <
      (↑(List.map
      encSt
      p).length :
      Int) ∧
      nth
      (nthR
      (List.map
      encSt
      p)
      (↑(kI
      p
      (sAlR
      l
      (g_1.fst +
      (1 :
      Nat)))
      g_1.snd) :
      Int).toNat)
      (1 :
      Nat) =
      AV.int
      IntKind.i64
      (p.getD
      (↑(kI
      p
      (sAlR
      l
      (g_1.fst +
      (1 :
      Nat)))
      g_1.snd) :
      Int).toNat
      default).h ∧
      nth
      (nthR
      (List.map
      encSt
      p)
      ((↑(kI
      p
      (sAlR
      l
      (g_1.fst +
      (1 :
      Nat)))
      g_1.snd) :
      Int) +
      (1 :
      Int)).toNat)
      (1 :
      Nat) =
      AV.int
      IntKind.i64
      (p.getD
      ((↑(kI
      p
      (sAlR
      l
      (g_1.fst +
      (1 :
      Nat)))
      g_1.snd) :
      Int) +
      (1 :
      Int)).toNat
      default).h ∧
      PCall
      Tryz.prog
      G0
      (97 :
      Nat)
      [AV.int
      IntKind.i64
      (p.getD
      (↑(kI
      p
      (sAlR
      l
      (g_1.fst +
      (1 :
      Nat)))
      g_1.snd) :
      Int).toNat
      default).h,
      AV.int
      IntKind.i64
      (p.getD
      ((↑(kI
      p
      (sAlR
      l
      (g_1.fst +
      (1 :
      Nat)))
      g_1.snd) :
      Int) +
      (1 :
      Int)).toNat
      default).h,
      AV.int
      IntKind.i64
      (sAlR
      l
      (g_1.fst +
      (1 :
      Nat)) -
      (p.getD
      (↑(kI
      p
      (sAlR
      l
      (g_1.fst +
      (1 :
      Nat)))
      g_1.snd) :
      Int).toNat
      default).a),
      AV.int
      IntKind.i64
      ((p.getD
      ((↑(kI
      p
      (sAlR
      l
      (g_1.fst +
      (1 :
      Nat)))
      g_1.snd) :
      Int) +
      (1 :
      Int)).toNat
      default).a -
      (p.getD
      (↑(kI
      p
      (sAlR
      l
      (g_1.fst +
      (1 :
      Nat)))
      g_1.snd) :
      Int).toNat
      default).a)]
      (AV.int
      IntKind.i64
      (sBetween
      (p.getD
      (↑(kI
      p
      (sAlR
      l
      (g_1.fst +
      (1 :
      Nat)))
      g_1.snd) :
      Int).toNat
      default).h
      (p.getD
      ((↑(kI
      p
      (sAlR
      l
      (g_1.fst +
      (1 :
      Nat)))
      g_1.snd) :
      Int) +
      (1 :
      Int)).toNat
      default).h
      (sAlR
      l
      (g_1.fst +
      (1 :
      Nat)) -
      (p.getD
      (↑(kI
      p
      (sAlR
      l
      (g_1.fst +
      (1 :
      Nat)))
      g_1.snd) :
      Int).toNat
      default).a)
      ((p.getD
      ((↑(kI
      p
      (sAlR
      l
      (g_1.fst +
      (1 :
      Nat)))
      g_1.snd) :
      Int) +
      (1 :
      Int)).toNat
      default).a -
      (p.getD
      (↑(kI
      p
      (sAlR
      l
      (g_1.fst +
      (1 :
      Nat)))
      g_1.snd) :
      Int).toNat
      default).a))) ∧
      nth
      (nthR
      (List.map
      encSt
      p)
      (↑(kI
      p
      (sAlR
      l
      (g_1.fst +
      (1 :
      Nat)))
      g_1.snd) :
      Int).toNat)
      (2 :
      Nat) =
      AV.int
      IntKind.i64
      (p.getD
      (↑(kI
      p
      (sAlR
      l
      (g_1.fst +
      (1 :
      Nat)))
      g_1.snd) :
      Int).toNat
      default).p ∧
      nth
      (nthR
      (List.map
      encSt
      p)
      ((↑(kI
      p
      (sAlR
      l
      (g_1.fst +
      (1 :
      Nat)))
      g_1.snd) :
      Int) +
      (1 :
      Int)).toNat)
      (2 :
      Nat) =
      AV.int
      IntKind.i64
      (p.getD
      ((↑(kI
      p
      (sAlR
      l
      (g_1.fst +
      (1 :
      Nat)))
      g_1.snd) :
      Int) +
      (1 :
      Int)).toNat
      default).p ∧
      PCall
      Tryz.prog
      G0
      (97 :
      Nat)
      [AV.int
      IntKind.i64
      (p.getD
      (↑(kI
      p
      (sAlR
      l
      (g_1.fst +
      (1 :
      Nat)))
      g_1.snd) :
      Int).toNat
      default).p,
      AV.int
      IntKind.i64
      (p.getD
      ((↑(kI
      p
      (sAlR
      l
      (g_1.fst +
      (1 :
      Nat)))
      g_1.snd) :
      Int) +
      (1 :
      Int)).toNat
      default).p,
      AV.int
      IntKind.i64
      (sAlR
      l
      (g_1.fst +
      (1 :
      Nat)) -
      (p.getD
      (↑(kI
      p
      (sAlR
      l
      (g_1.fst +
      (1 :
      Nat)))
      g_1.snd) :
      Int).toNat
      default).a),
      AV.int
      IntKind.i64
      ((p.getD
      ((↑(kI
      p
      (sAlR
      l
      (g_1.fst +
      (1 :
      Nat)))
      g_1.snd) :
      Int) +
      (1 :
      Int)).toNat
      default).a -
      (p.getD
      (↑(kI
      p
      (sAlR
      l
      (g_1.fst +
      (1 :
      Nat)))
      g_1.snd) :
      Int).toNat
      default).a)]
      (AV.int
      IntKind.i64
      (sBetween
      (p.getD
      (↑(kI
      p
      (sAlR
      l
      (g_1.fst +
      (1 :
      Nat)))
      g_1.snd) :
      Int).toNat
      default).p
      (p.getD
      ((↑(kI
      p
      (sAlR
      l
      (g_1.fst +
      (1 :
      Nat)))
      g_1.snd) :
      Int) +
      (1 :
      Int)).toNat
      default).p
      (sAlR
      l
      (g_1.fst +
      (1 :
      Nat)) -
      (p.getD
      (↑(kI
      p
      (sAlR
      l
      (g_1.fst +
      (1 :
      Nat)))
      g_1.snd) :
      Int).toNat
      default).a)
      ((p.getD
      ((↑(kI
      p
      (sAlR
      l
      (g_1.fst +
      (1 :
      Nat)))
      g_1.snd) :
      Int) +
      (1 :
      Int)).toNat
      default).a -
      (p.getD
      (↑(kI
      p
      (sAlR
      l
      (g_1.fst +
      (1 :
      Nat)))
      g_1.snd) :
      Int).toNat
      default).a))) ∧
      (List.map
      encFx
      (flR
      l
      p
      sp
      tk
      g_1.fst)).length +
      (1 :
      Nat) ≤
      (9223372036854775807 :
      Nat) ∧
      ((List.map
      encFx
      (flR
      l
      p
      sp
      tk
      g_1.fst)).length +
      (1 :
      Nat)) *
      (40 :
      Nat) ≤
      (140737488355328 :
      Nat) ∧
      In64
      ((↑g_1.fst :
      Int) +
      (1 :
      Int)) ∧
      ∃
      (g'
      :
      Nat),
      g' ≤
      l.length ∧
      l.length -
      g' <
      l.length -
      g ∧
      AS.mk
      [((0 :
      Nat),
      AV.sl
      (2 :
      Nat)
      (List.map
      encPt
      l)),
      ((1 :
      Nat),
      AV.sl
      (3 :
      Nat)
      (List.map
      encSt
      p)),
      ((2 :
      Nat),
      AV.int
      IntKind.i64
      sp),
      ((3 :
      Nat),
      AV.int
      IntKind.i64
      tk),
      ((10 :
      Nat),
      AV.own
      (6 :
      Nat)
      ((List.map
      encFx
      (flR
      l
      p
      sp
      tk
      g_1.fst)).length +
      (1 :
      Nat))),
      ((11 :
      Nat),
      AV.int
      IntKind.i64
      (sAlR
      l
      (g_1.fst +
      (1 :
      Nat)))),
      ((12 :
      Nat),
      AV.int
      IntKind.i64
      ((↑g_1.fst :
      Int) +
      (1 :
      Int)))]
      [((6 :
      Nat),
      ABlk.buf
      (110 :
      Nat)
      (5 :
      Nat)
      (List.map
      encFx
      (flR
      l
      p
      sp
      tk
      g_1.fst) ++
      [[AV.int
      IntKind.i64
      (tk +
      ((0 :
      Int) -
      sFloor
      ((0 :
      Int) -
      sAlR
      l
      (g_1.fst +
      (1 :
      Nat)))
      sp)),
      AV.int
      IntKind.i64
      (l.getD
      (↑g_1.fst :
      Int).toNat
      default).x,
      AV.int
      IntKind.i64
      (l.getD
      (↑g_1.fst :
      Int).toNat
      default).y,
      AV.int
      IntKind.i64
      (sBetween
      (p.getD
      (↑(kI
      p
      (sAlR
      l
      (g_1.fst +
      (1 :
      Nat)))
      g_1.snd) :
      Int).toNat
      default).h
      (p.getD
      ((↑(kI
      p
      (sAlR
      l
      (g_1.fst +
      (1 :
      Nat)))
      g_1.snd) :
      Int) +
      (1 :
      Int)).toNat
      default).h
      (sAlR
      l
      (g_1.fst +
      (1 :
      Nat)) -
      (p.getD
      (↑(kI
      p
      (sAlR
      l
      (g_1.fst +
      (1 :
      Nat)))
      g_1.snd) :
      Int).toNat
      default).a)
      ((p.getD
      ((↑(kI
      p
      (sAlR
      l
      (g_1.fst +
      (1 :
      Nat)))
      g_1.snd) :
      Int) +
      (1 :
      Int)).toNat
      default).a -
      (p.getD
      (↑(kI
      p
      (sAlR
      l
      (g_1.fst +
      (1 :
      Nat)))
      g_1.snd) :
      Int).toNat
      default).a)),
      AV.int
      IntKind.i64
      (sBetween
      (p.getD
      (↑(kI
      p
      (sAlR
      l
      (g_1.fst +
      (1 :
      Nat)))
      g_1.snd) :
      Int).toNat
      default).p
      (p.getD
      ((↑(kI
      p
      (sAlR
      l
      (g_1.fst +
      (1 :
      Nat)))
      g_1.snd) :
      Int) +
      (1 :
      Int)).toNat
      default).p
      (sAlR
      l
      (g_1.fst +
      (1 :
      Nat)) -
      (p.getD
      (↑(kI
      p
      (sAlR
      l
      (g_1.fst +
      (1 :
      Nat)))
      g_1.snd) :
      Int).toNat
      default).a)
      ((p.getD
      ((↑(kI
      p
      (sAlR
      l
      (g_1.fst +
      (1 :
      Nat)))
      g_1.snd) :
      Int) +
      (1 :
      Int)).toNat
      default).a -
      (p.getD
      (↑(kI
      p
      (sAlR
      l
      (g_1.fst +
      (1 :
      Nat)))
      g_1.snd) :
      Int).toNat
      default).a))]]))]
      (7 :
      Nat) =
      AS.mk
      [((0 :
      Nat),
      AV.sl
      (2 :
      Nat)
      (List.map
      encPt
      l)),
      ((1 :
      Nat),
      AV.sl
      (3 :
      Nat)
      (List.map
      encSt
      p)),
      ((2 :
      Nat),
      AV.int
      IntKind.i64
      sp),
      ((3 :
      Nat),
      AV.int
      IntKind.i64
      tk),
      ((10 :
      Nat),
      AV.own
      (6 :
      Nat)
      (List.map
      encFx
      (flR
      l
      p
      sp
      tk
      g')).length),
      ((11 :
      Nat),
      AV.int
      IntKind.i64
      (sAlR
      l
      g')),
      ((12 :
      Nat),
      AV.int
      IntKind.i64
      (↑g' :
      Int))]
      [((6 :
      Nat),
      ABlk.buf
      (110 :
      Nat)
      (5 :
      Nat)
      (List.map
      encFx
      (flR
      l
      p
      sp
      tk
      g')))]
      (7 :
      Nat)) ∧
      (decide
      ((↑(kI p
      (sAlR
      l
      (g_1.fst +
      (1 :
      Nat)))
      g_1.snd) :
      Int) +
      (1 :
      Int) <
      (↑(List.map
      encSt
      p).length :
      Int)) =
      false →
      (List.map
      encFx
      (flR
      l
      p
      sp
      tk
      g_1.fst)).length +
      (1 :
      Nat) ≤
      (9223372036854775807 :
      Nat) ∧
      ((List.map
      encFx
      (flR
      l
      p
      sp
      tk
      g_1.fst)).length +
      (1 :
      Nat)) *
      (40 :
      Nat) ≤
      (140737488355328 :
      Nat) ∧
      In64
      ((↑g_1.fst :
      Int) +
      (1 :
      Int)) ∧
      ∃ (g'
      :
      Nat),
      g' ≤
      l.length ∧
      l.length -
      g' <
      l.length -
      g ∧
      AS.mk
      [((0 :
      Nat),
      AV.sl
      (2 :
      Nat)
      (List.map
      encPt
      l)),
      ((1 :
      Nat),
      AV.sl
      (3 :
      Nat)
      (List.map
      encSt
      p)),
      ((2 :
      Nat),
      AV.int
      IntKind.i64
      sp),
      ((3 :
      Nat),
      AV.int
      IntKind.i64
      tk),
      ((10 :
      Nat),
      AV.own
      (6 :
      Nat)
      ((List.map
      encFx
      (flR
      l
      p
      sp
      tk
      g_1.fst)).length +
      (1 :
      Nat))),
      ((11 :
      Nat),
      AV.int
      IntKind.i64
      (sAlR
      l
      (g_1.fst +
      (1 :
      Nat)))),
      ((12 :
      Nat),
      AV.int
      IntKind.i64
      ((↑g_1.fst :
      Int) +
      (1 :
      Int)))]
      [((6 :
      Nat),
      ABlk.buf
      (110 :
      Nat)
      (5 :
      Nat)
      (List.map
      encFx
      (flR
      l
      p
      sp
      tk
      g_1.fst) ++
      [[AV.int
      IntKind.i64
      (tk +
      ((0 :
      Int) -
      sFloor
      ((0 :
      Int) -
      sAlR
      l
      (g_1.fst +
      (1 :
      Nat)))
      sp)),
      AV.int
      IntKind.i64
      (l.getD
      (↑g_1.fst :
      Int).toNat
      default).x,
      AV.int
      IntKind.i64
      (l.getD
      (↑g_1.fst :
      Int).toNat
      default).y,
      AV.int
      IntKind.i64
      (p.getD
      (↑(kI
      p
      (sAlR
      l
      (g_1.fst +
      (1 :
      Nat)))
      g_1.snd) :
      Int).toNat
      default).h,
      AV.int
      IntKind.i64
      (p.getD
      (↑(kI
      p
      (sAlR
      l
      (g_1.fst +
      (1 :
      Nat)))
      g_1.snd) :
      Int).toNat
      default).p]]))]
      (7 :
      Nat) =
      AS.mk
      [((0 :
      Nat),
      AV.sl
      (2 :
      Nat)
      (List.map
      encPt
      l)),
      ((1 :
      Nat),
      AV.sl
      (3 :
      Nat)
      (List.map
      encSt
      p)),
      ((2 :
      Nat),
      AV.int
      IntKind.i64
      sp),
      ((3 :
      Nat),
      AV.int
      IntKind.i64
      tk),
      ((10 :
      Nat),
      AV.own
      (6 :
      Nat)
      (List.map
      encFx
      (flR
      l
      p
      sp
      tk
      g')).length),
      ((11 :
      Nat),
      AV.int
      IntKind.i64
      (sAlR
      l
      g')),
      ((12 :
      Nat),
      AV.int
      IntKind.i64
      (↑g' :
      Int))]
      [((6 :
      Nat),
      ABlk.buf
      (110 :
      Nat)
      (5 :
      Nat)
      (List.map
      encFx
      (flR
      l
      p
      sp
      tk
      g')))]
      (7 :
      Nat)))) ∧
      (decide ((↑g : Int) < (↑(List.map encPt l).length : Int)) = false →
      (decide (sAlR l g > (400000 : Int)) = true →
      AV.tup [AV.sl (5 : Nat) [], AV.int IntKind.i64 (4 : Int)] =
      AV.tup
      [AV.sl (5 : Nat) (List.map encFx (sFlownR l p sp tk).fst),
      AV.int IntKind.i64 (sFlownR l p sp tk).snd]) ∧
      (decide (sAlR l g > (400000 : Int)) = false →
      PCall Tryz.prog G0 (33 : Nat) [AV.sl (5 : Nat) (List.map encFx (flR l p sp tk g))]
      (AV.int IntKind.i64 (sTrackR (flR l p sp tk l.length))) ∧
      ((sTrackR (flR l p sp tk l.length) != (0 : Int)) = true →
      AV.tup [AV.sl (5 : Nat) [], AV.int IntKind.i64 (sTrackR (flR l p sp tk l.length))] =
      AV.tup
      [AV.sl (5 : Nat) (List.map encFx (sFlownR l p sp tk).fst),
      AV.int IntKind.i64 (sFlownR l p sp tk).snd]) ∧
      ((sTrackR (flR l p sp tk l.length) != (0 : Int)) = false →
      AV.tup [AV.sl (5 : Nat) (List.map encFx (flR l p sp tk g)), AV.int IntKind.i64 (0 : Int)] =
      AV.tup
      [AV.sl (5 : Nat) (List.map encFx (sFlownR l p sp tk).fst),
      AV.int IntKind.i64 (sFlownR l p sp tk).snd]))) := by
    have hn1 := hP.n1
    have hn2 := hP.n2
    have hp1 := hv.n1
    have hp2 := hv.n2
    simp only [List.length_map]
    refine ⟨⟨0, by omega, rfl⟩, fun g hg => ⟨fun hd => ?_, fun hd => ?_⟩⟩
    · have hlt := lt_of_dec hd
      have ep : (maxI 0 ((g : Int) - 1)).toNat = prv g := rfl
      have hm : 0 ≤ maxI 0 ((g : Int) - 1) ∧ maxI 0 ((g : Int) - 1) ≤ g := by
        unfold maxI
        split <;> omega
      have hpl := prv_le g
      have ee : sAlR l g + maxI ((l.getD g default).x - (l.getD (prv g) default).x) ((l.getD (prv g) default).x - (l.getD g default).x) + maxI ((l.getD g default).y - (l.getD (prv g) default).y) ((l.getD (prv g) default).y - (l.getD g default).y) = sAlR l (g + 1) := rfl
      have b1 := hP.b g hlt
      have b2 := hP.b (prv g) (by omega)
      have m1 : ∀ x y : Int, -200000 ≤ x → x ≤ 200000 → -200000 ≤ y → y ≤ 200000 → -200000 ≤ maxI x y ∧ maxI x y ≤ 200000 := fun x y _ _ _ _ => by
        unfold maxI
        split <;> omega
      have m2 := m1 ((l.getD g default).x - (l.getD (prv g) default).x) ((l.getD (prv g) default).x - (l.getD g default).x) (by omega) (by omega) (by omega) (by omega)
      have hal := alR_bound hP g (by omega)
      have hal1 := alR_bound hP (g + 1) (by omega)
      simp only [ep, Int.toNat_natCast, ee]
      refine ⟨by unfold In64; omega, by omega, by omega, by rw [row_at _ (by omega)]; rfl, by omega, by omega, by unfold In64; omega, by omega, by omega, by unfold In64; omega, by unfold In64; omega, by omega, by omega, by unfold In64; omega, by omega, by omega, by unfold In64; omega, by unfold In64; omega,
        by rw [row_at _ hlt]; rfl, by rw [row_at _ hlt]; rfl, by rw [row_at _ hlt]; rfl, by rw [row_at _ hlt]; rfl, (g, 0), ⟨hlt, by omega⟩, trivial, rfl, fun ⟨i, j⟩ hij hr => ⟨fun hc => ?_, fun hc => ?_⟩⟩
      · obtain rfl : i = g := hr
        have hj := lt_of_dec hc
        refine ⟨by omega, by omega, by rw [row_at _ hj]; rfl, fun hle => ⟨by unfold In64; omega, (i, j + 1), ⟨hlt, hj⟩, rfl, by show p.length - (j + 1) < p.length - j; omega, ?_⟩, fun hle => ⟨by unfold In64; omega, (i, j + 1), ⟨hlt, hj⟩, rfl, by show p.length - (j + 1) < p.length - j; omega, ?_⟩⟩
        · have e : kI p (sAlR l (i + 1)) (j + 1) = j := by rw [kI, if_pos hle]
          dsimp only
          rw [e]
          rfl
        · have e : kI p (sAlR l (i + 1)) (j + 1) = kI p (sAlR l (i + 1)) j := by rw [kI, if_neg (by rw [hle]; decide)]
          dsimp only
          rw [e]
          rfl
      · obtain rfl : i = g := hr
        have hj : j = p.length := ge_of_dec hc hij.2
        subst hj
        have hk := kI_lt (p := p) (al := sAlR l (i + 1)) (n := p.length) (by omega) p.length (Nat.le_refl _)
        have hfl := floor_in (n := 0 - sAlR l (i + 1)) (d := sp) (by omega) (by omega) (by omega)
        have hff := floor_facts (n := 0 - sAlR l (i + 1)) (d := sp) (by omega)
        have hsuc : (flR l p sp tk i).map encFx ++ [encFx (flFxR l p sp tk i)] = (flR l p sp tk (i + 1)).map encFx := by
          simp [flR, List.range_succ]
        have hll : (flR l p sp tk i).length = i := by simp [flR]
        have hll1 : (flR l p sp tk i).length + 1 = (flR l p sp tk (i + 1)).length := by simp [flR]
        dsimp only
        generalize hkk : kI p (sAlR l (i + 1)) p.length = k at *
        have e1 : ((k : Int) + 1).toNat = k + 1 := by omega
        have b3 := hv.b k hk
        simp only [e1, Int.toNat_natCast]
        by_cases hk1 : k + 1 < p.length
        · have b4 := hv.b (k + 1) hk1
          have b5 := hv.s k hk1
          repeat' (first | apply And.intro | intro _)
          all_goals try first
            | omega
            | exact c96 _ _ (by omega) hfl.1 hfl.2.1 hfl.2.2.1 (by unfold In64; omega) (by unfold In64; omega)
            | exact c97 _ _ _ _ ⟨by omega, by omega, by omega, by omega, by omega, by omega, by omega⟩
            | (rw [row_at _ (by omega)]; rfl)
            | (exfalso; simp only [decide_eq_false_iff_not] at *; omega)
          rename_i hq
          refine ⟨i + 1, by omega, by omega, ?_⟩
          have h2 := hsuc
          unfold flFxR at h2
          simp only [hkk] at h2
          rw [if_pos hq] at h2
          simp only [encFx] at h2
          rw [hll1, h2]
          rfl
        · repeat' (first | apply And.intro | intro _)
          all_goals try first
            | omega
            | exact c96 _ _ (by omega) hfl.1 hfl.2.1 hfl.2.2.1 (by unfold In64; omega) (by unfold In64; omega)
            | (rw [row_at _ (by omega)]; rfl)
            | (exfalso; simp only [decide_eq_true_eq] at *; omega)
          rename_i hq
          refine ⟨i + 1, by omega, by omega, ?_⟩
          have h2 := hsuc
          unfold flFxR at h2
          simp only [hkk] at h2
          rw [if_neg (by rw [hq]; decide)] at h2
          simp only [encFx] at h2
          rw [hll1, h2]
          rfl
    · obtain rfl := ge_of_dec hd hg
      refine ⟨fun hq => ?_, fun hq => ⟨c33 _ (by simp [flR]; omega), fun h2 => ?_, fun h2 => ?_⟩⟩
      · rw [sFlownR, if_pos hq]; rfl
      · rw [sFlownR, if_neg (by rw [hq]; decide), if_pos h2]; rfl
      · rw [sFlownR, if_neg (by rw [hq]; decide), if_neg (by rw [h2]; decide)]
  exact c_of Tryz.f21 (B21 l p sp tk [(6, 5, rdOr [rdL 2 encPt l 2 true, rdL 3 encSt p 2 true]), (7, 5, rdOr [rdL 2 encPt l 1 false, rdL 3 encSt p 1 false]), (7, 7, rdOr [rdL 2 encPt l 1 false, rdL 3 encSt p 1 false]), (7, 10, rdOr [rdL 2 encPt l 1 false, rdL 3 encSt p 1 false]), (7, 15, rdOr [rdL 2 encPt l 1 false, rdL 3 encSt p 1 false]), (7, 23, rdOr [rdL 2 encPt l 1 false, rdL 3 encSt p 1 false]), (7, 25, rdOr [rdL 2 encPt l 1 false, rdL 3 encSt p 1 false]), (7, 28, rdOr [rdL 2 encPt l 1 false, rdL 3 encSt p 1 false]), (7, 33, rdOr [rdL 2 encPt l 1 false, rdL 3 encSt p 1 false]), (12, 4, rdOr [rdL 2 encPt l 1 false, rdL 3 encSt p 1 false]), (14, 9, rdOr [rdL 2 encPt l 1 false, rdL 3 encSt p 1 false]), (14, 14, rdOr [rdL 2 encPt l 1 false, rdL 3 encSt p 1 false]), (14, 19, rdOr [rdL 2 encPt l 1 false, rdL 3 encSt p 1 false]), (14, 25, rdOr [rdL 2 encPt l 1 false, rdL 3 encSt p 1 false]), (16, 5, rdOr [rdL 2 encPt l 1 false, rdL 3 encSt p 1 false]), (16, 12, rdOr [rdL 2 encPt l 1 false, rdL 3 encSt p 1 false]), (16, 17, rdOr [rdL 2 encPt l 1 false, rdL 3 encSt p 1 false]), (17, 4, rdOr [rdL 2 encPt l 1 false, rdL 3 encSt p 1 false]), (17, 10, rdOr [rdL 2 encPt l 1 false, rdL 3 encSt p 1 false]), (17, 18, rdOr [rdL 2 encPt l 1 false, rdL 3 encSt p 1 false]), (17, 24, rdOr [rdL 2 encPt l 1 false, rdL 3 encSt p 1 false]), (18, 1, rdOr [rdL 2 encPt l 5 true, rdL 3 encSt p 5 true])]) (by kernel_rfl) (by kernel_rfl) (by kernel_rfl) (by kernel_rfl) key (by kernel_rfl)
end Go.Proofs.YtjhjmncjidbieaaGreatDoor
namespace Go.Proofs.YtjhjmncjidbieaaGreatDoor
open Go Go.Av Go.RowKit
theorem scan_congr {f g : Nat → Int} {n : Nat} {fin : Int} (h : ∀ k, k < n → f k = g k) : sScan f n fin = sScan g n fin := by
  unfold sScan
  rw [List.map_congr_left (fun k hk => h k (List.mem_range.1 hk))]
theorem ls_congr {c : Int} {f g : Nat → Int} {n : Nat} {fin : Int} (h : ∀ k, k < n → f k = g k) : sLS c f n fin = sLS c g n fin := by
  unfold sLS
  rw [scan_congr h]
theorem lastA_pos {l : List St} {i : Nat} (h : 0 < i) : lastA l i = (l.getD (prv i) default).a := by
  obtain ⟨j, rfl⟩ : ∃ j, i = j + 1 := ⟨i - 1, by omega⟩
  rw [prv_succ]
  rfl
theorem proc_eq (p : List St) : sProcS p = sProcR p := by
  unfold sProcS sProcR
  refine ls_congr fun k _ => ?_
  unfold fProcS fProcR
  have e : (if decide ((p.getD k default).a ≤ lastA p k) = true then true else if ((k : Int) == 0) = true then (p.getD k default).a != 0 else false) =
      (if (if ((k : Int) == 0) = true then (p.getD k default).a != 0 else false) = true then true else if decide ((k : Int) > 0) = true then decide ((p.getD k default).a ≤ (p.getD (prv k) default).a) else false) := by
    rcases Nat.eq_zero_or_pos k with rfl | hk
    · have h1 : lastA p 0 = -1 := rfl
      rw [h1]
      by_cases h2 : (p.getD 0 default).a ≤ -1
      · have h3 : ((p.getD 0 default).a != 0) = true := by rw [bne_iff_ne]; omega
        rw [decide_eq_true h2, h3]
        rfl
      · rw [decide_eq_false h2]
        cases hb : ((p.getD 0 default).a != 0) <;> rfl
    · rw [lastA_pos hk]
      have h1 : ((k : Int) == 0) = false := by rw [beq_eq_false_iff_ne]; omega
      have h2 : decide ((k : Int) > 0) = true := by rw [decide_eq_true_eq]; omega
      rw [h1, h2]
      cases hd : decide ((p.getD k default).a ≤ (p.getD (prv k) default).a) <;> rfl
  rw [e]
theorem first_nest (a b c d : Int) : sFirst [sFirst [a, b, c], d] = sFirst [a, b, c, d] := by
  unfold sFirst
  by_cases ha : a = 0
  · by_cases hb : b = 0
    · by_cases hc : c = 0
      · simp [sFirst, ha, hb, hc]
      · simp [sFirst, ha, hb, hc]
    · simp [sFirst, ha, hb]
  · simp [sFirst, ha]
theorem track_eq (l : List Fx) : sTrackS l = sTrackR l := by
  unfold sTrackS sTrackR
  refine ls_congr fun k _ => ?_
  unfold fTrackS fTrackR sFix
  exact first_nest _ _ _ _
theorem kI_le {p : List St} {al : Int} (h0 : (p.getD 0 default).a ≤ al) : ∀ j, (p.getD (kI p al j) default).a ≤ al
  | 0 => h0
  | j + 1 => by
    simp only [kI]
    split
    · rename_i h; simpa using h
    · exact kI_le h0 j
theorem kI_gt {p : List St} {al : Int} : ∀ j i, kI p al j < i → i < j → al < (p.getD i default).a
  | 0, i, _, h => by omega
  | j + 1, i, h1, h2 => by
    simp only [kI] at h1
    split at h1
    · omega
    · rename_i h
      by_cases e : i = j
      · subst e; simpa using h
      · exact kI_gt j i h1 (by omega)
theorem sorted {p : List St} (hv : ProcOK p) : ∀ d i, i + d < p.length → (p.getD i default).a ≤ (p.getD (i + d) default).a
  | 0, _, _ => Int.le_refl _
  | d + 1, i, h => by
    have h1 := sorted hv d i (by omega)
    have h2 := hv.s (i + d) h
    rw [show i + (d + 1) = i + d + 1 by omega]
    omega
theorem step_at {p : List St} {al : Int} (hv : ProcOK p) (h0 : 0 ≤ al) : ∀ m i, i + m + 1 = p.length → i ≤ kI p al p.length →
    sStepF p al m i = if decide ((kI p al p.length : Int) + 1 < (p.length : Int)) = true then
      ⟨al, sBetween (p.getD (kI p al p.length) default).h (p.getD (kI p al p.length + 1) default).h (al - (p.getD (kI p al p.length) default).a) ((p.getD (kI p al p.length + 1) default).a - (p.getD (kI p al p.length) default).a),
        sBetween (p.getD (kI p al p.length) default).p (p.getD (kI p al p.length + 1) default).p (al - (p.getD (kI p al p.length) default).a) ((p.getD (kI p al p.length + 1) default).a - (p.getD (kI p al p.length) default).a)⟩
      else p.getD (kI p al p.length) default
  | 0, i, h, hk => by
    have hn := hv.n1
    have hlt := kI_lt (p := p) (al := al) (n := p.length) (by omega) p.length (Nat.le_refl _)
    have e : kI p al p.length = i := by omega
    rw [sStepF, List.length_map, e, if_neg (by simp; omega), show lastOf p.length = i by unfold lastOf; omega]
  | m + 1, i, h, hk => by
    have hn := hv.n1
    have hlt := kI_lt (p := p) (al := al) (n := p.length) (by omega) p.length (Nat.le_refl _)
    have hle := kI_le (p := p) (al := al) (by rw [hv.z]; exact h0) p.length
    by_cases e : kI p al p.length = i
    · have hg := kI_gt (p := p) (al := al) p.length (i + 1) (by omega) (by omega)
      rw [sStepF, e, if_pos (by simpa using hg), if_pos (by simp; omega)]
    · have hs := sorted hv (kI p al p.length - (i + 1)) (i + 1) (by omega)
      rw [show i + 1 + (kI p al p.length - (i + 1)) = kI p al p.length by omega] at hs
      rw [sStepF, if_neg (by simp only [decide_eq_true_eq]; omega)]
      exact step_at hv h0 m (i + 1) (by omega) (by omega)
theorem fx_eq {l : List Pt} {p : List St} {sp tk : Int} (hP : PathOK l) (hv : ProcOK p) {i : Nat} (hi : i < l.length) : flFx l p sp tk i = flFxR l p sp tk i := by
  have hn := hv.n1
  have hal := al_bound hP i hi
  unfold flFx flFxR
  rw [alR_eq, sStep, List.length_map, step_at hv hal.1 (p.length - 1) 0 (by omega) (by omega)]
  split
  · congr 1; omega
  · congr 1; omega
theorem fl_eq {l : List Pt} {p : List St} {sp tk : Int} (hP : PathOK l) (hv : ProcOK p) : flL l p sp tk l.length = flR l p sp tk l.length := by
  unfold flL flR
  exact List.map_congr_left fun i hi => fx_eq hP hv (List.mem_range.1 hi)
theorem alB_eq (l : List Pt) : ∀ n, alB l n = sAlR l n
  | 0 => rfl
  | n + 1 => (alR_eq l n).symm
theorem flown_eq {l : List Pt} {p : List St} {sp tk : Int} (h : sPre l p sp tk = 0) : sFlown l p sp tk = sFlownR l p sp tk := by
  have hb := h
  simp only [sPre, first_zero] at hb
  have hP := path_ok hb.1
  have hv := proc_ok hb.2.1
  unfold sFlown sFlownR
  rw [h, if_neg (by decide)]
  unfold sPost
  rw [alB_eq, fl_eq hP hv, track_eq]
  cases hd : decide (sAlR l l.length > 400000) with
  | true => simp [sWhen, sFirst]
  | false =>
    cases ht : (sTrackR (flR l p sp tk l.length) != 0) with
    | true =>
      have := bne_t ht
      simp [sWhen, sFirst, this]
    | false =>
      have := bne_f ht
      simp [sWhen, sFirst, this]
theorem eqFx_refl (a : Fx) : eqFx a a = true := by simp [eqFx]
theorem same_refl (l : List Fx) : sSame l l = true := by
  simp [sSame, eqFx_refl]
end Go.Proofs.YtjhjmncjidbieaaGreatDoor
namespace Go.Proofs.YtjhjmncjidbieaaGreatDoor
open Go Go.Av Go.RowKit
def dI : AV → Int
  | .int _ n => n
  | _ => 0
def decFx (r : List AV) : Fx := ⟨dI (nth r 0), dI (nth r 1), dI (nth r 2), dI (nth r 3), dI (nth r 4)⟩
theorem dec_map (l : List Fx) : (l.map encFx).map decFx = l := by
  rw [List.map_map]
  exact List.map_id _
def spG (l : List Pt) (p : List St) (a b : Int) : Nat → List AV → Option AV
  | 13, _ => some (.bool true)
  | 15, _ => some (.sl 3 (p.map encSt))
  | 14, _ => some (.tup [.sl 5 ((sFlown l p a b).1.map encFx), .i (sFlown l p a b).2])
  | 21, _ => some (.tup [.sl 5 ((sFlownR l p a b).1.map encFx), .i (sFlownR l p a b).2])
  | 17, _ => some (.i (sPath l))
  | 18, _ => some (.i (sProcR p))
  | 22, _ => some (.i (sProcS p))
  | 24, _ => some (.sl 5 ((sFlown l p a b).1.map encFx))
  | 23, [.sl _ x, .sl _ y] => some (.bool (sSame (x.map decFx) (y.map decFx)))
  | n, x => spC n x
def B3 (l : List Pt) (p : List St) (a b : Int) (rds : List (Nat × Nat × (List AV → Option AV))) : BA :=
  { mkB (spG l p a b) 3 rds noLa with gs := fun i => if i.beq 5 then [.nil 10 5] else [] }
theorem c3 (l : List Pt) (p : List St) (a b : Int) (hA : PCall Tryz.prog G0 13 [] (.bool true)) : PCall Tryz.prog G0 3 [.sl 2 (l.map encPt), .sl 3 (p.map encSt), .agg [.i a, .i b]] (.bool true) := by
  have key :
      ((!decide ((↑(List.map encPt l).length : Int) > (17 : Int))) = true →
      (!decide ((↑(List.map encPt l).length : Int) > (17 : Int))) = true) ∧
      ((!decide ((↑(List.map encPt l).length : Int) > (17 : Int))) = true →
      (!decide ((↑(List.map encPt l).length : Int) > (17 : Int))) = true) ∧
      (decide ((↑(List.map encPt l).length : Int) > (17 : Int)) = false →
      (!decide ((↑(List.map encPt l).length : Int) > (17 : Int))) = true) ∧
      ((if decide ((↑(List.map encPt l).length : Int) > (17 : Int)) = true then true
      else decide ((↑(List.map encSt p).length : Int) > (9 : Int))) =
      true →
      PCall Tryz.prog G0 (13 : Nat) [] (AV.bool true) ∧ AV.bool true = AV.bool true) ∧
      ((if decide ((↑(List.map encPt l).length : Int) > (17 : Int)) = true then true
      else decide ((↑(List.map encSt p).length : Int) > (9 : Int))) =
      false →
      (0 : Nat) + (List.map encPt l).length ≤ (9223372036854775807 : Nat) ∧
      ((0 : Nat) + (List.map encPt l).length) * (16 : Nat) ≤ (140737488355328 : Nat) ∧
      (0 : Int) ≤ (0 : Int) ∧
      (0 : Int) < (↑(2 : Nat) : Int) ∧
      (0 : Int) ≤ (1 : Int) ∧
      (1 : Int) < (↑(2 : Nat) : Int) ∧
      PCall Tryz.prog G0 (15 : Nat) [AV.sl (3 : Nat) (List.map encSt p)]
      (AV.sl (3 : Nat) (List.map encSt p)) ∧
      PCall Tryz.prog G0 (14 : Nat)
      [AV.sl (2 : Nat) ([] ++ List.map encPt l), AV.sl (3 : Nat) (List.map encSt p),
      AV.int IntKind.i64 a, AV.int IntKind.i64 b]
      (AV.tup
      [AV.sl (5 : Nat) (List.map encFx (sFlown l p a b).fst),
      AV.int IntKind.i64 (sFlown l p a b).snd]) ∧
      (0 : Int) ≤ (0 : Int) ∧
      (0 : Int) < (↑(2 : Nat) : Int) ∧
      (0 : Int) ≤ (1 : Int) ∧
      (1 : Int) < (↑(2 : Nat) : Int) ∧
      PCall Tryz.prog G0 (17 : Nat) [AV.sl (2 : Nat) (List.map encPt l)]
      (AV.int IntKind.i64 (sPath l)) ∧
      PCall Tryz.prog G0 (18 : Nat) [AV.sl (3 : Nat) (List.map encSt p)]
      (AV.int IntKind.i64 (sProcR p)) ∧
      PCall Tryz.prog G0 (19 : Nat) [AV.int IntKind.i64 a]
      (AV.int IntKind.i64 (sWithin a (1 : Int) (1000 : Int))) ∧
      PCall Tryz.prog G0 (20 : Nat) [AV.int IntKind.i64 b]
      (AV.int IntKind.i64 (sWithin b (0 : Int) (100000000 : Int))) ∧
      PCall Tryz.prog G0 (16 : Nat)
      [AV.sl (1 : Nat)
      [[AV.int IntKind.i64 (sPath l)], [AV.int IntKind.i64 (sProcR p)],
      [AV.int IntKind.i64 (sWithin a (1 : Int) (1000 : Int))],
      [AV.int IntKind.i64 (sWithin b (0 : Int) (100000000 : Int))]]]
      (AV.int IntKind.i64
      (sFirst
      [hdI [AV.int IntKind.i64 (sPath l)],
      hdI [AV.int IntKind.i64 (sProcR p)],
      hdI [AV.int IntKind.i64 (sWithin a (1 : Int) (1000 : Int))],
      hdI
      [AV.int IntKind.i64
      (sWithin b (0 : Int) (100000000 : Int))]])) ∧
      ((sFirst
      [hdI [AV.int IntKind.i64 (sPath l)],
      hdI [AV.int IntKind.i64 (sProcR p)],
      hdI [AV.int IntKind.i64 (sWithin a (1 : Int) (1000 : Int))],
      hdI
      [AV.int IntKind.i64
      (sWithin b (0 : Int) (100000000 : Int))]] ==
      (0 : Int)) =
      true →
      (0 : Int) ≤ (0 : Int) ∧
      (0 : Int) < (↑(2 : Nat) : Int) ∧
      (0 : Int) ≤ (1 : Int) ∧
      (1 : Int) < (↑(2 : Nat) : Int) ∧
      PCall Tryz.prog G0 (21 : Nat)
      [AV.sl (2 : Nat) (List.map encPt l),
      AV.sl (3 : Nat) (List.map encSt p),
      AV.int IntKind.i64 a, AV.int IntKind.i64 b]
      (AV.tup
      [AV.sl (5 : Nat) (List.map encFx (sFlownR l p a b).fst),
      AV.int IntKind.i64 (sFlownR l p a b).snd]) ∧
      ((sProcS p == sProcR p) = true →
      (sProcS p == sProcR p) = true) ∧
      ((sProcS p == sProcR p) = true →
      (sProcS p == sProcR p) = true) ∧
      ((sProcS p == sProcR p) = true →
      (sProcS p == sProcR p) = true) ∧
      ((sProcS p == sProcR p) = true →
      (sProcS p == sProcR p) = true) ∧
      ((if (sProcS p == sProcR p) = true then
      sSame
      (List.map decFx
      (List.map encFx (sFlown l p a b).fst))
      (List.map decFx
      (List.map encFx (sFlownR l p a b).fst))
      else false) =
      true →
      (if (sProcS p == sProcR p) = true then
      sSame
      (List.map decFx
      (List.map encFx (sFlown l p a b).fst))
      (List.map decFx
      (List.map encFx (sFlownR l p a b).fst))
      else false) =
      true) ∧
      ((if (sProcS p == sProcR p) = true then
      sSame
      (List.map decFx
      (List.map encFx (sFlown l p a b).fst))
      (List.map decFx
      (List.map encFx
      (sFlownR l p a b).fst))
      else false) =
      true →
      (if (sProcS p == sProcR p) = true then
      sSame
      (List.map decFx
      (List.map encFx (sFlown l p a b).fst))
      (List.map decFx
      (List.map encFx
      (sFlownR l p a b).fst))
      else false) =
      true) ∧
      ((if (sProcS p == sProcR p) = true then
      sSame
      (List.map decFx
      (List.map encFx
      (sFlown l p a b).fst))
      (List.map decFx
      (List.map encFx
      (sFlownR l p a b).fst))
      else false) =
      true →
      (if (sProcS p == sProcR p) = true then
      sSame
      (List.map decFx
      (List.map encFx
      (sFlown l p a b).fst))
      (List.map decFx
      (List.map encFx
      (sFlownR l p a b).fst))
      else false) =
      true) ∧
      ((if
      (if
      (sProcS p == sProcR p) =
      true then
      sSame
      (List.map decFx
      (List.map encFx
      (sFlown l p a b).fst))
      (List.map decFx
      (List.map encFx
      (sFlownR l p a b).fst))
      else false) =
      true then
      (sFlown l p a b).snd ==
      (sFlownR l p a b).snd
      else false) =
      true →
      (if
      (if
      (sProcS p == sProcR p) =
      true then
      sSame
      (List.map decFx
      (List.map encFx
      (sFlown l p a b).fst))
      (List.map decFx
      (List.map encFx
      (sFlownR l p a b).fst))
      else false) =
      true then
      (sFlown l p a b).snd ==
      (sFlownR l p a b).snd
      else false) =
      true) ∧
      PCall Tryz.prog G0 (15 : Nat)
      [AV.sl (3 : Nat) (List.map encSt p)]
      (AV.sl (3 : Nat) (List.map encSt p)) ∧
      PCall Tryz.prog G0 (22 : Nat)
      [AV.sl (3 : Nat) (List.map encSt p)]
      (AV.int IntKind.i64 (sProcS p)) ∧
      PCall Tryz.prog G0 (18 : Nat)
      [AV.sl (3 : Nat) (List.map encSt p)]
      (AV.int IntKind.i64 (sProcR p)) ∧
      impB (sProcS p == sProcR p)
      (PCall Tryz.prog G0 (24 : Nat)
      [AV.sl (5 : Nat)
      (List.map encFx
      (sFlown l p a b).fst)]
      (AV.sl (5 : Nat)
      (List.map encFx
      (sFlown l p a b).fst))) ∧
      impB (sProcS p == sProcR p)
      (PCall Tryz.prog G0 (23 : Nat)
      [AV.sl (5 : Nat)
      (List.map encFx
      (sFlown l p a b).fst),
      AV.sl (5 : Nat)
      (List.map encFx
      (sFlownR l p a b).fst)]
      (AV.bool
      (sSame
      (List.map decFx
      (List.map encFx
      (sFlown l p a b).fst))
      (List.map decFx
      (List.map encFx
      (sFlownR l p a
      b).fst))))) ∧
      impB
      (if
      (if
      (sProcS p ==
      sProcR p) =
      true then
      sSame
      (List.map decFx
      (List.map encFx
      (sFlown l p a
      b).fst))
      (List.map decFx
      (List.map encFx
      (sFlownR l p a
      b).fst))
      else false) =
      true then
      (sFlown l p a b).snd ==
      (sFlownR l p a b).snd
      else false)
      (PCall Tryz.prog G0 (13 : Nat)
      [] (AV.bool true)) ∧
      AV.bool
      (if
      (if
      (if
      (sProcS p ==
      sProcR
      p) =
      true then
      sSame
      (List.map
      decFx
      (List.map
      encFx
      (sFlown
      l p
      a
      b).fst))
      (List.map
      decFx
      (List.map
      encFx
      (sFlownR
      l p
      a
      b).fst))
      else false) =
      true then
      (sFlown l p a
      b).snd ==
      (sFlownR l p a
      b).snd
      else false) =
      true then
      true
      else false) =
      AV.bool true) ∧
      ((sFirst
      [hdI [AV.int IntKind.i64 (sPath l)],
      hdI [AV.int IntKind.i64 (sProcR p)],
      hdI [AV.int IntKind.i64 (sWithin a (1 : Int) (1000 : Int))],
      hdI
      [AV.int IntKind.i64
      (sWithin b (0 : Int) (100000000 : Int))]] ==
      (0 : Int)) =
      false →
      ((sProcS p == sProcR p) = true → (sProcS p == sProcR p) = true) ∧
      ((sProcS p == sProcR p) = true → (sProcS p == sProcR p) = true) ∧
      ((sProcS p == sProcR p) = true → (sProcS p == sProcR p) = true) ∧
      ((sProcS p == sProcR p) = true →
      (sProcS p == sProcR p) = true) ∧
      ((if (sProcS p == sProcR p) = true then
      sSame
      (List.map decFx
      (List.map encFx (sFlown l p a b).fst))
      []
      else false) =
      true →
      (if (sProcS p == sProcR p) = true then
      sSame
      (List.map decFx
      (List.map encFx (sFlown l p a b).fst))
      []
      else false) =
      true) ∧
      ((if (sProcS p == sProcR p) = true then
      sSame
      (List.map decFx
      (List.map encFx (sFlown l p a b).fst))
      []
      else false) =
      true →
      (if (sProcS p == sProcR p) = true then
      sSame
      (List.map decFx
      (List.map encFx (sFlown l p a b).fst))
      []
      else false) =
      true) ∧
      ((if (sProcS p == sProcR p) = true then
      sSame
      (List.map decFx
      (List.map encFx (sFlown l p a b).fst))
      []
      else false) =
      true →
      (if (sProcS p == sProcR p) = true then
      sSame
      (List.map decFx
      (List.map encFx (sFlown l p a b).fst))
      []
      else false) =
      true) ∧
      ((if
      (if (sProcS p == sProcR p) = true then
      sSame
      (List.map decFx
      (List.map encFx (sFlown l p a b).fst))
      []
      else false) =
      true then
      (sFlown l p a b).snd ==
      sFirst
      [hdI [AV.int IntKind.i64 (sPath l)],
      hdI [AV.int IntKind.i64 (sProcR p)],
      hdI
      [AV.int IntKind.i64
      (sWithin a (1 : Int) (1000 : Int))],
      hdI
      [AV.int IntKind.i64
      (sWithin b (0 : Int)
      (100000000 : Int))]]
      else false) =
      true →
      (if
      (if (sProcS p == sProcR p) = true then
      sSame
      (List.map decFx
      (List.map encFx (sFlown l p a b).fst))
      []
      else false) =
      true then
      (sFlown l p a b).snd ==
      sFirst
      [hdI [AV.int IntKind.i64 (sPath l)],
      hdI [AV.int IntKind.i64 (sProcR p)],
      hdI
      [AV.int IntKind.i64
      (sWithin a (1 : Int) (1000 : Int))],
      hdI
      [AV.int IntKind.i64
      (sWithin b (0 : Int)
      (100000000 : Int))]]
      else false) =
      true) ∧
      PCall Tryz.prog G0 (15 : Nat)
      [AV.sl (3 : Nat) (List.map encSt p)]
      (AV.sl (3 : Nat) (List.map encSt p)) ∧
      PCall Tryz.prog G0 (22 : Nat)
      [AV.sl (3 : Nat) (List.map encSt p)]
      (AV.int IntKind.i64 (sProcS p)) ∧
      PCall Tryz.prog G0 (18 : Nat)
      [AV.sl (3 : Nat) (List.map encSt p)]
      (AV.int IntKind.i64 (sProcR p)) ∧
      impB (sProcS p == sProcR p)
      (PCall Tryz.prog G0 (24 : Nat)
      [AV.sl (5 : Nat)
      (List.map encFx (sFlown l p a b).fst)]
      (AV.sl (5 : Nat)
      (List.map encFx
      (sFlown l p a b).fst))) ∧
      impB (sProcS p == sProcR p)
      (PCall Tryz.prog G0 (23 : Nat)
      [AV.sl (5 : Nat)
      (List.map encFx
      (sFlown l p a b).fst),
      AV.sl (5 : Nat) []]
      (AV.bool
      (sSame
      (List.map decFx
      (List.map encFx
      (sFlown l p a b).fst))
      []))) ∧
      impB
      (if
      (if
      (sProcS p == sProcR p) =
      true then
      sSame
      (List.map decFx
      (List.map encFx
      (sFlown l p a b).fst))
      []
      else false) =
      true then
      (sFlown l p a b).snd ==
      sFirst
      [hdI
      [AV.int IntKind.i64
      (sPath l)],
      hdI
      [AV.int IntKind.i64
      (sProcR p)],
      hdI
      [AV.int IntKind.i64
      (sWithin a (1 : Int)
      (1000 : Int))],
      hdI
      [AV.int IntKind.i64
      (sWithin b (0 : Int)
      (100000000 : Int))]]
      else false)
      (PCall Tryz.prog G0 (13 : Nat) []
      (AV.bool true)) ∧
      AV.bool
      (if
      (if
      (if
      (sProcS p ==
      sProcR p) =
      true then
      sSame
      (List.map decFx
      (List.map encFx
      (sFlown l p a
      b).fst))
      []
      else false) =
      true then
      (sFlown l p a b).snd ==
      sFirst
      [hdI
      [AV.int IntKind.i64
      (sPath l)],
      hdI
      [AV.int IntKind.i64
      (sProcR p)],
      hdI
      [AV.int IntKind.i64
      (sWithin a
      (1 : Int)
      (1000 : Int))],
      hdI
      [AV.int IntKind.i64
      (sWithin b
      (0 : Int)
      (100000000 :
      Int))]]
      else false) =
      true then
      true
      else false) =
      AV.bool true)) := by
    have hlen1 : (l.map encPt).length = l.length := List.length_map ..
    have hlen2 : (p.map encSt).length = p.length := List.length_map ..
    have hpq : (sProcS p == sProcR p) = true := by rw [proc_eq]; simp
    have hpre : sFirst [sPath l, sProcR p, sWithin a 1 1000, sWithin b 0 100000000] = sPre l p a b := by rw [sPre, proc_eq]
    simp only [dec_map, hdI, hpre, hpq, hlen1, hlen2, if_true, List.map_nil]
    refine ⟨fun h => h, fun h => h, fun h => by simp [h], fun _ => ⟨hA, trivial⟩, fun hbig => ?_⟩
    have hl1 : l.length ≤ 17 := by
      by_cases h : (l.length : Int) > 17
      · simp [h] at hbig
      · omega
    have hl2 : p.length ≤ 9 := by
      by_cases h : (p.length : Int) > 9
      · simp [h] at hbig
      · omega
    have k14 := c14 l p a b (by omega) (by omega)
    have k15 := (c15 p (by omega)).un
    have k16 := c16 [sPath l, sProcR p, sWithin a 1 1000, sWithin b 0 100000000] (by simp)
    rw [hpre] at k16
    have k22 := c22 p (by omega)
    have k18 := c18 p (by omega)
    have hsl : (sFlown l p a b).1.length ≤ 1000 := by
      unfold sFlown
      split
      · simp
      · split
        · simp
        · simp [flL]; omega
    have k24 := (c24 (sFlown l p a b).1 hsl).un
    refine ⟨by omega, by omega, by omega, by omega, by omega, by omega, k15, k14, by omega, by omega, by omega, by omega, c17 l (by omega), k18, c19 a, c20 b, k16, fun h0 => ?_, fun h0 => ?_⟩
    · have h0' : sPre l p a b = 0 := by simpa using h0
      have hb := h0'
      simp only [sPre, first_zero, within_zero] at hb
      have hP := path_ok hb.1
      have hv := proc_ok hb.2.1
      have e := flown_eq h0'
      have k21 := c21 l p a b hP hv hb.2.2.1.1 hb.2.2.1.2 hb.2.2.2.1.1 hb.2.2.2.1.2
      have k23 := c23 (sFlown l p a b).1 (sFlownR l p a b).1 hsl
      have hs : sSame (sFlown l p a b).1 (sFlownR l p a b).1 = true := by rw [e]; exact same_refl _
      have he : ((sFlown l p a b).2 == (sFlownR l p a b).2) = true := by rw [e]; simp
      rw [hs] at k23
      simp only [hs, he, if_true, impB]
      repeat' (first | apply And.intro | intro _)
      all_goals first
        | omega
        | exact k21
        | exact k15
        | exact k22
        | exact k18
        | exact k24
        | exact k23
        | exact hA
        | trivial
        | rfl
    · have h0' : (sPre l p a b != 0) = true := by
        rw [bne_iff_ne]
        simpa using h0
      have e1 : (sFlown l p a b).1 = [] := by rw [sFlown, if_pos h0']
      have e2 : (sFlown l p a b).2 = sPre l p a b := by rw [sFlown, if_pos h0']
      have k23 := c23 [] [] (by simp)
      have hs : sSame [] [] = true := same_refl _
      rw [hs] at k23
      rw [e1] at k24
      simp only [e1, e2, hs, if_true, impB, beq_self_eq_true, List.map_nil]
      repeat' (first | apply And.intro | intro _)
      all_goals first
        | exact k15
        | exact k22
        | exact k18
        | exact k24
        | exact k23
        | exact hA
        | trivial
        | rfl
  exact c_of Tryz.f3 (B3 l p a b []) (by kernel_rfl) (by kernel_rfl) (by kernel_rfl) (by kernel_rfl) key (by kernel_rfl)
end Go.Proofs.YtjhjmncjidbieaaGreatDoor
