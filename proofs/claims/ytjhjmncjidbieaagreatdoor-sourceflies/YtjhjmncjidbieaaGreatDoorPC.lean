/-
  What chapter 2's checks of types return. No condition but the theorems' own. What chapter 2's checks of settings and of types return. No condition but the theorems' own. What chapter 2's Flown returns. No condition but the theorems' own. What the source's checks of settings return. No condition but the theorems' own. What chapter 2's checks of a type return. No condition but the theorems' own. What chapter 2's emission returns. No condition but the theorems' own. What chapter 2's emission returns, on a type that passes its checks. No condition but the theorems' own.
-/
import Derived.Test.YtjhjmncjidbieaaGreatDoorPB
import Derived.Test.YtjhjmncjidbieaaGreatDoorAvC
namespace Go.Proofs.YtjhjmncjidbieaaGreatDoor
open Go Go.Av Go.RowKit
structure Sg where
  p : Int
  e : List Int
  deriving Inhabited
structure Ty where
  name : List UInt8
  sh : List Int
  d0 : Int
  d1 : Int
  d2 : Int
  d3 : Int
  d4 : Int
  d5 : Int
  d6 : Int
  d7 : Int
  side : Int
  sq : List Int
  st : List Sg
  deriving Inhabited
def encSg (s : Sg) : List AV := [.i s.p, .sl 1 (s.e.map encI)]
def Ty.dir (t : Ty) : List Int := [t.d0, t.d1, t.d2, t.d3, t.d4, t.d5, t.d6, t.d7]
def encTy (t : Ty) : List AV := [.str t.name, .sl 1 (t.sh.map encI), .i t.d0, .i t.d1, .i t.d2, .i t.d3, .i t.d4, .i t.d5, .i t.d6, .i t.d7, .i t.side, .sl 1 (t.sq.map encI), .sl 2 (t.st.map encSg)]
def cI (rows : List (List AV)) (i : Nat) : Int := match nth (nthR rows i) 0 with
  | .int _ n => n
  | _ => 0
def modA (r k : Nat) (f : An → An) (B : BA) : BA := { B with ra := fun i => if i.beq r then { B.ra i with ans := setA f k (B.ra i).ans } else B.ra i }
def spR : Nat → List AV → Option AV
  | 106, [.str s] => some (.i (sWhen (!sName s) 8))
  | n, x => spQ n x
end Go.Proofs.YtjhjmncjidbieaaGreatDoor
namespace Go.Proofs.YtjhjmncjidbieaaGreatDoor
open Go Go.Av Go.RowKit
def fzB (B : BA) : BA := { B with gs := fun i => (B.ra i).fz.map GS.frzo ++ B.gs i }
def Ty.sg (t : Ty) (i : Nat) : Sg := t.st.getD i default
def eAt (l : List Int) (k : Nat) : Int := l.getD k default
def up (l : List Int) (k : Nat) : Bool := if k = 0 then false else decide (eAt l k > eAt l (k - 1))
end Go.Proofs.YtjhjmncjidbieaaGreatDoor
namespace Go.Proofs.YtjhjmncjidbieaaGreatDoor
open Go Go.Av Go.RowKit
theorem ls_zero {c : Int} {f : Nat → Int} {n : Nat} (h : sLS c f n 0 = 0) : c = 0 ∧ ∀ k, k < n → f k = 0 := by
  unfold sLS at h
  split at h
  · rename_i hc; rw [h] at hc; simp at hc
  · rename_i hc
    refine ⟨by simpa using hc, fun k => ?_⟩
    induction k using Nat.strongRecOn with
    | _ k ih =>
      intro hk
      by_cases e : f k = 0
      · exact e
      · rw [scan_hit hk (fun j hj => ih j hj (by omega)) e] at h
        exact absurd h e
structure PathOK (l : List Pt) : Prop where
  n1 : 2 ≤ l.length
  n2 : l.length ≤ 16
  b : ∀ i, i < l.length → -100000 ≤ (l.getD i default).x ∧ (l.getD i default).x ≤ 100000 ∧ -100000 ≤ (l.getD i default).y ∧ (l.getD i default).y ≤ 100000
theorem path_ok {l : List Pt} (h : sPath l = 0) : PathOK l := by
  obtain ⟨h1, h2⟩ := ls_zero h
  have hn := len_ge (n := (l.map encPt).length) (by rw [h1]; rfl)
  rw [List.length_map] at hn h2
  refine ⟨hn.1, hn.2, fun i hi => ?_⟩
  have := h2 i hi
  simp only [fPath, first_zero, within_zero] at this
  exact ⟨this.1.1, this.1.2, this.2.1.1, this.2.1.2⟩
theorem len8_ge {n : Nat} (h : sLen8 n = 0) : 2 ≤ n ∧ n ≤ 8 := by
  unfold sLen8 at h
  simp only [first_zero, sWhen] at h
  by_cases h1 : (n : Int) < 2
  · simp [h1] at h
  · by_cases h2 : (n : Int) > 8
    · simp [h2] at h
    · omega
theorem when_zero {b : Bool} {e : Int} (he : e ≠ 0) : sWhen b e = 0 ↔ b = false := by
  cases b <;> simp [sWhen, he]
theorem proc_ok {l : List St} (h : sProcS l = 0) : ProcOK l := by
  obtain ⟨h1, h2⟩ := ls_zero h
  have hn := len8_ge h1
  rw [List.length_map] at hn h2
  have key : ∀ i, i < l.length → (0 ≤ (l.getD i default).a ∧ (l.getD i default).a ≤ 400000) ∧ (0 ≤ (l.getD i default).h ∧ (l.getD i default).h ≤ 20000) ∧ (1 ≤ (l.getD i default).p ∧ (l.getD i default).p ≤ 100) ∧
      (if decide ((l.getD i default).a ≤ lastA l i) = true then true else if ((i : Int) == 0) = true then (l.getD i default).a != 0 else false) = false := by
    intro i hi
    have := h2 i hi
    simp only [fProcS, sPower, first_zero, within_zero, when_zero (show (11 : Int) ≠ 0 by decide)] at this
    exact ⟨this.1, this.2.1, this.2.2.1, this.2.2.2.1⟩
  refine ⟨hn.1, hn.2, fun i hi => ?_, fun i hi => ?_, ?_⟩
  · have := key i hi
    omega
  · have := (key (i + 1) hi).2.2.2
    have e : lastA l (i + 1) = (l.getD i default).a := rfl
    rw [e] at this
    by_cases hc : (l.getD (i + 1) default).a ≤ (l.getD i default).a
    · rw [decide_eq_true hc] at this; cases this
    · omega
  · have := (key 0 (by omega)).2.2.2
    have e : lastA l 0 = -1 := rfl
    rw [e] at this
    by_cases hc : (l.getD 0 default).a ≤ -1
    · rw [decide_eq_true hc] at this; cases this
    · rw [decide_eq_false hc] at this
      have h3 : ((l.getD 0 default).a != 0) = false := this
      exact bne_f h3
def dX (l : List Pt) (i : Nat) : Int := (l.getD (i + 1) default).x - (l.getD i default).x
def dY (l : List Pt) (i : Nat) : Int := (l.getD (i + 1) default).y - (l.getD i default).y
def sAl (l : List Pt) : Nat → Int
  | 0 => 0
  | i + 1 => sAl l i + (maxI (dX l i) (0 - dX l i) + maxI (dY l i) (0 - dY l i))
def alB (l : List Pt) : Nat → Int
  | 0 => 0
  | i + 1 => sAl l i
theorem al_bound {l : List Pt} (h : PathOK l) : ∀ i, i < l.length → 0 ≤ sAl l i ∧ sAl l i ≤ 400000 * i
  | 0, _ => by simp [sAl]
  | i + 1, hi => by
    have ih := al_bound h i (by omega)
    have b1 := h.b i (by omega)
    have b2 := h.b (i + 1) hi
    have m1 : ∀ x : Int, -200000 ≤ x → x ≤ 200000 → 0 ≤ maxI x (0 - x) ∧ maxI x (0 - x) ≤ 200000 := fun x _ _ => by
      unfold maxI
      split <;> omega
    have m2 := m1 (dX l i) (by unfold dX; omega) (by unfold dX; omega)
    have m3 := m1 (dY l i) (by unfold dY; omega) (by unfold dY; omega)
    simp only [sAl]
    omega
def flFx (l : List Pt) (p : List St) (sp tk : Int) (i : Nat) : Fx := ⟨tk - sFloor (0 - sAl l i) sp, (l.getD i default).x, (l.getD i default).y, (sStep p (sAl l i)).h, (sStep p (sAl l i)).p⟩
def flL (l : List Pt) (p : List St) (sp tk : Int) (n : Nat) : List Fx := (List.range n).map (flFx l p sp tk)
def sPre (l : List Pt) (p : List St) (sp tk : Int) : Int := sFirst [sPath l, sProcS p, sWithin sp 1 1000, sWithin tk 0 100000000]
def sPost (l : List Pt) (p : List St) (sp tk : Int) : Int := sFirst [sWhen (decide (alB l l.length > 400000)) 4, sTrackS (flL l p sp tk l.length)]
def sFlown (l : List Pt) (p : List St) (sp tk : Int) : List Fx × Int :=
  if sPre l p sp tk != 0 then ([], sPre l p sp tk) else if sPost l p sp tk != 0 then ([], sPost l p sp tk) else (flL l p sp tk l.length, 0)
def spD (l : List Pt) (p : List St) (fl : List Fx) : Nat → List AV → Option AV
  | 88, _ => some (.i (sPath l))
  | 22, _ => some (.i (sProcS p))
  | 90, [_, .int _ along] => some (.agg (encSt (sStep p along)))
  | 76, _ => some (.i (sTrackS fl))
  | n, x => spC n x
def la14 (l : List Pt) (p : List St) (sp tk : Int) : LA := {
  pre := [.own 11 83 5, .ren 20 21, .keep [0, 1, 2, 3, 11, 12, 31, 32, 33] [20], .bound 21], post := [.ren 20 53, .keep [0, 1, 2, 3, 11, 12, 31, 32, 33] [20], .bound 21]
  Gh := Nat
  st := fun i => ⟨[(0, .sl 2 (l.map encPt)), (1, .sl 3 (p.map encSt)), (2, .i sp), (3, .i tk), (11, .own 20 ((flL l p sp tk i).map encFx).length), (12, .i (alB l i)), (31, .sl 2 (l.map encPt)), (32, .i (l.map encPt).length), (33, .i i)], [(20, .buf 83 5 ((flL l p sp tk i).map encFx))], 21⟩
  ok := fun i => i ≤ l.length
  ms := fun i => l.length - i }
def gs14 (i : Nat) : List GS := if i.beq 3 then [.nil 8 5] else if i.beq 17 then [.nil 8 5] else if i.beq 11 then [.keep [0, 1, 2, 3, 11, 12, 13, 14, 31, 32, 33] [20, 25], .bound 30] else []
def B14 (l : List Pt) (p : List St) (sp tk : Int) (rds : List (Nat × Nat × (List AV → Option AV))) : BA :=
  { mkB (spD l p (flL l p sp tk l.length)) 14 rds (fun i => if i.beq 0 then some (la14 l p sp tk) else none) with gs := gs14 }
theorem c14 (l : List Pt) (p : List St) (sp tk : Int) (hl : l.length ≤ 1000) (hp : p.length ≤ 1000) : PCall Tryz.prog G0 14 [.sl 2 (l.map encPt), .sl 3 (p.map encSt), .i sp, .i tk] (.tup [.sl 5 ((sFlown l p sp tk).1.map encFx), .i (sFlown l p sp tk).2]) := by
  have key :
   PCall Tryz.prog G0 (88 : Nat) [AV.sl (2 : Nat) (List.map encPt l)] (AV.int IntKind.i64 (sPath l)) ∧ PCall Tryz.prog G0 (22 : Nat) [AV.sl (3 : Nat) (List.map encSt p)] (AV.int IntKind.i64 (sProcS p)) ∧ PCall Tryz.prog G0 (89 : Nat)
   [AV.int IntKind.i64 sp, AV.int IntKind.i64 (1 : Int), AV.int IntKind.i64 (1000 : Int)] (AV.int IntKind.i64 (sWithin sp (1 : Int) (1000 : Int))) ∧ PCall Tryz.prog G0 (89 : Nat) [AV.int IntKind.i64 tk, AV.int IntKind.i64 (0 : Int),
   AV.int IntKind.i64 (100000000 : Int)] (AV.int IntKind.i64 (sWithin tk (0 : Int) (100000000 : Int))) ∧ PCall Tryz.prog G0 (87 : Nat) [AV.sl (1 : Nat) [[AV.int IntKind.i64 (sPath l)], [AV.int IntKind.i64 (sProcS p)], [AV.int
   IntKind.i64 (sWithin sp (1 : Int) (1000 : Int))], [AV.int IntKind.i64 (sWithin tk (0 : Int) (100000000 : Int))]]] (AV.int IntKind.i64 (sFirst [hdI [AV.int IntKind.i64 (sPath l)], hdI [AV.int IntKind.i64 (sProcS p)], hdI [AV.int
   IntKind.i64 (sWithin sp (1 : Int) (1000 : Int))], hdI [AV.int IntKind.i64 (sWithin tk (0 : Int) (100000000 : Int))]])) ∧ ((sFirst [hdI [AV.int IntKind.i64 (sPath l)], hdI [AV.int IntKind.i64 (sProcS p)], hdI [AV.int IntKind.i64
   (sWithin sp (1 : Int) (1000 : Int))], hdI [AV.int IntKind.i64 (sWithin tk (0 : Int) (100000000 : Int))]] != 0) = true → AV.tup [AV.sl (5 : Nat) [], AV.int IntKind.i64 (sFirst [hdI [AV.int IntKind.i64 (sPath l)], hdI [AV.int
   IntKind.i64 (sProcS p)], hdI [AV.int IntKind.i64 (sWithin sp (1 : Int) (1000 : Int))], hdI [AV.int IntKind.i64 (sWithin tk (0 : Int) (100000000 : Int))]])] = AV.tup [AV.sl (5 : Nat) (List.map encFx (sFlown l p sp tk).fst), AV.int
   IntKind.i64 (sFlown l p sp tk).snd]) ∧ ((sFirst [hdI [AV.int IntKind.i64 (sPath l)], hdI [AV.int IntKind.i64 (sProcS p)], hdI [AV.int IntKind.i64 (sWithin sp (1 : Int) (1000 : Int))], hdI [AV.int IntKind.i64 (sWithin tk (0 : Int)
   (100000000 : Int))]] != 0) = false → (∃ (g : Nat), g ≤ l.length ∧ AS.mk [((0 : Nat), AV.sl (2 : Nat) (List.map encPt l)), ((1 : Nat), AV.sl (3 : Nat) (List.map encSt p)), ((2 : Nat), AV.int IntKind.i64 sp), ((3 : Nat), AV.int
   IntKind.i64 tk), ((11 : Nat), AV.own (20 : Nat) (0 : Nat)), ((12 : Nat), AV.int IntKind.i64 (0 : Int)), ((31 : Nat), AV.sl (2 : Nat) (List.map encPt l)), ((32 : Nat), AV.int IntKind.i64 (↑(List.map encPt l).length : Int)), ((33 :
   Nat), AV.int IntKind.i64 (0 : Int))] [((20 : Nat), ABlk.buf (83 : Nat) (5 : Nat) [])] (21 : Nat) = AS.mk [((0 : Nat), AV.sl (2 : Nat) (List.map encPt l)), ((1 : Nat), AV.sl (3 : Nat) (List.map encSt p)), ((2 : Nat), AV.int
   IntKind.i64 sp), ((3 : Nat), AV.int IntKind.i64 tk), ((11 : Nat), AV.own (20 : Nat) (List.map encFx (flL l p sp tk g)).length), ((12 : Nat), AV.int IntKind.i64 (alB l g)), ((31 : Nat), AV.sl (2 : Nat) (List.map encPt l)), ((32 :
   Nat), AV.int IntKind.i64 (↑(List.map encPt l).length : Int)), ((33 : Nat), AV.int IntKind.i64 (↑g : Int))] [((20 : Nat), ABlk.buf (83 : Nat) (5 : Nat) (List.map encFx (flL l p sp tk g)))] (21 : Nat)) ∧ ∀ (g : Nat), g ≤ l.length →
   (decide ((↑g : Int) < (↑(List.map encPt l).length : Int)) = true → (0 : Int) ≤ (↑g : Int) ∧ (↑g : Int) < (↑(List.map encPt l).length : Int) ∧ AV.agg (nthR (List.map encPt l) (↑g : Int).toNat) = AV.agg [AV.int IntKind.i64 (l.getD
   (↑g : Int).toNat default).x, AV.int IntKind.i64 (l.getD (↑g : Int).toNat default).y] ∧ (decide ((↑g : Int) > 0) = true → In64 ((↑g : Int) - 1) ∧ (0 : Int) ≤ (↑g : Int) - 1 ∧ (↑g : Int) - 1 < (↑(List.map encPt l).length : Int) ∧
   In64 ((l.getD (↑g : Int).toNat default).x - (l.getD ((↑g : Int) - 1).toNat default).x) ∧ In64 ((↑g : Int) - 1) ∧ (0 : Int) ≤ (↑g : Int) - 1 ∧ (↑g : Int) - 1 < (↑(List.map encPt l).length : Int) ∧ In64 ((l.getD (↑g : Int).toNat
   default).y - (l.getD ((↑g : Int) - 1).toNat default).y) ∧ nth (nthR (List.map encPt l) ((↑g : Int) - 1).toNat) (0 : Nat) = AV.int IntKind.i64 (l.getD ((↑g : Int) - 1).toNat default).x ∧ nth (nthR (List.map encPt l) ((↑g : Int) -
   1).toNat) (1 : Nat) = AV.int IntKind.i64 (l.getD ((↑g : Int) - 1).toNat default).y ∧ In64 ((0 : Int) - ((l.getD (↑g : Int).toNat default).x - (l.getD ((↑g : Int) - 1).toNat default).x)) ∧ In64 ((0 : Int) - ((l.getD (↑g : Int).toNat
   default).y - (l.getD ((↑g : Int) - 1).toNat default).y)) ∧ In64 (maxI ((l.getD (↑g : Int).toNat default).x - (l.getD ((↑g : Int) - 1).toNat default).x) ((0 : Int) - ((l.getD (↑g : Int).toNat default).x - (l.getD ((↑g : Int) -
   1).toNat default).x)) + maxI ((l.getD (↑g : Int).toNat default).y - (l.getD ((↑g : Int) - 1).toNat default).y) ((0 : Int) - ((l.getD (↑g : Int).toNat default).y - (l.getD ((↑g : Int) - 1).toNat default).y))) ∧ In64 (alB l g + (maxI
   ((l.getD (↑g : Int).toNat default).x - (l.getD ((↑g : Int) - 1).toNat default).x) ((0 : Int) - ((l.getD (↑g : Int).toNat default).x - (l.getD ((↑g : Int) - 1).toNat default).x)) + maxI ((l.getD (↑g : Int).toNat default).y - (l.getD
   ((↑g : Int) - 1).toNat default).y) ((0 : Int) - ((l.getD (↑g : Int).toNat default).y - (l.getD ((↑g : Int) - 1).toNat default).y)))) ∧ PCall Tryz.prog G0 (90 : Nat) [AV.sl (3 : Nat) (List.map encSt p), AV.int IntKind.i64 (alB l g +
   (maxI ((l.getD (↑g : Int).toNat default).x - (l.getD ((↑g : Int) - 1).toNat default).x) ((0 : Int) - ((l.getD (↑g : Int).toNat default).x - (l.getD ((↑g : Int) - 1).toNat default).x)) + maxI ((l.getD (↑g : Int).toNat default).y -
   (l.getD ((↑g : Int) - 1).toNat default).y) ((0 : Int) - ((l.getD (↑g : Int).toNat default).y - (l.getD ((↑g : Int) - 1).toNat default).y))))] (AV.agg [AV.int IntKind.i64 (sStep p (alB l g + (maxI ((l.getD (↑g : Int).toNat
   default).x - (l.getD ((↑g : Int) - 1).toNat default).x) ((0 : Int) - ((l.getD (↑g : Int).toNat default).x - (l.getD ((↑g : Int) - 1).toNat default).x)) + maxI ((l.getD (↑g : Int).toNat default).y - (l.getD ((↑g : Int) - 1).toNat
   default).y) ((0 : Int) - ((l.getD (↑g : Int).toNat default).y - (l.getD ((↑g : Int) - 1).toNat default).y))))).a, AV.int IntKind.i64 (sStep p (alB l g + (maxI ((l.getD (↑g : Int).toNat default).x - (l.getD ((↑g : Int) - 1).toNat
   default).x) ((0 : Int) - ((l.getD (↑g : Int).toNat default).x - (l.getD ((↑g : Int) - 1).toNat default).x)) + maxI ((l.getD (↑g : Int).toNat default).y - (l.getD ((↑g : Int) - 1).toNat default).y) ((0 : Int) - ((l.getD (↑g :
   Int).toNat default).y - (l.getD ((↑g : Int) - 1).toNat default).y))))).h, AV.int IntKind.i64 (sStep p (alB l g + (maxI ((l.getD (↑g : Int).toNat default).x - (l.getD ((↑g : Int) - 1).toNat default).x) ((0 : Int) - ((l.getD (↑g :
   Int).toNat default).x - (l.getD ((↑g : Int) - 1).toNat default).x)) + maxI ((l.getD (↑g : Int).toNat default).y - (l.getD ((↑g : Int) - 1).toNat default).y) ((0 : Int) - ((l.getD (↑g : Int).toNat default).y - (l.getD ((↑g : Int) -
   1).toNat default).y))))).p]) ∧ In64 ((0 : Int) - (alB l g + (maxI ((l.getD (↑g : Int).toNat default).x - (l.getD ((↑g : Int) - 1).toNat default).x) ((0 : Int) - ((l.getD (↑g : Int).toNat default).x - (l.getD ((↑g : Int) - 1).toNat
   default).x)) + maxI ((l.getD (↑g : Int).toNat default).y - (l.getD ((↑g : Int) - 1).toNat default).y) ((0 : Int) - ((l.getD (↑g : Int).toNat default).y - (l.getD ((↑g : Int) - 1).toNat default).y))))) ∧ In64 (tk - sFloor ((0 : Int)
   - (alB l g + (maxI ((l.getD (↑g : Int).toNat default).x - (l.getD ((↑g : Int) - 1).toNat default).x) ((0 : Int) - ((l.getD (↑g : Int).toNat default).x - (l.getD ((↑g : Int) - 1).toNat default).x)) + maxI ((l.getD (↑g : Int).toNat
   default).y - (l.getD ((↑g : Int) - 1).toNat default).y) ((0 : Int) - ((l.getD (↑g : Int).toNat default).y - (l.getD ((↑g : Int) - 1).toNat default).y))))) sp) ∧ (List.map encFx (flL l p sp tk g)).length + (1 : Nat) ≤
   (9223372036854775807 : Nat) ∧ ((List.map encFx (flL l p sp tk g)).length + (1 : Nat)) * (40 : Nat) ≤ (140737488355328 : Nat) ∧ PCall Tryz.prog G0 (91 : Nat) [AV.int IntKind.i64 ((0 : Int) - (alB l g + (maxI ((l.getD (↑g :
   Int).toNat default).x - (l.getD ((↑g : Int) - 1).toNat default).x) ((0 : Int) - ((l.getD (↑g : Int).toNat default).x - (l.getD ((↑g : Int) - 1).toNat default).x)) + maxI ((l.getD (↑g : Int).toNat default).y - (l.getD ((↑g : Int) -
   1).toNat default).y) ((0 : Int) - ((l.getD (↑g : Int).toNat default).y - (l.getD ((↑g : Int) - 1).toNat default).y))))), AV.int IntKind.i64 sp] (AV.int IntKind.i64 (sFloor ((0 : Int) - (alB l g + (maxI ((l.getD (↑g : Int).toNat
   default).x - (l.getD ((↑g : Int) - 1).toNat default).x) ((0 : Int) - ((l.getD (↑g : Int).toNat default).x - (l.getD ((↑g : Int) - 1).toNat default).x)) + maxI ((l.getD (↑g : Int).toNat default).y - (l.getD ((↑g : Int) - 1).toNat
   default).y) ((0 : Int) - ((l.getD (↑g : Int).toNat default).y - (l.getD ((↑g : Int) - 1).toNat default).y))))) sp)) ∧ In64 ((↑g : Int) + 1) ∧ ∃ (g' : Nat), g' ≤ l.length ∧ l.length - g' < l.length - g ∧ AS.mk [((0 : Nat), AV.sl (2
   : Nat) (List.map encPt l)), ((1 : Nat), AV.sl (3 : Nat) (List.map encSt p)), ((2 : Nat), AV.int IntKind.i64 sp), ((3 : Nat), AV.int IntKind.i64 tk), ((11 : Nat), AV.own (20 : Nat) ((List.map encFx (flL l p sp tk g)).length + (1 :
   Nat))), ((12 : Nat), AV.int IntKind.i64 (alB l g + (maxI ((l.getD (↑g : Int).toNat default).x - (l.getD ((↑g : Int) - 1).toNat default).x) ((0 : Int) - ((l.getD (↑g : Int).toNat default).x - (l.getD ((↑g : Int) - 1).toNat
   default).x)) + maxI ((l.getD (↑g : Int).toNat default).y - (l.getD ((↑g : Int) - 1).toNat default).y) ((0 : Int) - ((l.getD (↑g : Int).toNat default).y - (l.getD ((↑g : Int) - 1).toNat default).y))))), ((31 : Nat), AV.sl (2 : Nat)
   (List.map encPt l)), ((32 : Nat), AV.int IntKind.i64 (↑(List.map encPt l).length : Int)), ((33 : Nat), AV.int IntKind.i64 ((↑g : Int) + 1))] [((20 : Nat), ABlk.buf (83 : Nat) (5 : Nat) (List.map encFx (flL l p sp tk g) ++ [[AV.int
   IntKind.i64 (tk - sFloor ((0 : Int) - (alB l g + (maxI ((l.getD (↑g : Int).toNat default).x - (l.getD ((↑g : Int) - 1).toNat default).x) ((0 : Int) - ((l.getD (↑g : Int).toNat default).x - (l.getD ((↑g : Int) - 1).toNat
   default).x)) + maxI ((l.getD (↑g : Int).toNat default).y - (l.getD ((↑g : Int) - 1).toNat default).y) ((0 : Int) - ((l.getD (↑g : Int).toNat default).y - (l.getD ((↑g : Int) - 1).toNat default).y))))) sp), AV.int IntKind.i64
   (l.getD (↑g : Int).toNat default).x, AV.int IntKind.i64 (l.getD (↑g : Int).toNat default).y, AV.int IntKind.i64 (sStep p (alB l g + (maxI ((l.getD (↑g : Int).toNat default).x - (l.getD ((↑g : Int) - 1).toNat default).x) ((0 : Int)
   - ((l.getD (↑g : Int).toNat default).x - (l.getD ((↑g : Int) - 1).toNat default).x)) + maxI ((l.getD (↑g : Int).toNat default).y - (l.getD ((↑g : Int) - 1).toNat default).y) ((0 : Int) - ((l.getD (↑g : Int).toNat default).y -
   (l.getD ((↑g : Int) - 1).toNat default).y))))).h, AV.int IntKind.i64 (sStep p (alB l g + (maxI ((l.getD (↑g : Int).toNat default).x - (l.getD ((↑g : Int) - 1).toNat default).x) ((0 : Int) - ((l.getD (↑g : Int).toNat default).x -
   (l.getD ((↑g : Int) - 1).toNat default).x)) + maxI ((l.getD (↑g : Int).toNat default).y - (l.getD ((↑g : Int) - 1).toNat default).y) ((0 : Int) - ((l.getD (↑g : Int).toNat default).y - (l.getD ((↑g : Int) - 1).toNat
   default).y))))).p]]))] (21 : Nat) = AS.mk [((0 : Nat), AV.sl (2 : Nat) (List.map encPt l)), ((1 : Nat), AV.sl (3 : Nat) (List.map encSt p)), ((2 : Nat), AV.int IntKind.i64 sp), ((3 : Nat), AV.int IntKind.i64 tk), ((11 : Nat),
   AV.own (20 : Nat) (List.map encFx (flL l p sp tk g')).length), ((12 : Nat), AV.int IntKind.i64 (alB l g')), ((31 : Nat), AV.sl (2 : Nat) (List.map encPt l)), ((32 : Nat), AV.int IntKind.i64 (↑(List.map encPt l).length : Int)), ((33
   : Nat), AV.int IntKind.i64 (↑g' : Int))] [((20 : Nat), ABlk.buf (83 : Nat) (5 : Nat) (List.map encFx (flL l p sp tk g')))] (21 : Nat)) ∧ (decide ((↑g : Int) > 0) = false → PCall Tryz.prog G0 (90 : Nat) [AV.sl (3 : Nat) (List.map
   encSt p), AV.int IntKind.i64 (alB l g)] (AV.agg [AV.int IntKind.i64 (sStep p (alB l g)).a, AV.int IntKind.i64 (sStep p (alB l g)).h, AV.int IntKind.i64 (sStep p (alB l g)).p]) ∧ In64 ((0 : Int) - alB l g) ∧ In64 (tk - sFloor ((0 :
   Int) - alB l g) sp) ∧ (List.map encFx (flL l p sp tk g)).length + (1 : Nat) ≤ (9223372036854775807 : Nat) ∧ ((List.map encFx (flL l p sp tk g)).length + (1 : Nat)) * (40 : Nat) ≤ (140737488355328 : Nat) ∧ PCall Tryz.prog G0 (91 :
   Nat) [AV.int IntKind.i64 ((0 : Int) - alB l g), AV.int IntKind.i64 sp] (AV.int IntKind.i64 (sFloor ((0 : Int) - alB l g) sp)) ∧ In64 ((↑g : Int) + 1) ∧ ∃ (g' : Nat), g' ≤ l.length ∧ l.length - g' < l.length - g ∧ AS.mk [((0 : Nat),
   AV.sl (2 : Nat) (List.map encPt l)), ((1 : Nat), AV.sl (3 : Nat) (List.map encSt p)), ((2 : Nat), AV.int IntKind.i64 sp), ((3 : Nat), AV.int IntKind.i64 tk), ((11 : Nat), AV.own (20 : Nat) ((List.map encFx (flL l p sp tk g)).length
   + (1 : Nat))), ((12 : Nat), AV.int IntKind.i64 (alB l g)), ((31 : Nat), AV.sl (2 : Nat) (List.map encPt l)), ((32 : Nat), AV.int IntKind.i64 (↑(List.map encPt l).length : Int)), ((33 : Nat), AV.int IntKind.i64 ((↑g : Int) + 1))]
   [((20 : Nat), ABlk.buf (83 : Nat) (5 : Nat) (List.map encFx (flL l p sp tk g) ++ [[AV.int IntKind.i64 (tk - sFloor ((0 : Int) - alB l g) sp), AV.int IntKind.i64 (l.getD (↑g : Int).toNat default).x, AV.int IntKind.i64 (l.getD (↑g :
   Int).toNat default).y, AV.int IntKind.i64 (sStep p (alB l g)).h, AV.int IntKind.i64 (sStep p (alB l g)).p]]))] (21 : Nat) = AS.mk [((0 : Nat), AV.sl (2 : Nat) (List.map encPt l)), ((1 : Nat), AV.sl (3 : Nat) (List.map encSt p)),
   ((2 : Nat), AV.int IntKind.i64 sp), ((3 : Nat), AV.int IntKind.i64 tk), ((11 : Nat), AV.own (20 : Nat) (List.map encFx (flL l p sp tk g')).length), ((12 : Nat), AV.int IntKind.i64 (alB l g')), ((31 : Nat), AV.sl (2 : Nat) (List.map
   encPt l)), ((32 : Nat), AV.int IntKind.i64 (↑(List.map encPt l).length : Int)), ((33 : Nat), AV.int IntKind.i64 (↑g' : Int))] [((20 : Nat), ABlk.buf (83 : Nat) (5 : Nat) (List.map encFx (flL l p sp tk g')))] (21 : Nat))) ∧ (decide
   ((↑g : Int) < (↑(List.map encPt l).length : Int)) = false → PCall Tryz.prog G0 (92 : Nat) [AV.bool (decide (alB l g > 400000)), AV.int IntKind.i64 (4 : Int)] (AV.int IntKind.i64 (sWhen (decide (alB l g > 400000)) (4 : Int))) ∧
   PCall Tryz.prog G0 (76 : Nat) [AV.sl (5 : Nat) (List.map encFx (flL l p sp tk g))] (AV.int IntKind.i64 (sTrackS (flL l p sp tk l.length))) ∧ PCall Tryz.prog G0 (87 : Nat) [AV.sl (1 : Nat) [[AV.int IntKind.i64 (sWhen (decide (alB l
   g > 400000)) (4 : Int))], [AV.int IntKind.i64 (sTrackS (flL l p sp tk l.length))]]] (AV.int IntKind.i64 (sFirst [hdI [AV.int IntKind.i64 (sWhen (decide (alB l g > 400000)) (4 : Int))], hdI [AV.int IntKind.i64 (sTrackS (flL l p sp
   tk l.length))]])) ∧ ((sFirst [hdI [AV.int IntKind.i64 (sWhen (decide (alB l g > 400000)) (4 : Int))], hdI [AV.int IntKind.i64 (sTrackS (flL l p sp tk l.length))]] != 0) = true → AV.tup [AV.sl (5 : Nat) [], AV.int IntKind.i64
   (sFirst [hdI [AV.int IntKind.i64 (sWhen (decide (alB l g > 400000)) (4 : Int))], hdI [AV.int IntKind.i64 (sTrackS (flL l p sp tk l.length))]])] = AV.tup [AV.sl (5 : Nat) (List.map encFx (sFlown l p sp tk).fst), AV.int IntKind.i64
   (sFlown l p sp tk).snd]) ∧ ((sFirst [hdI [AV.int IntKind.i64 (sWhen (decide (alB l g > 400000)) (4 : Int))], hdI [AV.int IntKind.i64 (sTrackS (flL l p sp tk l.length))]] != 0) = false → AV.tup [AV.sl (5 : Nat) (List.map encFx (flL
   l p sp tk g)), AV.int IntKind.i64 (0 : Int)] = AV.tup [AV.sl (5 : Nat) (List.map encFx (sFlown l p sp tk).fst), AV.int IntKind.i64 (sFlown l p sp tk).snd]))) := by
    refine ⟨c88 l (by simp; omega), c22 p (by simp; omega), c89 _ _ _, c89 _ _ _, c87 [_, _, _, _] (by simp), fun h => ?_, fun h => ?_⟩
    · have h' : (sPre l p sp tk != 0) = true := h
      rw [sFlown, if_pos h']; rfl
    · have h' : sPre l p sp tk = 0 := bne_f h
      have hb := h'
      simp only [sPre, first_zero, within_zero] at hb
      obtain ⟨hb1, hb2, ⟨hs1, hs2⟩, ⟨ht1, ht2⟩, -⟩ := hb
      have hP := path_ok hb1
      have hv := proc_ok hb2
      have hn1 := hP.n1
      have hn2 := hP.n2
      simp only [List.length_map]
      refine ⟨⟨0, by omega, rfl⟩, fun g hg => ⟨fun hd => ?_, fun hd => ?_⟩⟩
      · have hlt := lt_of_dec hd
        have hal := al_bound hP g hlt
        have hfl := floor_in (n := 0 - sAl l g) (d := sp) (by omega) (by omega) (by omega)
        have hff := floor_facts (n := 0 - sAl l g) (d := sp) (by omega)
        have hsuc : (flL l p sp tk g).map encFx ++ [encFx (flFx l p sp tk g)] = (flL l p sp tk (g + 1)).map encFx := by
          simp [flL, List.range_succ]
        have hll : (flL l p sp tk g).length = g := by simp [flL]
        have hll1 : (flL l p sp tk g).length + 1 = (flL l p sp tk (g + 1)).length := by simp [flL]
        rcases g with _ | g
        · have e0 : alB l 0 = sAl l 0 := rfl
          simp only [e0]
          refine ⟨by omega, by omega, by simp only [Int.toNat_natCast]; rw [row_at _ hlt]; rfl, fun h0 => by simp at h0, fun _ => ?_⟩
          exact ⟨c90 p _ hv hal.1 (by omega), by unfold In64; omega, by unfold In64; omega, by omega, by omega, c91 _ _ (by omega) hfl.1 hfl.2.1 hfl.2.2.1, by unfold In64; omega, 1, by omega, by omega, rfl⟩
        · have e2 : (((g + 1 : Nat) : Int) - 1).toNat = g := by omega
          have ee : alB l (g + 1) + (maxI ((l.getD (g + 1) default).x - (l.getD g default).x) (0 - ((l.getD (g + 1) default).x - (l.getD g default).x)) + maxI ((l.getD (g + 1) default).y - (l.getD g default).y) (0 - ((l.getD (g + 1) default).y - (l.getD g default).y))) = sAl l (g + 1) := rfl
          have b1 := hP.b g (by omega)
          have b2 := hP.b (g + 1) hlt
          have m1 : ∀ x : Int, -200000 ≤ x → x ≤ 200000 → 0 ≤ maxI x (0 - x) ∧ maxI x (0 - x) ≤ 200000 := fun x _ _ => by
            unfold maxI
            split <;> omega
          have m2 := m1 ((l.getD (g + 1) default).x - (l.getD g default).x) (by omega) (by omega)
          have m3 := m1 ((l.getD (g + 1) default).y - (l.getD g default).y) (by omega) (by omega)
          simp only [Int.toNat_natCast, e2, ee]
          refine ⟨by omega, by omega, by rw [row_at _ hlt]; rfl, fun _ => ?_, fun h0 => by simp at h0⟩
          refine ⟨by unfold In64; omega, by omega, by omega, by unfold In64; omega, by unfold In64; omega, by omega, by omega, by unfold In64; omega, by rw [row_at _ (by omega)]; rfl, by rw [row_at _ (by omega)]; rfl, by unfold In64; omega, by unfold In64; omega, by unfold In64; omega, by unfold In64; omega,
            c90 p _ hv hal.1 (by omega), by unfold In64; omega, by unfold In64; omega, by omega, by omega, c91 _ _ (by omega) hfl.1 hfl.2.1 hfl.2.2.1, by unfold In64; omega, g + 2, by omega, by omega, ?_⟩
          rw [hll1]
          have h2 := hsuc
          simp only [encFx, flFx] at h2
          rw [h2]
          rfl
      · obtain rfl := ge_of_dec hd hg
        refine ⟨c92 _ _, c76 _ (by simp [flL]; omega), c87 [_, _] (by simp), fun hq => ?_, fun hq => ?_⟩
        · have hq' : (sPost l p sp tk != 0) = true := hq
          rw [sFlown, if_neg (by rw [h']; decide), if_pos hq']; rfl
        · have hq' : ¬ (sPost l p sp tk != 0) = true := by rw [show (sPost l p sp tk != 0) = false from hq]; decide
          rw [sFlown, if_neg (by rw [h']; decide), if_neg hq']
  exact c_of Tryz.f14 (B14 l p sp tk [(8, 2, rdOr [rdL 2 encPt l 2 true]), (10, 1, rdOr [rdL 2 encPt l 1 false]), (10, 7, rdOr [rdL 2 encPt l 1 false]), (10, 10, rdOr [rdL 2 encPt l 1 false]), (10, 16, rdOr [rdL 2 encPt l 1 false]), (11, 2, rdOr [rdL 2 encPt l 1 false]), (11, 4, rdOr [rdL 2 encPt l 1 false]), (11, 8, rdOr [rdL 2 encPt l 1 false]), (11, 10, rdOr [rdL 2 encPt l 1 false]), (13, 8, rdOr [rdL 2 encPt l 1 false]), (13, 10, rdOr [rdL 2 encPt l 1 false]), (13, 12, rdOr [rdL 2 encPt l 1 false]), (13, 15, rdOr [rdL 2 encPt l 1 false])]) (by kernel_rfl) (by kernel_rfl) (by kernel_rfl) (by kernel_rfl) key (by kernel_rfl)
end Go.Proofs.YtjhjmncjidbieaaGreatDoor
namespace Go.Proofs.YtjhjmncjidbieaaGreatDoor
open Go Go.Av Go.RowKit
end Go.Proofs.YtjhjmncjidbieaaGreatDoor
namespace Go.Proofs.YtjhjmncjidbieaaGreatDoor
open Go Go.Av Go.RowKit
end Go.Proofs.YtjhjmncjidbieaaGreatDoor
namespace Go.Proofs.YtjhjmncjidbieaaGreatDoor
open Go Go.Av Go.RowKit
def geN (t : Ty) (p : Int) : Nat → Nat
  | 0 => 0
  | n + 1 => if geN t p n < n then geN t p n else if p ≤ (t.sg n).p then n else n + 1
end Go.Proofs.YtjhjmncjidbieaaGreatDoor
namespace Go.Proofs.YtjhjmncjidbieaaGreatDoor
open Go Go.Av Go.RowKit
def bandN (l : List Int) (d : Int) : Nat → Nat
  | 0 => 0
  | n + 1 => if decide (l.getD n default ≤ d) then n else bandN l d n
def emi (t : Ty) (p d : Int) : Int :=
  if geN t p t.st.length = t.st.length then eAt (t.sg (t.st.length - 1)).e (bandN t.sq d t.sq.length)
  else if geN t p t.st.length = 0 ∨ (t.sg (geN t p t.st.length)).p = p then eAt (t.sg (geN t p t.st.length)).e (bandN t.sq d t.sq.length)
  else sBetween (eAt (t.sg (geN t p t.st.length - 1)).e (bandN t.sq d t.sq.length)) (eAt (t.sg (geN t p t.st.length)).e (bandN t.sq d t.sq.length)) (p - (t.sg (geN t p t.st.length - 1)).p) ((t.sg (geN t p t.st.length)).p - (t.sg (geN t p t.st.length - 1)).p)
structure OKTy (t : Ty) : Prop where
  n1 : 1 ≤ t.st.length
  n2 : t.st.length ≤ 1000
  q1 : 1 ≤ t.sq.length
  q2 : t.sq.length ≤ 1000
  el : ∀ i, i < t.st.length → (t.sg i).e.length = t.sq.length
  pb : ∀ i, i < t.st.length → 1 ≤ (t.sg i).p ∧ (t.sg i).p ≤ 100
  up : ∀ i, i + 1 < t.st.length → (t.sg i).p < (t.sg (i + 1)).p
  eb : ∀ i k, i < t.st.length → k < t.sq.length → 0 ≤ eAt (t.sg i).e k ∧ eAt (t.sg i).e k ≤ 100000000
end Go.Proofs.YtjhjmncjidbieaaGreatDoor
