/-
  What chapter 2's checks of types return. No condition but the theorems' own. What chapter 2's checks of settings and of types return. No condition but the theorems' own. What chapter 2's Flown returns. No condition but the theorems' own. What the source's checks of settings return. No condition but the theorems' own. What chapter 2's checks of a type return. No condition but the theorems' own. What chapter 2's emission returns. No condition but the theorems' own. What chapter 2's emission returns, on a type that passes its checks. No condition but the theorems' own.
-/
import Derived.Test.YtjhjmncjidbieaaGreatDoorPB
import Derived.Test.YtjhjmncjidbieaaGreatDoorAvC
namespace Go.Proofs.YtjhjmncjidbieaaGreatDoor
open Go Go.Av Go.RowKit
structure Sg where
  p : Int
  e : List Int
  deriving Inhabited
structure Ty where
  name : List UInt8
  sh : List Int
  d0 : Int
  d1 : Int
  d2 : Int
  d3 : Int
  d4 : Int
  d5 : Int
  d6 : Int
  d7 : Int
  side : Int
  sq : List Int
  st : List Sg
  deriving Inhabited
def encSg (s : Sg) : List AV := [.i s.p, .sl 1 (s.e.map encI)]
def Ty.dir (t : Ty) : List Int := [t.d0, t.d1, t.d2, t.d3, t.d4, t.d5, t.d6, t.d7]
def encTy (t : Ty) : List AV := [.str t.name, .sl 1 (t.sh.map encI), .i t.d0, .i t.d1, .i t.d2, .i t.d3, .i t.d4, .i t.d5, .i t.d6, .i t.d7, .i t.side, .sl 1 (t.sq.map encI), .sl 2 (t.st.map encSg)]
def cI (rows : List (List AV)) (i : Nat) : Int := match nth (nthR rows i) 0 with
  | .int _ n => n
  | _ => 0
def modA (r k : Nat) (f : An → An) (B : BA) : BA := { B with ra := fun i => if i.beq r then { B.ra i with ans := setA f k (B.ra i).ans } else B.ra i }
def spR : Nat → List AV → Option AV
  | 106, [.str s] => some (.i (sWhen (!sName s) 8))
  | n, x => spQ n x
end Go.Proofs.YtjhjmncjidbieaaGreatDoor
namespace Go.Proofs.YtjhjmncjidbieaaGreatDoor
open Go Go.Av Go.RowKit
def fzB (B : BA) : BA := { B with gs := fun i => (B.ra i).fz.map GS.frzo ++ B.gs i }
def Ty.sg (t : Ty) (i : Nat) : Sg := t.st.getD i default
def eAt (l : List Int) (k : Nat) : Int := l.getD k default
def up (l : List Int) (k : Nat) : Bool := if k = 0 then false else decide (eAt l k > eAt l (k - 1))
end Go.Proofs.YtjhjmncjidbieaaGreatDoor
namespace Go.Proofs.YtjhjmncjidbieaaGreatDoor
open Go Go.Av Go.RowKit
structure PathOK (l : List Pt) : Prop where
  n1 : 2 ≤ l.length
  n2 : l.length ≤ 16
  b : ∀ i, i < l.length → -100000 ≤ (l.getD i default).x ∧ (l.getD i default).x ≤ 100000 ∧ -100000 ≤ (l.getD i default).y ∧ (l.getD i default).y ≤ 100000
end Go.Proofs.YtjhjmncjidbieaaGreatDoor
namespace Go.Proofs.YtjhjmncjidbieaaGreatDoor
open Go Go.Av Go.RowKit
end Go.Proofs.YtjhjmncjidbieaaGreatDoor
namespace Go.Proofs.YtjhjmncjidbieaaGreatDoor
open Go Go.Av Go.RowKit
end Go.Proofs.YtjhjmncjidbieaaGreatDoor
namespace Go.Proofs.YtjhjmncjidbieaaGreatDoor
open Go Go.Av Go.RowKit
def geN (t : Ty) (p : Int) : Nat → Nat
  | 0 => 0
  | n + 1 => if geN t p n < n then geN t p n else if p ≤ (t.sg n).p then n else n + 1
end Go.Proofs.YtjhjmncjidbieaaGreatDoor
namespace Go.Proofs.YtjhjmncjidbieaaGreatDoor
open Go Go.Av Go.RowKit
def bandN (l : List Int) (d : Int) : Nat → Nat
  | 0 => 0
  | n + 1 => if decide (l.getD n default ≤ d) then n else bandN l d n
def emi (t : Ty) (p d : Int) : Int :=
  if geN t p t.st.length = t.st.length then eAt (t.sg (t.st.length - 1)).e (bandN t.sq d t.sq.length)
  else if geN t p t.st.length = 0 ∨ (t.sg (geN t p t.st.length)).p = p then eAt (t.sg (geN t p t.st.length)).e (bandN t.sq d t.sq.length)
  else sBetween (eAt (t.sg (geN t p t.st.length - 1)).e (bandN t.sq d t.sq.length)) (eAt (t.sg (geN t p t.st.length)).e (bandN t.sq d t.sq.length)) (p - (t.sg (geN t p t.st.length - 1)).p) ((t.sg (geN t p t.st.length)).p - (t.sg (geN t p t.st.length - 1)).p)
structure OKTy (t : Ty) : Prop where
  n1 : 1 ≤ t.st.length
  n2 : t.st.length ≤ 1000
  q1 : 1 ≤ t.sq.length
  q2 : t.sq.length ≤ 1000
  el : ∀ i, i < t.st.length → (t.sg i).e.length = t.sq.length
  pb : ∀ i, i < t.st.length → 1 ≤ (t.sg i).p ∧ (t.sg i).p ≤ 100
  up : ∀ i, i + 1 < t.st.length → (t.sg i).p < (t.sg (i + 1)).p
  eb : ∀ i k, i < t.st.length → k < t.sq.length → 0 ≤ eAt (t.sg i).e k ∧ eAt (t.sg i).e k ≤ 100000000
end Go.Proofs.YtjhjmncjidbieaaGreatDoor
