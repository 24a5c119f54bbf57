/-
  What chapter 2's functions on paths, procedures and tracks return. No condition but the theorems' own. What chapter 2's functions that walk along lists return: steps, copies, sameness. No condition but the theorems' own. What chapter 2's small functions on lists, places and numbers return. No condition but the theorems' own. What chapter 2's functions on names return. No condition but the theorems' own.
-/
import Derived.Test.YtjhjmncjidbieaaGreatDoorPA
import Derived.Test.YtjhjmncjidbieaaGreatDoorAvC
namespace Go.Proofs.YtjhjmncjidbieaaGreatDoor
open Go Go.Av Go.RowKit
structure Pt where
  x : Int
  y : Int
  deriving Inhabited
structure Fx where
  t : Int
  x : Int
  y : Int
  z : Int
  p : Int
  deriving Inhabited
structure St where
  a : Int
  h : Int
  p : Int
  deriving Inhabited
def encPt (r : Pt) : List AV := [.i r.x, .i r.y]
def encFx (r : Fx) : List AV := [.i r.t, .i r.x, .i r.y, .i r.z, .i r.p]
def encSt (r : St) : List AV := [.i r.a, .i r.h, .i r.p]
def rdL {α : Type} [Inhabited α] (k : Nat) (enc : α → List AV) (l : List α) (size : Nat) (agg : Bool) : List AV → Option AV
  | [.elt k' _ i j] => if k'.beq k then some (if agg then .agg (((enc (l.getD i default)).drop j).take size) else nth (enc (l.getD i default)) j) else none
  | _ => none
def rdOr : List (List AV → Option AV) → List AV → Option AV
  | [], _ => none
  | f :: fs, x => match f x with
    | some v => some v
    | none => rdOr fs x
theorem row_at {α : Type} [Inhabited α] (enc : α → List AV) {l : List α} {i : Nat} (h : i < l.length) : nthR (l.map enc) i = enc (l.getD i default) := by
  simp [nthR, List.getD_eq_getElem?_getD, h]
def sScan (f : Nat → Int) (n : Nat) (fin : Int) : Int := sFirst ((List.range n).map f ++ [fin])
theorem scan_hit {f : Nat → Int} {n i : Nat} {fin : Int} (h : i < n) (h0 : ∀ k, k < i → f k = 0) (hne : f i ≠ 0) : sScan f n fin = f i := by
  have e : ∀ k, k < n → ((List.range n).map f ++ [fin]).getD k 0 = f k := fun k hk => by
    simp [List.getD_eq_getElem?_getD, List.getElem?_append, hk]
  rw [sScan, first_hit (i := i) (by simp; omega) (fun k hk => by rw [e k (by omega)]; exact h0 k hk) (by rw [e i h]; exact hne), e i h]
theorem scan_end {f : Nat → Int} {n : Nat} {fin : Int} (h0 : ∀ k, k < n → f k = 0) : sScan f n fin = fin := by
  have e : ∀ k, k < n → ((List.range n).map f ++ [fin]).getD k 0 = f k := fun k hk => by
    simp [List.getD_eq_getElem?_getD, List.getElem?_append, hk]
  rw [sScan, first_drop _ n (fun k hk => by rw [e k hk]; exact h0 k hk) (by simp), List.drop_left' (by simp)]
  simp [sFirst]
  intro h; exact h.symm
def spB : Nat → List AV → Option AV
  | 96, [.int _ n, .int _ d] => some (.i (0 - sFloor (0 - n) d))
  | n, l => spA n l
theorem c91 (n d : Int) (hd : d ≠ 0) (h1 : In64 (n.tdiv d)) (h2 : In64 (n.tdiv d * d)) (h3 : In64 (n.tdiv d - 1)) : PCall Tryz.prog G0 91 [.i n, .i d] (.i (sFloor n d)) := by
  have key :
   ¬d = (0 : Int) ∧ In64 (n.tdiv d) ∧ In64 (n.tdiv d * d) ∧ (decide (n.tdiv d * d > n) = true → In64 (n.tdiv d - 1) ∧ AV.int IntKind.i64 (n.tdiv d - 1) = AV.int IntKind.i64 (sFloor n d)) ∧ (decide (n.tdiv d * d > n) = false → AV.int
   IntKind.i64 (n.tdiv d) = AV.int IntKind.i64 (sFloor n d)) := by
    refine ⟨hd, h1, h2, fun h => ⟨h3, ?_⟩, fun h => ?_⟩
    · simp only [decide_eq_true_eq] at h
      rw [sFloor, if_pos h]
    · simp only [decide_eq_false_iff_not] at h
      rw [sFloor, if_neg h]
  exact c_of Tryz.f91 (mkB spA 91 [] noLa) (by kernel_rfl) (by kernel_rfl) (by kernel_rfl) (by kernel_rfl) key (by kernel_rfl)
theorem c143 (n d : Int) (hd : d ≠ 0) (h1 : In64 (n.tdiv d)) (h2 : In64 (n.tdiv d * d)) (h3 : In64 (n.tdiv d - 1)) : PCall Tryz.prog G0 143 [.i n, .i d] (.i (sFloor n d)) := by
  have key :
   ¬d = (0 : Int) ∧ In64 (n.tdiv d) ∧ In64 (n.tdiv d * d) ∧ (decide (n.tdiv d * d > n) = true → In64 (n.tdiv d - 1) ∧ AV.int IntKind.i64 (n.tdiv d - 1) = AV.int IntKind.i64 (sFloor n d)) ∧ (decide (n.tdiv d * d > n) = false → AV.int
   IntKind.i64 (n.tdiv d) = AV.int IntKind.i64 (sFloor n d)) := by
    refine ⟨hd, h1, h2, fun h => ⟨h3, ?_⟩, fun h => ?_⟩
    · simp only [decide_eq_true_eq] at h
      rw [sFloor, if_pos h]
    · simp only [decide_eq_false_iff_not] at h
      rw [sFloor, if_neg h]
  exact c_of Tryz.f143 (mkB spA 143 [] noLa) (by kernel_rfl) (by kernel_rfl) (by kernel_rfl) (by kernel_rfl) key (by kernel_rfl)
theorem floor_facts {n d : Int} (hd : 0 < d) : sFloor n d * d ≤ n ∧ n < sFloor n d * d + d := by
  have h1 := Int.mul_tdiv_add_tmod n d
  have h2 : n.tmod d < d := Int.tmod_lt_of_pos n hd
  have h3 : -d < n.tmod d := by
    have := Int.tmod_lt_of_pos (-n) hd
    rw [Int.neg_tmod] at this
    omega
  have e : n.tdiv d * d = d * n.tdiv d := Int.mul_comm _ _
  unfold sFloor
  split
  · rename_i h
    rw [Int.sub_mul]
    omega
  · rename_i h
    omega
theorem bne_t {a : Int} (h : (a != 0) = true) : a ≠ 0 := by simpa using h
theorem bne_f {a : Int} (h : (a != 0) = false) : a = 0 := by simpa using h
def sLS (c : Int) (f : Nat → Int) (n : Nat) (fin : Int) : Int := if c != 0 then c else sScan f n fin
theorem ls_first {c : Int} {f : Nat → Int} {n : Nat} {fin : Int} (h : (c != 0) = true) : sLS c f n fin = c := by rw [sLS, if_pos h]
theorem ls_hit {c : Int} {f : Nat → Int} {n i : Nat} {fin : Int} (h : (c != 0) = false) (hi : decide ((i : Int) < (n : Int)) = true) (h0 : ∀ k, k < i → f k = 0) (hne : (f i != 0) = true) : sLS c f n fin = f i := by
  rw [sLS, if_neg (by rw [h]; decide), scan_hit (by simpa using hi) h0 (bne_t hne)]
theorem ls_end {c : Int} {f : Nat → Int} {n i : Nat} {fin : Int} (h : (c != 0) = false) (hi : decide ((i : Int) < (n : Int)) = false) (hle : i ≤ n) (h0 : ∀ k, k < i → f k = 0) : sLS c f n fin = fin := by
  have : i = n := by simp at hi; omega
  subst this
  rw [sLS, if_neg (by rw [h]; decide), scan_end h0]
theorem all_succ {f : Nat → Int} {g : Nat} (h : ∀ k, k < g → f k = 0) (h2 : (f g != 0) = false) : ∀ k, k < g + 1 → f k = 0 := fun k hk => by
  by_cases e : k = g
  · rw [e]; exact bne_f h2
  · exact h k (by omega)
theorem ge_of_dec {i n : Nat} (hi : decide ((i : Int) < (n : Int)) = false) (hle : i ≤ n) : i = n := by simp at hi; omega
theorem lt_of_dec {i n : Nat} (hi : decide ((i : Int) < (n : Int)) = true) : i < n := by simpa using hi
theorem av_int {a b : Int} (h : a = b) : AV.int .i64 b = .int .i64 a := by rw [h]
theorem within_zero {x lo hi : Int} : sWithin x lo hi = 0 ↔ lo ≤ x ∧ x ≤ hi := by
  unfold sWithin sWhen
  by_cases h1 : x < lo
  · simp [h1]; omega
  · by_cases h2 : x > hi
    · simp [h1, h2] <;> omega
    · simp [h1, h2] <;> omega
theorem first_zero {x : Int} {l : List Int} : sFirst (x :: l) = 0 ↔ x = 0 ∧ sFirst l = 0 := by
  by_cases h : x = 0
  · simp [sFirst, h]
  · simp [sFirst, h]
def sLen (n : Nat) : Int := sFirst [sWhen (decide ((n : Int) < 2)) 16, sWhen (decide ((n : Int) > 16)) 5]
def sLen8 (n : Nat) : Int := sFirst [sWhen (decide ((n : Int) < 2)) 16, sWhen (decide ((n : Int) > 8)) 5]
def prv (i : Nat) : Nat := (maxI 0 ((i : Int) - 1)).toNat
def fPath (l : List Pt) (i : Nat) : Int := sFirst [sWithin (l.getD i default).x (-100000) 100000, sWithin (l.getD i default).y (-100000) 100000,
  sWhen (if decide ((i : Int) > 0) = true then (l.getD i default).x == (l.getD (prv i) default).x && true && ((l.getD i default).y == (l.getD (prv i) default).y && true && true) else false) 9]
def sPath (l : List Pt) : Int := sLS (sLen (l.map encPt).length) (fPath l) (l.map encPt).length 0
def la88 (l : List Pt) : LA := {
  pre := [.keep [0, 20, 21, 22] [], .bound 1], post := [.keep [0, 20, 21, 22] [], .bound 1]
  Gh := Nat
  st := fun i => ⟨[(0, .sl 2 (l.map encPt)), (20, .sl 2 (l.map encPt)), (21, .i (l.map encPt).length), (22, .i i)], [], 1⟩
  ok := fun i => i ≤ (l.map encPt).length ∧ ∀ k, k < i → fPath l k = 0
  ms := fun i => (l.map encPt).length - i }
theorem c88 (l : List Pt) (hl : (l.map encPt).length ≤ 1000000) : PCall Tryz.prog G0 88 [.sl 2 (l.map encPt)] (.i (sPath l)) := by
  have key :
   PCall Tryz.prog G0 (92 : Nat) [AV.bool (decide ((↑(List.map encPt l).length : Int) < 2)), AV.int IntKind.i64 (16 : Int)] (AV.int IntKind.i64 (sWhen (decide ((↑(List.map encPt l).length : Int) < 2)) (16 : Int))) ∧ PCall Tryz.prog G0
   (92 : Nat) [AV.bool (decide ((↑(List.map encPt l).length : Int) > 16)), AV.int IntKind.i64 (5 : Int)] (AV.int IntKind.i64 (sWhen (decide ((↑(List.map encPt l).length : Int) > 16)) (5 : Int))) ∧ PCall Tryz.prog G0 (87 : Nat) [AV.sl
   (1 : Nat) [[AV.int IntKind.i64 (sWhen (decide ((↑(List.map encPt l).length : Int) < 2)) (16 : Int))], [AV.int IntKind.i64 (sWhen (decide ((↑(List.map encPt l).length : Int) > 16)) (5 : Int))]]] (AV.int IntKind.i64 (sFirst [hdI
   [AV.int IntKind.i64 (sWhen (decide ((↑(List.map encPt l).length : Int) < 2)) (16 : Int))], hdI [AV.int IntKind.i64 (sWhen (decide ((↑(List.map encPt l).length : Int) > 16)) (5 : Int))]])) ∧ ((sFirst [hdI [AV.int IntKind.i64 (sWhen
   (decide ((↑(List.map encPt l).length : Int) < 2)) (16 : Int))], hdI [AV.int IntKind.i64 (sWhen (decide ((↑(List.map encPt l).length : Int) > 16)) (5 : Int))]] != 0) = true → AV.int IntKind.i64 (sFirst [hdI [AV.int IntKind.i64
   (sWhen (decide ((↑(List.map encPt l).length : Int) < 2)) (16 : Int))], hdI [AV.int IntKind.i64 (sWhen (decide ((↑(List.map encPt l).length : Int) > 16)) (5 : Int))]]) = AV.int IntKind.i64 (sPath l)) ∧ ((sFirst [hdI [AV.int
   IntKind.i64 (sWhen (decide ((↑(List.map encPt l).length : Int) < 2)) (16 : Int))], hdI [AV.int IntKind.i64 (sWhen (decide ((↑(List.map encPt l).length : Int) > 16)) (5 : Int))]] != 0) = false → (∃ (g : Nat), (g ≤ (List.map encPt
   l).length ∧ ∀ (k : Nat), k < g → fPath l k = (0 : Int)) ∧ AS.mk [((0 : Nat), AV.sl (2 : Nat) (List.map encPt l)), ((20 : Nat), AV.sl (2 : Nat) (List.map encPt l)), ((21 : Nat), AV.int IntKind.i64 (↑(List.map encPt l).length :
   Int)), ((22 : Nat), AV.int IntKind.i64 (0 : Int))] [] (1 : Nat) = AS.mk [((0 : Nat), AV.sl (2 : Nat) (List.map encPt l)), ((20 : Nat), AV.sl (2 : Nat) (List.map encPt l)), ((21 : Nat), AV.int IntKind.i64 (↑(List.map encPt l).length
   : Int)), ((22 : Nat), AV.int IntKind.i64 (↑g : Int))] [] (1 : Nat)) ∧ ∀ (g : Nat), (g ≤ (List.map encPt l).length ∧ ∀ (k : Nat), k < g → fPath l k = (0 : Int)) → (decide ((↑g : Int) < (↑(List.map encPt l).length : Int)) = true → (0
   : Int) ≤ (↑g : Int) ∧ (↑g : Int) < (↑(List.map encPt l).length : Int) ∧ AV.agg (nthR (List.map encPt l) (↑g : Int).toNat) = AV.agg [AV.int IntKind.i64 (l.getD (↑g : Int).toNat default).x, AV.int IntKind.i64 (l.getD (↑g : Int).toNat
   default).y] ∧ (decide ((↑g : Int) > 0) = true → decide ((↑g : Int) > 0) = true) ∧ (decide ((↑g : Int) > 0) = true → In64 ((↑g : Int) - 1)) ∧ (decide ((↑g : Int) > 0) = true → decide ((↑g : Int) > 0) = true) ∧ (decide ((↑g : Int) >
   0) = true → decide ((↑g : Int) > 0) = true) ∧ (decide ((↑g : Int) > 0) = true → decide ((↑g : Int) > 0) = true) ∧ (decide ((↑g : Int) > 0) = true → (0 : Int) ≤ maxI (0 : Int) ((↑g : Int) - 1)) ∧ (decide ((↑g : Int) > 0) = true →
   maxI (0 : Int) ((↑g : Int) - 1) < (↑(List.map encPt l).length : Int)) ∧ (decide ((↑g : Int) > 0) = true → decide ((↑g : Int) > 0) = true) ∧ (decide ((↑g : Int) > 0) = true → decide ((↑g : Int) > 0) = true) ∧ (decide ((↑g : Int) >
   0) = true → decide ((↑g : Int) > 0) = true) ∧ (decide ((↑g : Int) > 0) = true → decide ((↑g : Int) > 0) = true) ∧ PCall Tryz.prog G0 (89 : Nat) [AV.int IntKind.i64 (l.getD (↑g : Int).toNat default).x, AV.int IntKind.i64 (-100000 :
   Int), AV.int IntKind.i64 (100000 : Int)] (AV.int IntKind.i64 (sWithin (l.getD (↑g : Int).toNat default).x (-100000 : Int) (100000 : Int))) ∧ PCall Tryz.prog G0 (89 : Nat) [AV.int IntKind.i64 (l.getD (↑g : Int).toNat default).y,
   AV.int IntKind.i64 (-100000 : Int), AV.int IntKind.i64 (100000 : Int)] (AV.int IntKind.i64 (sWithin (l.getD (↑g : Int).toNat default).y (-100000 : Int) (100000 : Int))) ∧ impB (decide ((↑g : Int) > 0)) (AV.agg (nthR (List.map encPt
   l) (maxI (0 : Int) ((↑g : Int) - 1)).toNat) = AV.agg [AV.int IntKind.i64 (l.getD (maxI (0 : Int) ((↑g : Int) - 1)).toNat default).x, AV.int IntKind.i64 (l.getD (maxI (0 : Int) ((↑g : Int) - 1)).toNat default).y]) ∧ PCall Tryz.prog
   G0 (92 : Nat) [AV.bool (if decide ((↑g : Int) > 0) = true then (l.getD (↑g : Int).toNat default).x == (l.getD (maxI (0 : Int) ((↑g : Int) - 1)).toNat default).x && true && ((l.getD (↑g : Int).toNat default).y == (l.getD (maxI (0 :
   Int) ((↑g : Int) - 1)).toNat default).y && true && true) else false), AV.int IntKind.i64 (9 : Int)] (AV.int IntKind.i64 (sWhen (if decide ((↑g : Int) > 0) = true then (l.getD (↑g : Int).toNat default).x == (l.getD (maxI (0 : Int)
   ((↑g : Int) - 1)).toNat default).x && true && ((l.getD (↑g : Int).toNat default).y == (l.getD (maxI (0 : Int) ((↑g : Int) - 1)).toNat default).y && true && true) else false) (9 : Int))) ∧ PCall Tryz.prog G0 (87 : Nat) [AV.sl (1 :
   Nat) [[AV.int IntKind.i64 (sWithin (l.getD (↑g : Int).toNat default).x (-100000 : Int) (100000 : Int))], [AV.int IntKind.i64 (sWithin (l.getD (↑g : Int).toNat default).y (-100000 : Int) (100000 : Int))], [AV.int IntKind.i64 (sWhen
   (if decide ((↑g : Int) > 0) = true then (l.getD (↑g : Int).toNat default).x == (l.getD (maxI (0 : Int) ((↑g : Int) - 1)).toNat default).x && true && ((l.getD (↑g : Int).toNat default).y == (l.getD (maxI (0 : Int) ((↑g : Int) -
   1)).toNat default).y && true && true) else false) (9 : Int))]]] (AV.int IntKind.i64 (sFirst [hdI [AV.int IntKind.i64 (sWithin (l.getD (↑g : Int).toNat default).x (-100000 : Int) (100000 : Int))], hdI [AV.int IntKind.i64 (sWithin
   (l.getD (↑g : Int).toNat default).y (-100000 : Int) (100000 : Int))], hdI [AV.int IntKind.i64 (sWhen (if decide ((↑g : Int) > 0) = true then (l.getD (↑g : Int).toNat default).x == (l.getD (maxI (0 : Int) ((↑g : Int) - 1)).toNat
   default).x && true && ((l.getD (↑g : Int).toNat default).y == (l.getD (maxI (0 : Int) ((↑g : Int) - 1)).toNat default).y && true && true) else false) (9 : Int))]])) ∧ ((sFirst [hdI [AV.int IntKind.i64 (sWithin (l.getD (↑g :
   Int).toNat default).x (-100000 : Int) (100000 : Int))], hdI [AV.int IntKind.i64 (sWithin (l.getD (↑g : Int).toNat default).y (-100000 : Int) (100000 : Int))], hdI [AV.int IntKind.i64 (sWhen (if decide ((↑g : Int) > 0) = true then
   (l.getD (↑g : Int).toNat default).x == (l.getD (maxI (0 : Int) ((↑g : Int) - 1)).toNat default).x && true && ((l.getD (↑g : Int).toNat default).y == (l.getD (maxI (0 : Int) ((↑g : Int) - 1)).toNat default).y && true && true) else
   false) (9 : Int))]] != 0) = true → AV.int IntKind.i64 (sFirst [hdI [AV.int IntKind.i64 (sWithin (l.getD (↑g : Int).toNat default).x (-100000 : Int) (100000 : Int))], hdI [AV.int IntKind.i64 (sWithin (l.getD (↑g : Int).toNat
   default).y (-100000 : Int) (100000 : Int))], hdI [AV.int IntKind.i64 (sWhen (if decide ((↑g : Int) > 0) = true then (l.getD (↑g : Int).toNat default).x == (l.getD (maxI (0 : Int) ((↑g : Int) - 1)).toNat default).x && true &&
   ((l.getD (↑g : Int).toNat default).y == (l.getD (maxI (0 : Int) ((↑g : Int) - 1)).toNat default).y && true && true) else false) (9 : Int))]]) = AV.int IntKind.i64 (sPath l)) ∧ ((sFirst [hdI [AV.int IntKind.i64 (sWithin (l.getD (↑g
   : Int).toNat default).x (-100000 : Int) (100000 : Int))], hdI [AV.int IntKind.i64 (sWithin (l.getD (↑g : Int).toNat default).y (-100000 : Int) (100000 : Int))], hdI [AV.int IntKind.i64 (sWhen (if decide ((↑g : Int) > 0) = true then
   (l.getD (↑g : Int).toNat default).x == (l.getD (maxI (0 : Int) ((↑g : Int) - 1)).toNat default).x && true && ((l.getD (↑g : Int).toNat default).y == (l.getD (maxI (0 : Int) ((↑g : Int) - 1)).toNat default).y && true && true) else
   false) (9 : Int))]] != 0) = false → In64 ((↑g : Int) + 1) ∧ ∃ (g' : Nat), (g' ≤ (List.map encPt l).length ∧ ∀ (k : Nat), k < g' → fPath l k = (0 : Int)) ∧ (List.map encPt l).length - g' < (List.map encPt l).length - g ∧ AS.mk [((0
   : Nat), AV.sl (2 : Nat) (List.map encPt l)), ((20 : Nat), AV.sl (2 : Nat) (List.map encPt l)), ((21 : Nat), AV.int IntKind.i64 (↑(List.map encPt l).length : Int)), ((22 : Nat), AV.int IntKind.i64 ((↑g : Int) + 1))] [] (1 : Nat) =
   AS.mk [((0 : Nat), AV.sl (2 : Nat) (List.map encPt l)), ((20 : Nat), AV.sl (2 : Nat) (List.map encPt l)), ((21 : Nat), AV.int IntKind.i64 (↑(List.map encPt l).length : Int)), ((22 : Nat), AV.int IntKind.i64 (↑g' : Int))] [] (1 :
   Nat))) ∧ (decide ((↑g : Int) < (↑(List.map encPt l).length : Int)) = false → AV.int IntKind.i64 (0 : Int) = AV.int IntKind.i64 (sPath l))) := by
    repeat' (first | apply And.intro | intro _ | refine impB_iff.2 fun _ => ?_)
    all_goals try first
      | exact c92 _ _
      | exact c89 _ _ _
      | exact c87 [_, _] (by simp)
      | exact c87 [_, _, _] (by simp)
      | assumption
      | (simp only [decide_eq_true_eq, decide_eq_false_iff_not, List.length_map, maxI, minI, In64, Int.toNat_natCast, bne_iff_ne, ne_eq, beq_iff_eq, Bool.not_eq_true', Int.natCast_add, Int.cast_ofNat_Int] at *; omega)
      | (show (_ : Bool) = true; simp_all; done)
      | (rw [row_at _ (by simp only [decide_eq_true_eq, decide_eq_false_iff_not, List.length_map, maxI, minI, In64, Int.toNat_natCast, bne_iff_ne, ne_eq, beq_iff_eq, Bool.not_eq_true', Int.natCast_add, Int.cast_ofNat_Int] at *; omega)]; rfl)
    · rename_i h; exact av_int (ls_first h)
    · exact ⟨0, ⟨by omega, by intros; omega⟩, rfl⟩
    · rename_i h g hg hd hne; exact av_int (ls_hit (f := fPath l) h hd hg.2 hne)
    · rename_i h g hg hd hne; have := lt_of_dec hd; exact ⟨g + 1, ⟨this, all_succ (f := fPath l) hg.2 hne⟩, by omega, rfl⟩
    · rename_i h g hg hd; exact av_int (ls_end h hd hg.1 hg.2)
  exact c_of Tryz.f88 (mkB spA 88 [(6, 2, rdOr [rdL 2 encPt l 2 true]), (7, 1, rdOr [rdL 2 encPt l 1 false]), (7, 4, rdOr [rdL 2 encPt l 1 false]), (7, 9, rdOr [rdL 2 encPt l 2 true]), (7, 15, rdOr [rdL 2 encPt l 2 true])] (fun i => if i.beq 0 then some (la88 l) else none)) (by kernel_rfl) (by kernel_rfl) (by kernel_rfl) (by kernel_rfl) key (by kernel_rfl)
def la17 (l : List Pt) : LA := {
  pre := [.keep [0, 4] [], .bound 1], post := [.keep [0, 4] [], .bound 1]
  Gh := Nat
  st := fun i => ⟨[(0, .sl 2 (l.map encPt)), (4, .i i)], [], 1⟩
  ok := fun i => i ≤ (l.map encPt).length ∧ ∀ k, k < i → fPath l k = 0
  ms := fun i => (l.map encPt).length - i }
theorem c17 (l : List Pt) (hl : (l.map encPt).length ≤ 1000000) : PCall Tryz.prog G0 17 [.sl 2 (l.map encPt)] (.i (sPath l)) := by
  have key :
   PCall Tryz.prog G0 (94 : Nat) [AV.bool (decide ((↑(List.map encPt l).length : Int) < 2)), AV.int IntKind.i64 (16 : Int)] (AV.int IntKind.i64 (sWhen (decide ((↑(List.map encPt l).length : Int) < 2)) (16 : Int))) ∧ PCall Tryz.prog G0
   (94 : Nat) [AV.bool (decide ((↑(List.map encPt l).length : Int) > 16)), AV.int IntKind.i64 (5 : Int)] (AV.int IntKind.i64 (sWhen (decide ((↑(List.map encPt l).length : Int) > 16)) (5 : Int))) ∧ PCall Tryz.prog G0 (93 : Nat) [AV.sl
   (1 : Nat) [[AV.int IntKind.i64 (sWhen (decide ((↑(List.map encPt l).length : Int) < 2)) (16 : Int))], [AV.int IntKind.i64 (sWhen (decide ((↑(List.map encPt l).length : Int) > 16)) (5 : Int))]]] (AV.int IntKind.i64 (sFirst [hdI
   [AV.int IntKind.i64 (sWhen (decide ((↑(List.map encPt l).length : Int) < 2)) (16 : Int))], hdI [AV.int IntKind.i64 (sWhen (decide ((↑(List.map encPt l).length : Int) > 16)) (5 : Int))]])) ∧ ((sFirst [hdI [AV.int IntKind.i64 (sWhen
   (decide ((↑(List.map encPt l).length : Int) < 2)) (16 : Int))], hdI [AV.int IntKind.i64 (sWhen (decide ((↑(List.map encPt l).length : Int) > 16)) (5 : Int))]] != 0) = true → AV.int IntKind.i64 (sFirst [hdI [AV.int IntKind.i64
   (sWhen (decide ((↑(List.map encPt l).length : Int) < 2)) (16 : Int))], hdI [AV.int IntKind.i64 (sWhen (decide ((↑(List.map encPt l).length : Int) > 16)) (5 : Int))]]) = AV.int IntKind.i64 (sPath l)) ∧ ((sFirst [hdI [AV.int
   IntKind.i64 (sWhen (decide ((↑(List.map encPt l).length : Int) < 2)) (16 : Int))], hdI [AV.int IntKind.i64 (sWhen (decide ((↑(List.map encPt l).length : Int) > 16)) (5 : Int))]] != 0) = false → (∃ (g : Nat), (g ≤ (List.map encPt
   l).length ∧ ∀ (k : Nat), k < g → fPath l k = (0 : Int)) ∧ AS.mk [((0 : Nat), AV.sl (2 : Nat) (List.map encPt l)), ((4 : Nat), AV.int IntKind.i64 (0 : Int))] [] (1 : Nat) = AS.mk [((0 : Nat), AV.sl (2 : Nat) (List.map encPt l)), ((4
   : Nat), AV.int IntKind.i64 (↑g : Int))] [] (1 : Nat)) ∧ ∀ (g : Nat), (g ≤ (List.map encPt l).length ∧ ∀ (k : Nat), k < g → fPath l k = (0 : Int)) → (decide ((↑g : Int) < (↑(List.map encPt l).length : Int)) = true → (0 : Int) ≤ (↑g
   : Int) ∧ (↑g : Int) < (↑(List.map encPt l).length : Int) ∧ (0 : Int) ≤ (↑g : Int) ∧ (↑g : Int) < (↑(List.map encPt l).length : Int) ∧ (decide ((↑g : Int) > 0) = true → decide ((↑g : Int) > 0) = true) ∧ (decide ((↑g : Int) > 0) =
   true → decide ((↑g : Int) > 0) = true) ∧ (decide ((↑g : Int) > 0) = true → (0 : Int) ≤ (↑g : Int)) ∧ (decide ((↑g : Int) > 0) = true → (↑g : Int) < (↑(List.map encPt l).length : Int)) ∧ (decide ((↑g : Int) > 0) = true → decide ((↑g
   : Int) > 0) = true) ∧ (decide ((↑g : Int) > 0) = true → decide ((↑g : Int) > 0) = true) ∧ (decide ((↑g : Int) > 0) = true → In64 ((↑g : Int) - 1)) ∧ (decide ((↑g : Int) > 0) = true → decide ((↑g : Int) > 0) = true) ∧ (decide ((↑g :
   Int) > 0) = true → decide ((↑g : Int) > 0) = true) ∧ (decide ((↑g : Int) > 0) = true → decide ((↑g : Int) > 0) = true) ∧ (decide ((↑g : Int) > 0) = true → (0 : Int) ≤ maxI (0 : Int) ((↑g : Int) - 1)) ∧ (decide ((↑g : Int) > 0) =
   true → maxI (0 : Int) ((↑g : Int) - 1) < (↑(List.map encPt l).length : Int)) ∧ (decide ((↑g : Int) > 0) = true → decide ((↑g : Int) > 0) = true) ∧ (decide ((↑g : Int) > 0) = true → decide ((↑g : Int) > 0) = true) ∧ (decide ((↑g :
   Int) > 0) = true → decide ((↑g : Int) > 0) = true) ∧ (decide ((↑g : Int) > 0) = true → decide ((↑g : Int) > 0) = true) ∧ nth (nthR (List.map encPt l) (↑g : Int).toNat) (0 : Nat) = AV.int IntKind.i64 (l.getD (↑g : Int).toNat
   default).x ∧ PCall Tryz.prog G0 (95 : Nat) [AV.int IntKind.i64 (l.getD (↑g : Int).toNat default).x, AV.int IntKind.i64 (-100000 : Int), AV.int IntKind.i64 (100000 : Int)] (AV.int IntKind.i64 (sWithin (l.getD (↑g : Int).toNat
   default).x (-100000 : Int) (100000 : Int))) ∧ nth (nthR (List.map encPt l) (↑g : Int).toNat) (1 : Nat) = AV.int IntKind.i64 (l.getD (↑g : Int).toNat default).y ∧ PCall Tryz.prog G0 (95 : Nat) [AV.int IntKind.i64 (l.getD (↑g :
   Int).toNat default).y, AV.int IntKind.i64 (-100000 : Int), AV.int IntKind.i64 (100000 : Int)] (AV.int IntKind.i64 (sWithin (l.getD (↑g : Int).toNat default).y (-100000 : Int) (100000 : Int))) ∧ impB (decide ((↑g : Int) > 0))
   (AV.agg (nthR (List.map encPt l) (↑g : Int).toNat) = AV.agg [AV.int IntKind.i64 (l.getD (↑g : Int).toNat default).x, AV.int IntKind.i64 (l.getD (↑g : Int).toNat default).y]) ∧ impB (decide ((↑g : Int) > 0)) (AV.agg (nthR (List.map
   encPt l) (maxI (0 : Int) ((↑g : Int) - 1)).toNat) = AV.agg [AV.int IntKind.i64 (l.getD (maxI (0 : Int) ((↑g : Int) - 1)).toNat default).x, AV.int IntKind.i64 (l.getD (maxI (0 : Int) ((↑g : Int) - 1)).toNat default).y]) ∧ PCall
   Tryz.prog G0 (94 : Nat) [AV.bool (if decide ((↑g : Int) > 0) = true then (l.getD (↑g : Int).toNat default).x == (l.getD (maxI (0 : Int) ((↑g : Int) - 1)).toNat default).x && true && ((l.getD (↑g : Int).toNat default).y == (l.getD
   (maxI (0 : Int) ((↑g : Int) - 1)).toNat default).y && true && true) else false), AV.int IntKind.i64 (9 : Int)] (AV.int IntKind.i64 (sWhen (if decide ((↑g : Int) > 0) = true then (l.getD (↑g : Int).toNat default).x == (l.getD (maxI
   (0 : Int) ((↑g : Int) - 1)).toNat default).x && true && ((l.getD (↑g : Int).toNat default).y == (l.getD (maxI (0 : Int) ((↑g : Int) - 1)).toNat default).y && true && true) else false) (9 : Int))) ∧ PCall Tryz.prog G0 (93 : Nat)
   [AV.sl (1 : Nat) [[AV.int IntKind.i64 (sWithin (l.getD (↑g : Int).toNat default).x (-100000 : Int) (100000 : Int))], [AV.int IntKind.i64 (sWithin (l.getD (↑g : Int).toNat default).y (-100000 : Int) (100000 : Int))], [AV.int
   IntKind.i64 (sWhen (if decide ((↑g : Int) > 0) = true then (l.getD (↑g : Int).toNat default).x == (l.getD (maxI (0 : Int) ((↑g : Int) - 1)).toNat default).x && true && ((l.getD (↑g : Int).toNat default).y == (l.getD (maxI (0 : Int)
   ((↑g : Int) - 1)).toNat default).y && true && true) else false) (9 : Int))]]] (AV.int IntKind.i64 (sFirst [hdI [AV.int IntKind.i64 (sWithin (l.getD (↑g : Int).toNat default).x (-100000 : Int) (100000 : Int))], hdI [AV.int
   IntKind.i64 (sWithin (l.getD (↑g : Int).toNat default).y (-100000 : Int) (100000 : Int))], hdI [AV.int IntKind.i64 (sWhen (if decide ((↑g : Int) > 0) = true then (l.getD (↑g : Int).toNat default).x == (l.getD (maxI (0 : Int) ((↑g :
   Int) - 1)).toNat default).x && true && ((l.getD (↑g : Int).toNat default).y == (l.getD (maxI (0 : Int) ((↑g : Int) - 1)).toNat default).y && true && true) else false) (9 : Int))]])) ∧ ((sFirst [hdI [AV.int IntKind.i64 (sWithin
   (l.getD (↑g : Int).toNat default).x (-100000 : Int) (100000 : Int))], hdI [AV.int IntKind.i64 (sWithin (l.getD (↑g : Int).toNat default).y (-100000 : Int) (100000 : Int))], hdI [AV.int IntKind.i64 (sWhen (if decide ((↑g : Int) > 0)
   = true then (l.getD (↑g : Int).toNat default).x == (l.getD (maxI (0 : Int) ((↑g : Int) - 1)).toNat default).x && true && ((l.getD (↑g : Int).toNat default).y == (l.getD (maxI (0 : Int) ((↑g : Int) - 1)).toNat default).y && true &&
   true) else false) (9 : Int))]] != 0) = true → AV.int IntKind.i64 (sFirst [hdI [AV.int IntKind.i64 (sWithin (l.getD (↑g : Int).toNat default).x (-100000 : Int) (100000 : Int))], hdI [AV.int IntKind.i64 (sWithin (l.getD (↑g :
   Int).toNat default).y (-100000 : Int) (100000 : Int))], hdI [AV.int IntKind.i64 (sWhen (if decide ((↑g : Int) > 0) = true then (l.getD (↑g : Int).toNat default).x == (l.getD (maxI (0 : Int) ((↑g : Int) - 1)).toNat default).x &&
   true && ((l.getD (↑g : Int).toNat default).y == (l.getD (maxI (0 : Int) ((↑g : Int) - 1)).toNat default).y && true && true) else false) (9 : Int))]]) = AV.int IntKind.i64 (sPath l)) ∧ ((sFirst [hdI [AV.int IntKind.i64 (sWithin
   (l.getD (↑g : Int).toNat default).x (-100000 : Int) (100000 : Int))], hdI [AV.int IntKind.i64 (sWithin (l.getD (↑g : Int).toNat default).y (-100000 : Int) (100000 : Int))], hdI [AV.int IntKind.i64 (sWhen (if decide ((↑g : Int) > 0)
   = true then (l.getD (↑g : Int).toNat default).x == (l.getD (maxI (0 : Int) ((↑g : Int) - 1)).toNat default).x && true && ((l.getD (↑g : Int).toNat default).y == (l.getD (maxI (0 : Int) ((↑g : Int) - 1)).toNat default).y && true &&
   true) else false) (9 : Int))]] != 0) = false → In64 ((↑g : Int) + 1) ∧ ∃ (g' : Nat), (g' ≤ (List.map encPt l).length ∧ ∀ (k : Nat), k < g' → fPath l k = (0 : Int)) ∧ (List.map encPt l).length - g' < (List.map encPt l).length - g ∧
   AS.mk [((0 : Nat), AV.sl (2 : Nat) (List.map encPt l)), ((4 : Nat), AV.int IntKind.i64 ((↑g : Int) + 1))] [] (1 : Nat) = AS.mk [((0 : Nat), AV.sl (2 : Nat) (List.map encPt l)), ((4 : Nat), AV.int IntKind.i64 (↑g' : Int))] [] (1 :
   Nat))) ∧ (decide ((↑g : Int) < (↑(List.map encPt l).length : Int)) = false → AV.int IntKind.i64 (0 : Int) = AV.int IntKind.i64 (sPath l))) := by
    repeat' (first | apply And.intro | intro _ | refine impB_iff.2 fun _ => ?_)
    all_goals try first
      | exact c94 _ _
      | exact c95 _ _ _
      | exact c93 [_, _] (by simp)
      | exact c93 [_, _, _] (by simp)
      | assumption
      | (simp only [decide_eq_true_eq, decide_eq_false_iff_not, List.length_map, maxI, minI, In64, Int.toNat_natCast, bne_iff_ne, ne_eq, beq_iff_eq, Bool.not_eq_true', Int.natCast_add, Int.cast_ofNat_Int] at *; omega)
      | (show (_ : Bool) = true; simp_all; done)
      | (rw [row_at _ (by simp only [decide_eq_true_eq, decide_eq_false_iff_not, List.length_map, maxI, minI, In64, Int.toNat_natCast, bne_iff_ne, ne_eq, beq_iff_eq, Bool.not_eq_true', Int.natCast_add, Int.cast_ofNat_Int] at *; omega)]; rfl)
    · rename_i h; exact av_int (ls_first h)
    · exact ⟨0, ⟨by omega, by intros; omega⟩, rfl⟩
    · rename_i h g hg hd hne; exact av_int (ls_hit (f := fPath l) h hd hg.2 hne)
    · rename_i h g hg hd hne; have := lt_of_dec hd; exact ⟨g + 1, ⟨this, all_succ (f := fPath l) hg.2 hne⟩, by omega, rfl⟩
    · rename_i h g hg hd; exact av_int (ls_end h hd hg.1 hg.2)
  exact c_of Tryz.f17 (mkB spA 17 [(7, 4, rdOr [rdL 2 encPt l 1 false]), (7, 10, rdOr [rdL 2 encPt l 1 false]), (7, 18, rdOr [rdL 2 encPt l 2 true]), (7, 24, rdOr [rdL 2 encPt l 2 true])] (fun i => if i.beq 0 then some (la17 l) else none)) (by kernel_rfl) (by kernel_rfl) (by kernel_rfl) (by kernel_rfl) key (by kernel_rfl)
def lastA (l : List St) (i : Nat) : Int := if i.beq 0 then -1 else (l.getD (i - 1) default).a
def fProcS (l : List St) (i : Nat) : Int := sFirst [sWithin (l.getD i default).a 0 400000, sWithin (l.getD i default).h 0 20000, sPower (l.getD i default).p,
  sWhen (if decide ((l.getD i default).a ≤ lastA l i) = true then true else if ((i : Int) == 0) = true then (l.getD i default).a != 0 else false) 11]
def sProcS (l : List St) : Int := sLS (sLen8 (l.map encSt).length) (fProcS l) (l.map encSt).length 0
def la22 (l : List St) : LA := {
  pre := [.keep [0, 4, 21, 22, 23] [], .bound 1], post := [.keep [0, 4, 21, 22, 23] [], .bound 1]
  Gh := Nat
  st := fun i => ⟨[(0, .sl 3 (l.map encSt)), (4, .i (lastA l i)), (21, .sl 3 (l.map encSt)), (22, .i (l.map encSt).length), (23, .i i)], [], 1⟩
  ok := fun i => i ≤ (l.map encSt).length ∧ ∀ k, k < i → fProcS l k = 0
  ms := fun i => (l.map encSt).length - i }
theorem c22 (l : List St) (hl : (l.map encSt).length ≤ 1000000) : PCall Tryz.prog G0 22 [.sl 3 (l.map encSt)] (.i (sProcS l)) := by
  have key :
   PCall Tryz.prog G0 (92 : Nat) [AV.bool (decide ((↑(List.map encSt l).length : Int) < 2)), AV.int IntKind.i64 (16 : Int)] (AV.int IntKind.i64 (sWhen (decide ((↑(List.map encSt l).length : Int) < 2)) (16 : Int))) ∧ PCall Tryz.prog G0
   (92 : Nat) [AV.bool (decide ((↑(List.map encSt l).length : Int) > 8)), AV.int IntKind.i64 (5 : Int)] (AV.int IntKind.i64 (sWhen (decide ((↑(List.map encSt l).length : Int) > 8)) (5 : Int))) ∧ PCall Tryz.prog G0 (87 : Nat) [AV.sl (1
   : Nat) [[AV.int IntKind.i64 (sWhen (decide ((↑(List.map encSt l).length : Int) < 2)) (16 : Int))], [AV.int IntKind.i64 (sWhen (decide ((↑(List.map encSt l).length : Int) > 8)) (5 : Int))]]] (AV.int IntKind.i64 (sFirst [hdI [AV.int
   IntKind.i64 (sWhen (decide ((↑(List.map encSt l).length : Int) < 2)) (16 : Int))], hdI [AV.int IntKind.i64 (sWhen (decide ((↑(List.map encSt l).length : Int) > 8)) (5 : Int))]])) ∧ ((sFirst [hdI [AV.int IntKind.i64 (sWhen (decide
   ((↑(List.map encSt l).length : Int) < 2)) (16 : Int))], hdI [AV.int IntKind.i64 (sWhen (decide ((↑(List.map encSt l).length : Int) > 8)) (5 : Int))]] != 0) = true → AV.int IntKind.i64 (sFirst [hdI [AV.int IntKind.i64 (sWhen (decide
   ((↑(List.map encSt l).length : Int) < 2)) (16 : Int))], hdI [AV.int IntKind.i64 (sWhen (decide ((↑(List.map encSt l).length : Int) > 8)) (5 : Int))]]) = AV.int IntKind.i64 (sProcS l)) ∧ ((sFirst [hdI [AV.int IntKind.i64 (sWhen
   (decide ((↑(List.map encSt l).length : Int) < 2)) (16 : Int))], hdI [AV.int IntKind.i64 (sWhen (decide ((↑(List.map encSt l).length : Int) > 8)) (5 : Int))]] != 0) = false → (∃ (g : Nat), (g ≤ (List.map encSt l).length ∧ ∀ (k :
   Nat), k < g → fProcS l k = (0 : Int)) ∧ AS.mk [((0 : Nat), AV.sl (3 : Nat) (List.map encSt l)), ((4 : Nat), AV.int IntKind.i64 (-1 : Int)), ((21 : Nat), AV.sl (3 : Nat) (List.map encSt l)), ((22 : Nat), AV.int IntKind.i64
   (↑(List.map encSt l).length : Int)), ((23 : Nat), AV.int IntKind.i64 (0 : Int))] [] (1 : Nat) = AS.mk [((0 : Nat), AV.sl (3 : Nat) (List.map encSt l)), ((4 : Nat), AV.int IntKind.i64 (lastA l g)), ((21 : Nat), AV.sl (3 : Nat)
   (List.map encSt l)), ((22 : Nat), AV.int IntKind.i64 (↑(List.map encSt l).length : Int)), ((23 : Nat), AV.int IntKind.i64 (↑g : Int))] [] (1 : Nat)) ∧ ∀ (g : Nat), (g ≤ (List.map encSt l).length ∧ ∀ (k : Nat), k < g → fProcS l k =
   (0 : Int)) → (decide ((↑g : Int) < (↑(List.map encSt l).length : Int)) = true → (0 : Int) ≤ (↑g : Int) ∧ (↑g : Int) < (↑(List.map encSt l).length : Int) ∧ AV.agg (nthR (List.map encSt l) (↑g : Int).toNat) = AV.agg [AV.int
   IntKind.i64 (l.getD (↑g : Int).toNat default).a, AV.int IntKind.i64 (l.getD (↑g : Int).toNat default).h, AV.int IntKind.i64 (l.getD (↑g : Int).toNat default).p] ∧ ((!decide ((l.getD (↑g : Int).toNat default).a ≤ lastA l g)) = true
   → (!decide ((l.getD (↑g : Int).toNat default).a ≤ lastA l g)) = true) ∧ ((!decide ((l.getD (↑g : Int).toNat default).a ≤ lastA l g)) = true → (!decide ((l.getD (↑g : Int).toNat default).a ≤ lastA l g)) = true) ∧ ((!decide ((l.getD
   (↑g : Int).toNat default).a ≤ lastA l g) && (↑g : Int) == 0) = true → (!decide ((l.getD (↑g : Int).toNat default).a ≤ lastA l g) && (↑g : Int) == 0) = true) ∧ ((!decide ((l.getD (↑g : Int).toNat default).a ≤ lastA l g) && (↑g :
   Int) == 0) = true → (!decide ((l.getD (↑g : Int).toNat default).a ≤ lastA l g) && (↑g : Int) == 0) = true) ∧ ((!decide ((l.getD (↑g : Int).toNat default).a ≤ lastA l g)) = true → (!decide ((l.getD (↑g : Int).toNat default).a ≤
   lastA l g)) = true) ∧ ((!decide ((l.getD (↑g : Int).toNat default).a ≤ lastA l g)) = true → ((↑g : Int) == 0) = true → (!decide ((l.getD (↑g : Int).toNat default).a ≤ lastA l g) && (↑g : Int) == 0) = true) ∧ (decide ((l.getD (↑g :
   Int).toNat default).a ≤ lastA l g) = false → (!decide ((l.getD (↑g : Int).toNat default).a ≤ lastA l g)) = true) ∧ PCall Tryz.prog G0 (89 : Nat) [AV.int IntKind.i64 (l.getD (↑g : Int).toNat default).a, AV.int IntKind.i64 (0 : Int),
   AV.int IntKind.i64 (400000 : Int)] (AV.int IntKind.i64 (sWithin (l.getD (↑g : Int).toNat default).a (0 : Int) (400000 : Int))) ∧ PCall Tryz.prog G0 (89 : Nat) [AV.int IntKind.i64 (l.getD (↑g : Int).toNat default).h, AV.int
   IntKind.i64 (0 : Int), AV.int IntKind.i64 (20000 : Int)] (AV.int IntKind.i64 (sWithin (l.getD (↑g : Int).toNat default).h (0 : Int) (20000 : Int))) ∧ PCall Tryz.prog G0 (98 : Nat) [AV.int IntKind.i64 (l.getD (↑g : Int).toNat
   default).p] (AV.int IntKind.i64 (sPower (l.getD (↑g : Int).toNat default).p)) ∧ PCall Tryz.prog G0 (92 : Nat) [AV.bool (if decide ((l.getD (↑g : Int).toNat default).a ≤ lastA l g) = true then true else if ((↑g : Int) == 0) = true
   then (l.getD (↑g : Int).toNat default).a != 0 else false), AV.int IntKind.i64 (11 : Int)] (AV.int IntKind.i64 (sWhen (if decide ((l.getD (↑g : Int).toNat default).a ≤ lastA l g) = true then true else if ((↑g : Int) == 0) = true
   then (l.getD (↑g : Int).toNat default).a != 0 else false) (11 : Int))) ∧ PCall Tryz.prog G0 (87 : Nat) [AV.sl (1 : Nat) [[AV.int IntKind.i64 (sWithin (l.getD (↑g : Int).toNat default).a (0 : Int) (400000 : Int))], [AV.int
   IntKind.i64 (sWithin (l.getD (↑g : Int).toNat default).h (0 : Int) (20000 : Int))], [AV.int IntKind.i64 (sPower (l.getD (↑g : Int).toNat default).p)], [AV.int IntKind.i64 (sWhen (if decide ((l.getD (↑g : Int).toNat default).a ≤
   lastA l g) = true then true else if ((↑g : Int) == 0) = true then (l.getD (↑g : Int).toNat default).a != 0 else false) (11 : Int))]]] (AV.int IntKind.i64 (sFirst [hdI [AV.int IntKind.i64 (sWithin (l.getD (↑g : Int).toNat default).a
   (0 : Int) (400000 : Int))], hdI [AV.int IntKind.i64 (sWithin (l.getD (↑g : Int).toNat default).h (0 : Int) (20000 : Int))], hdI [AV.int IntKind.i64 (sPower (l.getD (↑g : Int).toNat default).p)], hdI [AV.int IntKind.i64 (sWhen (if
   decide ((l.getD (↑g : Int).toNat default).a ≤ lastA l g) = true then true else if ((↑g : Int) == 0) = true then (l.getD (↑g : Int).toNat default).a != 0 else false) (11 : Int))]])) ∧ ((sFirst [hdI [AV.int IntKind.i64 (sWithin
   (l.getD (↑g : Int).toNat default).a (0 : Int) (400000 : Int))], hdI [AV.int IntKind.i64 (sWithin (l.getD (↑g : Int).toNat default).h (0 : Int) (20000 : Int))], hdI [AV.int IntKind.i64 (sPower (l.getD (↑g : Int).toNat default).p)],
   hdI [AV.int IntKind.i64 (sWhen (if decide ((l.getD (↑g : Int).toNat default).a ≤ lastA l g) = true then true else if ((↑g : Int) == 0) = true then (l.getD (↑g : Int).toNat default).a != 0 else false) (11 : Int))]] != 0) = true →
   AV.int IntKind.i64 (sFirst [hdI [AV.int IntKind.i64 (sWithin (l.getD (↑g : Int).toNat default).a (0 : Int) (400000 : Int))], hdI [AV.int IntKind.i64 (sWithin (l.getD (↑g : Int).toNat default).h (0 : Int) (20000 : Int))], hdI
   [AV.int IntKind.i64 (sPower (l.getD (↑g : Int).toNat default).p)], hdI [AV.int IntKind.i64 (sWhen (if decide ((l.getD (↑g : Int).toNat default).a ≤ lastA l g) = true then true else if ((↑g : Int) == 0) = true then (l.getD (↑g :
   Int).toNat default).a != 0 else false) (11 : Int))]]) = AV.int IntKind.i64 (sProcS l)) ∧ ((sFirst [hdI [AV.int IntKind.i64 (sWithin (l.getD (↑g : Int).toNat default).a (0 : Int) (400000 : Int))], hdI [AV.int IntKind.i64 (sWithin
   (l.getD (↑g : Int).toNat default).h (0 : Int) (20000 : Int))], hdI [AV.int IntKind.i64 (sPower (l.getD (↑g : Int).toNat default).p)], hdI [AV.int IntKind.i64 (sWhen (if decide ((l.getD (↑g : Int).toNat default).a ≤ lastA l g) =
   true then true else if ((↑g : Int) == 0) = true then (l.getD (↑g : Int).toNat default).a != 0 else false) (11 : Int))]] != 0) = false → In64 ((↑g : Int) + 1) ∧ ∃ (g' : Nat), (g' ≤ (List.map encSt l).length ∧ ∀ (k : Nat), k < g' →
   fProcS l k = (0 : Int)) ∧ (List.map encSt l).length - g' < (List.map encSt l).length - g ∧ AS.mk [((0 : Nat), AV.sl (3 : Nat) (List.map encSt l)), ((4 : Nat), AV.int IntKind.i64 (l.getD (↑g : Int).toNat default).a), ((21 : Nat),
   AV.sl (3 : Nat) (List.map encSt l)), ((22 : Nat), AV.int IntKind.i64 (↑(List.map encSt l).length : Int)), ((23 : Nat), AV.int IntKind.i64 ((↑g : Int) + 1))] [] (1 : Nat) = AS.mk [((0 : Nat), AV.sl (3 : Nat) (List.map encSt l)), ((4
   : Nat), AV.int IntKind.i64 (lastA l g')), ((21 : Nat), AV.sl (3 : Nat) (List.map encSt l)), ((22 : Nat), AV.int IntKind.i64 (↑(List.map encSt l).length : Int)), ((23 : Nat), AV.int IntKind.i64 (↑g' : Int))] [] (1 : Nat))) ∧ (decide
   ((↑g : Int) < (↑(List.map encSt l).length : Int)) = false → AV.int IntKind.i64 (0 : Int) = AV.int IntKind.i64 (sProcS l))) := by
    repeat' (first | apply And.intro | intro _ | refine impB_iff.2 fun _ => ?_)
    all_goals try first
      | exact c92 _ _
      | exact c89 _ _ _
      | exact c98 _
      | exact c87 [_, _] (by simp)
      | exact c87 [_, _, _, _] (by simp)
      | assumption
      | (simp only [decide_eq_true_eq, decide_eq_false_iff_not, List.length_map, maxI, minI, In64, Int.toNat_natCast, bne_iff_ne, ne_eq, beq_iff_eq, Bool.not_eq_true', Int.natCast_add, Int.cast_ofNat_Int] at *; omega)
      | (show (_ : Bool) = true; simp_all; done)
      | (rw [row_at _ (by simp only [decide_eq_true_eq, decide_eq_false_iff_not, List.length_map, maxI, minI, In64, Int.toNat_natCast, bne_iff_ne, ne_eq, beq_iff_eq, Bool.not_eq_true', Int.natCast_add, Int.cast_ofNat_Int] at *; omega)]; rfl)
    · rename_i h; exact av_int (ls_first h)
    · exact ⟨0, ⟨by omega, by intros; omega⟩, rfl⟩
    · rename_i h g hg hd hne; exact av_int (ls_hit (f := fProcS l) h hd hg.2 hne)
    · rename_i h g hg hd hne; have := lt_of_dec hd; exact ⟨g + 1, ⟨this, all_succ (f := fProcS l) hg.2 hne⟩, by omega, rfl⟩
    · rename_i h g hg hd; exact av_int (ls_end h hd hg.1 hg.2)
  exact c_of Tryz.f22 (mkB spA 22 [(7, 2, rdOr [rdL 3 encSt l 3 true]), (8, 1, rdOr [rdL 3 encSt l 1 false]), (8, 4, rdOr [rdL 3 encSt l 1 false]), (8, 7, rdOr [rdL 3 encSt l 1 false]), (8, 10, rdOr [rdL 3 encSt l 1 false]), (8, 18, rdOr [rdL 3 encSt l 1 false]), (11, 1, rdOr [rdL 3 encSt l 1 false])] (fun i => if i.beq 0 then some (la22 l) else none)) (by kernel_rfl) (by kernel_rfl) (by kernel_rfl) (by kernel_rfl) key (by kernel_rfl)
def fProcR (l : List St) (i : Nat) : Int := sFirst [sWithin (l.getD i default).a 0 400000, sWithin (l.getD i default).h 0 20000, sPower (l.getD i default).p,
  sWhen (if (if ((i : Int) == 0) = true then (l.getD i default).a != 0 else false) = true then true else if decide ((i : Int) > 0) = true then decide ((l.getD i default).a ≤ (l.getD (prv i) default).a) else false) 11]
def sProcR (l : List St) : Int := sLS (sLen8 (l.map encSt).length) (fProcR l) (l.map encSt).length 0
def la18 (l : List St) : LA := {
  pre := [.keep [0, 4] [], .bound 1], post := [.keep [0, 4] [], .bound 1]
  Gh := Nat
  st := fun i => ⟨[(0, .sl 3 (l.map encSt)), (4, .i i)], [], 1⟩
  ok := fun i => i ≤ (l.map encSt).length ∧ ∀ k, k < i → fProcR l k = 0
  ms := fun i => (l.map encSt).length - i }
theorem c18 (l : List St) (hl : (l.map encSt).length ≤ 1000000) : PCall Tryz.prog G0 18 [.sl 3 (l.map encSt)] (.i (sProcR l)) := by
  have key :
   PCall Tryz.prog G0 (94 : Nat) [AV.bool (decide ((↑(List.map encSt l).length : Int) < 2)), AV.int IntKind.i64 (16 : Int)] (AV.int IntKind.i64 (sWhen (decide ((↑(List.map encSt l).length : Int) < 2)) (16 : Int))) ∧ PCall Tryz.prog G0
   (94 : Nat) [AV.bool (decide ((↑(List.map encSt l).length : Int) > 8)), AV.int IntKind.i64 (5 : Int)] (AV.int IntKind.i64 (sWhen (decide ((↑(List.map encSt l).length : Int) > 8)) (5 : Int))) ∧ PCall Tryz.prog G0 (93 : Nat) [AV.sl (1
   : Nat) [[AV.int IntKind.i64 (sWhen (decide ((↑(List.map encSt l).length : Int) < 2)) (16 : Int))], [AV.int IntKind.i64 (sWhen (decide ((↑(List.map encSt l).length : Int) > 8)) (5 : Int))]]] (AV.int IntKind.i64 (sFirst [hdI [AV.int
   IntKind.i64 (sWhen (decide ((↑(List.map encSt l).length : Int) < 2)) (16 : Int))], hdI [AV.int IntKind.i64 (sWhen (decide ((↑(List.map encSt l).length : Int) > 8)) (5 : Int))]])) ∧ ((sFirst [hdI [AV.int IntKind.i64 (sWhen (decide
   ((↑(List.map encSt l).length : Int) < 2)) (16 : Int))], hdI [AV.int IntKind.i64 (sWhen (decide ((↑(List.map encSt l).length : Int) > 8)) (5 : Int))]] != 0) = true → AV.int IntKind.i64 (sFirst [hdI [AV.int IntKind.i64 (sWhen (decide
   ((↑(List.map encSt l).length : Int) < 2)) (16 : Int))], hdI [AV.int IntKind.i64 (sWhen (decide ((↑(List.map encSt l).length : Int) > 8)) (5 : Int))]]) = AV.int IntKind.i64 (sProcR l)) ∧ ((sFirst [hdI [AV.int IntKind.i64 (sWhen
   (decide ((↑(List.map encSt l).length : Int) < 2)) (16 : Int))], hdI [AV.int IntKind.i64 (sWhen (decide ((↑(List.map encSt l).length : Int) > 8)) (5 : Int))]] != 0) = false → (∃ (g : Nat), (g ≤ (List.map encSt l).length ∧ ∀ (k :
   Nat), k < g → fProcR l k = (0 : Int)) ∧ AS.mk [((0 : Nat), AV.sl (3 : Nat) (List.map encSt l)), ((4 : Nat), AV.int IntKind.i64 (0 : Int))] [] (1 : Nat) = AS.mk [((0 : Nat), AV.sl (3 : Nat) (List.map encSt l)), ((4 : Nat), AV.int
   IntKind.i64 (↑g : Int))] [] (1 : Nat)) ∧ ∀ (g : Nat), (g ≤ (List.map encSt l).length ∧ ∀ (k : Nat), k < g → fProcR l k = (0 : Int)) → (decide ((↑g : Int) < (↑(List.map encSt l).length : Int)) = true → (0 : Int) ≤ (↑g : Int) ∧ (↑g :
   Int) < (↑(List.map encSt l).length : Int) ∧ (0 : Int) ≤ (↑g : Int) ∧ (↑g : Int) < (↑(List.map encSt l).length : Int) ∧ (0 : Int) ≤ (↑g : Int) ∧ (↑g : Int) < (↑(List.map encSt l).length : Int) ∧ (((↑g : Int) == 0) = true → ((↑g :
   Int) == 0) = true) ∧ (((↑g : Int) == 0) = true → ((↑g : Int) == 0) = true) ∧ (((↑g : Int) == 0) = true → (0 : Int) ≤ (↑g : Int)) ∧ (((↑g : Int) == 0) = true → (↑g : Int) < (↑(List.map encSt l).length : Int)) ∧ (((↑g : Int) == 0) =
   true → ((↑g : Int) == 0) = true) ∧ (((↑g : Int) == 0) = true → ((↑g : Int) == 0) = true) ∧ (((↑g : Int) == 0) = true → ((↑g : Int) == 0) = true) ∧ (((↑g : Int) == 0) = true → ((↑g : Int) == 0) = true) ∧ ((!if ((↑g : Int) == 0) =
   true then (l.getD (↑g : Int).toNat default).a != 0 else false) = true → (!if ((↑g : Int) == 0) = true then (l.getD (↑g : Int).toNat default).a != 0 else false) = true) ∧ ((!if ((↑g : Int) == 0) = true then (l.getD (↑g : Int).toNat
   default).a != 0 else false) = true → (!if ((↑g : Int) == 0) = true then (l.getD (↑g : Int).toNat default).a != 0 else false) = true) ∧ (((!if ((↑g : Int) == 0) = true then (l.getD (↑g : Int).toNat default).a != 0 else false) &&
   decide ((↑g : Int) > 0)) = true → ((!if ((↑g : Int) == 0) = true then (l.getD (↑g : Int).toNat default).a != 0 else false) && decide ((↑g : Int) > 0)) = true) ∧ (((!if ((↑g : Int) == 0) = true then (l.getD (↑g : Int).toNat
   default).a != 0 else false) && decide ((↑g : Int) > 0)) = true → ((!if ((↑g : Int) == 0) = true then (l.getD (↑g : Int).toNat default).a != 0 else false) && decide ((↑g : Int) > 0)) = true) ∧ (((!if ((↑g : Int) == 0) = true then
   (l.getD (↑g : Int).toNat default).a != 0 else false) && decide ((↑g : Int) > 0)) = true → (0 : Int) ≤ (↑g : Int)) ∧ (((!if ((↑g : Int) == 0) = true then (l.getD (↑g : Int).toNat default).a != 0 else false) && decide ((↑g : Int) >
   0)) = true → (↑g : Int) < (↑(List.map encSt l).length : Int)) ∧ (((!if ((↑g : Int) == 0) = true then (l.getD (↑g : Int).toNat default).a != 0 else false) && decide ((↑g : Int) > 0)) = true → ((!if ((↑g : Int) == 0) = true then
   (l.getD (↑g : Int).toNat default).a != 0 else false) && decide ((↑g : Int) > 0)) = true) ∧ (((!if ((↑g : Int) == 0) = true then (l.getD (↑g : Int).toNat default).a != 0 else false) && decide ((↑g : Int) > 0)) = true → ((!if ((↑g :
   Int) == 0) = true then (l.getD (↑g : Int).toNat default).a != 0 else false) && decide ((↑g : Int) > 0)) = true) ∧ (((!if ((↑g : Int) == 0) = true then (l.getD (↑g : Int).toNat default).a != 0 else false) && decide ((↑g : Int) > 0))
   = true → ((!if ((↑g : Int) == 0) = true then (l.getD (↑g : Int).toNat default).a != 0 else false) && decide ((↑g : Int) > 0)) = true) ∧ (((!if ((↑g : Int) == 0) = true then (l.getD (↑g : Int).toNat default).a != 0 else false) &&
   decide ((↑g : Int) > 0)) = true → In64 ((↑g : Int) - 1)) ∧ (((!if ((↑g : Int) == 0) = true then (l.getD (↑g : Int).toNat default).a != 0 else false) && decide ((↑g : Int) > 0)) = true → ((!if ((↑g : Int) == 0) = true then (l.getD
   (↑g : Int).toNat default).a != 0 else false) && decide ((↑g : Int) > 0)) = true) ∧ (((!if ((↑g : Int) == 0) = true then (l.getD (↑g : Int).toNat default).a != 0 else false) && decide ((↑g : Int) > 0)) = true → ((!if ((↑g : Int) ==
   0) = true then (l.getD (↑g : Int).toNat default).a != 0 else false) && decide ((↑g : Int) > 0)) = true) ∧ (((!if ((↑g : Int) == 0) = true then (l.getD (↑g : Int).toNat default).a != 0 else false) && decide ((↑g : Int) > 0)) = true
   → ((!if ((↑g : Int) == 0) = true then (l.getD (↑g : Int).toNat default).a != 0 else false) && decide ((↑g : Int) > 0)) = true) ∧ (((!if ((↑g : Int) == 0) = true then (l.getD (↑g : Int).toNat default).a != 0 else false) && decide
   ((↑g : Int) > 0)) = true → (0 : Int) ≤ maxI (0 : Int) ((↑g : Int) - 1)) ∧ (((!if ((↑g : Int) == 0) = true then (l.getD (↑g : Int).toNat default).a != 0 else false) && decide ((↑g : Int) > 0)) = true → maxI (0 : Int) ((↑g : Int) -
   1) < (↑(List.map encSt l).length : Int)) ∧ (((!if ((↑g : Int) == 0) = true then (l.getD (↑g : Int).toNat default).a != 0 else false) && decide ((↑g : Int) > 0)) = true → ((!if ((↑g : Int) == 0) = true then (l.getD (↑g : Int).toNat
   default).a != 0 else false) && decide ((↑g : Int) > 0)) = true) ∧ (((!if ((↑g : Int) == 0) = true then (l.getD (↑g : Int).toNat default).a != 0 else false) && decide ((↑g : Int) > 0)) = true → ((!if ((↑g : Int) == 0) = true then
   (l.getD (↑g : Int).toNat default).a != 0 else false) && decide ((↑g : Int) > 0)) = true) ∧ (((!if ((↑g : Int) == 0) = true then (l.getD (↑g : Int).toNat default).a != 0 else false) && decide ((↑g : Int) > 0)) = true → ((!if ((↑g :
   Int) == 0) = true then (l.getD (↑g : Int).toNat default).a != 0 else false) && decide ((↑g : Int) > 0)) = true) ∧ (((!if ((↑g : Int) == 0) = true then (l.getD (↑g : Int).toNat default).a != 0 else false) && decide ((↑g : Int) > 0))
   = true → ((!if ((↑g : Int) == 0) = true then (l.getD (↑g : Int).toNat default).a != 0 else false) && decide ((↑g : Int) > 0)) = true) ∧ ((!if ((↑g : Int) == 0) = true then (l.getD (↑g : Int).toNat default).a != 0 else false) = true
   → (!if ((↑g : Int) == 0) = true then (l.getD (↑g : Int).toNat default).a != 0 else false) = true) ∧ ((!if ((↑g : Int) == 0) = true then (l.getD (↑g : Int).toNat default).a != 0 else false) = true → decide ((↑g : Int) > 0) = true →
   ((!if ((↑g : Int) == 0) = true then (l.getD (↑g : Int).toNat default).a != 0 else false) && decide ((↑g : Int) > 0)) = true) ∧ ((if ((↑g : Int) == 0) = true then (l.getD (↑g : Int).toNat default).a != 0 else false) = false → (!if
   ((↑g : Int) == 0) = true then (l.getD (↑g : Int).toNat default).a != 0 else false) = true) ∧ nth (nthR (List.map encSt l) (↑g : Int).toNat) (0 : Nat) = AV.int IntKind.i64 (l.getD (↑g : Int).toNat default).a ∧ PCall Tryz.prog G0 (95
   : Nat) [AV.int IntKind.i64 (l.getD (↑g : Int).toNat default).a, AV.int IntKind.i64 (0 : Int), AV.int IntKind.i64 (400000 : Int)] (AV.int IntKind.i64 (sWithin (l.getD (↑g : Int).toNat default).a (0 : Int) (400000 : Int))) ∧ nth
   (nthR (List.map encSt l) (↑g : Int).toNat) (1 : Nat) = AV.int IntKind.i64 (l.getD (↑g : Int).toNat default).h ∧ PCall Tryz.prog G0 (95 : Nat) [AV.int IntKind.i64 (l.getD (↑g : Int).toNat default).h, AV.int IntKind.i64 (0 : Int),
   AV.int IntKind.i64 (20000 : Int)] (AV.int IntKind.i64 (sWithin (l.getD (↑g : Int).toNat default).h (0 : Int) (20000 : Int))) ∧ nth (nthR (List.map encSt l) (↑g : Int).toNat) (2 : Nat) = AV.int IntKind.i64 (l.getD (↑g : Int).toNat
   default).p ∧ PCall Tryz.prog G0 (44 : Nat) [AV.int IntKind.i64 (l.getD (↑g : Int).toNat default).p] (AV.int IntKind.i64 (sPower (l.getD (↑g : Int).toNat default).p)) ∧ impB ((↑g : Int) == 0) (nth (nthR (List.map encSt l) (↑g :
   Int).toNat) (0 : Nat) = AV.int IntKind.i64 (l.getD (↑g : Int).toNat default).a) ∧ impB ((!if ((↑g : Int) == 0) = true then (l.getD (↑g : Int).toNat default).a != 0 else false) && decide ((↑g : Int) > 0)) (nth (nthR (List.map encSt
   l) (↑g : Int).toNat) (0 : Nat) = AV.int IntKind.i64 (l.getD (↑g : Int).toNat default).a) ∧ impB ((!if ((↑g : Int) == 0) = true then (l.getD (↑g : Int).toNat default).a != 0 else false) && decide ((↑g : Int) > 0)) (nth (nthR
   (List.map encSt l) (maxI (0 : Int) ((↑g : Int) - 1)).toNat) (0 : Nat) = AV.int IntKind.i64 (l.getD (maxI (0 : Int) ((↑g : Int) - 1)).toNat default).a) ∧ PCall Tryz.prog G0 (94 : Nat) [AV.bool (if (if ((↑g : Int) == 0) = true then
   (l.getD (↑g : Int).toNat default).a != 0 else false) = true then true else if decide ((↑g : Int) > 0) = true then decide ((l.getD (↑g : Int).toNat default).a ≤ (l.getD (maxI (0 : Int) ((↑g : Int) - 1)).toNat default).a) else
   false), AV.int IntKind.i64 (11 : Int)] (AV.int IntKind.i64 (sWhen (if (if ((↑g : Int) == 0) = true then (l.getD (↑g : Int).toNat default).a != 0 else false) = true then true else if decide ((↑g : Int) > 0) = true then decide
   ((l.getD (↑g : Int).toNat default).a ≤ (l.getD (maxI (0 : Int) ((↑g : Int) - 1)).toNat default).a) else false) (11 : Int))) ∧ PCall Tryz.prog G0 (93 : Nat) [AV.sl (1 : Nat) [[AV.int IntKind.i64 (sWithin (l.getD (↑g : Int).toNat
   default).a (0 : Int) (400000 : Int))], [AV.int IntKind.i64 (sWithin (l.getD (↑g : Int).toNat default).h (0 : Int) (20000 : Int))], [AV.int IntKind.i64 (sPower (l.getD (↑g : Int).toNat default).p)], [AV.int IntKind.i64 (sWhen (if
   (if ((↑g : Int) == 0) = true then (l.getD (↑g : Int).toNat default).a != 0 else false) = true then true else if decide ((↑g : Int) > 0) = true then decide ((l.getD (↑g : Int).toNat default).a ≤ (l.getD (maxI (0 : Int) ((↑g : Int) -
   1)).toNat default).a) else false) (11 : Int))]]] (AV.int IntKind.i64 (sFirst [hdI [AV.int IntKind.i64 (sWithin (l.getD (↑g : Int).toNat default).a (0 : Int) (400000 : Int))], hdI [AV.int IntKind.i64 (sWithin (l.getD (↑g :
   Int).toNat default).h (0 : Int) (20000 : Int))], hdI [AV.int IntKind.i64 (sPower (l.getD (↑g : Int).toNat default).p)], hdI [AV.int IntKind.i64 (sWhen (if (if ((↑g : Int) == 0) = true then (l.getD (↑g : Int).toNat default).a != 0
   else false) = true then true else if decide ((↑g : Int) > 0) = true then decide ((l.getD (↑g : Int).toNat default).a ≤ (l.getD (maxI (0 : Int) ((↑g : Int) - 1)).toNat default).a) else false) (11 : Int))]])) ∧ ((sFirst [hdI [AV.int
   IntKind.i64 (sWithin (l.getD (↑g : Int).toNat default).a (0 : Int) (400000 : Int))], hdI [AV.int IntKind.i64 (sWithin (l.getD (↑g : Int).toNat default).h (0 : Int) (20000 : Int))], hdI [AV.int IntKind.i64 (sPower (l.getD (↑g :
   Int).toNat default).p)], hdI [AV.int IntKind.i64 (sWhen (if (if ((↑g : Int) == 0) = true then (l.getD (↑g : Int).toNat default).a != 0 else false) = true then true else if decide ((↑g : Int) > 0) = true then decide ((l.getD (↑g :
   Int).toNat default).a ≤ (l.getD (maxI (0 : Int) ((↑g : Int) - 1)).toNat default).a) else false) (11 : Int))]] != 0) = true → AV.int IntKind.i64 (sFirst [hdI [AV.int IntKind.i64 (sWithin (l.getD (↑g : Int).toNat default).a (0 : Int)
   (400000 : Int))], hdI [AV.int IntKind.i64 (sWithin (l.getD (↑g : Int).toNat default).h (0 : Int) (20000 : Int))], hdI [AV.int IntKind.i64 (sPower (l.getD (↑g : Int).toNat default).p)], hdI [AV.int IntKind.i64 (sWhen (if (if ((↑g :
   Int) == 0) = true then (l.getD (↑g : Int).toNat default).a != 0 else false) = true then true else if decide ((↑g : Int) > 0) = true then decide ((l.getD (↑g : Int).toNat default).a ≤ (l.getD (maxI (0 : Int) ((↑g : Int) - 1)).toNat
   default).a) else false) (11 : Int))]]) = AV.int IntKind.i64 (sProcR l)) ∧ ((sFirst [hdI [AV.int IntKind.i64 (sWithin (l.getD (↑g : Int).toNat default).a (0 : Int) (400000 : Int))], hdI [AV.int IntKind.i64 (sWithin (l.getD (↑g :
   Int).toNat default).h (0 : Int) (20000 : Int))], hdI [AV.int IntKind.i64 (sPower (l.getD (↑g : Int).toNat default).p)], hdI [AV.int IntKind.i64 (sWhen (if (if ((↑g : Int) == 0) = true then (l.getD (↑g : Int).toNat default).a != 0
   else false) = true then true else if decide ((↑g : Int) > 0) = true then decide ((l.getD (↑g : Int).toNat default).a ≤ (l.getD (maxI (0 : Int) ((↑g : Int) - 1)).toNat default).a) else false) (11 : Int))]] != 0) = false → In64 ((↑g
   : Int) + 1) ∧ ∃ (g' : Nat), (g' ≤ (List.map encSt l).length ∧ ∀ (k : Nat), k < g' → fProcR l k = (0 : Int)) ∧ (List.map encSt l).length - g' < (List.map encSt l).length - g ∧ AS.mk [((0 : Nat), AV.sl (3 : Nat) (List.map encSt l)),
   ((4 : Nat), AV.int IntKind.i64 ((↑g : Int) + 1))] [] (1 : Nat) = AS.mk [((0 : Nat), AV.sl (3 : Nat) (List.map encSt l)), ((4 : Nat), AV.int IntKind.i64 (↑g' : Int))] [] (1 : Nat))) ∧ (decide ((↑g : Int) < (↑(List.map encSt
   l).length : Int)) = false → AV.int IntKind.i64 (0 : Int) = AV.int IntKind.i64 (sProcR l))) := by
    repeat' (first | apply And.intro | intro _ | refine impB_iff.2 fun _ => ?_)
    all_goals try first
      | exact c94 _ _
      | exact c95 _ _ _
      | exact c44 _
      | exact c93 [_, _] (by simp)
      | exact c93 [_, _, _, _] (by simp)
      | assumption
      | (simp only [decide_eq_true_eq, decide_eq_false_iff_not, List.length_map, maxI, minI, In64, Int.toNat_natCast, bne_iff_ne, ne_eq, beq_iff_eq, Bool.not_eq_true', Int.natCast_add, Int.cast_ofNat_Int] at *; omega)
      | (show (_ : Bool) = true; simp_all; done)
      | (rw [row_at _ (by simp only [decide_eq_true_eq, decide_eq_false_iff_not, List.length_map, maxI, minI, In64, Int.toNat_natCast, bne_iff_ne, ne_eq, beq_iff_eq, Bool.not_eq_true', Int.natCast_add, Int.cast_ofNat_Int] at *; omega)]; rfl)
    · rename_i h; exact av_int (ls_first h)
    · exact ⟨0, ⟨by omega, by intros; omega⟩, rfl⟩
    · rename_i h g hg hd hne; exact av_int (ls_hit (f := fProcR l) h hd hg.2 hne)
    · rename_i h g hg hd hne; have := lt_of_dec hd; exact ⟨g + 1, ⟨this, all_succ (f := fProcR l) hg.2 hne⟩, by omega, rfl⟩
    · rename_i h g hg hd; exact av_int (ls_end h hd hg.1 hg.2)
  exact c_of Tryz.f18 (mkB spA 18 [(7, 4, rdOr [rdL 3 encSt l 1 false]), (7, 10, rdOr [rdL 3 encSt l 1 false]), (7, 16, rdOr [rdL 3 encSt l 1 false]), (7, 25, rdOr [rdL 3 encSt l 1 false]), (7, 36, rdOr [rdL 3 encSt l 1 false]), (7, 43, rdOr [rdL 3 encSt l 1 false])] (fun i => if i.beq 0 then some (la18 l) else none)) (by kernel_rfl) (by kernel_rfl) (by kernel_rfl) (by kernel_rfl) key (by kernel_rfl)
def fTrackS (l : List Fx) (i : Nat) : Int := sFirst [sFix (l.getD i default).t (l.getD i default).x (l.getD i default).y (l.getD i default).z (l.getD i default).p,
  sWhen (if decide ((i : Int) > 0) = true then decide ((l.getD i default).t ≤ (l.getD (prv i) default).t) else false) 11]
def fTrackR (l : List Fx) (i : Nat) : Int := sFirst [sWithin (l.getD i default).t 0 100000000, sPlace (l.getD i default).x (l.getD i default).y (l.getD i default).z, sPower (l.getD i default).p,
  sWhen (if decide ((i : Int) > 0) = true then decide ((l.getD i default).t ≤ (l.getD (prv i) default).t) else false) 11]
def lastOf (n : Nat) : Nat := ((n : Int) - 1).toNat
def sSpan (l : List Fx) : Int := sWhen (decide ((l.getD (lastOf (l.map encFx).length) default).t - (l.getD 0 default).t > 1000)) 14
def sTrackS (l : List Fx) : Int := sLS (sLen (l.map encFx).length) (fTrackS l) (l.map encFx).length (sSpan l)
def sTrackR (l : List Fx) : Int := sLS (sLen (l.map encFx).length) (fTrackR l) (l.map encFx).length (sSpan l)
theorem len_ge {n : Nat} (h : (sLen n != 0) = false) : 2 ≤ n ∧ n ≤ 16 := by
  have h := bne_f h
  unfold sLen at h
  simp only [first_zero, sWhen] at h
  by_cases h1 : (n : Int) < 2
  · simp [h1] at h
  · by_cases h2 : (n : Int) > 16
    · simp [h2] at h
    · omega
theorem fTrackS_t {l : List Fx} {i : Nat} (h : fTrackS l i = 0) : 0 ≤ (l.getD i default).t ∧ (l.getD i default).t ≤ 100000000 := by
  simp only [fTrackS, sFix, first_zero, within_zero] at h
  exact h.1.1
theorem fTrackR_t {l : List Fx} {i : Nat} (h : fTrackR l i = 0) : 0 ≤ (l.getD i default).t ∧ (l.getD i default).t ≤ 100000000 := by
  simp only [fTrackR, first_zero, within_zero] at h
  exact h.1
def la76 (l : List Fx) : LA := {
  pre := [.keep [0, 20, 21, 22] [], .bound 1], post := [.keep [0, 20, 21, 22] [], .bound 1]
  Gh := Nat
  st := fun i => ⟨[(0, .sl 5 (l.map encFx)), (20, .sl 5 (l.map encFx)), (21, .i (l.map encFx).length), (22, .i i)], [], 1⟩
  ok := fun i => i ≤ (l.map encFx).length ∧ ∀ k, k < i → fTrackS l k = 0
  ms := fun i => (l.map encFx).length - i }
theorem c76 (l : List Fx) (hl : (l.map encFx).length ≤ 1000000) : PCall Tryz.prog G0 76 [.sl 5 (l.map encFx)] (.i (sTrackS l)) := by
  have key :
   PCall Tryz.prog G0 (92 : Nat) [AV.bool (decide ((↑(List.map encFx l).length : Int) < 2)), AV.int IntKind.i64 (16 : Int)] (AV.int IntKind.i64 (sWhen (decide ((↑(List.map encFx l).length : Int) < 2)) (16 : Int))) ∧ PCall Tryz.prog G0
   (92 : Nat) [AV.bool (decide ((↑(List.map encFx l).length : Int) > 16)), AV.int IntKind.i64 (5 : Int)] (AV.int IntKind.i64 (sWhen (decide ((↑(List.map encFx l).length : Int) > 16)) (5 : Int))) ∧ PCall Tryz.prog G0 (87 : Nat) [AV.sl
   (1 : Nat) [[AV.int IntKind.i64 (sWhen (decide ((↑(List.map encFx l).length : Int) < 2)) (16 : Int))], [AV.int IntKind.i64 (sWhen (decide ((↑(List.map encFx l).length : Int) > 16)) (5 : Int))]]] (AV.int IntKind.i64 (sFirst [hdI
   [AV.int IntKind.i64 (sWhen (decide ((↑(List.map encFx l).length : Int) < 2)) (16 : Int))], hdI [AV.int IntKind.i64 (sWhen (decide ((↑(List.map encFx l).length : Int) > 16)) (5 : Int))]])) ∧ ((sFirst [hdI [AV.int IntKind.i64 (sWhen
   (decide ((↑(List.map encFx l).length : Int) < 2)) (16 : Int))], hdI [AV.int IntKind.i64 (sWhen (decide ((↑(List.map encFx l).length : Int) > 16)) (5 : Int))]] != 0) = true → AV.int IntKind.i64 (sFirst [hdI [AV.int IntKind.i64
   (sWhen (decide ((↑(List.map encFx l).length : Int) < 2)) (16 : Int))], hdI [AV.int IntKind.i64 (sWhen (decide ((↑(List.map encFx l).length : Int) > 16)) (5 : Int))]]) = AV.int IntKind.i64 (sTrackS l)) ∧ ((sFirst [hdI [AV.int
   IntKind.i64 (sWhen (decide ((↑(List.map encFx l).length : Int) < 2)) (16 : Int))], hdI [AV.int IntKind.i64 (sWhen (decide ((↑(List.map encFx l).length : Int) > 16)) (5 : Int))]] != 0) = false → (∃ (g : Nat), (g ≤ (List.map encFx
   l).length ∧ ∀ (k : Nat), k < g → fTrackS l k = (0 : Int)) ∧ AS.mk [((0 : Nat), AV.sl (5 : Nat) (List.map encFx l)), ((20 : Nat), AV.sl (5 : Nat) (List.map encFx l)), ((21 : Nat), AV.int IntKind.i64 (↑(List.map encFx l).length :
   Int)), ((22 : Nat), AV.int IntKind.i64 (0 : Int))] [] (1 : Nat) = AS.mk [((0 : Nat), AV.sl (5 : Nat) (List.map encFx l)), ((20 : Nat), AV.sl (5 : Nat) (List.map encFx l)), ((21 : Nat), AV.int IntKind.i64 (↑(List.map encFx l).length
   : Int)), ((22 : Nat), AV.int IntKind.i64 (↑g : Int))] [] (1 : Nat)) ∧ ∀ (g : Nat), (g ≤ (List.map encFx l).length ∧ ∀ (k : Nat), k < g → fTrackS l k = (0 : Int)) → (decide ((↑g : Int) < (↑(List.map encFx l).length : Int)) = true →
   (0 : Int) ≤ (↑g : Int) ∧ (↑g : Int) < (↑(List.map encFx l).length : Int) ∧ AV.agg (nthR (List.map encFx l) (↑g : Int).toNat) = AV.agg [AV.int IntKind.i64 (l.getD (↑g : Int).toNat default).t, AV.int IntKind.i64 (l.getD (↑g :
   Int).toNat default).x, AV.int IntKind.i64 (l.getD (↑g : Int).toNat default).y, AV.int IntKind.i64 (l.getD (↑g : Int).toNat default).z, AV.int IntKind.i64 (l.getD (↑g : Int).toNat default).p] ∧ (decide ((↑g : Int) > 0) = true →
   decide ((↑g : Int) > 0) = true) ∧ (decide ((↑g : Int) > 0) = true → decide ((↑g : Int) > 0) = true) ∧ (decide ((↑g : Int) > 0) = true → In64 ((↑g : Int) - 1)) ∧ (decide ((↑g : Int) > 0) = true → decide ((↑g : Int) > 0) = true) ∧
   (decide ((↑g : Int) > 0) = true → decide ((↑g : Int) > 0) = true) ∧ (decide ((↑g : Int) > 0) = true → decide ((↑g : Int) > 0) = true) ∧ (decide ((↑g : Int) > 0) = true → (0 : Int) ≤ maxI (0 : Int) ((↑g : Int) - 1)) ∧ (decide ((↑g :
   Int) > 0) = true → maxI (0 : Int) ((↑g : Int) - 1) < (↑(List.map encFx l).length : Int)) ∧ (decide ((↑g : Int) > 0) = true → decide ((↑g : Int) > 0) = true) ∧ (decide ((↑g : Int) > 0) = true → decide ((↑g : Int) > 0) = true) ∧
   (decide ((↑g : Int) > 0) = true → decide ((↑g : Int) > 0) = true) ∧ (decide ((↑g : Int) > 0) = true → decide ((↑g : Int) > 0) = true) ∧ (decide ((↑g : Int) > 0) = true → decide ((↑g : Int) > 0) = true) ∧ PCall Tryz.prog G0 (134 :
   Nat) [AV.agg [AV.int IntKind.i64 (l.getD (↑g : Int).toNat default).t, AV.int IntKind.i64 (l.getD (↑g : Int).toNat default).x, AV.int IntKind.i64 (l.getD (↑g : Int).toNat default).y, AV.int IntKind.i64 (l.getD (↑g : Int).toNat
   default).z, AV.int IntKind.i64 (l.getD (↑g : Int).toNat default).p]] (AV.int IntKind.i64 (sFix (l.getD (↑g : Int).toNat default).t (l.getD (↑g : Int).toNat default).x (l.getD (↑g : Int).toNat default).y (l.getD (↑g : Int).toNat
   default).z (l.getD (↑g : Int).toNat default).p)) ∧ impB (decide ((↑g : Int) > 0)) (nth (nthR (List.map encFx l) (maxI (0 : Int) ((↑g : Int) - 1)).toNat) (0 : Nat) = AV.int IntKind.i64 (l.getD (maxI (0 : Int) ((↑g : Int) - 1)).toNat
   default).t) ∧ PCall Tryz.prog G0 (92 : Nat) [AV.bool (if decide ((↑g : Int) > 0) = true then decide ((l.getD (↑g : Int).toNat default).t ≤ (l.getD (maxI (0 : Int) ((↑g : Int) - 1)).toNat default).t) else false), AV.int IntKind.i64
   (11 : Int)] (AV.int IntKind.i64 (sWhen (if decide ((↑g : Int) > 0) = true then decide ((l.getD (↑g : Int).toNat default).t ≤ (l.getD (maxI (0 : Int) ((↑g : Int) - 1)).toNat default).t) else false) (11 : Int))) ∧ PCall Tryz.prog G0
   (87 : Nat) [AV.sl (1 : Nat) [[AV.int IntKind.i64 (sFix (l.getD (↑g : Int).toNat default).t (l.getD (↑g : Int).toNat default).x (l.getD (↑g : Int).toNat default).y (l.getD (↑g : Int).toNat default).z (l.getD (↑g : Int).toNat
   default).p)], [AV.int IntKind.i64 (sWhen (if decide ((↑g : Int) > 0) = true then decide ((l.getD (↑g : Int).toNat default).t ≤ (l.getD (maxI (0 : Int) ((↑g : Int) - 1)).toNat default).t) else false) (11 : Int))]]] (AV.int
   IntKind.i64 (sFirst [hdI [AV.int IntKind.i64 (sFix (l.getD (↑g : Int).toNat default).t (l.getD (↑g : Int).toNat default).x (l.getD (↑g : Int).toNat default).y (l.getD (↑g : Int).toNat default).z (l.getD (↑g : Int).toNat
   default).p)], hdI [AV.int IntKind.i64 (sWhen (if decide ((↑g : Int) > 0) = true then decide ((l.getD (↑g : Int).toNat default).t ≤ (l.getD (maxI (0 : Int) ((↑g : Int) - 1)).toNat default).t) else false) (11 : Int))]])) ∧ ((sFirst
   [hdI [AV.int IntKind.i64 (sFix (l.getD (↑g : Int).toNat default).t (l.getD (↑g : Int).toNat default).x (l.getD (↑g : Int).toNat default).y (l.getD (↑g : Int).toNat default).z (l.getD (↑g : Int).toNat default).p)], hdI [AV.int
   IntKind.i64 (sWhen (if decide ((↑g : Int) > 0) = true then decide ((l.getD (↑g : Int).toNat default).t ≤ (l.getD (maxI (0 : Int) ((↑g : Int) - 1)).toNat default).t) else false) (11 : Int))]] != 0) = true → AV.int IntKind.i64
   (sFirst [hdI [AV.int IntKind.i64 (sFix (l.getD (↑g : Int).toNat default).t (l.getD (↑g : Int).toNat default).x (l.getD (↑g : Int).toNat default).y (l.getD (↑g : Int).toNat default).z (l.getD (↑g : Int).toNat default).p)], hdI
   [AV.int IntKind.i64 (sWhen (if decide ((↑g : Int) > 0) = true then decide ((l.getD (↑g : Int).toNat default).t ≤ (l.getD (maxI (0 : Int) ((↑g : Int) - 1)).toNat default).t) else false) (11 : Int))]]) = AV.int IntKind.i64 (sTrackS
   l)) ∧ ((sFirst [hdI [AV.int IntKind.i64 (sFix (l.getD (↑g : Int).toNat default).t (l.getD (↑g : Int).toNat default).x (l.getD (↑g : Int).toNat default).y (l.getD (↑g : Int).toNat default).z (l.getD (↑g : Int).toNat default).p)],
   hdI [AV.int IntKind.i64 (sWhen (if decide ((↑g : Int) > 0) = true then decide ((l.getD (↑g : Int).toNat default).t ≤ (l.getD (maxI (0 : Int) ((↑g : Int) - 1)).toNat default).t) else false) (11 : Int))]] != 0) = false → In64 ((↑g :
   Int) + 1) ∧ ∃ (g' : Nat), (g' ≤ (List.map encFx l).length ∧ ∀ (k : Nat), k < g' → fTrackS l k = (0 : Int)) ∧ (List.map encFx l).length - g' < (List.map encFx l).length - g ∧ AS.mk [((0 : Nat), AV.sl (5 : Nat) (List.map encFx l)),
   ((20 : Nat), AV.sl (5 : Nat) (List.map encFx l)), ((21 : Nat), AV.int IntKind.i64 (↑(List.map encFx l).length : Int)), ((22 : Nat), AV.int IntKind.i64 ((↑g : Int) + 1))] [] (1 : Nat) = AS.mk [((0 : Nat), AV.sl (5 : Nat) (List.map
   encFx l)), ((20 : Nat), AV.sl (5 : Nat) (List.map encFx l)), ((21 : Nat), AV.int IntKind.i64 (↑(List.map encFx l).length : Int)), ((22 : Nat), AV.int IntKind.i64 (↑g' : Int))] [] (1 : Nat))) ∧ (decide ((↑g : Int) < (↑(List.map
   encFx l).length : Int)) = false → In64 ((↑(List.map encFx l).length : Int) - 1) ∧ (0 : Int) ≤ (↑(List.map encFx l).length : Int) - 1 ∧ (↑(List.map encFx l).length : Int) - 1 < (↑(List.map encFx l).length : Int) ∧ (0 : Int) ≤ 0 ∧ (0
   : Int) < (↑(List.map encFx l).length : Int) ∧ In64 ((l.getD ((↑(List.map encFx l).length : Int) - 1).toNat default).t - (l.getD (Int.toNat (0 : Int)) default).t) ∧ nth (nthR (List.map encFx l) ((↑(List.map encFx l).length : Int) -
   1).toNat) (0 : Nat) = AV.int IntKind.i64 (l.getD ((↑(List.map encFx l).length : Int) - 1).toNat default).t ∧ nth (nthR (List.map encFx l) (0 : Nat)) (0 : Nat) = AV.int IntKind.i64 (l.getD (Int.toNat (0 : Int)) default).t ∧ PCall
   Tryz.prog G0 (92 : Nat) [AV.bool (decide ((l.getD ((↑(List.map encFx l).length : Int) - 1).toNat default).t - (l.getD (Int.toNat (0 : Int)) default).t > 1000)), AV.int IntKind.i64 (14 : Int)] (AV.int IntKind.i64 (sWhen (decide
   ((l.getD ((↑(List.map encFx l).length : Int) - 1).toNat default).t - (l.getD (Int.toNat (0 : Int)) default).t > 1000)) (14 : Int))) ∧ AV.int IntKind.i64 (sWhen (decide ((l.getD ((↑(List.map encFx l).length : Int) - 1).toNat
   default).t - (l.getD (Int.toNat (0 : Int)) default).t > 1000)) (14 : Int)) = AV.int IntKind.i64 (sTrackS l))) := by
    repeat' (first | apply And.intro | intro _ | refine impB_iff.2 fun _ => ?_)
    all_goals try first
      | exact c92 _ _
      | exact c134 _ _ _ _ _
      | exact c87 [_, _] (by simp)
      | assumption
      | (simp only [decide_eq_true_eq, decide_eq_false_iff_not, List.length_map, maxI, minI, In64, Int.toNat_natCast, bne_iff_ne, ne_eq, beq_iff_eq, Bool.not_eq_true', Int.natCast_add, Int.cast_ofNat_Int] at *; omega)
      | (show (_ : Bool) = true; simp_all; done)
      | (rw [row_at _ (by simp only [decide_eq_true_eq, decide_eq_false_iff_not, List.length_map, maxI, minI, In64, Int.toNat_natCast, bne_iff_ne, ne_eq, beq_iff_eq, Bool.not_eq_true', Int.natCast_add, Int.cast_ofNat_Int] at *; omega)]; rfl)
    · rename_i h; exact av_int (ls_first h)
    · exact ⟨0, ⟨by omega, by intros; omega⟩, rfl⟩
    · rename_i h g hg hd hne; exact av_int (ls_hit (f := fTrackS l) h hd hg.2 hne)
    · rename_i h g hg hd hne; have := lt_of_dec hd; exact ⟨g + 1, ⟨this, all_succ (f := fTrackS l) hg.2 hne⟩, by omega, rfl⟩
    all_goals (rename_i h g hg hd)
    all_goals have hn := len_ge (n := (l.map encFx).length) h
    all_goals have hgn := ge_of_dec hd hg.1
    all_goals have ht := fun k (hk : k < g) => fTrackS_t (hg.2 k hk)
    all_goals have h1 := ht (lastOf (l.map encFx).length) (by unfold lastOf; omega)
    all_goals have h2 := ht 0 (by omega)
    all_goals unfold lastOf at h1
    all_goals first
      | omega
      | (simp only [Int.toNat_zero]; omega)
      | (rw [row_at _ (by rw [List.length_map] at hn; simp only [List.length_map]; omega)]; rfl)
      | exact congrArg (fun r => nth r 0) (row_at encFx (i := 0) (by rw [List.length_map] at hn; omega))
      | exact av_int (ls_end h hd hg.1 hg.2)
    
  exact c_of Tryz.f76 (mkB spA 76 [(6, 2, rdOr [rdL 5 encFx l 5 true]), (7, 0, rdOr [rdL 5 encFx l 5 true]), (7, 6, rdOr [rdL 5 encFx l 1 false]), (7, 13, rdOr [rdL 5 encFx l 1 false]), (11, 6, rdOr [rdL 5 encFx l 1 false]), (11, 10, rdOr [rdL 5 encFx l 1 false])] (fun i => if i.beq 0 then some (la76 l) else none)) (by kernel_rfl) (by kernel_rfl) (by kernel_rfl) (by kernel_rfl) key (by kernel_rfl)
def la33 (l : List Fx) : LA := {
  pre := [.keep [0, 4] [], .bound 1], post := [.keep [0, 4] [], .bound 1]
  Gh := Nat
  st := fun i => ⟨[(0, .sl 5 (l.map encFx)), (4, .i i)], [], 1⟩
  ok := fun i => i ≤ (l.map encFx).length ∧ ∀ k, k < i → fTrackR l k = 0
  ms := fun i => (l.map encFx).length - i }
theorem c33 (l : List Fx) (hl : (l.map encFx).length ≤ 1000000) : PCall Tryz.prog G0 33 [.sl 5 (l.map encFx)] (.i (sTrackR l)) := by
  have key :
   PCall Tryz.prog G0 (94 : Nat) [AV.bool (decide ((↑(List.map encFx l).length : Int) < 2)), AV.int IntKind.i64 (16 : Int)] (AV.int IntKind.i64 (sWhen (decide ((↑(List.map encFx l).length : Int) < 2)) (16 : Int))) ∧ PCall Tryz.prog G0
   (94 : Nat) [AV.bool (decide ((↑(List.map encFx l).length : Int) > 16)), AV.int IntKind.i64 (5 : Int)] (AV.int IntKind.i64 (sWhen (decide ((↑(List.map encFx l).length : Int) > 16)) (5 : Int))) ∧ PCall Tryz.prog G0 (93 : Nat) [AV.sl
   (1 : Nat) [[AV.int IntKind.i64 (sWhen (decide ((↑(List.map encFx l).length : Int) < 2)) (16 : Int))], [AV.int IntKind.i64 (sWhen (decide ((↑(List.map encFx l).length : Int) > 16)) (5 : Int))]]] (AV.int IntKind.i64 (sFirst [hdI
   [AV.int IntKind.i64 (sWhen (decide ((↑(List.map encFx l).length : Int) < 2)) (16 : Int))], hdI [AV.int IntKind.i64 (sWhen (decide ((↑(List.map encFx l).length : Int) > 16)) (5 : Int))]])) ∧ ((sFirst [hdI [AV.int IntKind.i64 (sWhen
   (decide ((↑(List.map encFx l).length : Int) < 2)) (16 : Int))], hdI [AV.int IntKind.i64 (sWhen (decide ((↑(List.map encFx l).length : Int) > 16)) (5 : Int))]] != 0) = true → AV.int IntKind.i64 (sFirst [hdI [AV.int IntKind.i64
   (sWhen (decide ((↑(List.map encFx l).length : Int) < 2)) (16 : Int))], hdI [AV.int IntKind.i64 (sWhen (decide ((↑(List.map encFx l).length : Int) > 16)) (5 : Int))]]) = AV.int IntKind.i64 (sTrackR l)) ∧ ((sFirst [hdI [AV.int
   IntKind.i64 (sWhen (decide ((↑(List.map encFx l).length : Int) < 2)) (16 : Int))], hdI [AV.int IntKind.i64 (sWhen (decide ((↑(List.map encFx l).length : Int) > 16)) (5 : Int))]] != 0) = false → (∃ (g : Nat), (g ≤ (List.map encFx
   l).length ∧ ∀ (k : Nat), k < g → fTrackR l k = (0 : Int)) ∧ AS.mk [((0 : Nat), AV.sl (5 : Nat) (List.map encFx l)), ((4 : Nat), AV.int IntKind.i64 (0 : Int))] [] (1 : Nat) = AS.mk [((0 : Nat), AV.sl (5 : Nat) (List.map encFx l)),
   ((4 : Nat), AV.int IntKind.i64 (↑g : Int))] [] (1 : Nat)) ∧ ∀ (g : Nat), (g ≤ (List.map encFx l).length ∧ ∀ (k : Nat), k < g → fTrackR l k = (0 : Int)) → (decide ((↑g : Int) < (↑(List.map encFx l).length : Int)) = true → (0 : Int)
   ≤ (↑g : Int) ∧ (↑g : Int) < (↑(List.map encFx l).length : Int) ∧ (0 : Int) ≤ (↑g : Int) ∧ (↑g : Int) < (↑(List.map encFx l).length : Int) ∧ (0 : Int) ≤ (↑g : Int) ∧ (↑g : Int) < (↑(List.map encFx l).length : Int) ∧ (decide ((↑g :
   Int) > 0) = true → decide ((↑g : Int) > 0) = true) ∧ (decide ((↑g : Int) > 0) = true → decide ((↑g : Int) > 0) = true) ∧ (decide ((↑g : Int) > 0) = true → (0 : Int) ≤ (↑g : Int)) ∧ (decide ((↑g : Int) > 0) = true → (↑g : Int) <
   (↑(List.map encFx l).length : Int)) ∧ (decide ((↑g : Int) > 0) = true → decide ((↑g : Int) > 0) = true) ∧ (decide ((↑g : Int) > 0) = true → decide ((↑g : Int) > 0) = true) ∧ (decide ((↑g : Int) > 0) = true → decide ((↑g : Int) > 0)
   = true) ∧ (decide ((↑g : Int) > 0) = true → In64 ((↑g : Int) - 1)) ∧ (decide ((↑g : Int) > 0) = true → decide ((↑g : Int) > 0) = true) ∧ (decide ((↑g : Int) > 0) = true → decide ((↑g : Int) > 0) = true) ∧ (decide ((↑g : Int) > 0) =
   true → decide ((↑g : Int) > 0) = true) ∧ (decide ((↑g : Int) > 0) = true → (0 : Int) ≤ maxI (0 : Int) ((↑g : Int) - 1)) ∧ (decide ((↑g : Int) > 0) = true → maxI (0 : Int) ((↑g : Int) - 1) < (↑(List.map encFx l).length : Int)) ∧
   (decide ((↑g : Int) > 0) = true → decide ((↑g : Int) > 0) = true) ∧ (decide ((↑g : Int) > 0) = true → decide ((↑g : Int) > 0) = true) ∧ (decide ((↑g : Int) > 0) = true → decide ((↑g : Int) > 0) = true) ∧ (decide ((↑g : Int) > 0) =
   true → decide ((↑g : Int) > 0) = true) ∧ (decide ((↑g : Int) > 0) = true → decide ((↑g : Int) > 0) = true) ∧ nth (nthR (List.map encFx l) (↑g : Int).toNat) (0 : Nat) = AV.int IntKind.i64 (l.getD (↑g : Int).toNat default).t ∧ PCall
   Tryz.prog G0 (20 : Nat) [AV.int IntKind.i64 (l.getD (↑g : Int).toNat default).t] (AV.int IntKind.i64 (sWithin (l.getD (↑g : Int).toNat default).t (0 : Int) (100000000 : Int))) ∧ AV.agg (List.take (3 : Nat) (List.drop (1 : Nat)
   (nthR (List.map encFx l) (↑g : Int).toNat))) = AV.agg [AV.int IntKind.i64 (l.getD (↑g : Int).toNat default).x, AV.int IntKind.i64 (l.getD (↑g : Int).toNat default).y, AV.int IntKind.i64 (l.getD (↑g : Int).toNat default).z] ∧ PCall
   Tryz.prog G0 (35 : Nat) [AV.agg [AV.int IntKind.i64 (l.getD (↑g : Int).toNat default).x, AV.int IntKind.i64 (l.getD (↑g : Int).toNat default).y, AV.int IntKind.i64 (l.getD (↑g : Int).toNat default).z]] (AV.int IntKind.i64 (sPlace
   (l.getD (↑g : Int).toNat default).x (l.getD (↑g : Int).toNat default).y (l.getD (↑g : Int).toNat default).z)) ∧ nth (nthR (List.map encFx l) (↑g : Int).toNat) (4 : Nat) = AV.int IntKind.i64 (l.getD (↑g : Int).toNat default).p ∧
   PCall Tryz.prog G0 (44 : Nat) [AV.int IntKind.i64 (l.getD (↑g : Int).toNat default).p] (AV.int IntKind.i64 (sPower (l.getD (↑g : Int).toNat default).p)) ∧ impB (decide ((↑g : Int) > 0)) (nth (nthR (List.map encFx l) (↑g :
   Int).toNat) (0 : Nat) = AV.int IntKind.i64 (l.getD (↑g : Int).toNat default).t) ∧ impB (decide ((↑g : Int) > 0)) (nth (nthR (List.map encFx l) (maxI (0 : Int) ((↑g : Int) - 1)).toNat) (0 : Nat) = AV.int IntKind.i64 (l.getD (maxI (0
   : Int) ((↑g : Int) - 1)).toNat default).t) ∧ PCall Tryz.prog G0 (94 : Nat) [AV.bool (if decide ((↑g : Int) > 0) = true then decide ((l.getD (↑g : Int).toNat default).t ≤ (l.getD (maxI (0 : Int) ((↑g : Int) - 1)).toNat default).t)
   else false), AV.int IntKind.i64 (11 : Int)] (AV.int IntKind.i64 (sWhen (if decide ((↑g : Int) > 0) = true then decide ((l.getD (↑g : Int).toNat default).t ≤ (l.getD (maxI (0 : Int) ((↑g : Int) - 1)).toNat default).t) else false)
   (11 : Int))) ∧ PCall Tryz.prog G0 (93 : Nat) [AV.sl (1 : Nat) [[AV.int IntKind.i64 (sWithin (l.getD (↑g : Int).toNat default).t (0 : Int) (100000000 : Int))], [AV.int IntKind.i64 (sPlace (l.getD (↑g : Int).toNat default).x (l.getD
   (↑g : Int).toNat default).y (l.getD (↑g : Int).toNat default).z)], [AV.int IntKind.i64 (sPower (l.getD (↑g : Int).toNat default).p)], [AV.int IntKind.i64 (sWhen (if decide ((↑g : Int) > 0) = true then decide ((l.getD (↑g :
   Int).toNat default).t ≤ (l.getD (maxI (0 : Int) ((↑g : Int) - 1)).toNat default).t) else false) (11 : Int))]]] (AV.int IntKind.i64 (sFirst [hdI [AV.int IntKind.i64 (sWithin (l.getD (↑g : Int).toNat default).t (0 : Int) (100000000 :
   Int))], hdI [AV.int IntKind.i64 (sPlace (l.getD (↑g : Int).toNat default).x (l.getD (↑g : Int).toNat default).y (l.getD (↑g : Int).toNat default).z)], hdI [AV.int IntKind.i64 (sPower (l.getD (↑g : Int).toNat default).p)], hdI
   [AV.int IntKind.i64 (sWhen (if decide ((↑g : Int) > 0) = true then decide ((l.getD (↑g : Int).toNat default).t ≤ (l.getD (maxI (0 : Int) ((↑g : Int) - 1)).toNat default).t) else false) (11 : Int))]])) ∧ ((sFirst [hdI [AV.int
   IntKind.i64 (sWithin (l.getD (↑g : Int).toNat default).t (0 : Int) (100000000 : Int))], hdI [AV.int IntKind.i64 (sPlace (l.getD (↑g : Int).toNat default).x (l.getD (↑g : Int).toNat default).y (l.getD (↑g : Int).toNat default).z)],
   hdI [AV.int IntKind.i64 (sPower (l.getD (↑g : Int).toNat default).p)], hdI [AV.int IntKind.i64 (sWhen (if decide ((↑g : Int) > 0) = true then decide ((l.getD (↑g : Int).toNat default).t ≤ (l.getD (maxI (0 : Int) ((↑g : Int) -
   1)).toNat default).t) else false) (11 : Int))]] != 0) = true → AV.int IntKind.i64 (sFirst [hdI [AV.int IntKind.i64 (sWithin (l.getD (↑g : Int).toNat default).t (0 : Int) (100000000 : Int))], hdI [AV.int IntKind.i64 (sPlace (l.getD
   (↑g : Int).toNat default).x (l.getD (↑g : Int).toNat default).y (l.getD (↑g : Int).toNat default).z)], hdI [AV.int IntKind.i64 (sPower (l.getD (↑g : Int).toNat default).p)], hdI [AV.int IntKind.i64 (sWhen (if decide ((↑g : Int) >
   0) = true then decide ((l.getD (↑g : Int).toNat default).t ≤ (l.getD (maxI (0 : Int) ((↑g : Int) - 1)).toNat default).t) else false) (11 : Int))]]) = AV.int IntKind.i64 (sTrackR l)) ∧ ((sFirst [hdI [AV.int IntKind.i64 (sWithin
   (l.getD (↑g : Int).toNat default).t (0 : Int) (100000000 : Int))], hdI [AV.int IntKind.i64 (sPlace (l.getD (↑g : Int).toNat default).x (l.getD (↑g : Int).toNat default).y (l.getD (↑g : Int).toNat default).z)], hdI [AV.int
   IntKind.i64 (sPower (l.getD (↑g : Int).toNat default).p)], hdI [AV.int IntKind.i64 (sWhen (if decide ((↑g : Int) > 0) = true then decide ((l.getD (↑g : Int).toNat default).t ≤ (l.getD (maxI (0 : Int) ((↑g : Int) - 1)).toNat
   default).t) else false) (11 : Int))]] != 0) = false → In64 ((↑g : Int) + 1) ∧ ∃ (g' : Nat), (g' ≤ (List.map encFx l).length ∧ ∀ (k : Nat), k < g' → fTrackR l k = (0 : Int)) ∧ (List.map encFx l).length - g' < (List.map encFx
   l).length - g ∧ AS.mk [((0 : Nat), AV.sl (5 : Nat) (List.map encFx l)), ((4 : Nat), AV.int IntKind.i64 ((↑g : Int) + 1))] [] (1 : Nat) = AS.mk [((0 : Nat), AV.sl (5 : Nat) (List.map encFx l)), ((4 : Nat), AV.int IntKind.i64 (↑g' :
   Int))] [] (1 : Nat))) ∧ (decide ((↑g : Int) < (↑(List.map encFx l).length : Int)) = false → In64 ((↑(List.map encFx l).length : Int) - 1) ∧ (0 : Int) ≤ (↑(List.map encFx l).length : Int) - 1 ∧ (↑(List.map encFx l).length : Int) - 1
   < (↑(List.map encFx l).length : Int) ∧ (0 : Int) ≤ 0 ∧ (0 : Int) < (↑(List.map encFx l).length : Int) ∧ In64 ((l.getD ((↑(List.map encFx l).length : Int) - 1).toNat default).t - (l.getD (Int.toNat (0 : Int)) default).t) ∧ nth (nthR
   (List.map encFx l) ((↑(List.map encFx l).length : Int) - 1).toNat) (0 : Nat) = AV.int IntKind.i64 (l.getD ((↑(List.map encFx l).length : Int) - 1).toNat default).t ∧ nth (nthR (List.map encFx l) (0 : Nat)) (0 : Nat) = AV.int
   IntKind.i64 (l.getD (Int.toNat (0 : Int)) default).t ∧ PCall Tryz.prog G0 (94 : Nat) [AV.bool (decide ((l.getD ((↑(List.map encFx l).length : Int) - 1).toNat default).t - (l.getD (Int.toNat (0 : Int)) default).t > 1000)), AV.int
   IntKind.i64 (14 : Int)] (AV.int IntKind.i64 (sWhen (decide ((l.getD ((↑(List.map encFx l).length : Int) - 1).toNat default).t - (l.getD (Int.toNat (0 : Int)) default).t > 1000)) (14 : Int))) ∧ AV.int IntKind.i64 (sWhen (decide
   ((l.getD ((↑(List.map encFx l).length : Int) - 1).toNat default).t - (l.getD (Int.toNat (0 : Int)) default).t > 1000)) (14 : Int)) = AV.int IntKind.i64 (sTrackR l))) := by
    repeat' (first | apply And.intro | intro _ | refine impB_iff.2 fun _ => ?_)
    all_goals try first
      | exact c94 _ _
      | exact c20 _
      | exact c35 _ _ _
      | exact c44 _
      | exact c93 [_, _] (by simp)
      | exact c93 [_, _, _, _] (by simp)
      | assumption
      | (simp only [decide_eq_true_eq, decide_eq_false_iff_not, List.length_map, maxI, minI, In64, Int.toNat_natCast, bne_iff_ne, ne_eq, beq_iff_eq, Bool.not_eq_true', Int.natCast_add, Int.cast_ofNat_Int] at *; omega)
      | (show (_ : Bool) = true; simp_all; done)
      | (rw [row_at _ (by simp only [decide_eq_true_eq, decide_eq_false_iff_not, List.length_map, maxI, minI, In64, Int.toNat_natCast, bne_iff_ne, ne_eq, beq_iff_eq, Bool.not_eq_true', Int.natCast_add, Int.cast_ofNat_Int] at *; omega)]; rfl)
    · rename_i h; exact av_int (ls_first h)
    · exact ⟨0, ⟨by omega, by intros; omega⟩, rfl⟩
    · rename_i h g hg hd hne; exact av_int (ls_hit (f := fTrackR l) h hd hg.2 hne)
    · rename_i h g hg hd hne; have := lt_of_dec hd; exact ⟨g + 1, ⟨this, all_succ (f := fTrackR l) hg.2 hne⟩, by omega, rfl⟩
    all_goals (rename_i h g hg hd)
    all_goals have hn := len_ge (n := (l.map encFx).length) h
    all_goals have hgn := ge_of_dec hd hg.1
    all_goals have ht := fun k (hk : k < g) => fTrackR_t (hg.2 k hk)
    all_goals have h1 := ht (lastOf (l.map encFx).length) (by unfold lastOf; omega)
    all_goals have h2 := ht 0 (by omega)
    all_goals unfold lastOf at h1
    all_goals first
      | omega
      | (simp only [Int.toNat_zero]; omega)
      | (rw [row_at _ (by rw [List.length_map] at hn; simp only [List.length_map]; omega)]; rfl)
      | exact congrArg (fun r => nth r 0) (row_at encFx (i := 0) (by rw [List.length_map] at hn; omega))
      | exact av_int (ls_end h hd hg.1 hg.2)
  exact c_of Tryz.f33 (mkB spA 33 [(7, 4, rdOr [rdL 5 encFx l 1 false]), (7, 10, rdOr [rdL 5 encFx l 3 true]), (7, 16, rdOr [rdL 5 encFx l 1 false]), (7, 25, rdOr [rdL 5 encFx l 1 false]), (7, 32, rdOr [rdL 5 encFx l 1 false]), (10, 6, rdOr [rdL 5 encFx l 1 false]), (10, 10, rdOr [rdL 5 encFx l 1 false])] (fun i => if i.beq 0 then some (la33 l) else none)) (by kernel_rfl) (by kernel_rfl) (by kernel_rfl) (by kernel_rfl) key (by kernel_rfl)
end Go.Proofs.YtjhjmncjidbieaaGreatDoor
namespace Go.Proofs.YtjhjmncjidbieaaGreatDoor
open Go Go.Av Go.RowKit
def sBetween (a b p w : Int) : Int := a + sFloor ((b - a) * p) w
theorem mul_bound {x y A B : Int} (h1 : -A ≤ x) (h2 : x ≤ A) (h3 : -B ≤ y) (h4 : y ≤ B) : -(A * B) ≤ x * y ∧ x * y ≤ A * B := by
  have hx : x.natAbs ≤ A.natAbs := by omega
  have hy : y.natAbs ≤ B.natAbs := by omega
  have := Nat.mul_le_mul hx hy
  rw [← Int.natAbs_mul, ← Int.natAbs_mul] at this
  have hA : 0 ≤ A * B := Int.mul_nonneg (by omega) (by omega)
  omega
theorem floor_in {n d : Int} (hd : 0 < d) (h1 : -2000000000000000000 ≤ n) (h2 : n ≤ 2000000000000000000) :
    In64 (n.tdiv d) ∧ In64 (n.tdiv d * d) ∧ In64 (n.tdiv d - 1) ∧ -2000000000000000001 ≤ sFloor n d ∧ sFloor n d ≤ 2000000000000000000 := by
  have e := Int.mul_tdiv_add_tmod n d
  have e2 : n.tdiv d * d = d * n.tdiv d := Int.mul_comm _ _
  have h3 : n.tmod d < d := Int.tmod_lt_of_pos n hd
  have h4 : -d < n.tmod d := by
    have := Int.tmod_lt_of_pos (-n) hd
    rw [Int.neg_tmod] at this
    omega
  have h5 : (n.tdiv d).natAbs ≤ n.natAbs := by rw [Int.natAbs_tdiv]; exact Nat.div_le_self _ _
  have h6 : (n.tmod d).natAbs ≤ n.natAbs := by rw [Int.natAbs_tmod]; exact Nat.mod_le _ _
  unfold In64 sFloor
  refine ⟨by omega, by omega, by omega, ?_⟩
  split <;> omega
def spC : Nat → List AV → Option AV
  | 142, [.int _ a, .int _ b, .int _ p, .int _ w] => some (.i (sBetween a b p w))
  | 97, [.int _ a, .int _ b, .int _ p, .int _ w] => some (.i (sBetween a b p w))
  | n, l => spB n l
structure BetOK (a b p w : Int) : Prop where
  a1 : -1000000000 ≤ a
  a2 : a ≤ 1000000000
  b1 : -1000000000 ≤ b - a
  b2 : b - a ≤ 1000000000
  p1 : -1000000000 ≤ p
  p2 : p ≤ 1000000000
  w : 0 < w
theorem c142 (a b p w : Int) (h : BetOK a b p w) : PCall Tryz.prog G0 142 [.i a, .i b, .i p, .i w] (.i (sBetween a b p w)) := by
  have key :
   In64 (b - a) ∧ In64 ((b - a) * p) ∧ In64 (a + sFloor ((b - a) * p) w) ∧ PCall Tryz.prog G0 (91 : Nat) [AV.int IntKind.i64 ((b - a) * p), AV.int IntKind.i64 w] (AV.int IntKind.i64 (sFloor ((b - a) * p) w)) ∧ AV.int IntKind.i64 (a +
   sFloor ((b - a) * p) w) = AV.int IntKind.i64 (sBetween a b p w) := by
    have hm := mul_bound h.b1 h.b2 h.p1 h.p2
    have hf := floor_in (n := (b - a) * p) h.w (by omega) (by omega)
    have ha1 := h.a1
    have ha2 := h.a2
    have hb1 := h.b1
    have hb2 := h.b2
    exact ⟨by unfold In64; omega, by unfold In64; omega, by unfold In64; omega, c91 _ _ (by have := h.w; omega) hf.1 hf.2.1 hf.2.2.1, rfl⟩
  exact c_of Tryz.f142 (mkB spC 142 [] noLa) (by kernel_rfl) (by kernel_rfl) (by kernel_rfl) (by kernel_rfl) key (by kernel_rfl)
theorem c97 (a b p w : Int) (h : BetOK a b p w) : PCall Tryz.prog G0 97 [.i a, .i b, .i p, .i w] (.i (sBetween a b p w)) := by
  have key :
   In64 (b - a) ∧ In64 ((b - a) * p) ∧ In64 (a + sFloor ((b - a) * p) w) ∧ PCall Tryz.prog G0 (143 : Nat) [AV.int IntKind.i64 ((b - a) * p), AV.int IntKind.i64 w] (AV.int IntKind.i64 (sFloor ((b - a) * p) w)) ∧ AV.int IntKind.i64 (a +
   sFloor ((b - a) * p) w) = AV.int IntKind.i64 (sBetween a b p w) := by
    have hm := mul_bound h.b1 h.b2 h.p1 h.p2
    have hf := floor_in (n := (b - a) * p) h.w (by omega) (by omega)
    have ha1 := h.a1
    have ha2 := h.a2
    have hb1 := h.b1
    have hb2 := h.b2
    exact ⟨by unfold In64; omega, by unfold In64; omega, by unfold In64; omega, c143 _ _ (by have := h.w; omega) hf.1 hf.2.1 hf.2.2.1, rfl⟩
  exact c_of Tryz.f97 (mkB spC 97 [] noLa) (by kernel_rfl) (by kernel_rfl) (by kernel_rfl) (by kernel_rfl) key (by kernel_rfl)
def sStepF (p : List St) (along : Int) : Nat → Nat → St
  | 0, _ => p.getD (lastOf (p.map encSt).length) default
  | n + 1, i => if decide (along < (p.getD (i + 1) default).a) = true then
      ⟨along, sBetween (p.getD i default).h (p.getD (i + 1) default).h (along - (p.getD i default).a) ((p.getD (i + 1) default).a - (p.getD i default).a),
        sBetween (p.getD i default).p (p.getD (i + 1) default).p (along - (p.getD i default).a) ((p.getD (i + 1) default).a - (p.getD i default).a)⟩ else sStepF p along n (i + 1)
def sStep (p : List St) (along : Int) : St := sStepF p along ((p.map encSt).length - 1) 0
def la90 (p : List St) (along : Int) : LA := {
  pre := [.keep [0, 1, 4, 5, 19, 20] [1, 8], .bound 9], post := [.keep [0, 1, 4, 5, 19, 20] [1, 8], .bound 9]
  Gh := Nat
  st := fun i => ⟨[(0, .sl 3 (p.map encSt)), (1, .i along), (4, .ptr 1 0), (5, .ptr 8 0), (19, .i ((p.map encSt).length - 1)), (20, .i i)],
    [(1, .box [.i 0, .i 0, .i 0]), (8, .box (encSt (p.getD (lastOf (p.map encSt).length) default)))], 9⟩
  ok := fun i => i + 1 ≤ (p.map encSt).length ∧ sStep p along = sStepF p along ((p.map encSt).length - 1 - i) i
  ms := fun i => (p.map encSt).length - i }
structure ProcOK (l : List St) : Prop where
  n1 : 2 ≤ l.length
  n2 : l.length ≤ 8
  b : ∀ i, i < l.length → 0 ≤ (l.getD i default).a ∧ (l.getD i default).a ≤ 400000 ∧ 0 ≤ (l.getD i default).h ∧ (l.getD i default).h ≤ 20000 ∧ 1 ≤ (l.getD i default).p ∧ (l.getD i default).p ≤ 100
  s : ∀ i, i + 1 < l.length → (l.getD i default).a < (l.getD (i + 1) default).a
  z : (l.getD 0 default).a = 0
theorem c90 (p : List St) (along : Int) (hv : ProcOK p) (ha : 0 ≤ along) (ha2 : along ≤ 10000000) : PCall Tryz.prog G0 90 [.sl 3 (p.map encSt), .i along] (.agg (encSt (sStep p along))) := by
  have key :
   In64 ((↑(List.map encSt p).length : Int) - 1) ∧ (0 : Int) ≤ (↑(List.map encSt p).length : Int) - 1 ∧ (↑(List.map encSt p).length : Int) - 1 < (↑(List.map encSt p).length : Int) ∧ AV.agg (nthR (List.map encSt p) ((↑(List.map encSt
   p).length : Int) - 1).toNat) = AV.agg [AV.int IntKind.i64 (p.getD ((↑(List.map encSt p).length : Int) - 1).toNat default).a, AV.int IntKind.i64 (p.getD ((↑(List.map encSt p).length : Int) - 1).toNat default).h, AV.int IntKind.i64
   (p.getD ((↑(List.map encSt p).length : Int) - 1).toNat default).p] ∧ In64 ((↑(List.map encSt p).length : Int) - 1) ∧ (∃ (g : Nat), (g + (1 : Nat) ≤ (List.map encSt p).length ∧ sStep p along = sStepF p along ((List.map encSt
   p).length - (1 : Nat) - g) g) ∧ AS.mk [((0 : Nat), AV.sl (3 : Nat) (List.map encSt p)), ((1 : Nat), AV.int IntKind.i64 along), ((4 : Nat), AV.ptr (1 : Nat) (0 : Nat)), ((5 : Nat), AV.ptr (8 : Nat) (0 : Nat)), ((19 : Nat), AV.int
   IntKind.i64 ((↑(List.map encSt p).length : Int) - 1)), ((20 : Nat), AV.int IntKind.i64 (0 : Int))] [((1 : Nat), ABlk.box [AV.int IntKind.i64 (0 : Int), AV.int IntKind.i64 (0 : Int), AV.int IntKind.i64 (0 : Int)]), ((8 : Nat),
   ABlk.box [AV.int IntKind.i64 (p.getD ((↑(List.map encSt p).length : Int) - 1).toNat default).a, AV.int IntKind.i64 (p.getD ((↑(List.map encSt p).length : Int) - 1).toNat default).h, AV.int IntKind.i64 (p.getD ((↑(List.map encSt
   p).length : Int) - 1).toNat default).p])] (9 : Nat) = AS.mk [((0 : Nat), AV.sl (3 : Nat) (List.map encSt p)), ((1 : Nat), AV.int IntKind.i64 along), ((4 : Nat), AV.ptr (1 : Nat) (0 : Nat)), ((5 : Nat), AV.ptr (8 : Nat) (0 : Nat)),
   ((19 : Nat), AV.int IntKind.i64 ((↑(List.map encSt p).length : Int) - 1)), ((20 : Nat), AV.int IntKind.i64 (↑g : Int))] [((1 : Nat), ABlk.box [AV.int IntKind.i64 (0 : Int), AV.int IntKind.i64 (0 : Int), AV.int IntKind.i64 (0 :
   Int)]), ((8 : Nat), ABlk.box [AV.int IntKind.i64 (p.getD (lastOf (List.map encSt p).length) default).a, AV.int IntKind.i64 (p.getD (lastOf (List.map encSt p).length) default).h, AV.int IntKind.i64 (p.getD (lastOf (List.map encSt
   p).length) default).p])] (9 : Nat)) ∧ ∀ (g : Nat), g + (1 : Nat) ≤ (List.map encSt p).length ∧ sStep p along = sStepF p along ((List.map encSt p).length - (1 : Nat) - g) g → (decide ((↑g : Int) < (↑(List.map encSt p).length : Int)
   - 1) = true → (0 : Int) ≤ (↑g : Int) ∧ (↑g : Int) < (↑(List.map encSt p).length : Int) ∧ In64 ((↑g : Int) + 1) ∧ (0 : Int) ≤ (↑g : Int) + 1 ∧ (↑g : Int) + 1 < (↑(List.map encSt p).length : Int) ∧ AV.agg (nthR (List.map encSt p) (↑g
   : Int).toNat) = AV.agg [AV.int IntKind.i64 (p.getD (↑g : Int).toNat default).a, AV.int IntKind.i64 (p.getD (↑g : Int).toNat default).h, AV.int IntKind.i64 (p.getD (↑g : Int).toNat default).p] ∧ AV.agg (nthR (List.map encSt p) ((↑g
   : Int) + 1).toNat) = AV.agg [AV.int IntKind.i64 (p.getD ((↑g : Int) + 1).toNat default).a, AV.int IntKind.i64 (p.getD ((↑g : Int) + 1).toNat default).h, AV.int IntKind.i64 (p.getD ((↑g : Int) + 1).toNat default).p] ∧ (decide (along
   < (p.getD ((↑g : Int) + 1).toNat default).a) = true → In64 (along - (p.getD (↑g : Int).toNat default).a) ∧ In64 ((p.getD ((↑g : Int) + 1).toNat default).a - (p.getD (↑g : Int).toNat default).a) ∧ PCall Tryz.prog G0 (142 : Nat)
   [AV.int IntKind.i64 (p.getD (↑g : Int).toNat default).h, AV.int IntKind.i64 (p.getD ((↑g : Int) + 1).toNat default).h, AV.int IntKind.i64 (along - (p.getD (↑g : Int).toNat default).a), AV.int IntKind.i64 ((p.getD ((↑g : Int) +
   1).toNat default).a - (p.getD (↑g : Int).toNat default).a)] (AV.int IntKind.i64 (sBetween (p.getD (↑g : Int).toNat default).h (p.getD ((↑g : Int) + 1).toNat default).h (along - (p.getD (↑g : Int).toNat default).a) ((p.getD ((↑g :
   Int) + 1).toNat default).a - (p.getD (↑g : Int).toNat default).a))) ∧ PCall Tryz.prog G0 (142 : Nat) [AV.int IntKind.i64 (p.getD (↑g : Int).toNat default).p, AV.int IntKind.i64 (p.getD ((↑g : Int) + 1).toNat default).p, AV.int
   IntKind.i64 (along - (p.getD (↑g : Int).toNat default).a), AV.int IntKind.i64 ((p.getD ((↑g : Int) + 1).toNat default).a - (p.getD (↑g : Int).toNat default).a)] (AV.int IntKind.i64 (sBetween (p.getD (↑g : Int).toNat default).p
   (p.getD ((↑g : Int) + 1).toNat default).p (along - (p.getD (↑g : Int).toNat default).a) ((p.getD ((↑g : Int) + 1).toNat default).a - (p.getD (↑g : Int).toNat default).a))) ∧ AV.agg [AV.int IntKind.i64 along, AV.int IntKind.i64
   (sBetween (p.getD (↑g : Int).toNat default).h (p.getD ((↑g : Int) + 1).toNat default).h (along - (p.getD (↑g : Int).toNat default).a) ((p.getD ((↑g : Int) + 1).toNat default).a - (p.getD (↑g : Int).toNat default).a)), AV.int
   IntKind.i64 (sBetween (p.getD (↑g : Int).toNat default).p (p.getD ((↑g : Int) + 1).toNat default).p (along - (p.getD (↑g : Int).toNat default).a) ((p.getD ((↑g : Int) + 1).toNat default).a - (p.getD (↑g : Int).toNat default).a))] =
   AV.agg [AV.int IntKind.i64 (sStep p along).a, AV.int IntKind.i64 (sStep p along).h, AV.int IntKind.i64 (sStep p along).p]) ∧ (decide (along < (p.getD ((↑g : Int) + 1).toNat default).a) = false → In64 ((↑g : Int) + 1) ∧ ∃ (g' :
   Nat), (g' + (1 : Nat) ≤ (List.map encSt p).length ∧ sStep p along = sStepF p along ((List.map encSt p).length - (1 : Nat) - g') g') ∧ (List.map encSt p).length - g' < (List.map encSt p).length - g ∧ AS.mk [((0 : Nat), AV.sl (3 :
   Nat) (List.map encSt p)), ((1 : Nat), AV.int IntKind.i64 along), ((4 : Nat), AV.ptr (1 : Nat) (0 : Nat)), ((5 : Nat), AV.ptr (8 : Nat) (0 : Nat)), ((19 : Nat), AV.int IntKind.i64 ((↑(List.map encSt p).length : Int) - 1)), ((20 :
   Nat), AV.int IntKind.i64 ((↑g : Int) + 1))] [((1 : Nat), ABlk.box [AV.int IntKind.i64 (0 : Int), AV.int IntKind.i64 (0 : Int), AV.int IntKind.i64 (0 : Int)]), ((8 : Nat), ABlk.box [AV.int IntKind.i64 (p.getD (lastOf (List.map encSt
   p).length) default).a, AV.int IntKind.i64 (p.getD (lastOf (List.map encSt p).length) default).h, AV.int IntKind.i64 (p.getD (lastOf (List.map encSt p).length) default).p])] (9 : Nat) = AS.mk [((0 : Nat), AV.sl (3 : Nat) (List.map
   encSt p)), ((1 : Nat), AV.int IntKind.i64 along), ((4 : Nat), AV.ptr (1 : Nat) (0 : Nat)), ((5 : Nat), AV.ptr (8 : Nat) (0 : Nat)), ((19 : Nat), AV.int IntKind.i64 ((↑(List.map encSt p).length : Int) - 1)), ((20 : Nat), AV.int
   IntKind.i64 (↑g' : Int))] [((1 : Nat), ABlk.box [AV.int IntKind.i64 (0 : Int), AV.int IntKind.i64 (0 : Int), AV.int IntKind.i64 (0 : Int)]), ((8 : Nat), ABlk.box [AV.int IntKind.i64 (p.getD (lastOf (List.map encSt p).length)
   default).a, AV.int IntKind.i64 (p.getD (lastOf (List.map encSt p).length) default).h, AV.int IntKind.i64 (p.getD (lastOf (List.map encSt p).length) default).p])] (9 : Nat))) ∧ (decide ((↑g : Int) < (↑(List.map encSt p).length :
   Int) - 1) = false → AV.agg [AV.int IntKind.i64 (p.getD (lastOf (List.map encSt p).length) default).a, AV.int IntKind.i64 (p.getD (lastOf (List.map encSt p).length) default).h, AV.int IntKind.i64 (p.getD (lastOf (List.map encSt
   p).length) default).p] = AV.agg [AV.int IntKind.i64 (sStep p along).a, AV.int IntKind.i64 (sStep p along).h, AV.int IntKind.i64 (sStep p along).p]) := by
    have hn1 := hv.n1
    have hn2 := hv.n2
    have e1 : ∀ g : Nat, ((g : Int) + 1).toNat = g + 1 := fun g => by omega
    have el : ((p.length : Int) - 1).toNat = lastOf p.length := rfl
    have hla : lastOf p.length < p.length := by unfold lastOf; omega
    simp only [List.length_map]
    simp only [el, e1, Int.toNat_natCast]
    refine ⟨by unfold In64; omega, by omega, by omega, by rw [row_at _ hla]; rfl, by unfold In64; omega, ⟨0, ⟨by omega, by rw [sStep, List.length_map]; rfl⟩, rfl⟩, fun g hg => ⟨fun hd => ?_, fun hd => ?_⟩⟩
    · have hlt : g + 1 < p.length := by simp only [decide_eq_true_eq] at hd; omega
      have b1 := hv.b g (by omega)
      have b2 := hv.b (g + 1) hlt
      have b3 := hv.s g hlt
      have hs : sStep p along = sStepF p along (p.length - 1 - (g + 1) + 1) g := by rw [show p.length - 1 - (g + 1) + 1 = p.length - 1 - g by omega]; exact hg.2
      refine ⟨by omega, by omega, by unfold In64; omega, by omega, by omega, by rw [row_at _ (by omega)]; rfl, by rw [row_at _ hlt]; rfl, fun hc => ⟨by unfold In64; omega, by unfold In64; omega, c142 _ _ _ _ ⟨by omega, by omega, by omega, by omega, by omega, by omega, by omega⟩, c142 _ _ _ _ ⟨by omega, by omega, by omega, by omega, by omega, by omega, by omega⟩, ?_⟩, fun hc => ⟨by unfold In64; omega, g + 1, ⟨by omega, ?_⟩, by omega, rfl⟩⟩
      · rw [hs, sStepF, if_pos hc]
      · rw [hs, sStepF, if_neg (by rw [hc]; decide)]
    · have : p.length - 1 - g = 0 := by simp only [decide_eq_false_iff_not] at hd; omega
      rw [hg.2, this, sStepF, List.length_map]
  exact c_of Tryz.f90 (mkB spC 90 [(1, 5, rdOr [rdL 3 encSt p 3 true]), (5, 3, rdOr [rdL 3 encSt p 3 true]), (5, 8, rdOr [rdL 3 encSt p 3 true]), (6, 2, rdOr [rdL 3 encSt p 1 false]), (7, 2, rdOr [rdL 3 encSt p 1 false]), (7, 5, rdOr [rdL 3 encSt p 1 false]), (7, 7, rdOr [rdL 3 encSt p 1 false]), (8, 2, rdOr [rdL 3 encSt p 1 false]), (8, 4, rdOr [rdL 3 encSt p 1 false]), (8, 9, rdOr [rdL 3 encSt p 1 false]), (8, 11, rdOr [rdL 3 encSt p 1 false]), (10, 0, rdOr [rdL 3 encSt p 3 true])] (fun i => if i.beq 0 then some (la90 p along) else none)) (by kernel_rfl) (by kernel_rfl) (by kernel_rfl) (by kernel_rfl) key (by kernel_rfl)
theorem take_succ {α : Type} [Inhabited α] (enc : α → List AV) {l : List α} {g : Nat} (h : g < l.length) : (l.take g).map enc ++ [enc (l.getD g default)] = (l.take (g + 1)).map enc := by
  rw [List.take_add_one, List.map_append]
  simp [List.getD_eq_getElem?_getD, h]
def la15 (l : List St) : LA := {
  pre := [.own 3 166 3, .keep [0, 3, 6, 7, 8] [6], .bound 7], post := [.ren 6 15, .keep [0, 3, 6, 7, 8] [6], .bound 7]
  Gh := Nat
  st := fun i => ⟨[(0, .sl 3 (l.map encSt)), (3, .own 6 ((l.take i).map encSt).length), (6, .sl 3 (l.map encSt)), (7, .i (l.map encSt).length), (8, .i i)], [(6, .buf 166 3 ((l.take i).map encSt))], 7⟩
  ok := fun i => i ≤ (l.map encSt).length
  ms := fun i => (l.map encSt).length - i }
theorem c15 (l : List St) (hl : l.length ≤ 1000) : PCall Tryz.prog G0 15 [.sl 3 (l.map encSt)] (.fresh 166 3 (l.map encSt)) := by
  have key :
   (∃ (g : Nat), g ≤ (List.map encSt l).length ∧ AS.mk [((0 : Nat), AV.sl (3 : Nat) (List.map encSt l)), ((3 : Nat), AV.own (6 : Nat) (0 : Nat)), ((6 : Nat), AV.sl (3 : Nat) (List.map encSt l)), ((7 : Nat), AV.int IntKind.i64
   (↑(List.map encSt l).length : Int)), ((8 : Nat), AV.int IntKind.i64 (0 : Int))] [((6 : Nat), ABlk.buf (166 : Nat) (3 : Nat) [])] (7 : Nat) = AS.mk [((0 : Nat), AV.sl (3 : Nat) (List.map encSt l)), ((3 : Nat), AV.own (6 : Nat)
   (List.map encSt (List.take g l)).length), ((6 : Nat), AV.sl (3 : Nat) (List.map encSt l)), ((7 : Nat), AV.int IntKind.i64 (↑(List.map encSt l).length : Int)), ((8 : Nat), AV.int IntKind.i64 (↑g : Int))] [((6 : Nat), ABlk.buf (166 :
   Nat) (3 : Nat) (List.map encSt (List.take g l)))] (7 : Nat)) ∧ ∀ (g : Nat), g ≤ (List.map encSt l).length → (decide ((↑g : Int) < (↑(List.map encSt l).length : Int)) = true → (0 : Int) ≤ (↑g : Int) ∧ (↑g : Int) < (↑(List.map encSt
   l).length : Int) ∧ AV.agg (nthR (List.map encSt l) (↑g : Int).toNat) = AV.agg [AV.int IntKind.i64 (l.getD (↑g : Int).toNat default).a, AV.int IntKind.i64 (l.getD (↑g : Int).toNat default).h, AV.int IntKind.i64 (l.getD (↑g :
   Int).toNat default).p] ∧ (List.map encSt (List.take g l)).length + (1 : Nat) ≤ (9223372036854775807 : Nat) ∧ ((List.map encSt (List.take g l)).length + (1 : Nat)) * (24 : Nat) ≤ (140737488355328 : Nat) ∧ In64 ((↑g : Int) + 1) ∧ ∃
   (g' : Nat), g' ≤ (List.map encSt l).length ∧ (List.map encSt l).length - g' < (List.map encSt l).length - g ∧ AS.mk [((0 : Nat), AV.sl (3 : Nat) (List.map encSt l)), ((3 : Nat), AV.own (6 : Nat) ((List.map encSt (List.take g
   l)).length + (1 : Nat))), ((6 : Nat), AV.sl (3 : Nat) (List.map encSt l)), ((7 : Nat), AV.int IntKind.i64 (↑(List.map encSt l).length : Int)), ((8 : Nat), AV.int IntKind.i64 ((↑g : Int) + 1))] [((6 : Nat), ABlk.buf (166 : Nat) (3 :
   Nat) (List.map encSt (List.take g l) ++ [[AV.int IntKind.i64 (l.getD (↑g : Int).toNat default).a, AV.int IntKind.i64 (l.getD (↑g : Int).toNat default).h, AV.int IntKind.i64 (l.getD (↑g : Int).toNat default).p]]))] (7 : Nat) = AS.mk
   [((0 : Nat), AV.sl (3 : Nat) (List.map encSt l)), ((3 : Nat), AV.own (6 : Nat) (List.map encSt (List.take g' l)).length), ((6 : Nat), AV.sl (3 : Nat) (List.map encSt l)), ((7 : Nat), AV.int IntKind.i64 (↑(List.map encSt l).length :
   Int)), ((8 : Nat), AV.int IntKind.i64 (↑g' : Int))] [((6 : Nat), ABlk.buf (166 : Nat) (3 : Nat) (List.map encSt (List.take g' l)))] (7 : Nat)) ∧ (decide ((↑g : Int) < (↑(List.map encSt l).length : Int)) = false → AV.fresh (166 :
   Nat) (3 : Nat) (List.map encSt (List.take g l)) = AV.fresh (166 : Nat) (3 : Nat) (List.map encSt l)) := by
    simp only [List.length_map]
    refine ⟨⟨0, by omega, rfl⟩, fun g hg => ⟨fun hd => ?_, fun hd => ?_⟩⟩
    · have hlt := lt_of_dec hd
      simp only [Int.toNat_natCast]
      refine ⟨by omega, by omega, by rw [row_at _ hlt]; rfl, by rw [List.length_take]; omega, by rw [List.length_take]; omega, by unfold In64; omega, g + 1, hlt, by omega, ?_⟩
      have h2 := take_succ encSt hlt
      simp only [encSt] at h2
      rw [show (l.take g).length + 1 = (l.take (g + 1)).length by simp only [List.length_take]; omega, h2]
      rfl
    · rw [ge_of_dec hd hg, List.take_length]
  exact c_of Tryz.f15 (mkB spC 15 [(4, 1, rdOr [rdL 3 encSt l 3 true]), (5, 1, rdOr [rdL 3 encSt l 3 true])] (fun i => if i.beq 0 then some (la15 l) else none)) (by kernel_rfl) (by kernel_rfl) (by kernel_rfl) (by kernel_rfl) key (by kernel_rfl)
def la24 (l : List Fx) : LA := {
  pre := [.own 3 110 5, .keep [0, 3, 6, 7, 8] [6], .bound 7], post := [.ren 6 15, .keep [0, 3, 6, 7, 8] [6], .bound 7]
  Gh := Nat
  st := fun i => ⟨[(0, .sl 5 (l.map encFx)), (3, .own 6 ((l.take i).map encFx).length), (6, .sl 5 (l.map encFx)), (7, .i (l.map encFx).length), (8, .i i)], [(6, .buf 110 5 ((l.take i).map encFx))], 7⟩
  ok := fun i => i ≤ (l.map encFx).length
  ms := fun i => (l.map encFx).length - i }
theorem c24 (l : List Fx) (hl : l.length ≤ 1000) : PCall Tryz.prog G0 24 [.sl 5 (l.map encFx)] (.fresh 110 5 (l.map encFx)) := by
  have key :
   (∃ (g : Nat), g ≤ (List.map encFx l).length ∧ AS.mk [((0 : Nat), AV.sl (5 : Nat) (List.map encFx l)), ((3 : Nat), AV.own (6 : Nat) (0 : Nat)), ((6 : Nat), AV.sl (5 : Nat) (List.map encFx l)), ((7 : Nat), AV.int IntKind.i64
   (↑(List.map encFx l).length : Int)), ((8 : Nat), AV.int IntKind.i64 (0 : Int))] [((6 : Nat), ABlk.buf (110 : Nat) (5 : Nat) [])] (7 : Nat) = AS.mk [((0 : Nat), AV.sl (5 : Nat) (List.map encFx l)), ((3 : Nat), AV.own (6 : Nat)
   (List.map encFx (List.take g l)).length), ((6 : Nat), AV.sl (5 : Nat) (List.map encFx l)), ((7 : Nat), AV.int IntKind.i64 (↑(List.map encFx l).length : Int)), ((8 : Nat), AV.int IntKind.i64 (↑g : Int))] [((6 : Nat), ABlk.buf (110 :
   Nat) (5 : Nat) (List.map encFx (List.take g l)))] (7 : Nat)) ∧ ∀ (g : Nat), g ≤ (List.map encFx l).length → (decide ((↑g : Int) < (↑(List.map encFx l).length : Int)) = true → (0 : Int) ≤ (↑g : Int) ∧ (↑g : Int) < (↑(List.map encFx
   l).length : Int) ∧ AV.agg (nthR (List.map encFx l) (↑g : Int).toNat) = AV.agg [AV.int IntKind.i64 (l.getD (↑g : Int).toNat default).t, AV.int IntKind.i64 (l.getD (↑g : Int).toNat default).x, AV.int IntKind.i64 (l.getD (↑g :
   Int).toNat default).y, AV.int IntKind.i64 (l.getD (↑g : Int).toNat default).z, AV.int IntKind.i64 (l.getD (↑g : Int).toNat default).p] ∧ (List.map encFx (List.take g l)).length + (1 : Nat) ≤ (9223372036854775807 : Nat) ∧ ((List.map
   encFx (List.take g l)).length + (1 : Nat)) * (40 : Nat) ≤ (140737488355328 : Nat) ∧ In64 ((↑g : Int) + 1) ∧ ∃ (g' : Nat), g' ≤ (List.map encFx l).length ∧ (List.map encFx l).length - g' < (List.map encFx l).length - g ∧ AS.mk [((0
   : Nat), AV.sl (5 : Nat) (List.map encFx l)), ((3 : Nat), AV.own (6 : Nat) ((List.map encFx (List.take g l)).length + (1 : Nat))), ((6 : Nat), AV.sl (5 : Nat) (List.map encFx l)), ((7 : Nat), AV.int IntKind.i64 (↑(List.map encFx
   l).length : Int)), ((8 : Nat), AV.int IntKind.i64 ((↑g : Int) + 1))] [((6 : Nat), ABlk.buf (110 : Nat) (5 : Nat) (List.map encFx (List.take g l) ++ [[AV.int IntKind.i64 (l.getD (↑g : Int).toNat default).t, AV.int IntKind.i64
   (l.getD (↑g : Int).toNat default).x, AV.int IntKind.i64 (l.getD (↑g : Int).toNat default).y, AV.int IntKind.i64 (l.getD (↑g : Int).toNat default).z, AV.int IntKind.i64 (l.getD (↑g : Int).toNat default).p]]))] (7 : Nat) = AS.mk [((0
   : Nat), AV.sl (5 : Nat) (List.map encFx l)), ((3 : Nat), AV.own (6 : Nat) (List.map encFx (List.take g' l)).length), ((6 : Nat), AV.sl (5 : Nat) (List.map encFx l)), ((7 : Nat), AV.int IntKind.i64 (↑(List.map encFx l).length :
   Int)), ((8 : Nat), AV.int IntKind.i64 (↑g' : Int))] [((6 : Nat), ABlk.buf (110 : Nat) (5 : Nat) (List.map encFx (List.take g' l)))] (7 : Nat)) ∧ (decide ((↑g : Int) < (↑(List.map encFx l).length : Int)) = false → AV.fresh (110 :
   Nat) (5 : Nat) (List.map encFx (List.take g l)) = AV.fresh (110 : Nat) (5 : Nat) (List.map encFx l)) := by
    simp only [List.length_map]
    refine ⟨⟨0, by omega, rfl⟩, fun g hg => ⟨fun hd => ?_, fun hd => ?_⟩⟩
    · have hlt := lt_of_dec hd
      simp only [Int.toNat_natCast]
      refine ⟨by omega, by omega, by rw [row_at _ hlt]; rfl, by rw [List.length_take]; omega, by rw [List.length_take]; omega, by unfold In64; omega, g + 1, hlt, by omega, ?_⟩
      have h2 := take_succ encFx hlt
      simp only [encFx] at h2
      rw [show (l.take g).length + 1 = (l.take (g + 1)).length by simp only [List.length_take]; omega, h2]
      rfl
    · rw [ge_of_dec hd hg, List.take_length]
  exact c_of Tryz.f24 (mkB spC 24 [(4, 1, rdOr [rdL 5 encFx l 5 true]), (5, 1, rdOr [rdL 5 encFx l 5 true])] (fun i => if i.beq 0 then some (la24 l) else none)) (by kernel_rfl) (by kernel_rfl) (by kernel_rfl) (by kernel_rfl) key (by kernel_rfl)
def eqFx (a b : Fx) : Bool := a.t == b.t && true && (a.x == b.x && true && (a.y == b.y && true && (a.z == b.z && true && true)) && (a.p == b.p && true && true))
def sSame (l m : List Fx) : Bool := if ((l.length : Int) != (m.length : Int)) = true then false else (List.range l.length).all fun i => eqFx (l.getD i default) (m.getD i default)
def la23 (l m : List Fx) : LA := {
  pre := [.keep [0, 1, 5] [], .bound 1], post := [.keep [0, 1, 5] [], .bound 1]
  Gh := Nat
  st := fun i => ⟨[(0, .sl 5 (l.map encFx)), (1, .sl 5 (m.map encFx)), (5, .i i)], [], 1⟩
  ok := fun i => i ≤ l.length ∧ ∀ k, k < i → eqFx (l.getD k default) (m.getD k default) = true
  ms := fun i => l.length - i }
theorem c23 (l m : List Fx) (hl : l.length ≤ 1000) : PCall Tryz.prog G0 23 [.sl 5 (l.map encFx), .sl 5 (m.map encFx)] (.bool (sSame l m)) := by
  have key :
   (((↑(List.map encFx l).length : Int) != (↑(List.map encFx m).length : Int)) = true → AV.bool false = AV.bool (sSame l m)) ∧ (((↑(List.map encFx l).length : Int) != (↑(List.map encFx m).length : Int)) = false → (∃ (g : Nat), (g ≤
   l.length ∧ ∀ (k : Nat), k < g → eqFx (l.getD k default) (m.getD k default) = true) ∧ AS.mk [((0 : Nat), AV.sl (5 : Nat) (List.map encFx l)), ((1 : Nat), AV.sl (5 : Nat) (List.map encFx m)), ((5 : Nat), AV.int IntKind.i64 (0 :
   Int))] [] (1 : Nat) = AS.mk [((0 : Nat), AV.sl (5 : Nat) (List.map encFx l)), ((1 : Nat), AV.sl (5 : Nat) (List.map encFx m)), ((5 : Nat), AV.int IntKind.i64 (↑g : Int))] [] (1 : Nat)) ∧ ∀ (g : Nat), (g ≤ l.length ∧ ∀ (k : Nat), k
   < g → eqFx (l.getD k default) (m.getD k default) = true) → (decide ((↑g : Int) < (↑(List.map encFx l).length : Int)) = true → (0 : Int) ≤ (↑g : Int) ∧ (↑g : Int) < (↑(List.map encFx l).length : Int) ∧ (0 : Int) ≤ (↑g : Int) ∧ (↑g :
   Int) < (↑(List.map encFx m).length : Int) ∧ AV.agg (nthR (List.map encFx l) (↑g : Int).toNat) = AV.agg [AV.int IntKind.i64 (l.getD (↑g : Int).toNat default).t, AV.int IntKind.i64 (l.getD (↑g : Int).toNat default).x, AV.int
   IntKind.i64 (l.getD (↑g : Int).toNat default).y, AV.int IntKind.i64 (l.getD (↑g : Int).toNat default).z, AV.int IntKind.i64 (l.getD (↑g : Int).toNat default).p] ∧ AV.agg (nthR (List.map encFx m) (↑g : Int).toNat) = AV.agg [AV.int
   IntKind.i64 (m.getD (↑g : Int).toNat default).t, AV.int IntKind.i64 (m.getD (↑g : Int).toNat default).x, AV.int IntKind.i64 (m.getD (↑g : Int).toNat default).y, AV.int IntKind.i64 (m.getD (↑g : Int).toNat default).z, AV.int
   IntKind.i64 (m.getD (↑g : Int).toNat default).p] ∧ ((!((l.getD (↑g : Int).toNat default).t == (m.getD (↑g : Int).toNat default).t && true && ((l.getD (↑g : Int).toNat default).x == (m.getD (↑g : Int).toNat default).x && true &&
   ((l.getD (↑g : Int).toNat default).y == (m.getD (↑g : Int).toNat default).y && true && ((l.getD (↑g : Int).toNat default).z == (m.getD (↑g : Int).toNat default).z && true && true)) && ((l.getD (↑g : Int).toNat default).p == (m.getD
   (↑g : Int).toNat default).p && true && true)))) = true → AV.bool false = AV.bool (sSame l m)) ∧ ((!((l.getD (↑g : Int).toNat default).t == (m.getD (↑g : Int).toNat default).t && true && ((l.getD (↑g : Int).toNat default).x ==
   (m.getD (↑g : Int).toNat default).x && true && ((l.getD (↑g : Int).toNat default).y == (m.getD (↑g : Int).toNat default).y && true && ((l.getD (↑g : Int).toNat default).z == (m.getD (↑g : Int).toNat default).z && true && true)) &&
   ((l.getD (↑g : Int).toNat default).p == (m.getD (↑g : Int).toNat default).p && true && true)))) = false → In64 ((↑g : Int) + 1) ∧ ∃ (g' : Nat), (g' ≤ l.length ∧ ∀ (k : Nat), k < g' → eqFx (l.getD k default) (m.getD k default) =
   true) ∧ l.length - g' < l.length - g ∧ AS.mk [((0 : Nat), AV.sl (5 : Nat) (List.map encFx l)), ((1 : Nat), AV.sl (5 : Nat) (List.map encFx m)), ((5 : Nat), AV.int IntKind.i64 ((↑g : Int) + 1))] [] (1 : Nat) = AS.mk [((0 : Nat),
   AV.sl (5 : Nat) (List.map encFx l)), ((1 : Nat), AV.sl (5 : Nat) (List.map encFx m)), ((5 : Nat), AV.int IntKind.i64 (↑g' : Int))] [] (1 : Nat))) ∧ (decide ((↑g : Int) < (↑(List.map encFx l).length : Int)) = false → AV.bool true =
   AV.bool (sSame l m))) := by
    simp only [List.length_map]
    refine ⟨fun h => by rw [sSame, if_pos h], fun h => ⟨⟨0, ⟨by omega, by intros; omega⟩, rfl⟩, fun g hg => ⟨fun hd => ?_, fun hd => ?_⟩⟩⟩
    · have hlt := lt_of_dec hd
      have hm : l.length = m.length := by simp at h; omega
      refine ⟨by omega, by omega, by omega, by omega, by simp only [Int.toNat_natCast]; rw [row_at _ hlt]; rfl, by simp only [Int.toNat_natCast]; rw [row_at _ (by omega)]; rfl, fun hne => ?_, fun heq => ⟨by unfold In64; omega, g + 1, ⟨hlt, fun k hk => ?_⟩, by omega, rfl⟩⟩
      · have h3 : (!eqFx (l.getD g default) (m.getD g default)) = true := hne
        have h2 : eqFx (l.getD g default) (m.getD g default) = false := by simpa using h3
        rw [sSame, if_neg (by rw [h]; decide), List.all_eq_false.2 ⟨g, by simpa using hlt, by rw [h2]; decide⟩]
      · by_cases e : k = g
        · subst e
          have h2 : (!eqFx (l.getD k default) (m.getD k default)) = false := heq
          simpa using h2
        · exact hg.2 k (by omega)
    · rw [sSame, if_neg (by rw [h]; decide), List.all_eq_true.2 fun i hi => hg.2 i (by rw [ge_of_dec hd hg.1]; simpa using hi)]
  exact c_of Tryz.f23 (mkB spC 23 [(6, 3, rdL 5 encFx l 5 true), (6, 7, rdL 5 encFx m 5 true)] (fun i => if i.beq 0 then some (la23 l m) else none)) (by kernel_rfl) (by kernel_rfl) (by kernel_rfl) (by kernel_rfl) key (by kernel_rfl)
end Go.Proofs.YtjhjmncjidbieaaGreatDoor
namespace Go.Proofs.YtjhjmncjidbieaaGreatDoor
open Go Go.Av Go.RowKit
def encI (x : Int) : List AV := [.i x]
def setA (f : An → An) : Nat → List An → List An
  | 0, [] => [f {}]
  | 0, a :: l => f a :: l
  | n + 1, [] => {} :: setA f n []
  | n + 1, a :: l => a :: setA f n l
def sCounted (n m : Int) : Int := sFirst [sWhen (n == 0) 12, sWhen (decide (n > m)) 5]
def sDir (x y : Int) : Int := sFirst [sWithin x (-200000) 200000, sWithin y (-200000) 200000]
def spP : Nat → List AV → Option AV
  | 169, [.bool b, .int _ e] => some (.i (sWhen b e))
  | 151, [.int _ x, .int _ lo, .int _ hi] => some (.i (sWithin x lo hi))
  | 153, [.int _ x, .elt _ [[.int _ m]] _ _] => some (.i (sWithin x 0 m))
  | 115, [.agg [.int _ x, .int _ y]] => some (.i (sDir x y))
  | 46, [.agg [.int _ x, .int _ y]] => some (.i (sDir x y))
  | 45, [.int _ x] => some (.i (sWithin x 0 100000000000))
  | 123, [.int _ n, .int _ m] => some (.i (sCounted n m))
  | n, x => spC n x
theorem c112 (x y z : Int) (h1 : In64 (x * x)) (h2 : In64 (y * y)) (h3 : In64 (x * x + y * y)) (h4 : In64 (z * z)) : PCall Tryz.prog G0 112 [.agg [.i x, .i y, .i z]] (.agg [.i (x * x + y * y), .i (z * z)]) := by
  have key :
   In64 (x * x) ∧ In64 (y * y) ∧ In64 (x * x + y * y) ∧ In64 (z * z) ∧ AV.agg [AV.i (x * x + y * y), AV.i (z * z)] = AV.agg [AV.i (x * x + y * y), AV.i (z * z)] := by
    exact ⟨h1, h2, h3, h4, rfl⟩
  exact c_of Tryz.f112 (mkB spP 112 [] noLa) (by kernel_rfl) (by kernel_rfl) (by kernel_rfl) (by kernel_rfl) key (by kernel_rfl)
theorem c113 (x y z p q r : Int) (h1 : In64 (x - p)) (h2 : In64 (y - q)) (h3 : In64 (z - r)) : PCall Tryz.prog G0 113 [.agg [.i x, .i y, .i z], .agg [.i p, .i q, .i r]] (.agg [.i (x - p), .i (y - q), .i (z - r)]) := by
  have key :
   In64 (x - p) ∧ In64 (y - q) ∧ In64 (z - r) ∧ AV.agg [AV.i (x - p), AV.i (y - q), AV.i (z - r)] = AV.agg [AV.i (x - p), AV.i (y - q), AV.i (z - r)] := by
    exact ⟨h1, h2, h3, rfl⟩
  exact c_of Tryz.f113 (mkB spP 113 [] noLa) (by kernel_rfl) (by kernel_rfl) (by kernel_rfl) (by kernel_rfl) key (by kernel_rfl)
theorem c133 (x y z p q r : Int) (h1 : In64 (x - p)) (h2 : In64 (y - q)) (h3 : In64 (z - r)) (h4 : In64 ((x - p) * (x - p))) (h5 : In64 ((y - q) * (y - q))) (h6 : In64 ((z - r) * (z - r))) (h7 : In64 ((x - p) * (x - p) + (y - q) * (y - q))) (h8 : In64 ((x - p) * (x - p) + (y - q) * (y - q) + (z - r) * (z - r))) : PCall Tryz.prog G0 133 [.agg [.i x, .i y, .i z], .agg [.i p, .i q, .i r]] (.i ((x - p) * (x - p) + (y - q) * (y - q) + (z - r) * (z - r))) := by
  have key :
   In64 (x - p) ∧ In64 (x - p) ∧ In64 ((x - p) * (x - p)) ∧ In64 (y - q) ∧ In64 (y - q) ∧ In64 ((y - q) * (y - q)) ∧ In64 ((x - p) * (x - p) + (y - q) * (y - q)) ∧ In64 (z - r) ∧ In64 (z - r) ∧ In64 ((z - r) * (z - r)) ∧ In64 ((x - p)
   * (x - p) + (y - q) * (y - q) + (z - r) * (z - r)) ∧ AV.i ((x - p) * (x - p) + (y - q) * (y - q) + (z - r) * (z - r)) = AV.i ((x - p) * (x - p) + (y - q) * (y - q) + (z - r) * (z - r)) := by
    exact ⟨h1, h1, h4, h2, h2, h5, h7, h3, h3, h6, h8, rfl⟩
  exact c_of Tryz.f133 (mkB spP 133 [] noLa) (by kernel_rfl) (by kernel_rfl) (by kernel_rfl) (by kernel_rfl) key (by kernel_rfl)
end Go.Proofs.YtjhjmncjidbieaaGreatDoor
namespace Go.Proofs.YtjhjmncjidbieaaGreatDoor
open Go Go.Av Go.RowKit
def isLet (c : Nat) : Bool := decide (97 ≤ c ∧ c ≤ 122) || decide (65 ≤ c ∧ c ≤ 90)
def okB (first : Bool) (c : Nat) : Bool := isLet c || (!first && (decide (c = 95) || decide (48 ≤ c ∧ c ≤ 57)))
def allB (s : List UInt8) (n : Nat) : Bool := (List.range n).all fun i => okB (i == 0) (s.getD i 0).toNat
def sName (s : List UInt8) : Bool := allB s s.length && (!(s == []) && decide (s.length ≤ 24))
def spQ : Nat → List AV → Option AV
  | 148, [.str s] => some (.bool (sName s))
  | 122, [.str s] => some (.bool (sName s))
  | n, x => spP n x
end Go.Proofs.YtjhjmncjidbieaaGreatDoor
