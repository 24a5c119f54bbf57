/-
  What chapter 7's SameInts and sum return. No condition but the theorems' own. What chapter 7's list and ShortMoves return, and the fees. No condition but the theorems' own. What checked rules and movements have, and that counts, fees and funds are the reference's. No condition but the theorems' own. NightCounts returns true. No condition but the theorems' own. What NightParts says, in plain terms: spans and their complements, sums over nights. No condition but the theorems' own. NightParts returns true. No condition but the theorems' own. What NightParts' row says of the program's text. No condition.
-/
import Derived.Test.YtimgfogakgakhaaGreatDoorPB
import Derived.Test.YtimgfogakgakhaaGreatDoorAvD
-- ENC encRu 18 [AV.i X.a, AV.i X.b, AV.i X.c, AV.i X.d, AV.sl 3 (List.map encTp X.ts), AV.i X.q, AV.sl 1 (List.map encS X.rs), AV.i X.dl, AV.i X.fi, AV.i X.ra, AV.int IntKind.u8 X.k0, AV.int IntKind.u8 X.k1, AV.int IntKind.u8 X.k2, AV.int IntKind.u8 X.k3, AV.int IntKind.u8 X.k4, AV.int IntKind.u8 X.k5, AV.int IntKind.u8 X.k6, AV.int IntKind.u8 X.k7]
-- ENC encMv 5 [AV.str X.fl, AV.str X.al, AV.str X.ty, AV.i X.day, AV.i X.mi]
-- ENC encDt 10 [AV.str X.m.fl, AV.str X.m.al, AV.str X.m.ty, AV.i X.m.day, AV.i X.m.mi, AV.str X.k.n, AV.i X.k.c, AV.i X.k.f, AV.bool X.dk, AV.i X.ni]
namespace Go.Proofs.YtimgfogakgakhaaGreatDoor
open Go Go.Av Go.RowKit
def la43 (l m : List Int) : LA := {
  pre := [.keep [0, 1, 5] [], .bound 1], post := [.keep [0, 1, 5] [], .bound 1]
  Gh := Nat
  st := fun i => ⟨[(0, .sl 1 (l.map encI)), (1, .sl 1 (m.map encI)), (5, .i i)], [], 1⟩
  ok := fun i => i ≤ l.length ∧ ∀ j, j < i → l.getD j default = m.getD j default
  ms := fun i => l.length - i }
theorem c43 (l m : List Int) (hl : l.length ≤ 1000) : PCall Tryz.prog G0 43 [.sl 1 (l.map encI), .sl 1 (m.map encI)] (.bool (l == m)) := by
  have key :
   (((↑(List.map encI l).length : Int) != (↑(List.map encI m).length : Int)) = true → AV.bool false = AV.bool (l == m)) ∧ (((↑(List.map encI l).length : Int) != (↑(List.map encI m).length : Int)) = false → (∃ (g : Nat), (g ≤ l.length
   ∧ ∀ (j : Nat), j < g → l.getD j default = m.getD j default) ∧ AS.mk [(0, AV.sl 1 (List.map encI l)), (1, AV.sl 1 (List.map encI m)), (5, AV.i 0)] [] 1 = AS.mk [(0, AV.sl 1 (List.map encI l)), (1, AV.sl 1 (List.map encI m)), (5,
   AV.i (↑g : Int))] [] 1) ∧ ∀ (g : Nat), (g ≤ l.length ∧ ∀ (j : Nat), j < g → l.getD j default = m.getD j default) → (decide ((↑g : Int) < (↑(List.map encI l).length : Int)) = true → (0 : Int) ≤ (↑g : Int) ∧ (↑g : Int) < (↑(List.map
   encI l).length : Int) ∧ (0 : Int) ≤ (↑g : Int) ∧ (↑g : Int) < (↑(List.map encI m).length : Int) ∧ nth (nthR (List.map encI l) (↑g : Int).toNat) 0 = AV.i (cI (List.map encI l) (↑g : Int).toNat) ∧ nth (nthR (List.map encI m) (↑g :
   Int).toNat) 0 = AV.i (cI (List.map encI m) (↑g : Int).toNat) ∧ ((cI (List.map encI l) (↑g : Int).toNat != cI (List.map encI m) (↑g : Int).toNat) = true → AV.bool false = AV.bool (l == m)) ∧ ((cI (List.map encI l) (↑g : Int).toNat
   != cI (List.map encI m) (↑g : Int).toNat) = false → In64 ((↑g : Int) + 1) ∧ ∃ (g' : Nat), (g' ≤ l.length ∧ ∀ (j : Nat), j < g' → l.getD j default = m.getD j default) ∧ l.length - g' < l.length - g ∧ AS.mk [(0, AV.sl 1 (List.map
   encI l)), (1, AV.sl 1 (List.map encI m)), (5, AV.i ((↑g : Int) + 1))] [] 1 = AS.mk [(0, AV.sl 1 (List.map encI l)), (1, AV.sl 1 (List.map encI m)), (5, AV.i (↑g' : Int))] [] 1)) ∧ (decide ((↑g : Int) < (↑(List.map encI l).length :
   Int)) = false → AV.bool true = AV.bool (l == m))) := by
    have hle : (List.map encI l).length = l.length := List.length_map _
    have hme : (List.map encI m).length = m.length := List.length_map _
    rw [hle, hme]
    refine ⟨fun h => ?_, fun h => ⟨⟨0, ⟨by omega, by intros; omega⟩, rfl⟩, fun g ⟨hg, ha⟩ => ⟨fun hd => ?_, fun hd => ?_⟩⟩⟩
    · have h1 : l ≠ m := fun e => by rw [e] at h; exact absurd h (by simp)
      rw [beq_false_of_ne h1]
    · have h1 : l.length = m.length := by have h2 : (l.length : Int) = (m.length : Int) := (by simpa using h); omega
      have hlt := lt_of_dec hd
      have c1 := cI_map l g
      have c2 := cI_map m g
      refine ⟨by omega, by omega, by omega, by omega, cI_at hlt, cI_at (by omega), fun e => ?_, fun e => ⟨by unfold In64; omega, g + 1, ⟨hlt, fun j hj => ?_⟩, by omega, rfl⟩⟩
      · have e : (cI (List.map encI l) g != cI (List.map encI m) g) = true := e
        rw [c1, c2] at e
        have h2 : l ≠ m := fun q => by rw [q] at e; exact absurd e (by simp)
        rw [beq_false_of_ne h2]
      · have e : (cI (List.map encI l) g != cI (List.map encI m) g) = false := e
        rw [c1, c2] at e
        by_cases q : j = g
        · rw [q]; simpa using e
        · exact ha j (by omega)
    · have h1 : l.length = m.length := by have h2 : (l.length : Int) = (m.length : Int) := (by simpa using h); omega
      have e := ge_of_dec hd hg
      subst e
      have : l = m := List.ext_getElem h1 fun i h2 h3 => by
        have := ha i h2
        rw [List.getD_eq_getElem?_getD, List.getD_eq_getElem?_getD, List.getElem?_eq_getElem h2, List.getElem?_eq_getElem h3] at this
        exact this
      rw [this, beq_self_eq_true]
  exact c_of Tryz.f43 (mkB spI 43 [(6, 3, rdJ), (6, 7, rdJ)] (fun j => if j.beq 0 then some (la43 l m) else none)) (by kernel_rfl) (by kernel_rfl) (by kernel_rfl) (by kernel_rfl) key (by kernel_rfl)
def la108 (l : List Int) : LA := {
  pre := [.keep [3, 6, 7, 8] [], .bound 1], post := [.keep [3, 6, 7, 8] [], .bound 1]
  Gh := Nat
  st := fun i => ⟨[(3, .i (sumW l i)), (6, .sl 1 (l.map encI)), (7, .i (l.map encI).length), (8, .i i)], [], 1⟩
  ok := fun i => i ≤ l.length
  ms := fun i => l.length - i }
theorem c108 (l : List Int) (hl : l.length ≤ 1000000) : PCall Tryz.prog G0 108 [.sl 1 (l.map encI)] (.i (sSum l)) := by
  have key :
   (∃ (g : Nat), g ≤ l.length ∧ AS.mk [(3, AV.i 0), (6, AV.sl 1 (List.map encI l)), (7, AV.i (↑(List.map encI l).length : Int)), (8, AV.i 0)] [] 1 = AS.mk [(3, AV.i (sumW l g)), (6, AV.sl 1 (List.map encI l)), (7, AV.i (↑(List.map
   encI l).length : Int)), (8, AV.i (↑g : Int))] [] 1) ∧ ∀ (g : Nat), g ≤ l.length → (decide ((↑g : Int) < (↑(List.map encI l).length : Int)) = true → (0 : Int) ≤ (↑g : Int) ∧ (↑g : Int) < (↑(List.map encI l).length : Int) ∧ nth (nthR
   (List.map encI l) (↑g : Int).toNat) 0 = AV.i (cI (List.map encI l) (↑g : Int).toNat) ∧ In64 ((↑g : Int) + 1) ∧ ∃ (g' : Nat), g' ≤ l.length ∧ l.length - g' < l.length - g ∧ AS.mk [(3, AV.i (IntKind.i64.wrap (sumW l g + cI (List.map
   encI l) (↑g : Int).toNat))), (6, AV.sl 1 (List.map encI l)), (7, AV.i (↑(List.map encI l).length : Int)), (8, AV.i ((↑g : Int) + 1))] [] 1 = AS.mk [(3, AV.i (sumW l g')), (6, AV.sl 1 (List.map encI l)), (7, AV.i (↑(List.map encI
   l).length : Int)), (8, AV.i (↑g' : Int))] [] 1) ∧ (decide ((↑g : Int) < (↑(List.map encI l).length : Int)) = false → AV.i (sumW l g) = AV.i (sSum l)) := by
    have hle : (List.map encI l).length = l.length := List.length_map _
    rw [hle]
    refine ⟨⟨0, by omega, rfl⟩, fun g hg => ⟨fun hd => ?_, fun hd => ?_⟩⟩
    · have hlt := lt_of_dec hd
      refine ⟨by omega, by omega, cI_at hlt, by unfold In64; omega, g + 1, by omega, by omega, ?_⟩
      rw [cI_map]
      rfl
    · have e := ge_of_dec hd hg
      subst e
      rfl
  exact c_of Tryz.f108 (wrapAt 5 2 (mkB spI 108 [(4, 1, rdJ)] (fun j => if j.beq 0 then some (la108 l) else none))) (by kernel_rfl) (by kernel_rfl) (by kernel_rfl) (by kernel_rfl) key (by kernel_rfl)
def leW (r : Ru) (l : List Mv) : Nat → Int
  | 0 => r.q
  | i + 1 => IntKind.i64.wrap (leW r l i - rCo r (l.getD i default))
def sp40 (r : Ru) : Nat → List AV → Option AV
  | 38, [_, .agg c] => some (.i (rCo r (decMv c)))
  | n, x => spI n x
def la40 (r : Ru) (l : List Mv) : LA := {
  pre := [.keep [1, 2, 5, 6] [], .bound 1], post := [.keep [1, 2, 5, 6] [], .bound 1]
  Gh := Nat
  st := fun i => ⟨[(1, .sl 5 (l.map encMv)), (2, .elt 18 [encRu r] 0 0), (5, .i (leW r l i)), (6, .i i)], [], 1⟩
  ok := fun i => i ≤ l.length
  ms := fun i => l.length - i }
theorem c40 (r : Ru) (l : List Mv) (hR : RuOK r) (hM : ∀ m, m ∈ l → MvOK r m) (hl : l.length ≤ 1000) : PCall Tryz.prog G0 40 [.agg (encRu r), .sl 5 (l.map encMv)] (.i (leW r l l.length)) := by
  have key :
   (∃ (g : Nat), g ≤ l.length ∧ AS.mk [(1, AV.sl 5 (List.map encMv l)), (2, AV.elt 18 [(encRu r)] 0 0), (5, AV.i r.q), (6, AV.i 0)] [] 1 = AS.mk [(1, AV.sl 5 (List.map encMv l)), (2, AV.elt 18 [(encRu r)] 0 0), (5, AV.i (leW r l g)),
   (6, AV.i (↑g : Int))] [] 1) ∧ ∀ (g : Nat), g ≤ l.length → (decide ((↑g : Int) < (↑(List.map encMv l).length : Int)) = true → (0 : Int) ≤ (↑g : Int) ∧ (↑g : Int) < (↑(List.map encMv l).length : Int) ∧ AV.agg (nthR (List.map encMv l)
   (↑g : Int).toNat) = AV.agg (encMv (l.getD (↑g : Int).toNat default)) ∧ PCall Tryz.prog G0 38 [AV.agg (encRu r), AV.agg (encMv (l.getD (↑g : Int).toNat default))] (AV.i (rCo r (decMv (encMv (l.getD (↑g : Int).toNat default))))) ∧
   In64 ((↑g : Int) + 1) ∧ ∃ (g' : Nat), g' ≤ l.length ∧ l.length - g' < l.length - g ∧ AS.mk [(1, AV.sl 5 (List.map encMv l)), (2, AV.elt 18 [(encRu r)] 0 0), (5, AV.i (IntKind.i64.wrap (leW r l g - rCo r (decMv (encMv (l.getD (↑g :
   Int).toNat default)))))), (6, AV.i ((↑g : Int) + 1))] [] 1 = AS.mk [(1, AV.sl 5 (List.map encMv l)), (2, AV.elt 18 [(encRu r)] 0 0), (5, AV.i (leW r l g')), (6, AV.i (↑g' : Int))] [] 1) ∧ (decide ((↑g : Int) < (↑(List.map encMv
   l).length : Int)) = false → AV.i (leW r l g) = AV.i (leW r l l.length)) := by
    have hle : (List.map encMv l).length = l.length := List.length_map _
    rw [hle]
    refine ⟨⟨0, by omega, rfl⟩, fun g hg => ⟨fun hd => ?_, fun hd => ?_⟩⟩
    · have hlt := lt_of_dec hd
      refine ⟨by omega, by omega, congrArg AV.agg (row_at encMv hlt), c38 r _ (by have := hR.l; omega) (hM _ (getD_mem hlt)).t, by unfold In64; omega, g + 1, by omega, by omega, rfl⟩
    · have e := ge_of_dec hd hg
      subst e
      rfl
  exact c_of Tryz.f40 (wrapAt 5 7 (fzB (mkB (sp40 r) 40 [(5, 5, rdL 5 encMv l 5 true)] (fun i => if i.beq 0 then some (la40 r l) else none)))) (by kernel_rfl) (by kernel_rfl) (by kernel_rfl) (by kernel_rfl) key (by kernel_rfl)
def inR (r : Ru) (x y : Int) (m : Mv) : Bool := if (if wiR r.a r.b m.mi then decide (niI r.a r.b m.day m.mi ≥ x) else false) then decide (niI r.a r.b m.day m.mi < y) else false
def spW (r : Ru) (x y : Int) (l : List Mv) : Nat → Int
  | 0 => 0
  | i + 1 => if inR r x y (l.getD i default) then IntKind.i64.wrap (spW r x y l i + rCo r (l.getD i default)) else spW r x y l i
def sp41 (r : Ru) : Nat → List AV → Option AV
  | 28, [_, .int _ d, .int _ m] => some (.i (niI r.a r.b d m))
  | 26, [_, .int _ m] => some (.bool (wiR r.a r.b m))
  | n, x => sp40 r n x
def la41 (r : Ru) (x y : Int) (l : List Mv) : LA := {
  pre := [.keep [1, 3, 5, 7, 8] [], .bound 1], post := [.keep [1, 3, 5, 7, 8] [], .bound 1]
  Gh := Nat
  st := fun i => ⟨[(1, .sl 5 (l.map encMv)), (3, .elt 18 [encRu r] 0 0), (5, .elt 2 [[.i x, .i y]] 0 0), (7, .i (spW r x y l i)), (8, .i i)], [], 1⟩
  ok := fun i => i ≤ l.length
  ms := fun i => l.length - i }
def rdMi (l : List Mv) : List AV → Option AV
  | [.elt _ _ i o] => some (.i (if o.beq 3 then (l.getD i default).day else (l.getD i default).mi))
  | _ => none
theorem c41 (r : Ru) (l : List Mv) (x y : Int) (hR : RuOK r) (hM : ∀ m, m ∈ l → MvOK r m) (hl : l.length ≤ 1000) : PCall Tryz.prog G0 41 [.agg (encRu r), .sl 5 (l.map encMv), .agg [.i x, .i y]] (.i (spW r x y l l.length)) := by
  have key :
   (∃ (g : Nat), g ≤ l.length ∧ AS.mk [(1, AV.sl 5 (List.map encMv l)), (3, AV.elt 18 [(encRu r)] 0 0), (5, AV.elt 2 [[AV.i x, AV.i y]] 0 0), (7, AV.i 0), (8, AV.i 0)] [] 1 = AS.mk [(1, AV.sl 5 (List.map encMv l)), (3, AV.elt 18
   [(encRu r)] 0 0), (5, AV.elt 2 [[AV.i x, AV.i y]] 0 0), (7, AV.i (spW r x y l g)), (8, AV.i (↑g : Int))] [] 1) ∧ ∀ (g : Nat), g ≤ l.length → (decide ((↑g : Int) < (↑(List.map encMv l).length : Int)) = true → (0 : Int) ≤ (↑g : Int)
   ∧ (↑g : Int) < (↑(List.map encMv l).length : Int) ∧ (0 : Int) ≤ (↑g : Int) ∧ (↑g : Int) < (↑(List.map encMv l).length : Int) ∧ nth (nthR (List.map encMv l) (↑g : Int).toNat) 3 = AV.i (l.getD (↑g : Int).toNat default).day ∧ nth
   (nthR (List.map encMv l) (↑g : Int).toNat) 4 = AV.i (l.getD (↑g : Int).toNat default).mi ∧ PCall Tryz.prog G0 28 [AV.agg (encRu r), AV.i (l.getD (↑g : Int).toNat default).day, AV.i (l.getD (↑g : Int).toNat default).mi] (AV.i (niI
   r.a r.b (l.getD (↑g : Int).toNat default).day (l.getD (↑g : Int).toNat default).mi)) ∧ (0 : Int) ≤ (↑g : Int) ∧ (↑g : Int) < (↑(List.map encMv l).length : Int) ∧ (wiR r.a r.b (l.getD (↑g : Int).toNat default).mi = true → wiR r.a
   r.b (l.getD (↑g : Int).toNat default).mi = true) ∧ (wiR r.a r.b (l.getD (↑g : Int).toNat default).mi = true → wiR r.a r.b (l.getD (↑g : Int).toNat default).mi = true) ∧ (wiR r.a r.b (l.getD (↑g : Int).toNat default).mi = true → wiR
   r.a r.b (l.getD (↑g : Int).toNat default).mi = true) ∧ (wiR r.a r.b (l.getD (↑g : Int).toNat default).mi = true → wiR r.a r.b (l.getD (↑g : Int).toNat default).mi = true) ∧ ((if wiR r.a r.b (l.getD (↑g : Int).toNat default).mi =
   true then decide (niI r.a r.b (if (0 + 3).beq 3 = true then (l.getD (↑g : Int).toNat default).day else (l.getD (↑g : Int).toNat default).mi) (if (0 + 4).beq 3 = true then (l.getD (↑g : Int).toNat default).day else (l.getD (↑g :
   Int).toNat default).mi) ≥ x) else false) = true → (if wiR r.a r.b (l.getD (↑g : Int).toNat default).mi = true then decide (niI r.a r.b (if (0 + 3).beq 3 = true then (l.getD (↑g : Int).toNat default).day else (l.getD (↑g :
   Int).toNat default).mi) (if (0 + 4).beq 3 = true then (l.getD (↑g : Int).toNat default).day else (l.getD (↑g : Int).toNat default).mi) ≥ x) else false) = true) ∧ ((if wiR r.a r.b (l.getD (↑g : Int).toNat default).mi = true then
   decide (niI r.a r.b (if (0 + 3).beq 3 = true then (l.getD (↑g : Int).toNat default).day else (l.getD (↑g : Int).toNat default).mi) (if (0 + 4).beq 3 = true then (l.getD (↑g : Int).toNat default).day else (l.getD (↑g : Int).toNat
   default).mi) ≥ x) else false) = true → (if wiR r.a r.b (l.getD (↑g : Int).toNat default).mi = true then decide (niI r.a r.b (if (0 + 3).beq 3 = true then (l.getD (↑g : Int).toNat default).day else (l.getD (↑g : Int).toNat
   default).mi) (if (0 + 4).beq 3 = true then (l.getD (↑g : Int).toNat default).day else (l.getD (↑g : Int).toNat default).mi) ≥ x) else false) = true) ∧ ((if wiR r.a r.b (l.getD (↑g : Int).toNat default).mi = true then decide (niI
   r.a r.b (if (0 + 3).beq 3 = true then (l.getD (↑g : Int).toNat default).day else (l.getD (↑g : Int).toNat default).mi) (if (0 + 4).beq 3 = true then (l.getD (↑g : Int).toNat default).day else (l.getD (↑g : Int).toNat default).mi) ≥
   x) else false) = true → (if wiR r.a r.b (l.getD (↑g : Int).toNat default).mi = true then decide (niI r.a r.b (if (0 + 3).beq 3 = true then (l.getD (↑g : Int).toNat default).day else (l.getD (↑g : Int).toNat default).mi) (if (0 +
   4).beq 3 = true then (l.getD (↑g : Int).toNat default).day else (l.getD (↑g : Int).toNat default).mi) ≥ x) else false) = true) ∧ ((if wiR r.a r.b (l.getD (↑g : Int).toNat default).mi = true then decide (niI r.a r.b (if (0 + 3).beq
   3 = true then (l.getD (↑g : Int).toNat default).day else (l.getD (↑g : Int).toNat default).mi) (if (0 + 4).beq 3 = true then (l.getD (↑g : Int).toNat default).day else (l.getD (↑g : Int).toNat default).mi) ≥ x) else false) = true →
   (if wiR r.a r.b (l.getD (↑g : Int).toNat default).mi = true then decide (niI r.a r.b (if (0 + 3).beq 3 = true then (l.getD (↑g : Int).toNat default).day else (l.getD (↑g : Int).toNat default).mi) (if (0 + 4).beq 3 = true then
   (l.getD (↑g : Int).toNat default).day else (l.getD (↑g : Int).toNat default).mi) ≥ x) else false) = true) ∧ nth (nthR (List.map encMv l) (↑g : Int).toNat) 4 = AV.i (l.getD (↑g : Int).toNat default).mi ∧ PCall Tryz.prog G0 26
   [AV.agg [AV.i r.a, AV.i r.b], AV.i (l.getD (↑g : Int).toNat default).mi] (AV.bool (wiR r.a r.b (l.getD (↑g : Int).toNat default).mi)) ∧ ((if (if wiR r.a r.b (l.getD (↑g : Int).toNat default).mi = true then decide (niI r.a r.b (if
   (0 + 3).beq 3 = true then (l.getD (↑g : Int).toNat default).day else (l.getD (↑g : Int).toNat default).mi) (if (0 + 4).beq 3 = true then (l.getD (↑g : Int).toNat default).day else (l.getD (↑g : Int).toNat default).mi) ≥ x) else
   false) = true then decide (niI r.a r.b (if (0 + 3).beq 3 = true then (l.getD (↑g : Int).toNat default).day else (l.getD (↑g : Int).toNat default).mi) (if (0 + 4).beq 3 = true then (l.getD (↑g : Int).toNat default).day else (l.getD
   (↑g : Int).toNat default).mi) < y) else false) = true → (0 : Int) ≤ (↑g : Int) ∧ (↑g : Int) < (↑(List.map encMv l).length : Int) ∧ AV.agg (nthR (List.map encMv l) (↑g : Int).toNat) = AV.agg (encMv (l.getD (↑g : Int).toNat default))
   ∧ PCall Tryz.prog G0 38 [AV.agg (encRu r), AV.agg (encMv (l.getD (↑g : Int).toNat default))] (AV.i (rCo r (decMv (encMv (l.getD (↑g : Int).toNat default))))) ∧ In64 ((↑g : Int) + 1) ∧ ∃ (g' : Nat), g' ≤ l.length ∧ l.length - g' <
   l.length - g ∧ AS.mk [(1, AV.sl 5 (List.map encMv l)), (3, AV.elt 18 [(encRu r)] 0 0), (5, AV.elt 2 [[AV.i x, AV.i y]] 0 0), (7, AV.i (IntKind.i64.wrap (spW r x y l g + rCo r (decMv (encMv (l.getD (↑g : Int).toNat default)))))),
   (8, AV.i ((↑g : Int) + 1))] [] 1 = AS.mk [(1, AV.sl 5 (List.map encMv l)), (3, AV.elt 18 [(encRu r)] 0 0), (5, AV.elt 2 [[AV.i x, AV.i y]] 0 0), (7, AV.i (spW r x y l g')), (8, AV.i (↑g' : Int))] [] 1) ∧ ((if (if wiR r.a r.b
   (l.getD (↑g : Int).toNat default).mi = true then decide (niI r.a r.b (if (0 + 3).beq 3 = true then (l.getD (↑g : Int).toNat default).day else (l.getD (↑g : Int).toNat default).mi) (if (0 + 4).beq 3 = true then (l.getD (↑g :
   Int).toNat default).day else (l.getD (↑g : Int).toNat default).mi) ≥ x) else false) = true then decide (niI r.a r.b (if (0 + 3).beq 3 = true then (l.getD (↑g : Int).toNat default).day else (l.getD (↑g : Int).toNat default).mi) (if
   (0 + 4).beq 3 = true then (l.getD (↑g : Int).toNat default).day else (l.getD (↑g : Int).toNat default).mi) < y) else false) = false → In64 ((↑g : Int) + 1) ∧ ∃ (g' : Nat), g' ≤ l.length ∧ l.length - g' < l.length - g ∧ AS.mk [(1,
   AV.sl 5 (List.map encMv l)), (3, AV.elt 18 [(encRu r)] 0 0), (5, AV.elt 2 [[AV.i x, AV.i y]] 0 0), (7, AV.i (spW r x y l g)), (8, AV.i ((↑g : Int) + 1))] [] 1 = AS.mk [(1, AV.sl 5 (List.map encMv l)), (3, AV.elt 18 [(encRu r)] 0
   0), (5, AV.elt 2 [[AV.i x, AV.i y]] 0 0), (7, AV.i (spW r x y l g')), (8, AV.i (↑g' : Int))] [] 1)) ∧ (decide ((↑g : Int) < (↑(List.map encMv l).length : Int)) = false → AV.i (spW r x y l g) = AV.i (spW r x y l l.length)) := by
    have hle : (List.map encMv l).length = l.length := List.length_map _
    rw [hle]
    refine ⟨⟨0, by omega, rfl⟩, fun g hg => ⟨fun hd => ?_, fun hd => ?_⟩⟩
    · have hlt := lt_of_dec hd
      have hrow : nthR (List.map encMv l) g = encMv (l.getD g default) := row_at encMv hlt
      have hday := (hM _ (getD_mem hlt)).d
      refine ⟨by omega, by omega, by omega, by omega, (by show nth (nthR (List.map encMv l) g) 3 = _; rw [hrow]; rfl), (by show nth (nthR (List.map encMv l) g) 4 = _; rw [hrow]; rfl), c28 r _ _ (by show In64 ((l.getD g default).day - 1); unfold In64; omega), by omega, by omega, fun h => h, fun h => h, fun h => h, fun h => h, fun h => h, fun h => h, fun h => h, fun h => h, ?_⟩
      refine ⟨(by show nth (nthR (List.map encMv l) g) 4 = _; rw [hrow]; rfl), c26 _ _ _, fun h => ?_, fun h => ?_⟩
      · have h : inR r x y (l.getD g default) = true := h
        refine ⟨by omega, by omega, congrArg AV.agg hrow, c38 r _ (by have := hR.l; omega) (hM _ (getD_mem hlt)).t, by unfold In64; omega, g + 1, by omega, by omega, ?_⟩
        rw [spW, if_pos h]
        rfl
      · have h : inR r x y (l.getD g default) = false := h
        refine ⟨by unfold In64; omega, g + 1, by omega, by omega, ?_⟩
        rw [spW, if_neg (by rw [h]; decide)]
        rfl
    · have e := ge_of_dec hd hg
      subst e
      rfl
  exact c_of Tryz.f41 (wrapAt 7 7 (fzB (mkB (sp41 r) 41 [(5, 5, rdMi l), (5, 10, rdMi l), (6, 6, rdMi l), (7, 5, rdL 5 encMv l 5 true)] (fun i => if i.beq 0 then some (la41 r x y l) else none)))) (by kernel_rfl) (by kernel_rfl) (by kernel_rfl) (by kernel_rfl) key (by kernel_rfl)
def csM (r : Ru) (l : List Mv) : List Int := (l.map (dtOf r)).map coOf
def sLe (r : Ru) (l : List Mv) : Int := IntKind.i64.wrap (r.q - sSum (csM r l))
def sp35 (r : Ru) (l : List Mv) : Nat → List AV → Option AV
  | 42, _ => some (.i (chkMS r l))
  | 102, _ => some (.fresh 3 1 ((csM r l).map encI))
  | 108, _ => some (.i (sSum (csM r l)))
  | n, x => spI n x
theorem c35 (r : Ru) (l : List Mv) (hr : r.ts.length ≤ 1000) (hm : r.rs.length ≤ 1000) (hn : ∀ t, t ∈ r.ts → t.n.length ≤ 1000) (hs : ∀ s, s ∈ r.rs → s.length ≤ 1000) (hl : l.length ≤ 1000) (hv : ∀ m, m ∈ l → m.fl.length ≤ 1000 ∧ m.al.length ≤ 1000) (hK : chkMS r l = 0 → RuOK r ∧ ∀ m, m ∈ l → MvOK r m) : PCall Tryz.prog G0 35 [.agg (encRu r), .sl 5 (l.map encMv)] (.tup [.i (if chkMS r l != 0 then 0 else sLe r l), .i (chkMS r l)]) := by
  have key :
   PCall Tryz.prog G0 42 [AV.agg (encRu r), AV.sl 5 (List.map encMv l)] (AV.i (chkMS r l)) ∧ ((chkMS r l != 0) = true → AV.tup [AV.i 0, AV.i (chkMS r l)] = AV.tup [AV.i (if (chkMS r l != 0) = true then (0 : Int) else sLe r l), AV.i
   (chkMS r l)]) ∧ ((chkMS r l != 0) = false → PCall Tryz.prog G0 102 [AV.agg (encRu r), AV.sl 5 (List.map encMv l)] (AV.fresh 3 1 (List.map encI (csM r l))) ∧ PCall Tryz.prog G0 108 [AV.sl 1 (List.map encI (csM r l))] (AV.i (sSum
   (csM r l))) ∧ AV.tup [AV.i (IntKind.i64.wrap (r.q - sSum (csM r l))), AV.i 0] = AV.tup [AV.i (if (chkMS r l != 0) = true then (0 : Int) else sLe r l), AV.i (chkMS r l)]) := by
    have hc : (csM r l).length ≤ 1000000 := by unfold csM; simp only [List.length_map]; omega
    refine ⟨c42 r l hr hm hn hs hl hv, fun h => ?_, fun h => ?_⟩
    · rw [if_pos h]
    · have hz : chkMS r l = 0 := bne_f h
      obtain ⟨hR, hM⟩ := hK hz
      refine ⟨c102 r l hR hM hl, c108 _ hc, ?_⟩
      rw [if_neg (by rw [h]; decide), hz]
      rfl
  exact c_of Tryz.f35 (wrapAt 4 6 (fzB (mkB (sp35 r l) 35 [] noLa))) (by kernel_rfl) (by kernel_rfl) (by kernel_rfl) (by kernel_rfl) key (by kernel_rfl)
def inD (x y : Int) (d : Dt) : Bool := if decide (d.ni ≥ x) then decide (d.ni < y) else false
def spD (x y : Int) (l : List Dt) : Nat → Int
  | 0 => 0
  | i + 1 => if inD x y (l.getD i default) then IntKind.i64.wrap (spD x y l i + coOf (l.getD i default)) else spD x y l i
def eSp (r : Ru) (l : List Mv) (x y : Int) : Int := sFirst [chkMS r l, sWhen (if decide (x < 0) then true else decide (x > y)) 14]
def sp34 (r : Ru) (l : List Mv) : Nat → List AV → Option AV
  | 42, _ => some (.i (chkMS r l))
  | 104, _ => some (.fresh 168 10 ((l.map (dtOf r)).map encDt))
  | 107, [.agg c] => some (.i (coOf (decDt c)))
  | n, x => spS n x
def la34 (r : Ru) (x y : Int) (l : List Mv) : LA := {
  pre := [.keep [5, 9, 34, 35, 36] [], .bound 1], post := [.keep [5, 9, 34, 35, 36] [], .bound 1]
  Gh := Nat
  st := fun i => ⟨[(5, .elt 2 [[.i x, .i y]] 0 0), (9, .i (spD x y (l.map (dtOf r)) i)), (34, .sl 10 ((l.map (dtOf r)).map encDt)), (35, .i ((l.map (dtOf r)).map encDt).length), (36, .i i)], [], 1⟩
  ok := fun i => i ≤ l.length
  ms := fun i => l.length - i }
theorem c34 (r : Ru) (l : List Mv) (x y : Int) (hr : r.ts.length ≤ 1000) (hm : r.rs.length ≤ 1000) (hn : ∀ t, t ∈ r.ts → t.n.length ≤ 1000) (hs : ∀ s, s ∈ r.rs → s.length ≤ 1000) (hl : l.length ≤ 1000) (hv : ∀ m, m ∈ l → m.fl.length ≤ 1000 ∧ m.al.length ≤ 1000) (hK : chkMS r l = 0 → RuOK r ∧ ∀ m, m ∈ l → MvOK r m) : PCall Tryz.prog G0 34 [.agg (encRu r), .sl 5 (l.map encMv), .agg [.i x, .i y]] (.tup [.i (if eSp r l x y != 0 then 0 else spD x y (l.map (dtOf r)) l.length), .i (eSp r l x y)]) := by
  have key :
   ((!decide (x < 0)) = true → (!decide (x < 0)) = true) ∧ ((!decide (x < 0)) = true → (!decide (x < 0)) = true) ∧ ((!decide (x < 0)) = true → (!decide (x < 0)) = true) ∧ ((!decide (x < 0)) = true → (!decide (x < 0)) = true) ∧ (decide
   (x < 0) = false → (!decide (x < 0)) = true) ∧ PCall Tryz.prog G0 42 [AV.agg (encRu r), AV.sl 5 (List.map encMv l)] (AV.i (chkMS r l)) ∧ PCall Tryz.prog G0 95 [AV.bool (if decide (x < 0) = true then true else decide (x > y)), AV.i
   14] (AV.i (sWhen (if decide (x < 0) = true then true else decide (x > y)) (14 : Int))) ∧ PCall Tryz.prog G0 87 [AV.sl 1 [[AV.i (chkMS r l)], [AV.i (sWhen (if decide (x < 0) = true then true else decide (x > y)) (14 : Int))]]] (AV.i
   (sFirst [hdI [AV.i (chkMS r l)], hdI [AV.i (sWhen (if decide (x < 0) = true then true else decide (x > y)) (14 : Int))]])) ∧ ((sFirst [hdI [AV.i (chkMS r l)], hdI [AV.i (sWhen (if decide (x < 0) = true then true else decide (x >
   y)) (14 : Int))]] != 0) = true → AV.tup [AV.i 0, AV.i (sFirst [hdI [AV.i (chkMS r l)], hdI [AV.i (sWhen (if decide (x < 0) = true then true else decide (x > y)) (14 : Int))]])] = AV.tup [AV.i (if (eSp r l x y != 0) = true then (0 :
   Int) else spD x y (List.map (dtOf r) l) l.length), AV.i (eSp r l x y)]) ∧ ((sFirst [hdI [AV.i (chkMS r l)], hdI [AV.i (sWhen (if decide (x < 0) = true then true else decide (x > y)) (14 : Int))]] != 0) = false → PCall Tryz.prog G0
   104 [AV.sl 5 (List.map encMv l), AV.fn (Fn.func 105) [AV.agg (encRu r)] []] (AV.fresh 168 10 (List.map encDt (List.map (dtOf r) l))) ∧ (∃ (g : Nat), g ≤ l.length ∧ AS.mk [(5, AV.elt 2 [[AV.i x, AV.i y]] 0 0), (9, AV.i 0), (34,
   AV.sl 10 (List.map encDt (List.map (dtOf r) l))), (35, AV.i (↑(List.map encDt (List.map (dtOf r) l)).length : Int)), (36, AV.i 0)] [] 1 = AS.mk [(5, AV.elt 2 [[AV.i x, AV.i y]] 0 0), (9, AV.i (spD x y (List.map (dtOf r) l) g)),
   (34, AV.sl 10 (List.map encDt (List.map (dtOf r) l))), (35, AV.i (↑(List.map encDt (List.map (dtOf r) l)).length : Int)), (36, AV.i (↑g : Int))] [] 1) ∧ ∀ (g : Nat), g ≤ l.length → (decide ((↑g : Int) < (↑(List.map encDt (List.map
   (dtOf r) l)).length : Int)) = true → (0 : Int) ≤ (↑g : Int) ∧ (↑g : Int) < (↑(List.map encDt (List.map (dtOf r) l)).length : Int) ∧ AV.agg (nthR (List.map encDt (List.map (dtOf r) l)) (↑g : Int).toNat) = AV.agg (encDt ((List.map
   (dtOf r) l).getD (↑g : Int).toNat default)) ∧ (decide (((List.map (dtOf r) l).getD (↑g : Int).toNat default).ni ≥ x) = true → decide (((List.map (dtOf r) l).getD (↑g : Int).toNat default).ni ≥ x) = true) ∧ (decide (((List.map (dtOf
   r) l).getD (↑g : Int).toNat default).ni ≥ x) = true → decide (((List.map (dtOf r) l).getD (↑g : Int).toNat default).ni ≥ x) = true) ∧ (decide (((List.map (dtOf r) l).getD (↑g : Int).toNat default).ni ≥ x) = true → decide
   (((List.map (dtOf r) l).getD (↑g : Int).toNat default).ni ≥ x) = true) ∧ (decide (((List.map (dtOf r) l).getD (↑g : Int).toNat default).ni ≥ x) = true → decide (((List.map (dtOf r) l).getD (↑g : Int).toNat default).ni ≥ x) = true)
   ∧ (decide (((List.map (dtOf r) l).getD (↑g : Int).toNat default).ni ≥ x) = true → decide (((List.map (dtOf r) l).getD (↑g : Int).toNat default).ni ≥ x) = true) ∧ ((if decide (((List.map (dtOf r) l).getD (↑g : Int).toNat default).ni
   ≥ x) = true then decide (((List.map (dtOf r) l).getD (↑g : Int).toNat default).ni < y) else false) = true → PCall Tryz.prog G0 107 [AV.agg (encDt ((List.map (dtOf r) l).getD (↑g : Int).toNat default))] (AV.i (coOf (decDt (encDt
   ((List.map (dtOf r) l).getD (↑g : Int).toNat default))))) ∧ In64 ((↑g : Int) + 1) ∧ ∃ (g' : Nat), g' ≤ l.length ∧ l.length - g' < l.length - g ∧ AS.mk [(5, AV.elt 2 [[AV.i x, AV.i y]] 0 0), (9, AV.i (IntKind.i64.wrap (spD x y
   (List.map (dtOf r) l) g + coOf (decDt (encDt ((List.map (dtOf r) l).getD (↑g : Int).toNat default)))))), (34, AV.sl 10 (List.map encDt (List.map (dtOf r) l))), (35, AV.i (↑(List.map encDt (List.map (dtOf r) l)).length : Int)), (36,
   AV.i ((↑g : Int) + 1))] [] 1 = AS.mk [(5, AV.elt 2 [[AV.i x, AV.i y]] 0 0), (9, AV.i (spD x y (List.map (dtOf r) l) g')), (34, AV.sl 10 (List.map encDt (List.map (dtOf r) l))), (35, AV.i (↑(List.map encDt (List.map (dtOf r)
   l)).length : Int)), (36, AV.i (↑g' : Int))] [] 1) ∧ ((if decide (((List.map (dtOf r) l).getD (↑g : Int).toNat default).ni ≥ x) = true then decide (((List.map (dtOf r) l).getD (↑g : Int).toNat default).ni < y) else false) = false →
   In64 ((↑g : Int) + 1) ∧ ∃ (g' : Nat), g' ≤ l.length ∧ l.length - g' < l.length - g ∧ AS.mk [(5, AV.elt 2 [[AV.i x, AV.i y]] 0 0), (9, AV.i (spD x y (List.map (dtOf r) l) g)), (34, AV.sl 10 (List.map encDt (List.map (dtOf r) l))),
   (35, AV.i (↑(List.map encDt (List.map (dtOf r) l)).length : Int)), (36, AV.i ((↑g : Int) + 1))] [] 1 = AS.mk [(5, AV.elt 2 [[AV.i x, AV.i y]] 0 0), (9, AV.i (spD x y (List.map (dtOf r) l) g')), (34, AV.sl 10 (List.map encDt
   (List.map (dtOf r) l))), (35, AV.i (↑(List.map encDt (List.map (dtOf r) l)).length : Int)), (36, AV.i (↑g' : Int))] [] 1)) ∧ (decide ((↑g : Int) < (↑(List.map encDt (List.map (dtOf r) l)).length : Int)) = false → AV.tup [AV.i (spD
   x y (List.map (dtOf r) l) g), AV.i 0] = AV.tup [AV.i (if (eSp r l x y != 0) = true then (0 : Int) else spD x y (List.map (dtOf r) l) l.length), AV.i (eSp r l x y)])) := by
    have hlm : ((l.map (dtOf r)).map encDt).length = l.length := by rw [List.length_map, List.length_map]
    refine ⟨fun h => h, fun h => h, fun h => h, fun h => h, fun h => by rw [h]; rfl, c42 r l hr hm hn hs hl hv, c95 _ _, c87 [_, _] (by simp), fun h => ?_, fun h => ?_⟩
    · have h : (eSp r l x y != 0) = true := h
      rw [if_pos h]
      rfl
    · have h : (eSp r l x y != 0) = false := h
      have hz : eSp r l x y = 0 := bne_f h
      have hz1 : chkMS r l = 0 := by
        have h9 := hz
        unfold eSp at h9
        by_cases q : chkMS r l = 0
        · exact q
        · exact absurd h9 (by simp [sFirst, q])
      obtain ⟨hR, hM⟩ := hK hz1
      refine ⟨c104 r l hR hM hl, ⟨0, by omega, rfl⟩, fun g hg => ?_⟩
      rw [hlm]
      have hl2 : (l.map (dtOf r)).length = l.length := List.length_map _
      refine ⟨fun hd => ?_, fun hd => ?_⟩
      · have hlt := lt_of_dec hd
        refine ⟨by omega, by omega, congrArg AV.agg (row_at encDt (by omega)), fun h => h, fun h => h, fun h => h, fun h => h, fun h => h, fun h => ?_, fun h => ?_⟩
        · have h : inD x y ((l.map (dtOf r)).getD g default) = true := h
          refine ⟨c107 _, by unfold In64; omega, g + 1, by omega, by omega, ?_⟩
          rw [spD, if_pos h]
          rfl
        · have h : inD x y ((l.map (dtOf r)).getD g default) = false := h
          refine ⟨by unfold In64; omega, g + 1, by omega, by omega, ?_⟩
          rw [spD, if_neg (by rw [h]; decide)]
          rfl
      · have e := ge_of_dec hd hg
        subst e
        rw [if_neg (by rw [h]; decide), hz]
  exact c_of Tryz.f34 (gsB (fun i => if i.beq 5 then [.frzo 34] else []) (wrapAt 9 3 (fzB (mkB (sp34 r l) 34 [(7, 1, rdL 10 encDt (l.map (dtOf r)) 10 true)] (fun i => if i.beq 0 then some (la34 r x y l) else none))))) (by kernel_rfl) (by kernel_rfl) (by kernel_rfl) (by kernel_rfl) key (by kernel_rfl)
theorem c31 (r : Ru) (l : List Mv) (hr : r.ts.length ≤ 1000) (hm : r.rs.length ≤ 1000) (hn : ∀ t, t ∈ r.ts → t.n.length ≤ 1000) (hs : ∀ s, s ∈ r.rs → s.length ≤ 1000) (hl : l.length ≤ 1000) (hv : ∀ m, m ∈ l → m.fl.length ≤ 1000 ∧ m.al.length ≤ 1000) (hK : chkMS r l = 0 → RuOK r ∧ ∀ m, m ∈ l → MvOK r m) : PCall Tryz.prog G0 31 [.agg (encRu r), .sl 5 (l.map encMv)] (.tup [.sl 1 (if chkMS r l != 0 then [] else (csM r l).map encI), .i (chkMS r l)]) := by
  have key :
   PCall Tryz.prog G0 42 [AV.agg (encRu r), AV.sl 5 (List.map encMv l)] (AV.i (chkMS r l)) ∧ ((chkMS r l != 0) = true → AV.tup [AV.sl 1 [], AV.i (chkMS r l)] = AV.tup [AV.sl 1 (if (chkMS r l != 0) = true then [] else List.map encI
   (csM r l)), AV.i (chkMS r l)]) ∧ ((chkMS r l != 0) = false → PCall Tryz.prog G0 102 [AV.agg (encRu r), AV.sl 5 (List.map encMv l)] (AV.fresh 3 1 (List.map encI (csM r l))) ∧ AV.tup [AV.sl 1 (List.map encI (csM r l)), AV.i 0] =
   AV.tup [AV.sl 1 (if (chkMS r l != 0) = true then [] else List.map encI (csM r l)), AV.i (chkMS r l)]) := by
    refine ⟨c42 r l hr hm hn hs hl hv, fun h => ?_, fun h => ?_⟩
    · rw [if_pos h]
    · have hz : chkMS r l = 0 := bne_f h
      obtain ⟨hR, hM⟩ := hK hz
      refine ⟨c102 r l hR hM hl, ?_⟩
      rw [if_neg (by rw [h]; decide), hz]
  exact c_of Tryz.f31 (gsB (fun i => if i.beq 4 then [.frzo 4] else if i.beq 3 then [.nil 4 1] else []) (fzB (mkB (sp35 r l) 31 [] noLa))) (by kernel_rfl) (by kernel_rfl) (by kernel_rfl) (by kernel_rfl) key (by kernel_rfl)
end Go.Proofs.YtimgfogakgakhaaGreatDoor
-- ENC encRu 18 [AV.i X.a, AV.i X.b, AV.i X.c, AV.i X.d, AV.sl 3 (List.map encTp X.ts), AV.i X.q, AV.sl 1 (List.map encS X.rs), AV.i X.dl, AV.i X.fi, AV.i X.ra, AV.int IntKind.u8 X.k0, AV.int IntKind.u8 X.k1, AV.int IntKind.u8 X.k2, AV.int IntKind.u8 X.k3, AV.int IntKind.u8 X.k4, AV.int IntKind.u8 X.k5, AV.int IntKind.u8 X.k6, AV.int IntKind.u8 X.k7]
-- ENC encMv 5 [AV.str X.fl, AV.str X.al, AV.str X.ty, AV.i X.day, AV.i X.mi]
-- ENC encDt 10 [AV.str X.m.fl, AV.str X.m.al, AV.str X.m.ty, AV.i X.m.day, AV.i X.m.mi, AV.str X.k.n, AV.i X.k.c, AV.i X.k.f, AV.bool X.dk, AV.i X.ni]
namespace Go.Proofs.YtimgfogakgakhaaGreatDoor
open Go Go.Av Go.RowKit
theorem all_ext {P : Nat → Prop} {g : Nat} (h : ∀ j, j < g → P j) (h2 : P g) : ∀ j, j < g + 1 → P j := fun j hj => by
  by_cases e : j = g
  · rw [e]; exact h2
  · exact h j (by omega)
def la32 (l : List Mv) : LA := {
  pre := [.own 3 165 5, .reno 3 1, .keep [3, 6, 7, 8] [1], .bound 2], post := [.reno 3 1, .keep [3, 6, 7, 8] [1], .bound 2]
  Gh := Nat
  st := fun i => ⟨[(3, .own 1 ((l.take i).map encMv).length), (6, .sl 5 (l.map encMv)), (7, .i (l.map encMv).length), (8, .i i)], [(1, .buf 165 5 ((l.take i).map encMv))], 2⟩
  ok := fun i => i ≤ (l.map encMv).length
  ms := fun i => (l.map encMv).length - i }
theorem c32 (l : List Mv) (hl : l.length ≤ 1000) : PCall Tryz.prog G0 32 [.sl 5 (l.map encMv)] (.fresh 165 5 (l.map encMv)) := by
  have key :
   (∃ (g : Nat), g ≤ (List.map encMv l).length ∧ AS.mk [(3, AV.own 1 0), (6, AV.sl 5 (List.map encMv l)), (7, AV.i (↑(List.map encMv l).length : Int)), (8, AV.i 0)] [(1, ABlk.buf 165 5 [])] 2 = AS.mk [(3, AV.own 1 (List.map encMv
   (List.take g l)).length), (6, AV.sl 5 (List.map encMv l)), (7, AV.i (↑(List.map encMv l).length : Int)), (8, AV.i (↑g : Int))] [(1, ABlk.buf 165 5 (List.map encMv (List.take g l)))] 2) ∧ ∀ (g : Nat), g ≤ (List.map encMv l).length →
   (decide ((↑g : Int) < (↑(List.map encMv l).length : Int)) = true → (0 : Int) ≤ (↑g : Int) ∧ (↑g : Int) < (↑(List.map encMv l).length : Int) ∧ AV.agg (nthR (List.map encMv l) (↑g : Int).toNat) = AV.agg (encMv (l.getD (↑g :
   Int).toNat default)) ∧ (List.map encMv (List.take g l)).length + 1 ≤ 9223372036854775807 ∧ ((List.map encMv (List.take g l)).length + 1) * 64 ≤ 140737488355328 ∧ In64 ((↑g : Int) + 1) ∧ ∃ (g' : Nat), g' ≤ (List.map encMv l).length
   ∧ (List.map encMv l).length - g' < (List.map encMv l).length - g ∧ AS.mk [(3, AV.own 1 ((List.map encMv (List.take g l)).length + 1)), (6, AV.sl 5 (List.map encMv l)), (7, AV.i (↑(List.map encMv l).length : Int)), (8, AV.i ((↑g :
   Int) + 1))] [(1, ABlk.buf 165 5 (List.map encMv (List.take g l) ++ [(encMv (l.getD (↑g : Int).toNat default))]))] 2 = AS.mk [(3, AV.own 1 (List.map encMv (List.take g' l)).length), (6, AV.sl 5 (List.map encMv l)), (7, AV.i
   (↑(List.map encMv l).length : Int)), (8, AV.i (↑g' : Int))] [(1, ABlk.buf 165 5 (List.map encMv (List.take g' l)))] 2) ∧ (decide ((↑g : Int) < (↑(List.map encMv l).length : Int)) = false → AV.fresh 165 5 (List.map encMv (List.take
   g l)) = AV.fresh 165 5 (List.map encMv l)) := by
    have hlm : (List.map encMv l).length = l.length := List.length_map _
    have hT : ∀ g, g ≤ l.length → (List.map encMv (List.take g l)).length = g := fun g hg => by rw [List.length_map, List.length_take]; omega
    refine ⟨⟨0, by omega, rfl⟩, fun g hg => ⟨fun hd => ?_, fun hd => ?_⟩⟩
    · have hlt : g < l.length := by have h9 := of_decide_eq_true hd; have h8 := hg; (try simp only [List.length_map] at h8); (try simp only [List.length_map] at h9); omega
      have : (List.map encMv (List.take g l)).length = g := by simp only [List.length_map, List.length_take]; omega
      refine ⟨(by omega), (by omega), congrArg AV.agg (row_at encMv hlt), (by omega), (by omega), (by unfold In64; omega), ⟨g + 1, by omega, by omega, ?_⟩⟩
      · rw [← take_succ encMv hlt, List.length_append]; rfl
    · have hge : g = l.length := by have h9 := of_decide_eq_false hd; have h8 := hg; (try simp only [List.length_map] at h8); (try simp only [List.length_map] at h9); omega
      subst hge
      rw [List.take_length]
  exact c_of Tryz.f32 (fzB (mkB spS 32 [(4, 1, rdL 5 encMv l 5 true)] (fun i => if i.beq 0 then some (la32 l) else none))) (by kernel_rfl) (by kernel_rfl) (by kernel_rfl) (by kernel_rfl) key (by kernel_rfl)
def okM (m : Mv) : Bool := if (if decide ((m.fl.length : Int) > 40) then true else decide ((m.al.length : Int) > 40)) then false else !decide ((m.ty.length : Int) > 40)
def shM (l : List Mv) : Bool := if (if decide ((l.length : Int) > 12) then (l.length : Int) != 257 else false) then false else l.all okM
def la30 (l : List Mv) : LA := {
  pre := [.keep [0, 3] [], .bound 1], post := [.keep [0, 3] [], .bound 1]
  Gh := Nat
  st := fun i => ⟨[(0, .sl 5 (l.map encMv)), (3, .i i)], [], 1⟩
  ok := fun i => i ≤ l.length ∧ ∀ j, j < i → okM (l.getD j default) = true
  ms := fun i => l.length - i }
theorem all_f {α : Type} [Inhabited α] {l : List α} {q : α → Bool} {g : Nat} (hlt : g < l.length) (h : q (l.getD g default) = false) : l.all q = false :=
  List.all_eq_false.2 ⟨_, getD_mem hlt, by rw [h]; decide⟩
theorem all_t {α : Type} [Inhabited α] {l : List α} {q : α → Bool} (h : ∀ j, j < l.length → q (l.getD j default) = true) : l.all q = true :=
  List.all_eq_true.2 fun t ht => by
    obtain ⟨i, hi, e⟩ := List.mem_iff_getElem.1 ht
    have h := h i hi
    rw [List.getD_eq_getElem?_getD, List.getElem?_eq_getElem hi, e] at h
    exact h
theorem shM_f {m : Mv} (h : (if (if decide ((m.fl.length : Int) > 40) = true then true else decide ((m.al.length : Int) > 40)) = true then true else decide ((m.ty.length : Int) > 40)) = true) : okM m = false := by
  unfold okM
  revert h
  cases (if decide ((m.fl.length : Int) > 40) = true then true else decide ((m.al.length : Int) > 40)) <;> cases decide ((m.ty.length : Int) > 40) <;> simp
theorem shM_t {m : Mv} (h : (if (if decide ((m.fl.length : Int) > 40) = true then true else decide ((m.al.length : Int) > 40)) = true then true else decide ((m.ty.length : Int) > 40)) = false) : okM m = true := by
  unfold okM
  revert h
  cases (if decide ((m.fl.length : Int) > 40) = true then true else decide ((m.al.length : Int) > 40)) <;> cases decide ((m.ty.length : Int) > 40) <;> simp
theorem c30 (l : List Mv) (hl : l.length ≤ maxLen) : PCall Tryz.prog G0 30 [.sl 5 (l.map encMv)] (.bool (shM l)) := by
  have key :
   (decide ((↑(List.map encMv l).length : Int) > 12) = true → decide ((↑(List.map encMv l).length : Int) > 12) = true) ∧ (decide ((↑(List.map encMv l).length : Int) > 12) = true → decide ((↑(List.map encMv l).length : Int) > 12) =
   true) ∧ (decide ((↑(List.map encMv l).length : Int) > 12) = true → decide ((↑(List.map encMv l).length : Int) > 12) = true) ∧ ((if decide ((↑(List.map encMv l).length : Int) > 12) = true then (↑(List.map encMv l).length : Int) !=
   257 else false) = true → AV.bool false = AV.bool (shM l)) ∧ ((if decide ((↑(List.map encMv l).length : Int) > 12) = true then (↑(List.map encMv l).length : Int) != 257 else false) = false → (∃ (g : Nat), (g ≤ l.length ∧ ∀ (j :
   Nat), j < g → okM (l.getD j default) = true) ∧ AS.mk [(0, AV.sl 5 (List.map encMv l)), (3, AV.i 0)] [] 1 = AS.mk [(0, AV.sl 5 (List.map encMv l)), (3, AV.i (↑g : Int))] [] 1) ∧ ∀ (g : Nat), (g ≤ l.length ∧ ∀ (j : Nat), j < g → okM
   (l.getD j default) = true) → (decide ((↑g : Int) < (↑(List.map encMv l).length : Int)) = true → (0 : Int) ≤ (↑g : Int) ∧ (↑g : Int) < (↑(List.map encMv l).length : Int) ∧ ((!decide ((↑(l.getD (↑g : Int).toNat default).fl.length :
   Int) > 40)) = true → (!decide ((↑(l.getD (↑g : Int).toNat default).fl.length : Int) > 40)) = true) ∧ ((!decide ((↑(l.getD (↑g : Int).toNat default).fl.length : Int) > 40)) = true → (!decide ((↑(l.getD (↑g : Int).toNat
   default).fl.length : Int) > 40)) = true) ∧ ((!decide ((↑(l.getD (↑g : Int).toNat default).fl.length : Int) > 40)) = true → (0 : Int) ≤ (↑g : Int)) ∧ ((!decide ((↑(l.getD (↑g : Int).toNat default).fl.length : Int) > 40)) = true →
   (↑g : Int) < (↑(List.map encMv l).length : Int)) ∧ ((!decide ((↑(l.getD (↑g : Int).toNat default).fl.length : Int) > 40)) = true → (!decide ((↑(l.getD (↑g : Int).toNat default).fl.length : Int) > 40)) = true) ∧ ((!decide ((↑(l.getD
   (↑g : Int).toNat default).fl.length : Int) > 40)) = true → (!decide ((↑(l.getD (↑g : Int).toNat default).fl.length : Int) > 40)) = true) ∧ ((!decide ((↑(l.getD (↑g : Int).toNat default).fl.length : Int) > 40)) = true → (!decide
   ((↑(l.getD (↑g : Int).toNat default).fl.length : Int) > 40)) = true) ∧ ((!decide ((↑(l.getD (↑g : Int).toNat default).fl.length : Int) > 40)) = true → (!decide ((↑(l.getD (↑g : Int).toNat default).fl.length : Int) > 40)) = true) ∧
   (decide ((↑(l.getD (↑g : Int).toNat default).fl.length : Int) > 40) = false → (!decide ((↑(l.getD (↑g : Int).toNat default).fl.length : Int) > 40)) = true) ∧ ((!if decide ((↑(l.getD (↑g : Int).toNat default).fl.length : Int) > 40)
   = true then true else decide ((↑(l.getD (↑g : Int).toNat default).al.length : Int) > 40)) = true → (!if decide ((↑(l.getD (↑g : Int).toNat default).fl.length : Int) > 40) = true then true else decide ((↑(l.getD (↑g : Int).toNat
   default).al.length : Int) > 40)) = true) ∧ ((!if decide ((↑(l.getD (↑g : Int).toNat default).fl.length : Int) > 40) = true then true else decide ((↑(l.getD (↑g : Int).toNat default).al.length : Int) > 40)) = true → (!if decide
   ((↑(l.getD (↑g : Int).toNat default).fl.length : Int) > 40) = true then true else decide ((↑(l.getD (↑g : Int).toNat default).al.length : Int) > 40)) = true) ∧ ((!if decide ((↑(l.getD (↑g : Int).toNat default).fl.length : Int) >
   40) = true then true else decide ((↑(l.getD (↑g : Int).toNat default).al.length : Int) > 40)) = true → (0 : Int) ≤ (↑g : Int)) ∧ ((!if decide ((↑(l.getD (↑g : Int).toNat default).fl.length : Int) > 40) = true then true else decide
   ((↑(l.getD (↑g : Int).toNat default).al.length : Int) > 40)) = true → (↑g : Int) < (↑(List.map encMv l).length : Int)) ∧ ((!if decide ((↑(l.getD (↑g : Int).toNat default).fl.length : Int) > 40) = true then true else decide
   ((↑(l.getD (↑g : Int).toNat default).al.length : Int) > 40)) = true → (!if decide ((↑(l.getD (↑g : Int).toNat default).fl.length : Int) > 40) = true then true else decide ((↑(l.getD (↑g : Int).toNat default).al.length : Int) > 40))
   = true) ∧ ((!if decide ((↑(l.getD (↑g : Int).toNat default).fl.length : Int) > 40) = true then true else decide ((↑(l.getD (↑g : Int).toNat default).al.length : Int) > 40)) = true → (!if decide ((↑(l.getD (↑g : Int).toNat
   default).fl.length : Int) > 40) = true then true else decide ((↑(l.getD (↑g : Int).toNat default).al.length : Int) > 40)) = true) ∧ ((!if decide ((↑(l.getD (↑g : Int).toNat default).fl.length : Int) > 40) = true then true else
   decide ((↑(l.getD (↑g : Int).toNat default).al.length : Int) > 40)) = true → (!if decide ((↑(l.getD (↑g : Int).toNat default).fl.length : Int) > 40) = true then true else decide ((↑(l.getD (↑g : Int).toNat default).al.length : Int)
   > 40)) = true) ∧ ((!if decide ((↑(l.getD (↑g : Int).toNat default).fl.length : Int) > 40) = true then true else decide ((↑(l.getD (↑g : Int).toNat default).al.length : Int) > 40)) = true → (!if decide ((↑(l.getD (↑g : Int).toNat
   default).fl.length : Int) > 40) = true then true else decide ((↑(l.getD (↑g : Int).toNat default).al.length : Int) > 40)) = true) ∧ ((if decide ((↑(l.getD (↑g : Int).toNat default).fl.length : Int) > 40) = true then true else
   decide ((↑(l.getD (↑g : Int).toNat default).al.length : Int) > 40)) = false → (!if decide ((↑(l.getD (↑g : Int).toNat default).fl.length : Int) > 40) = true then true else decide ((↑(l.getD (↑g : Int).toNat default).al.length :
   Int) > 40)) = true) ∧ nth (nthR (List.map encMv l) (↑g : Int).toNat) 0 = AV.str (l.getD (↑g : Int).toNat default).fl ∧ impB (!decide ((↑(l.getD (↑g : Int).toNat default).fl.length : Int) > 40)) (nth (nthR (List.map encMv l) (↑g :
   Int).toNat) 1 = AV.str (l.getD (↑g : Int).toNat default).al) ∧ impB (!if decide ((↑(l.getD (↑g : Int).toNat default).fl.length : Int) > 40) = true then true else decide ((↑(l.getD (↑g : Int).toNat default).al.length : Int) > 40))
   (nth (nthR (List.map encMv l) (↑g : Int).toNat) 2 = AV.str (l.getD (↑g : Int).toNat default).ty) ∧ ((if (if decide ((↑(l.getD (↑g : Int).toNat default).fl.length : Int) > 40) = true then true else decide ((↑(l.getD (↑g : Int).toNat
   default).al.length : Int) > 40)) = true then true else decide ((↑(l.getD (↑g : Int).toNat default).ty.length : Int) > 40)) = true → AV.bool false = AV.bool (shM l)) ∧ ((if (if decide ((↑(l.getD (↑g : Int).toNat default).fl.length :
   Int) > 40) = true then true else decide ((↑(l.getD (↑g : Int).toNat default).al.length : Int) > 40)) = true then true else decide ((↑(l.getD (↑g : Int).toNat default).ty.length : Int) > 40)) = false → In64 ((↑g : Int) + 1) ∧ ∃ (g'
   : Nat), (g' ≤ l.length ∧ ∀ (j : Nat), j < g' → okM (l.getD j default) = true) ∧ l.length - g' < l.length - g ∧ AS.mk [(0, AV.sl 5 (List.map encMv l)), (3, AV.i ((↑g : Int) + 1))] [] 1 = AS.mk [(0, AV.sl 5 (List.map encMv l)), (3,
   AV.i (↑g' : Int))] [] 1)) ∧ (decide ((↑g : Int) < (↑(List.map encMv l).length : Int)) = false → AV.bool true = AV.bool (shM l))) := by
    have hlm : (List.map encMv l).length = l.length := List.length_map _
    have hM : maxLen ≤ 9223372036854775807 := by unfold maxLen; omega
    refine ⟨fun h => h, fun h => h, fun h => h, fun h1 => ?_, fun h1 => ⟨⟨0, ⟨by omega, by intros; omega⟩, rfl⟩, fun g ⟨hg, ha⟩ => ⟨fun hd => ?_, fun hd => ?_⟩⟩⟩
    · first
        | (rw [shM, ← hlm, if_pos h1]; done)
        | (rw [shM, ← hlm, if_neg (by rw [h1]; decide), all_f hlt (shM_f h2)])
    · have hlt : g < l.length := by have h9 := of_decide_eq_true hd; have h8 := hg; (try simp only [List.length_map] at h8); (try simp only [List.length_map] at h9); omega
      refine ⟨(by omega), (by omega), fun h => h, fun h => h, fun _ => by omega, fun _ => by omega, fun h => h, fun h => h, fun h => h, fun h => h, fun h => by first | exact h | (rw [h]; rfl) | simp_all, fun h => h, fun h => h, fun _ => by omega, fun _ => by omega, fun h => h, fun h => h, fun h => h, fun h => h, fun h => by first | exact h | (rw [h]; rfl) | simp_all, congrArg (fun r => nth r 0) (row_at encMv hlt), impB_iff.2 fun _ => congrArg (fun r => nth r 1) (row_at encMv hlt), impB_iff.2 fun _ => congrArg (fun r => nth r 2) (row_at encMv hlt), fun h2 => ?_, fun h2 => ⟨(by unfold In64; omega), ⟨g + 1, ⟨by omega, all_ext ha (shM_t h2)⟩, by omega, rfl⟩⟩⟩
      · first
          | (rw [shM, ← hlm, if_pos h1]; done)
          | (rw [shM, ← hlm, if_neg (by rw [h1]; decide), all_f hlt (shM_f h2)])
    · have hge : g = l.length := by have h9 := of_decide_eq_false hd; have h8 := hg; (try simp only [List.length_map] at h8); (try simp only [List.length_map] at h9); omega
      subst hge
      rw [shM, ← hlm, if_neg (by rw [h1]; decide), all_t ha]
  exact c_of Tryz.f30 (mkB spS 30 [(6, 4, rdL 5 encMv l 1 false), (6, 12, rdL 5 encMv l 1 false), (6, 21, rdL 5 encMv l 1 false)] (fun i => if i.beq 0 then some (la30 l) else none)) (by kernel_rfl) (by kernel_rfl) (by kernel_rfl) (by kernel_rfl) key (by kernel_rfl)
def fsM (r : Ru) (l : List Mv) : List Int := (l.map (dtOf r)).map feOf
def sp33 (r : Ru) (l : List Mv) : Nat → List AV → Option AV
  | 42, _ => some (.i (chkMS r l))
  | 104, _ => some (.sl 10 ((l.map (dtOf r)).map encDt))
  | 103, _ => some (.fresh 3 1 ((fsM r l).map encI))
  | n, x => spS n x
theorem fe_in {r : Ru} {l : List Mv} (h : RuOK r ∧ ∀ m, m ∈ l → MvOK r m) : ∀ d, d ∈ l.map (dtOf r) → In64 (2 * d.k.f) := by
  intro d hd
  obtain ⟨m, hm1, e⟩ := List.mem_map.mp hd
  subst e
  have h3 := (h.2 m hm1).t
  have h4 : tpAt r.ts m.ty ∈ r.ts := by rw [tpAt, if_pos h3]; exact getD_mem h3
  have h5 := (h.1.k _ h4).2
  show In64 (2 * (tpAt r.ts m.ty).f)
  unfold In64
  omega
theorem c33 (r : Ru) (l : List Mv) (hr : r.ts.length ≤ 1000) (hm : r.rs.length ≤ 1000) (hn : ∀ t, t ∈ r.ts → t.n.length ≤ 1000) (hs : ∀ s, s ∈ r.rs → s.length ≤ 1000) (hl : l.length ≤ 1000) (hv : ∀ m, m ∈ l → m.fl.length ≤ 1000 ∧ m.al.length ≤ 1000) (hK : chkMS r l = 0 → RuOK r ∧ ∀ m, m ∈ l → MvOK r m) : PCall Tryz.prog G0 33 [.agg (encRu r), .sl 5 (l.map encMv)] (.tup [.sl 1 (if chkMS r l != 0 then [] else (fsM r l).map encI), .i (chkMS r l)]) := by
  have key :
   PCall Tryz.prog G0 42 [AV.agg (encRu r), AV.sl 5 (List.map encMv l)] (AV.i (chkMS r l)) ∧ ((chkMS r l != 0) = true → AV.tup [AV.sl 1 [], AV.i (chkMS r l)] = AV.tup [AV.sl 1 (if (chkMS r l != 0) = true then [] else List.map encI
   (fsM r l)), AV.i (chkMS r l)]) ∧ ((chkMS r l != 0) = false → PCall Tryz.prog G0 104 [AV.sl 5 (List.map encMv l), AV.fn (Fn.func 105) [AV.agg (encRu r)] []] (AV.sl 10 (List.map encDt (List.map (dtOf r) l))) ∧ PCall Tryz.prog G0 103
   [AV.sl 10 (List.map encDt (List.map (dtOf r) l)), AV.fn (Fn.func 106) [] []] (AV.fresh 3 1 (List.map encI (fsM r l))) ∧ AV.tup [AV.sl 1 (List.map encI (fsM r l)), AV.i 0] = AV.tup [AV.sl 1 (if (chkMS r l != 0) = true then [] else
   List.map encI (fsM r l)), AV.i (chkMS r l)]) := by
    refine ⟨(c42 r l hr hm hn hs hl hv), fun h1 => ?_, fun h1 => ⟨((c104 r l (hK (bne_f h1)).1 (hK (bne_f h1)).2 hl).un), (c103b _ (by rw [List.length_map]; exact hl) (fe_in (hK (bne_f h1)))), ?_⟩⟩
    · rw [if_pos h1]
    · rw [if_neg (by rw [h1]; decide), bne_f h1]
  exact c_of Tryz.f33 (gsB (fun i => if i.beq 4 then [.frzo 4] else if i.beq 3 then [.nil 4 1] else []) (fzB (mkB (sp33 r l) 33 [] noLa))) (by kernel_rfl) (by kernel_rfl) (by kernel_rfl) (by kernel_rfl) key (by kernel_rfl)

end Go.Proofs.YtimgfogakgakhaaGreatDoor
namespace Go.Proofs.YtimgfogakgakhaaGreatDoor
open Go Go.Av Go.RowKit
theorem wrap_in {n : Int} (h : In64 n) : IntKind.i64.wrap n = n := by
  unfold In64 at h
  show (if (true && decide (n % 18446744073709551616 ≥ 9223372036854775808)) = true then n % 18446744073709551616 - 18446744073709551616 else n % 18446744073709551616) = n
  simp only [Bool.true_and, decide_eq_true_eq]
  split <;> omega
theorem ite_z {a b : Int} (h : (if a != 0 then a else b) = 0) : a = 0 ∧ b = 0 := by
  by_cases q : a = 0
  · subst q; exact ⟨rfl, by simpa using h⟩
  · rw [if_pos (by simpa using q)] at h; exact absurd h q
theorem gt5 {n m : Int} {x : Int} (h : (if decide (n > m) then 5 else x) = 0) : n ≤ m ∧ x = 0 := by
  by_cases q : n > m
  · rw [if_pos (by simpa using q)] at h; cases h
  · rw [if_neg (by simpa using q)] at h; exact ⟨by omega, h⟩
theorem mem_get {α : Type} [Inhabited α] {l : List α} {x : α} (h : x ∈ l) : ∃ i, i < l.length ∧ l.getD i default = x := by
  obtain ⟨i, hi, e⟩ := List.mem_iff_getElem.1 h
  exact ⟨i, hi, by rw [List.getD_eq_getElem?_getD, List.getElem?_eq_getElem hi, e]; rfl⟩
theorem ru_ok {r : Ru} (h : chkR r = 0) : RuOK r := by
  unfold chkR at h
  obtain ⟨h1, h2⟩ := ite_z h
  obtain ⟨-, h3⟩ := scan_zero h2
  obtain ⟨hl, h4⟩ := gt5 h3
  obtain ⟨hT, h5⟩ := scan_zero h4
  obtain ⟨h6, -⟩ := ite_z h5
  unfold e1 at h1
  rw [first_zero, first_zero] at h1
  have p := sp_ok h1.1
  unfold e4 at h6
  rw [first_zero, within_zero] at h6
  refine ⟨p.1, p.2.1, p.2.2, by omega, fun t ht => ?_, h6.1⟩
  obtain ⟨i, hi, rfl⟩ := mem_get ht
  have h7 := hT i hi
  unfold fT at h7
  rw [first_zero, first_zero, first_zero, first_zero, within_zero, within_zero] at h7
  exact ⟨h7.2.2.1, h7.2.2.2.1⟩
theorem mv_ok {r : Ru} {l : List Mv} (h : chkMR r l = 0) : chkR r = 0 ∧ (RuOK r ∧ ∀ m, m ∈ l → MvOK r m) ∧ l.length ≤ 256 := by
  unfold chkMR at h
  obtain ⟨h1, h2⟩ := ite_z h
  rw [first_zero, first_zero] at h1
  have hl := when_z (by decide) h1.2.1
  simp only [decide_eq_false_iff_not] at hl
  refine ⟨h1.1, ⟨ru_ok h1.1, fun m hm => ?_⟩, by omega⟩
  obtain ⟨i, hi, rfl⟩ := mem_get hm
  have h7 := (scan_zero h2).1 i hi
  unfold fMv at h7
  rw [first_zero, first_zero, first_zero, first_zero, first_zero, first_zero, within_zero, within_zero] at h7
  obtain ⟨-, -, -, h8, h9, h10, -⟩ := h7
  have h8 := when_z (by decide) h8
  rw [← not_found] at h8
  exact ⟨by simpa using h8, h9, h10⟩
theorem co_eq {r : Ru} {m : Mv} (hR : RuOK r) (hM : MvOK r m) : coOf (dtOf r m) = rCo r m := by
  have e : (dtOf r m).dk = wiR r.a r.b m.mi := has_wi hR.a hR.b hR.n (by have := hM.m; omega)
  unfold coOf rCo
  rw [e]
  rfl
theorem fe_eq {r : Ru} {m : Mv} (hR : RuOK r) (hM : MvOK r m) : feOf (dtOf r m) = rFe r m := by
  have e : (dtOf r m).dk = wiR r.a r.b m.mi := has_wi hR.a hR.b hR.n (by have := hM.m; omega)
  unfold feOf rFe
  rw [e]
  rfl
theorem cs_eq {r : Ru} {l : List Mv} (h : RuOK r ∧ ∀ m, m ∈ l → MvOK r m) : csM r l = l.map (rCo r) := by
  unfold csM
  rw [List.map_map]
  exact List.map_congr_left fun m hm => co_eq h.1 (h.2 m hm)
theorem fs_eq {r : Ru} {l : List Mv} (h : RuOK r ∧ ∀ m, m ∈ l → MvOK r m) : fsM r l = l.map (rFe r) := by
  unfold fsM
  rw [List.map_map]
  exact List.map_congr_left fun m hm => fe_eq h.1 (h.2 m hm)
theorem tp_in {r : Ru} {m : Mv} (hM : MvOK r m) : tpAt r.ts m.ty ∈ r.ts := by
  rw [tpAt, if_pos hM.t]
  exact getD_mem hM.t
theorem co_bd {r : Ru} {m : Mv} (hR : RuOK r) (hM : MvOK r m) : 0 ≤ rCo r m ∧ rCo r m ≤ 64 := by
  have h := (hR.k _ (tp_in hM)).1
  unfold rCo
  split
  · omega
  · exact h
theorem sum_bd {l : List Int} {b : Int} (hb : 0 ≤ b ∧ b ≤ 1000000000) (hl : l.length ≤ 1000) (h : ∀ x, x ∈ l → 0 ≤ x ∧ x ≤ b) : ∀ i, i ≤ l.length → (0 ≤ sumW l i ∧ sumW l i ≤ b * i) ∧ ∀ j, j < i → sumW l (j + 1) = sumW l j + l.getD j default
  | 0, _ => ⟨by simp [sumW], by intros; omega⟩
  | i + 1, hi => by
    obtain ⟨⟨h1, h2⟩, h3⟩ := sum_bd hb hl h i (by omega)
    have h4 := h _ (getD_mem (show i < l.length by omega))
    have h5 : b * (i : Int) ≤ 1000000000 * 1000 := Int.mul_le_mul hb.2 (by omega) (by omega) (by omega)
    have e : sumW l (i + 1) = sumW l i + l.getD i default := wrap_in (by unfold In64; omega)
    refine ⟨?_, fun j hj => ?_⟩
    · rw [e, Int.natCast_add, Int.mul_add]
      refine ⟨by omega, ?_⟩
      have : b * ((1 : Nat) : Int) = b := by omega
      omega
    · by_cases q : j = i
      · rw [q]; exact e
      · exact h3 j (by omega)
theorem getD_map {α β : Type} [Inhabited α] [Inhabited β] {f : α → β} {l : List α} {i : Nat} (h : i < l.length) : (l.map f).getD i default = f (l.getD i default) := by
  rw [List.getD_eq_getElem?_getD, List.getD_eq_getElem?_getD, List.getElem?_map, List.getElem?_eq_getElem h]
  rfl
theorem le_eq {r : Ru} {l : List Mv} (h : RuOK r ∧ ∀ m, m ∈ l → MvOK r m) (hl : l.length ≤ 1000) : sLe r l = leW r l l.length ∧ sLe r l = r.q - sSum (l.map (rCo r)) ∧ (0 ≤ sSum (l.map (rCo r)) ∧ sSum (l.map (rCo r)) ≤ 64000) := by
  have hb : ∀ x, x ∈ l.map (rCo r) → 0 ≤ x ∧ x ≤ 64 := fun x hx => by
    obtain ⟨m, hm, rfl⟩ := List.mem_map.1 hx
    exact co_bd h.1 (h.2 m hm)
  have hlm : (l.map (rCo r)).length = l.length := List.length_map _
  have hs := fun i hi => sum_bd (b := 64) (by omega) (by omega) hb i hi
  have hq := h.1.q
  have key : ∀ i, i ≤ l.length → leW r l i = r.q - sumW (l.map (rCo r)) i := fun i => by
    induction i with
    | zero => intro _; simp [leW, sumW]
    | succ i ih =>
      intro hi
      have h1 := hs (i + 1) (by omega)
      have h2 := h1.2 i (by omega)
      have h3 := (hs i (by omega)).1
      rw [getD_map (by omega)] at h2
      have h4 := co_bd h.1 (h.2 _ (getD_mem (show i < l.length by omega)))
      rw [leW, ih (by omega), wrap_in (by unfold In64; omega), h2]
      omega
  have h1 := (hs l.length (by omega)).1
  have e : sLe r l = r.q - sSum (l.map (rCo r)) := by
    unfold sLe
    rw [cs_eq h]
    refine wrap_in ?_
    unfold sSum
    rw [hlm]
    unfold In64
    omega
  refine ⟨?_, e, ?_⟩
  · rw [e, key _ (Nat.le_refl _)]
    unfold sSum
    rw [hlm]
  · unfold sSum
    rw [hlm]
    omega
theorem sp_eq {r : Ru} {l : List Mv} (h : RuOK r ∧ ∀ m, m ∈ l → MvOK r m) (hl : l.length ≤ 1000) (x y : Int) : spD x y (l.map (dtOf r)) l.length = spW r x y l l.length ∧ (0 ≤ spW r x y l l.length ∧ spW r x y l l.length ≤ 64000) := by
  have key : ∀ i, i ≤ l.length → spD x y (l.map (dtOf r)) i = spW r x y l i ∧ (0 ≤ spW r x y l i ∧ spW r x y l i ≤ 64 * i) := fun i => by
    induction i with
    | zero => intro _; exact ⟨rfl, by simp [spW]⟩
    | succ i ih =>
      intro hi
      obtain ⟨h1, h2, h3⟩ := ih (by omega)
      have hm := h.2 _ (getD_mem (show i < l.length by omega))
      have hc := co_bd h.1 hm
      have ec := co_eq h.1 hm
      have ew : (dtOf r (l.getD i default)).dk = wiR r.a r.b (l.getD i default).mi := has_wi h.1.a h.1.b h.1.n (by have := hm.m; omega)
      rw [spD, spW, getD_map (show i < l.length by omega), h1, ec]
      have hn : In64 (spW r x y l i) := by unfold In64; omega
      have hn2 : In64 (spW r x y l i + rCo r (l.getD i default)) := by unfold In64; omega
      rw [wrap_in hn2]
      have e1 : inR r x y (l.getD i default) = (wiR r.a r.b (l.getD i default).mi && inD x y (dtOf r (l.getD i default))) := by
        unfold inR inD
        show _ = (_ && if decide (niI r.a r.b (l.getD i default).day (l.getD i default).mi ≥ x) = true then decide (niI r.a r.b (l.getD i default).day (l.getD i default).mi < y) else false)
        cases wiR r.a r.b (l.getD i default).mi <;> simp
      rw [e1]
      have c0 : wiR r.a r.b (l.getD i default).mi = false → rCo r (l.getD i default) = 0 := fun hw => by unfold rCo; rw [hw]; rfl
      cases hw : wiR r.a r.b (l.getD i default).mi with
      | false =>
        rw [c0 hw]
        simp only [Bool.false_and, Bool.false_eq_true, if_false, Int.add_zero, ite_self]
        exact ⟨trivial, h2, by omega⟩
      | true =>
        simp only [Bool.true_and]
        refine ⟨trivial, ?_⟩
        split <;> omega
  have := key l.length (Nat.le_refl _)
  exact ⟨this.1, this.2.1, by omega⟩
end Go.Proofs.YtimgfogakgakhaaGreatDoor
-- ENC encRu 18 [AV.i X.a, AV.i X.b, AV.i X.c, AV.i X.d, AV.sl 3 (List.map encTp X.ts), AV.i X.q, AV.sl 1 (List.map encS X.rs), AV.i X.dl, AV.i X.fi, AV.i X.ra, AV.int IntKind.u8 X.k0, AV.int IntKind.u8 X.k1, AV.int IntKind.u8 X.k2, AV.int IntKind.u8 X.k3, AV.int IntKind.u8 X.k4, AV.int IntKind.u8 X.k5, AV.int IntKind.u8 X.k6, AV.int IntKind.u8 X.k7]
-- ENC encMv 5 [AV.str X.fl, AV.str X.al, AV.str X.ty, AV.i X.day, AV.i X.mi]
-- ENC encDt 10 [AV.str X.m.fl, AV.str X.m.al, AV.str X.m.ty, AV.i X.m.day, AV.i X.m.mi, AV.str X.k.n, AV.i X.k.c, AV.i X.k.f, AV.bool X.dk, AV.i X.ni]
namespace Go.Proofs.YtimgfogakgakhaaGreatDoor
open Go Go.Av Go.RowKit
def cs4 (r : Ru) (l : List Mv) : List Int := if chkMR r l == 0 then l.map (rCo r) else []
def fs4 (r : Ru) (l : List Mv) : List Int := if chkMR r l == 0 then l.map (rFe r) else []
def eSr (r : Ru) (l : List Mv) (x y : Int) : Int := sFirst [chkMR r l, sWhen (if decide (x < 0) then true else decide (x > y)) 14]
def sp4v (r : Ru) (l : List Mv) (x y : Int) : Int := if eSr r l x y == 0 then spW r x y l l.length else 0
def le4 (r : Ru) (l : List Mv) : Int := if chkMR r l == 0 then leW r l l.length else 0
structure Sh (r : Ru) (l : List Mv) : Prop where
  t : r.ts.length ≤ 1000
  s : r.rs.length ≤ 1000
  n : ∀ t, t ∈ r.ts → t.n.length ≤ 1000
  m : ∀ s, s ∈ r.rs → s.length ≤ 1000
  k : l.length ≤ 1000
  v : ∀ m, m ∈ l → m.fl.length ≤ 1000 ∧ m.al.length ≤ 1000
theorem sh_mv {r : Ru} {l : List Mv} (h : shR r = true) (h2 : shM l = true) : Sh r l := by
  obtain ⟨a, b, c, d⟩ := sh_of h
  unfold shM at h2
  by_cases q : (if decide ((l.length : Int) > 12) = true then (l.length : Int) != 257 else false) = true
  · rw [if_pos q] at h2; cases h2
  · rw [if_neg q] at h2
    refine ⟨by omega, by omega, c, d, ?_, fun m hm => ?_⟩
    · by_cases q2 : decide ((l.length : Int) > 12) = true
      · rw [if_pos q2] at q
        simp only [bne_iff_ne, ne_eq, Classical.not_not] at q
        omega
      · simp only [decide_eq_true_eq] at q2
        omega
    · have := List.all_eq_true.1 h2 m hm
      unfold okM at this
      by_cases q1 : (m.fl.length : Int) > 40
      · rw [decide_eq_true q1] at this; simp at this
      · by_cases q2 : (m.al.length : Int) > 40
        · rw [decide_eq_true q2] at this; simp at this
        · exact ⟨by omega, by omega⟩
theorem c42r {r : Ru} {l : List Mv} (h : Sh r l) : PCall Tryz.prog G0 42 [.agg (encRu r), .sl 5 (l.map encMv)] (.i (chkMR r l)) := by
  have := c42 r l h.t h.s h.n h.m h.k h.v
  rw [chkM_eq] at this
  exact this
theorem hKr {r : Ru} {l : List Mv} (h : chkMS r l = 0) : RuOK r ∧ ∀ m, m ∈ l → MvOK r m := (mv_ok (chkM_eq r l ▸ h)).2.1
theorem c31r {r : Ru} {l : List Mv} (h : Sh r l) : PCall Tryz.prog G0 31 [.agg (encRu r), .sl 5 (l.map encMv)] (.tup [.sl 1 ((cs4 r l).map encI), .i (chkMR r l)]) := by
  have := c31 r l h.t h.s h.n h.m h.k h.v hKr
  rw [chkM_eq] at this
  cases q : (chkMR r l == 0) with
  | true =>
    rw [if_neg (nbne_beq q), cs_eq (mv_ok (by simpa using q)).2.1] at this
    rw [cs4, if_pos q]
    exact this
  | false =>
    rw [if_pos (bne_beq q)] at this
    rw [cs4, if_neg (by rw [q]; decide)]
    exact this
theorem c33r {r : Ru} {l : List Mv} (h : Sh r l) : PCall Tryz.prog G0 33 [.agg (encRu r), .sl 5 (l.map encMv)] (.tup [.sl 1 ((fs4 r l).map encI), .i (chkMR r l)]) := by
  have := c33 r l h.t h.s h.n h.m h.k h.v hKr
  rw [chkM_eq] at this
  cases q : (chkMR r l == 0) with
  | true =>
    rw [if_neg (nbne_beq q), fs_eq (mv_ok (by simpa using q)).2.1] at this
    rw [fs4, if_pos q]
    exact this
  | false =>
    rw [if_pos (bne_beq q)] at this
    rw [fs4, if_neg (by rw [q]; decide)]
    exact this
theorem eS_chk {r : Ru} {l : List Mv} {x y : Int} (h : eSr r l x y = 0) : chkMR r l = 0 := by
  unfold eSr at h
  rw [first_zero] at h
  exact h.1
theorem c34r {r : Ru} {l : List Mv} (x y : Int) (h : Sh r l) : PCall Tryz.prog G0 34 [.agg (encRu r), .sl 5 (l.map encMv), .agg [.i x, .i y]] (.tup [.i (sp4v r l x y), .i (eSr r l x y)]) := by
  have := c34 r l x y h.t h.s h.n h.m h.k h.v hKr
  rw [show eSp r l x y = eSr r l x y by unfold eSp eSr; rw [chkM_eq]] at this
  cases q : (eSr r l x y == 0) with
  | true =>
    rw [if_neg (nbne_beq q), (sp_eq (mv_ok (eS_chk (by simpa using q))).2.1 h.k x y).1] at this
    rw [sp4v, if_pos q]
    exact this
  | false =>
    rw [if_pos (bne_beq q)] at this
    rw [sp4v, if_neg (by rw [q]; decide)]
    exact this
theorem c35r {r : Ru} {l : List Mv} (h : Sh r l) : PCall Tryz.prog G0 35 [.agg (encRu r), .sl 5 (l.map encMv)] (.tup [.i (le4 r l), .i (chkMR r l)]) := by
  have := c35 r l h.t h.s h.n h.m h.k h.v hKr
  rw [chkM_eq] at this
  cases q : (chkMR r l == 0) with
  | true =>
    rw [if_neg (nbne_beq q), (le_eq (mv_ok (by simpa using q)).2.1 h.k).1] at this
    rw [le4, if_pos q]
    exact this
  | false =>
    rw [if_pos (bne_beq q)] at this
    rw [le4, if_neg (by rw [q]; decide)]
    exact this
def sp4 (r : Ru) (l : List Mv) (x y : Int) : Nat → List AV → Option AV
  | 16, _ => some (.bool true)
  | 17, _ => some (.bool (shR r))
  | 30, _ => some (.bool (shM l))
  | 21, _ => some (.agg (encRu r))
  | 32, _ => some (.sl 5 (l.map encMv))
  | 31, _ => some (.tup [.sl 1 ((cs4 r l).map encI), .i (chkMR r l)])
  | 33, _ => some (.tup [.sl 1 ((fs4 r l).map encI), .i (chkMR r l)])
  | 34, _ => some (.tup [.i (sp4v r l x y), .i (eSr r l x y)])
  | 35, _ => some (.tup [.i (le4 r l), .i (chkMR r l)])
  | 36, _ => some (.i (chkMR r l))
  | 42, _ => some (.i (chkMR r l))
  | 43, _ => some (.bool true)
  | 38, [_, .agg c] => some (.i (rCo r (decMv c)))
  | 39, [_, .agg c] => some (.i (rFe r (decMv c)))
  | 40, _ => some (.i (leW r l l.length))
  | 41, _ => some (.i (spW r x y l l.length))
  | n, w => spS n w
def b4 (r : Ru) (l : List Mv) (x y : Int) : List (Nat × AV) := [(1, .sl 5 (l.map encMv)), (3, .elt 18 [encRu r] 0 0), (5, .elt 2 [[.i x, .i y]] 0 0), (6, .bool false)]
def w4 (r : Ru) (l : List Mv) (x y : Int) : List (Nat × AV) := [(7, .sl 1 ((cs4 r l).map encI)), (8, .i (chkMR r l)), (9, .sl 1 ((fs4 r l).map encI)), (10, .i (chkMR r l)), (11, .i (sp4v r l x y)), (12, .i (eSr r l x y)), (13, .i (le4 r l)), (14, .i (chkMR r l)), (15, .i (chkMR r l)), (16, .i (eSr r l x y))]
def bs4 (a b : List (List AV)) : BL := [(1, .buf 3 1 a), (2, .buf 3 1 b)]
def mb (g : List GS) (l : List (Nat × AV)) (bs : BL) : Option (List GS × AS) := some (g ++ [.keep (l.map (·.1)) (bs.map (·.1)), .bound (bs.length + 1)], ⟨l, bs, bs.length + 1⟩)
def m4 (r : Ru) (l : List Mv) (x y : Int) : List (Option (List GS × AS)) :=
  let B := b4 r l x y
  let W := w4 r l x y
  let V := B ++ W
  let O : List (Nat × AV) := [(17, .own 1 0), (18, .own 2 0)]
  let S : List (Nat × AV) := [(17, .sl 1 ((cs4 r l).map encI)), (18, .sl 1 ((fs4 r l).map encI))]
  [md [] B, md [] (B ++ [(33, .bool false)]), md [] B, md [] (B ++ W.take 2), md [] (B ++ W.take 4), md [] (B ++ W.take 6), md [] (B ++ W.take 8), md [] (B ++ W.take 9), md [] V,
   mb [.own 17 3 1, .own 18 3 1, .reno 17 1, .reno 18 2] (V ++ O) (bs4 [] []), mb [] (V ++ O ++ [(19, .i 0), (20, .i 0)]) (bs4 [] []), mb [] (V ++ O ++ [(19, .i 0), (20, .i 0), (86, .bool (chkMR r l == 0))]) (bs4 [] []),
   md [.frzo 17, .frzo 18] (V ++ S ++ [(19, .i 0), (20, .i (le4 r l))]),
   md [] (V ++ S ++ [(19, .i 0), (20, .i (le4 r l)), (115, .bool (eSr r l x y == 0))]),
   md [] (V ++ S ++ [(19, .i (sp4v r l x y)), (20, .i (le4 r l))])]
def f4 (r : Ru) (l : List Mv) (x y : Int) : List (Option (List GS × AS)) := [md [] (b4 r l x y), md [] (b4 r l x y ++ [(33, .bool true)])]
def la4 (r : Ru) (l : List Mv) (x y : Int) : LA :=
  let K : List GS := [.reno 17 1, .reno 18 2, .keep [1, 3, 5, 6, 7, 8, 9, 10, 11, 12, 13, 14, 15, 16, 17, 18, 19, 20, 88, 89] [1, 2], .bound 3]
  { pre := K, post := K
    Gh := Nat
    st := fun i => ⟨b4 r l x y ++ w4 r l x y ++ [(17, .own 1 (((l.take i).map (rCo r)).map encI).length), (18, .own 2 (((l.take i).map (rFe r)).map encI).length), (19, .i 0), (20, .i 0), (88, .i (l.map encMv).length), (89, .i i)], bs4 (((l.take i).map (rCo r)).map encI) (((l.take i).map (rFe r)).map encI), 3⟩
    ok := fun i => i ≤ (l.map encMv).length
    ms := fun i => (l.map encMv).length - i }
def cl4 : Operand → Bool
  | .tmp t => t.beq 33
  | _ => false
def rds4 : List (Nat × Nat × (List AV → Option AV)) := [(15, 5, rdT), (20, 6, rdT), (20, 15, rdT), (20, 25, rdT), (20, 30, rdT), (20, 35, rdT), (20, 40, rdT), (20, 45, rdT)]
def B4 (r : Ru) (l : List Mv) (x y : Int) (q : List (Nat × Nat × (List AV → Option AV))) : BA := { noSym 1 (noSym 20 (fzB (mkB (sp4 r l x y) 4 (q ++ (15, 5, rdL 5 encMv l 5 true) :: (15, 14, rdL 5 encMv l 5 true) :: rds4.drop 1) (fun i => if i.beq 0 then some (la4 r l x y) else none)))) with cl := cl4 }
theorem ok0 {r : Ru} {l : List Mv} (h : (chkMR r l == 0) = true) : RuOK r ∧ ∀ m, m ∈ l → MvOK r m := (mv_ok (by simpa using h)).2.1
theorem fe64 {r : Ru} {l : List Mv} (h : RuOK r ∧ ∀ m, m ∈ l → MvOK r m) {m : Mv} (hm : m ∈ l) : In64 (2 * (tpAt r.ts m.ty).f) := fe_in h (dtOf r m) (List.mem_map.2 ⟨m, hm, rfl⟩)
theorem c43s (l : List Int) (h : l.length ≤ 1000) : PCall Tryz.prog G0 43 [.sl 1 (l.map encI), .sl 1 (l.map encI)] (.bool true) := by
  have := c43 l l h
  rw [beq_self_eq_true] at this
  exact this
theorem if_len {α : Type} {b : Bool} {l : List α} {n : Nat} (h : l.length ≤ n) : (if b = true then l else []).length ≤ n := by
  cases b
  · exact Nat.zero_le _
  · exact h
theorem c4_0 (r : Ru) (l : List Mv) (x y : Int) (hA : PCall Tryz.prog G0 16 [] (.bool true)) (hl : r.ts.length ≤ maxLen) (hm : r.rs.length ≤ maxLen) (hn : l.length ≤ maxLen) (h0 : (!shR r) = true) : PCall Tryz.prog G0 4 [.agg (encRu r), .sl 5 (l.map encMv), .agg [.i x, .i y]] (.bool true) := by
  have key :
   AS.mk [(1, AV.sl 5 (List.map encMv l)), (3, AV.elt 18 [(encRu r)] 0 0), (5, AV.elt 2 [[AV.i x, AV.i y]] 0 0), (6, AV.bool false)] [] 1 = AS.mk [(1, AV.sl 5 (List.map encMv l)), (3, AV.elt 18 [(encRu r)] 0 0), (5, AV.elt 2 [[AV.i x,
   AV.i y]] 0 0), (6, AV.bool false)] [] 1 ∧ ((true = false → false = true) ∧ PCall Tryz.prog G0 16 [] (AV.bool true) ∧ PCall Tryz.prog G0 17 [AV.agg (encRu r)] (AV.bool (shR r)) ∧ (AV.bool !shR r) = AV.bool true ∧ AS.mk [(1, AV.sl 5
   (List.map encMv l)), (3, AV.elt 18 [(encRu r)] 0 0), (5, AV.elt 2 [[AV.i x, AV.i y]] 0 0), (6, AV.bool false), (33, AV.bool true)] [] 1 = AS.mk [(1, AV.sl 5 (List.map encMv l)), (3, AV.elt 18 [(encRu r)] 0 0), (5, AV.elt 2 [[AV.i
   x, AV.i y]] 0 0), (6, AV.bool false), (33, AV.bool true)] [] 1) ∧ PCall Tryz.prog G0 16 [] (AV.bool true) ∧ AV.bool true = AV.bool true := by
    exact ⟨rfl, ⟨fun h => by first | exact h | (rw [h]; rfl) | simp_all, hA, (c17 r hl hm), congrArg AV.bool h0, rfl⟩, hA, rfl⟩
  exact c_ofG Tryz.f4 (B4 r l x y [(1, 5, rdT)]) (f4 r l x y) (by kernel_rfl) (by kernel_rfl) (by kernel_rfl) (by kernel_rfl) key (by kernel_rfl)
theorem c4_1 (r : Ru) (l : List Mv) (x y : Int) (hA : PCall Tryz.prog G0 16 [] (.bool true)) (hl : r.ts.length ≤ maxLen) (hm : r.rs.length ≤ maxLen) (hn : l.length ≤ maxLen) (h0 : (!shR r) = false) (h1' : (!shM l) = true) : PCall Tryz.prog G0 4 [.agg (encRu r), .sl 5 (l.map encMv), .agg [.i x, .i y]] (.bool true) := by
  have key :
   AS.mk [(1, AV.sl 5 (List.map encMv l)), (3, AV.elt 18 [(encRu r)] 0 0), (5, AV.elt 2 [[AV.i x, AV.i y]] 0 0), (6, AV.bool false)] [] 1 = AS.mk [(1, AV.sl 5 (List.map encMv l)), (3, AV.elt 18 [(encRu r)] 0 0), (5, AV.elt 2 [[AV.i x,
   AV.i y]] 0 0), (6, AV.bool false)] [] 1 ∧ (PCall Tryz.prog G0 16 [] (AV.bool true) ∧ PCall Tryz.prog G0 17 [AV.agg (encRu r)] (AV.bool (shR r)) ∧ (AV.bool !shR r) = AV.bool false ∧ PCall Tryz.prog G0 30 [AV.sl 5 (List.map encMv l)]
   (AV.bool (shM l)) ∧ (AV.bool !shM l) = AV.bool true ∧ AS.mk [(1, AV.sl 5 (List.map encMv l)), (3, AV.elt 18 [(encRu r)] 0 0), (5, AV.elt 2 [[AV.i x, AV.i y]] 0 0), (6, AV.bool false), (33, AV.bool true)] [] 1 = AS.mk [(1, AV.sl 5
   (List.map encMv l)), (3, AV.elt 18 [(encRu r)] 0 0), (5, AV.elt 2 [[AV.i x, AV.i y]] 0 0), (6, AV.bool false), (33, AV.bool true)] [] 1) ∧ PCall Tryz.prog G0 16 [] (AV.bool true) ∧ AV.bool true = AV.bool true := by
    exact ⟨rfl, ⟨hA, (c17 r hl hm), congrArg AV.bool h0, (c30 l hn), congrArg AV.bool h1', rfl⟩, hA, rfl⟩
  exact c_ofG Tryz.f4 (B4 r l x y [(1, 5, rdF), (1, 10, rdT)]) (f4 r l x y) (by kernel_rfl) (by kernel_rfl) (by kernel_rfl) (by kernel_rfl) key (by kernel_rfl)
theorem c4_ok (r : Ru) (l : List Mv) (x y : Int) (hA : PCall Tryz.prog G0 16 [] (.bool true)) (hl : r.ts.length ≤ maxLen) (hm : r.rs.length ≤ maxLen) (hn : l.length ≤ maxLen) (h0 : (!shR r) = false) (h1' : (!shM l) = false) : PCall Tryz.prog G0 4 [.agg (encRu r), .sl 5 (l.map encMv), .agg [.i x, .i y]] (.bool true) := by
  have key :
   AS.mk [(1, AV.sl 5 (List.map encMv l)), (3, AV.elt 18 [(encRu r)] 0 0), (5, AV.elt 2 [[AV.i x, AV.i y]] 0 0), (6, AV.bool false)] [] 1 = AS.mk [(1, AV.sl 5 (List.map encMv l)), (3, AV.elt 18 [(encRu r)] 0 0), (5, AV.elt 2 [[AV.i x,
   AV.i y]] 0 0), (6, AV.bool false)] [] 1 ∧ (PCall Tryz.prog G0 16 [] (AV.bool true) ∧ PCall Tryz.prog G0 17 [AV.agg (encRu r)] (AV.bool (shR r)) ∧ (AV.bool !shR r) = AV.bool false ∧ PCall Tryz.prog G0 30 [AV.sl 5 (List.map encMv l)]
   (AV.bool (shM l)) ∧ (AV.bool !shM l) = AV.bool false ∧ AS.mk [(1, AV.sl 5 (List.map encMv l)), (3, AV.elt 18 [(encRu r)] 0 0), (5, AV.elt 2 [[AV.i x, AV.i y]] 0 0), (6, AV.bool false), (33, AV.bool false)] [] 1 = AS.mk [(1, AV.sl 5
   (List.map encMv l)), (3, AV.elt 18 [(encRu r)] 0 0), (5, AV.elt 2 [[AV.i x, AV.i y]] 0 0), (6, AV.bool false), (33, AV.bool false)] [] 1) ∧ AS.mk [(1, AV.sl 5 (List.map encMv l)), (3, AV.elt 18 [(encRu r)] 0 0), (5, AV.elt 2 [[AV.i
   x, AV.i y]] 0 0), (6, AV.bool false)] [] 1 = AS.mk [(1, AV.sl 5 (List.map encMv l)), (3, AV.elt 18 [(encRu r)] 0 0), (5, AV.elt 2 [[AV.i x, AV.i y]] 0 0), (6, AV.bool false)] [] 1 ∧ (PCall Tryz.prog G0 21 [AV.agg (encRu r)] (AV.agg
   (encRu r)) ∧ PCall Tryz.prog G0 32 [AV.sl 5 (List.map encMv l)] (AV.sl 5 (List.map encMv l)) ∧ PCall Tryz.prog G0 31 [AV.agg (encRu r), AV.sl 5 (List.map encMv l)] (AV.tup [AV.sl 1 (List.map encI (cs4 r l)), AV.i (chkMR r l)]) ∧
   AS.mk [(1, AV.sl 5 (List.map encMv l)), (3, AV.elt 18 [(encRu r)] 0 0), (5, AV.elt 2 [[AV.i x, AV.i y]] 0 0), (6, AV.bool false), (7, AV.sl 1 (List.map encI (cs4 r l))), (8, AV.i (chkMR r l))] [] 1 = AS.mk [(1, AV.sl 5 (List.map
   encMv l)), (3, AV.elt 18 [(encRu r)] 0 0), (5, AV.elt 2 [[AV.i x, AV.i y]] 0 0), (6, AV.bool false), (7, AV.sl 1 (List.map encI (cs4 r l))), (8, AV.i (chkMR r l))] [] 1) ∧ (PCall Tryz.prog G0 21 [AV.agg (encRu r)] (AV.agg (encRu
   r)) ∧ PCall Tryz.prog G0 32 [AV.sl 5 (List.map encMv l)] (AV.sl 5 (List.map encMv l)) ∧ PCall Tryz.prog G0 33 [AV.agg (encRu r), AV.sl 5 (List.map encMv l)] (AV.tup [AV.sl 1 (List.map encI (fs4 r l)), AV.i (chkMR r l)]) ∧ AS.mk
   [(1, AV.sl 5 (List.map encMv l)), (3, AV.elt 18 [(encRu r)] 0 0), (5, AV.elt 2 [[AV.i x, AV.i y]] 0 0), (6, AV.bool false), (7, AV.sl 1 (List.map encI (cs4 r l))), (8, AV.i (chkMR r l)), (9, AV.sl 1 (List.map encI (fs4 r l))), (10,
   AV.i (chkMR r l))] [] 1 = AS.mk [(1, AV.sl 5 (List.map encMv l)), (3, AV.elt 18 [(encRu r)] 0 0), (5, AV.elt 2 [[AV.i x, AV.i y]] 0 0), (6, AV.bool false), (7, AV.sl 1 (List.map encI (cs4 r l))), (8, AV.i (chkMR r l)), (9, AV.sl 1
   (List.map encI (fs4 r l))), (10, AV.i (chkMR r l))] [] 1) ∧ (PCall Tryz.prog G0 21 [AV.agg (encRu r)] (AV.agg (encRu r)) ∧ PCall Tryz.prog G0 32 [AV.sl 5 (List.map encMv l)] (AV.sl 5 (List.map encMv l)) ∧ PCall Tryz.prog G0 34
   [AV.agg (encRu r), AV.sl 5 (List.map encMv l), AV.agg [AV.i x, AV.i y]] (AV.tup [AV.i (sp4v r l x y), AV.i (eSr r l x y)]) ∧ AS.mk [(1, AV.sl 5 (List.map encMv l)), (3, AV.elt 18 [(encRu r)] 0 0), (5, AV.elt 2 [[AV.i x, AV.i y]] 0
   0), (6, AV.bool false), (7, AV.sl 1 (List.map encI (cs4 r l))), (8, AV.i (chkMR r l)), (9, AV.sl 1 (List.map encI (fs4 r l))), (10, AV.i (chkMR r l)), (11, AV.i (sp4v r l x y)), (12, AV.i (eSr r l x y))] [] 1 = AS.mk [(1, AV.sl 5
   (List.map encMv l)), (3, AV.elt 18 [(encRu r)] 0 0), (5, AV.elt 2 [[AV.i x, AV.i y]] 0 0), (6, AV.bool false), (7, AV.sl 1 (List.map encI (cs4 r l))), (8, AV.i (chkMR r l)), (9, AV.sl 1 (List.map encI (fs4 r l))), (10, AV.i (chkMR
   r l)), (11, AV.i (sp4v r l x y)), (12, AV.i (eSr r l x y))] [] 1) ∧ (PCall Tryz.prog G0 21 [AV.agg (encRu r)] (AV.agg (encRu r)) ∧ PCall Tryz.prog G0 32 [AV.sl 5 (List.map encMv l)] (AV.sl 5 (List.map encMv l)) ∧ PCall Tryz.prog G0
   35 [AV.agg (encRu r), AV.sl 5 (List.map encMv l)] (AV.tup [AV.i (le4 r l), AV.i (chkMR r l)]) ∧ AS.mk [(1, AV.sl 5 (List.map encMv l)), (3, AV.elt 18 [(encRu r)] 0 0), (5, AV.elt 2 [[AV.i x, AV.i y]] 0 0), (6, AV.bool false), (7,
   AV.sl 1 (List.map encI (cs4 r l))), (8, AV.i (chkMR r l)), (9, AV.sl 1 (List.map encI (fs4 r l))), (10, AV.i (chkMR r l)), (11, AV.i (sp4v r l x y)), (12, AV.i (eSr r l x y)), (13, AV.i (le4 r l)), (14, AV.i (chkMR r l))] [] 1 =
   AS.mk [(1, AV.sl 5 (List.map encMv l)), (3, AV.elt 18 [(encRu r)] 0 0), (5, AV.elt 2 [[AV.i x, AV.i y]] 0 0), (6, AV.bool false), (7, AV.sl 1 (List.map encI (cs4 r l))), (8, AV.i (chkMR r l)), (9, AV.sl 1 (List.map encI (fs4 r
   l))), (10, AV.i (chkMR r l)), (11, AV.i (sp4v r l x y)), (12, AV.i (eSr r l x y)), (13, AV.i (le4 r l)), (14, AV.i (chkMR r l))] [] 1) ∧ (PCall Tryz.prog G0 36 [AV.agg (encRu r), AV.sl 5 (List.map encMv l)] (AV.i (chkMR r l)) ∧
   AS.mk [(1, AV.sl 5 (List.map encMv l)), (3, AV.elt 18 [(encRu r)] 0 0), (5, AV.elt 2 [[AV.i x, AV.i y]] 0 0), (6, AV.bool false), (7, AV.sl 1 (List.map encI (cs4 r l))), (8, AV.i (chkMR r l)), (9, AV.sl 1 (List.map encI (fs4 r
   l))), (10, AV.i (chkMR r l)), (11, AV.i (sp4v r l x y)), (12, AV.i (eSr r l x y)), (13, AV.i (le4 r l)), (14, AV.i (chkMR r l)), (15, AV.i (chkMR r l))] [] 1 = AS.mk [(1, AV.sl 5 (List.map encMv l)), (3, AV.elt 18 [(encRu r)] 0 0),
   (5, AV.elt 2 [[AV.i x, AV.i y]] 0 0), (6, AV.bool false), (7, AV.sl 1 (List.map encI (cs4 r l))), (8, AV.i (chkMR r l)), (9, AV.sl 1 (List.map encI (fs4 r l))), (10, AV.i (chkMR r l)), (11, AV.i (sp4v r l x y)), (12, AV.i (eSr r l
   x y)), (13, AV.i (le4 r l)), (14, AV.i (chkMR r l)), (15, AV.i (chkMR r l))] [] 1) ∧ (((!decide (x < 0)) = true → (!decide (x < 0)) = true) ∧ ((!decide (x < 0)) = true → (!decide (x < 0)) = true) ∧ ((!decide (x < 0)) = true →
   (!decide (x < 0)) = true) ∧ ((!decide (x < 0)) = true → (!decide (x < 0)) = true) ∧ (decide (x < 0) = false → (!decide (x < 0)) = true) ∧ PCall Tryz.prog G0 37 [AV.bool (if decide (x < 0) = true then true else decide (x > y)), AV.i
   14] (AV.i (sWhen (if decide (x < 0) = true then true else decide (x > y)) (14 : Int))) ∧ PCall Tryz.prog G0 24 [AV.sl 1 [[AV.i (chkMR r l)], [AV.i (sWhen (if decide (x < 0) = true then true else decide (x > y)) (14 : Int))]]] (AV.i
   (sFirst [hdI [AV.i (chkMR r l)], hdI [AV.i (sWhen (if decide (x < 0) = true then true else decide (x > y)) (14 : Int))]])) ∧ AS.mk [(1, AV.sl 5 (List.map encMv l)), (3, AV.elt 18 [(encRu r)] 0 0), (5, AV.elt 2 [[AV.i x, AV.i y]] 0
   0), (6, AV.bool false), (7, AV.sl 1 (List.map encI (cs4 r l))), (8, AV.i (chkMR r l)), (9, AV.sl 1 (List.map encI (fs4 r l))), (10, AV.i (chkMR r l)), (11, AV.i (sp4v r l x y)), (12, AV.i (eSr r l x y)), (13, AV.i (le4 r l)), (14,
   AV.i (chkMR r l)), (15, AV.i (chkMR r l)), (16, AV.i (sFirst [hdI [AV.i (chkMR r l)], hdI [AV.i (sWhen (if decide (x < 0) = true then true else decide (x > y)) (14 : Int))]]))] [] 1 = AS.mk [(1, AV.sl 5 (List.map encMv l)), (3,
   AV.elt 18 [(encRu r)] 0 0), (5, AV.elt 2 [[AV.i x, AV.i y]] 0 0), (6, AV.bool false), (7, AV.sl 1 (List.map encI (cs4 r l))), (8, AV.i (chkMR r l)), (9, AV.sl 1 (List.map encI (fs4 r l))), (10, AV.i (chkMR r l)), (11, AV.i (sp4v r
   l x y)), (12, AV.i (eSr r l x y)), (13, AV.i (le4 r l)), (14, AV.i (chkMR r l)), (15, AV.i (chkMR r l)), (16, AV.i (eSr r l x y))] [] 1) ∧ AS.mk [(1, AV.sl 5 (List.map encMv l)), (3, AV.elt 18 [(encRu r)] 0 0), (5, AV.elt 2 [[AV.i
   x, AV.i y]] 0 0), (6, AV.bool false), (7, AV.sl 1 (List.map encI (cs4 r l))), (8, AV.i (chkMR r l)), (9, AV.sl 1 (List.map encI (fs4 r l))), (10, AV.i (chkMR r l)), (11, AV.i (sp4v r l x y)), (12, AV.i (eSr r l x y)), (13, AV.i
   (le4 r l)), (14, AV.i (chkMR r l)), (15, AV.i (chkMR r l)), (16, AV.i (eSr r l x y)), (17, AV.own 1 0), (18, AV.own 2 0)] [(1, ABlk.buf 3 1 []), (2, ABlk.buf 3 1 [])] 3 = AS.mk [(1, AV.sl 5 (List.map encMv l)), (3, AV.elt 18
   [(encRu r)] 0 0), (5, AV.elt 2 [[AV.i x, AV.i y]] 0 0), (6, AV.bool false), (7, AV.sl 1 (List.map encI (cs4 r l))), (8, AV.i (chkMR r l)), (9, AV.sl 1 (List.map encI (fs4 r l))), (10, AV.i (chkMR r l)), (11, AV.i (sp4v r l x y)),
   (12, AV.i (eSr r l x y)), (13, AV.i (le4 r l)), (14, AV.i (chkMR r l)), (15, AV.i (chkMR r l)), (16, AV.i (eSr r l x y)), (17, AV.own 1 0), (18, AV.own 2 0)] [(1, ABlk.buf 3 1 []), (2, ABlk.buf 3 1 [])] 3 ∧ AS.mk [(1, AV.sl 5
   (List.map encMv l)), (3, AV.elt 18 [(encRu r)] 0 0), (5, AV.elt 2 [[AV.i x, AV.i y]] 0 0), (6, AV.bool false), (7, AV.sl 1 (List.map encI (cs4 r l))), (8, AV.i (chkMR r l)), (9, AV.sl 1 (List.map encI (fs4 r l))), (10, AV.i (chkMR
   r l)), (11, AV.i (sp4v r l x y)), (12, AV.i (eSr r l x y)), (13, AV.i (le4 r l)), (14, AV.i (chkMR r l)), (15, AV.i (chkMR r l)), (16, AV.i (eSr r l x y)), (17, AV.own 1 0), (18, AV.own 2 0), (19, AV.i 0), (20, AV.i 0)] [(1,
   ABlk.buf 3 1 []), (2, ABlk.buf 3 1 [])] 3 = AS.mk [(1, AV.sl 5 (List.map encMv l)), (3, AV.elt 18 [(encRu r)] 0 0), (5, AV.elt 2 [[AV.i x, AV.i y]] 0 0), (6, AV.bool false), (7, AV.sl 1 (List.map encI (cs4 r l))), (8, AV.i (chkMR r
   l)), (9, AV.sl 1 (List.map encI (fs4 r l))), (10, AV.i (chkMR r l)), (11, AV.i (sp4v r l x y)), (12, AV.i (eSr r l x y)), (13, AV.i (le4 r l)), (14, AV.i (chkMR r l)), (15, AV.i (chkMR r l)), (16, AV.i (eSr r l x y)), (17, AV.own 1
   0), (18, AV.own 2 0), (19, AV.i 0), (20, AV.i 0)] [(1, ABlk.buf 3 1 []), (2, ABlk.buf 3 1 [])] 3 ∧ AS.mk [(1, AV.sl 5 (List.map encMv l)), (3, AV.elt 18 [(encRu r)] 0 0), (5, AV.elt 2 [[AV.i x, AV.i y]] 0 0), (6, AV.bool false),
   (7, AV.sl 1 (List.map encI (cs4 r l))), (8, AV.i (chkMR r l)), (9, AV.sl 1 (List.map encI (fs4 r l))), (10, AV.i (chkMR r l)), (11, AV.i (sp4v r l x y)), (12, AV.i (eSr r l x y)), (13, AV.i (le4 r l)), (14, AV.i (chkMR r l)), (15,
   AV.i (chkMR r l)), (16, AV.i (eSr r l x y)), (17, AV.own 1 0), (18, AV.own 2 0), (19, AV.i 0), (20, AV.i 0), (86, AV.bool (chkMR r l == 0))] [(1, ABlk.buf 3 1 []), (2, ABlk.buf 3 1 [])] 3 = AS.mk [(1, AV.sl 5 (List.map encMv l)),
   (3, AV.elt 18 [(encRu r)] 0 0), (5, AV.elt 2 [[AV.i x, AV.i y]] 0 0), (6, AV.bool false), (7, AV.sl 1 (List.map encI (cs4 r l))), (8, AV.i (chkMR r l)), (9, AV.sl 1 (List.map encI (fs4 r l))), (10, AV.i (chkMR r l)), (11, AV.i
   (sp4v r l x y)), (12, AV.i (eSr r l x y)), (13, AV.i (le4 r l)), (14, AV.i (chkMR r l)), (15, AV.i (chkMR r l)), (16, AV.i (eSr r l x y)), (17, AV.own 1 0), (18, AV.own 2 0), (19, AV.i 0), (20, AV.i 0), (86, AV.bool (chkMR r l ==
   0))] [(1, ABlk.buf 3 1 []), (2, ABlk.buf 3 1 [])] 3 ∧ (((chkMR r l == 0) = true → (∃ (g : Nat), g ≤ (List.map encMv l).length ∧ AS.mk [(1, AV.sl 5 (List.map encMv l)), (3, AV.elt 18 [(encRu r)] 0 0), (5, AV.elt 2 [[AV.i x, AV.i y]]
   0 0), (6, AV.bool false), (7, AV.sl 1 (List.map encI (cs4 r l))), (8, AV.i (chkMR r l)), (9, AV.sl 1 (List.map encI (fs4 r l))), (10, AV.i (chkMR r l)), (11, AV.i (sp4v r l x y)), (12, AV.i (eSr r l x y)), (13, AV.i (le4 r l)),
   (14, AV.i (chkMR r l)), (15, AV.i (chkMR r l)), (16, AV.i (eSr r l x y)), (17, AV.own 1 0), (18, AV.own 2 0), (19, AV.i 0), (20, AV.i 0), (88, AV.i (↑(List.map encMv l).length : Int)), (89, AV.i 0)] [(1, ABlk.buf 3 1 []), (2,
   ABlk.buf 3 1 [])] 3 = AS.mk [(1, AV.sl 5 (List.map encMv l)), (3, AV.elt 18 [(encRu r)] 0 0), (5, AV.elt 2 [[AV.i x, AV.i y]] 0 0), (6, AV.bool false), (7, AV.sl 1 (List.map encI (cs4 r l))), (8, AV.i (chkMR r l)), (9, AV.sl 1
   (List.map encI (fs4 r l))), (10, AV.i (chkMR r l)), (11, AV.i (sp4v r l x y)), (12, AV.i (eSr r l x y)), (13, AV.i (le4 r l)), (14, AV.i (chkMR r l)), (15, AV.i (chkMR r l)), (16, AV.i (eSr r l x y)), (17, AV.own 1 (List.map encI
   (List.map (rCo r) (List.take g l))).length), (18, AV.own 2 (List.map encI (List.map (rFe r) (List.take g l))).length), (19, AV.i 0), (20, AV.i 0), (88, AV.i (↑(List.map encMv l).length : Int)), (89, AV.i (↑g : Int))] [(1, ABlk.buf
   3 1 (List.map encI (List.map (rCo r) (List.take g l)))), (2, ABlk.buf 3 1 (List.map encI (List.map (rFe r) (List.take g l))))] 3) ∧ ∀ (g : Nat), g ≤ (List.map encMv l).length → (decide ((↑g : Int) < (↑(List.map encMv l).length :
   Int)) = true → (0 : Int) ≤ (↑g : Int) ∧ (↑g : Int) < (↑(List.map encMv l).length : Int) ∧ (List.map encI (List.map (rCo r) (List.take g l))).length + 1 ≤ 9223372036854775807 ∧ ((List.map encI (List.map (rCo r) (List.take g
   l))).length + 1) * 8 ≤ 140737488355328 ∧ (0 : Int) ≤ (↑g : Int) ∧ (↑g : Int) < (↑(List.map encMv l).length : Int) ∧ (List.map encI (List.map (rFe r) (List.take g l))).length + 1 ≤ 9223372036854775807 ∧ ((List.map encI (List.map
   (rFe r) (List.take g l))).length + 1) * 8 ≤ 140737488355328 ∧ AV.agg (nthR (List.map encMv l) (↑g : Int).toNat) = AV.agg (encMv (l.getD (↑g : Int).toNat default)) ∧ PCall Tryz.prog G0 38 [AV.agg (encRu r), AV.agg (encMv (l.getD (↑g
   : Int).toNat default))] (AV.i (rCo r (decMv (encMv (l.getD (↑g : Int).toNat default))))) ∧ AV.agg (nthR (List.map encMv l) (↑g : Int).toNat) = AV.agg (encMv (l.getD (↑g : Int).toNat default)) ∧ PCall Tryz.prog G0 39 [AV.agg (encRu
   r), AV.agg (encMv (l.getD (↑g : Int).toNat default))] (AV.i (rFe r (decMv (encMv (l.getD (↑g : Int).toNat default))))) ∧ In64 ((↑g : Int) + 1) ∧ ∃ (g' : Nat), g' ≤ (List.map encMv l).length ∧ (List.map encMv l).length - g' <
   (List.map encMv l).length - g ∧ AS.mk [(1, AV.sl 5 (List.map encMv l)), (3, AV.elt 18 [(encRu r)] 0 0), (5, AV.elt 2 [[AV.i x, AV.i y]] 0 0), (6, AV.bool false), (7, AV.sl 1 (List.map encI (cs4 r l))), (8, AV.i (chkMR r l)), (9,
   AV.sl 1 (List.map encI (fs4 r l))), (10, AV.i (chkMR r l)), (11, AV.i (sp4v r l x y)), (12, AV.i (eSr r l x y)), (13, AV.i (le4 r l)), (14, AV.i (chkMR r l)), (15, AV.i (chkMR r l)), (16, AV.i (eSr r l x y)), (17, AV.own 1
   ((List.map encI (List.map (rCo r) (List.take g l))).length + 1)), (18, AV.own 2 ((List.map encI (List.map (rFe r) (List.take g l))).length + 1)), (19, AV.i 0), (20, AV.i 0), (88, AV.i (↑(List.map encMv l).length : Int)), (89, AV.i
   ((↑g : Int) + 1))] [(1, ABlk.buf 3 1 (List.map encI (List.map (rCo r) (List.take g l)) ++ [[AV.i (rCo r (decMv (encMv (l.getD (↑g : Int).toNat default))))]])), (2, ABlk.buf 3 1 (List.map encI (List.map (rFe r) (List.take g l)) ++
   [[AV.i (rFe r (decMv (encMv (l.getD (↑g : Int).toNat default))))]]))] 3 = AS.mk [(1, AV.sl 5 (List.map encMv l)), (3, AV.elt 18 [(encRu r)] 0 0), (5, AV.elt 2 [[AV.i x, AV.i y]] 0 0), (6, AV.bool false), (7, AV.sl 1 (List.map encI
   (cs4 r l))), (8, AV.i (chkMR r l)), (9, AV.sl 1 (List.map encI (fs4 r l))), (10, AV.i (chkMR r l)), (11, AV.i (sp4v r l x y)), (12, AV.i (eSr r l x y)), (13, AV.i (le4 r l)), (14, AV.i (chkMR r l)), (15, AV.i (chkMR r l)), (16,
   AV.i (eSr r l x y)), (17, AV.own 1 (List.map encI (List.map (rCo r) (List.take g' l))).length), (18, AV.own 2 (List.map encI (List.map (rFe r) (List.take g' l))).length), (19, AV.i 0), (20, AV.i 0), (88, AV.i (↑(List.map encMv
   l).length : Int)), (89, AV.i (↑g' : Int))] [(1, ABlk.buf 3 1 (List.map encI (List.map (rCo r) (List.take g' l)))), (2, ABlk.buf 3 1 (List.map encI (List.map (rFe r) (List.take g' l))))] 3) ∧ (decide ((↑g : Int) < (↑(List.map encMv
   l).length : Int)) = false → PCall Tryz.prog G0 40 [AV.agg (encRu r), AV.sl 5 (List.map encMv l)] (AV.i (leW r l l.length)) ∧ AS.mk [(1, AV.sl 5 (List.map encMv l)), (3, AV.elt 18 [(encRu r)] 0 0), (5, AV.elt 2 [[AV.i x, AV.i y]] 0
   0), (6, AV.bool false), (7, AV.sl 1 (List.map encI (cs4 r l))), (8, AV.i (chkMR r l)), (9, AV.sl 1 (List.map encI (fs4 r l))), (10, AV.i (chkMR r l)), (11, AV.i (sp4v r l x y)), (12, AV.i (eSr r l x y)), (13, AV.i (le4 r l)), (14,
   AV.i (chkMR r l)), (15, AV.i (chkMR r l)), (16, AV.i (eSr r l x y)), (17, AV.sl 1 (List.map encI (List.map (rCo r) (List.take g l)))), (18, AV.sl 1 (List.map encI (List.map (rFe r) (List.take g l)))), (19, AV.i 0), (20, AV.i (leW r
   l l.length))] [] 1 = AS.mk [(1, AV.sl 5 (List.map encMv l)), (3, AV.elt 18 [(encRu r)] 0 0), (5, AV.elt 2 [[AV.i x, AV.i y]] 0 0), (6, AV.bool false), (7, AV.sl 1 (List.map encI (cs4 r l))), (8, AV.i (chkMR r l)), (9, AV.sl 1
   (List.map encI (fs4 r l))), (10, AV.i (chkMR r l)), (11, AV.i (sp4v r l x y)), (12, AV.i (eSr r l x y)), (13, AV.i (le4 r l)), (14, AV.i (chkMR r l)), (15, AV.i (chkMR r l)), (16, AV.i (eSr r l x y)), (17, AV.sl 1 (List.map encI
   (cs4 r l))), (18, AV.sl 1 (List.map encI (fs4 r l))), (19, AV.i 0), (20, AV.i (le4 r l))] [] 1)) ∧ ((chkMR r l == 0) = false → AS.mk [(1, AV.sl 5 (List.map encMv l)), (3, AV.elt 18 [(encRu r)] 0 0), (5, AV.elt 2 [[AV.i x, AV.i y]]
   0 0), (6, AV.bool false), (7, AV.sl 1 (List.map encI (cs4 r l))), (8, AV.i (chkMR r l)), (9, AV.sl 1 (List.map encI (fs4 r l))), (10, AV.i (chkMR r l)), (11, AV.i (sp4v r l x y)), (12, AV.i (eSr r l x y)), (13, AV.i (le4 r l)),
   (14, AV.i (chkMR r l)), (15, AV.i (chkMR r l)), (16, AV.i (eSr r l x y)), (17, AV.sl 1 []), (18, AV.sl 1 []), (19, AV.i 0), (20, AV.i 0)] [] 1 = AS.mk [(1, AV.sl 5 (List.map encMv l)), (3, AV.elt 18 [(encRu r)] 0 0), (5, AV.elt 2
   [[AV.i x, AV.i y]] 0 0), (6, AV.bool false), (7, AV.sl 1 (List.map encI (cs4 r l))), (8, AV.i (chkMR r l)), (9, AV.sl 1 (List.map encI (fs4 r l))), (10, AV.i (chkMR r l)), (11, AV.i (sp4v r l x y)), (12, AV.i (eSr r l x y)), (13,
   AV.i (le4 r l)), (14, AV.i (chkMR r l)), (15, AV.i (chkMR r l)), (16, AV.i (eSr r l x y)), (17, AV.sl 1 (List.map encI (cs4 r l))), (18, AV.sl 1 (List.map encI (fs4 r l))), (19, AV.i 0), (20, AV.i (le4 r l))] [] 1)) ∧ AS.mk [(1,
   AV.sl 5 (List.map encMv l)), (3, AV.elt 18 [(encRu r)] 0 0), (5, AV.elt 2 [[AV.i x, AV.i y]] 0 0), (6, AV.bool false), (7, AV.sl 1 (List.map encI (cs4 r l))), (8, AV.i (chkMR r l)), (9, AV.sl 1 (List.map encI (fs4 r l))), (10, AV.i
   (chkMR r l)), (11, AV.i (sp4v r l x y)), (12, AV.i (eSr r l x y)), (13, AV.i (le4 r l)), (14, AV.i (chkMR r l)), (15, AV.i (chkMR r l)), (16, AV.i (eSr r l x y)), (17, AV.sl 1 (List.map encI (cs4 r l))), (18, AV.sl 1 (List.map encI
   (fs4 r l))), (19, AV.i 0), (20, AV.i (le4 r l)), (115, AV.bool (eSr r l x y == 0))] [] 1 = AS.mk [(1, AV.sl 5 (List.map encMv l)), (3, AV.elt 18 [(encRu r)] 0 0), (5, AV.elt 2 [[AV.i x, AV.i y]] 0 0), (6, AV.bool false), (7, AV.sl
   1 (List.map encI (cs4 r l))), (8, AV.i (chkMR r l)), (9, AV.sl 1 (List.map encI (fs4 r l))), (10, AV.i (chkMR r l)), (11, AV.i (sp4v r l x y)), (12, AV.i (eSr r l x y)), (13, AV.i (le4 r l)), (14, AV.i (chkMR r l)), (15, AV.i
   (chkMR r l)), (16, AV.i (eSr r l x y)), (17, AV.sl 1 (List.map encI (cs4 r l))), (18, AV.sl 1 (List.map encI (fs4 r l))), (19, AV.i 0), (20, AV.i (le4 r l)), (115, AV.bool (eSr r l x y == 0))] [] 1 ∧ (((eSr r l x y == 0) = true →
   PCall Tryz.prog G0 41 [AV.agg (encRu r), AV.sl 5 (List.map encMv l), AV.agg [AV.i x, AV.i y]] (AV.i (spW r x y l l.length)) ∧ AS.mk [(1, AV.sl 5 (List.map encMv l)), (3, AV.elt 18 [(encRu r)] 0 0), (5, AV.elt 2 [[AV.i x, AV.i y]] 0
   0), (6, AV.bool false), (7, AV.sl 1 (List.map encI (cs4 r l))), (8, AV.i (chkMR r l)), (9, AV.sl 1 (List.map encI (fs4 r l))), (10, AV.i (chkMR r l)), (11, AV.i (sp4v r l x y)), (12, AV.i (eSr r l x y)), (13, AV.i (le4 r l)), (14,
   AV.i (chkMR r l)), (15, AV.i (chkMR r l)), (16, AV.i (eSr r l x y)), (17, AV.sl 1 (List.map encI (cs4 r l))), (18, AV.sl 1 (List.map encI (fs4 r l))), (19, AV.i (spW r x y l l.length)), (20, AV.i (le4 r l))] [] 1 = AS.mk [(1, AV.sl
   5 (List.map encMv l)), (3, AV.elt 18 [(encRu r)] 0 0), (5, AV.elt 2 [[AV.i x, AV.i y]] 0 0), (6, AV.bool false), (7, AV.sl 1 (List.map encI (cs4 r l))), (8, AV.i (chkMR r l)), (9, AV.sl 1 (List.map encI (fs4 r l))), (10, AV.i
   (chkMR r l)), (11, AV.i (sp4v r l x y)), (12, AV.i (eSr r l x y)), (13, AV.i (le4 r l)), (14, AV.i (chkMR r l)), (15, AV.i (chkMR r l)), (16, AV.i (eSr r l x y)), (17, AV.sl 1 (List.map encI (cs4 r l))), (18, AV.sl 1 (List.map encI
   (fs4 r l))), (19, AV.i (sp4v r l x y)), (20, AV.i (le4 r l))] [] 1) ∧ ((eSr r l x y == 0) = false → AS.mk [(1, AV.sl 5 (List.map encMv l)), (3, AV.elt 18 [(encRu r)] 0 0), (5, AV.elt 2 [[AV.i x, AV.i y]] 0 0), (6, AV.bool false),
   (7, AV.sl 1 (List.map encI (cs4 r l))), (8, AV.i (chkMR r l)), (9, AV.sl 1 (List.map encI (fs4 r l))), (10, AV.i (chkMR r l)), (11, AV.i (sp4v r l x y)), (12, AV.i (eSr r l x y)), (13, AV.i (le4 r l)), (14, AV.i (chkMR r l)), (15,
   AV.i (chkMR r l)), (16, AV.i (eSr r l x y)), (17, AV.sl 1 (List.map encI (cs4 r l))), (18, AV.sl 1 (List.map encI (fs4 r l))), (19, AV.i 0), (20, AV.i (le4 r l))] [] 1 = AS.mk [(1, AV.sl 5 (List.map encMv l)), (3, AV.elt 18 [(encRu
   r)] 0 0), (5, AV.elt 2 [[AV.i x, AV.i y]] 0 0), (6, AV.bool false), (7, AV.sl 1 (List.map encI (cs4 r l))), (8, AV.i (chkMR r l)), (9, AV.sl 1 (List.map encI (fs4 r l))), (10, AV.i (chkMR r l)), (11, AV.i (sp4v r l x y)), (12, AV.i
   (eSr r l x y)), (13, AV.i (le4 r l)), (14, AV.i (chkMR r l)), (15, AV.i (chkMR r l)), (16, AV.i (eSr r l x y)), (17, AV.sl 1 (List.map encI (cs4 r l))), (18, AV.sl 1 (List.map encI (fs4 r l))), (19, AV.i (sp4v r l x y)), (20, AV.i
   (le4 r l))] [] 1)) ∧ PCall Tryz.prog G0 21 [AV.agg (encRu r)] (AV.agg (encRu r)) ∧ PCall Tryz.prog G0 32 [AV.sl 5 (List.map encMv l)] (AV.sl 5 (List.map encMv l)) ∧ PCall Tryz.prog G0 42 [AV.agg (encRu r), AV.sl 5 (List.map encMv
   l)] (AV.i (chkMR r l)) ∧ AV.bool (chkMR r l == chkMR r l) = AV.bool true ∧ PCall Tryz.prog G0 43 [AV.sl 1 (List.map encI (cs4 r l)), AV.sl 1 (List.map encI (cs4 r l))] (AV.bool true) ∧ AV.bool (chkMR r l == chkMR r l) = AV.bool
   true ∧ PCall Tryz.prog G0 43 [AV.sl 1 (List.map encI (fs4 r l)), AV.sl 1 (List.map encI (fs4 r l))] (AV.bool true) ∧ AV.bool (chkMR r l == chkMR r l) = AV.bool true ∧ AV.bool (sp4v r l x y == sp4v r l x y) = AV.bool true ∧ AV.bool
   (eSr r l x y == eSr r l x y) = AV.bool true ∧ AV.bool (le4 r l == le4 r l) = AV.bool true ∧ AV.bool (chkMR r l == chkMR r l) = AV.bool true ∧ AV.bool true = AV.bool true := by
    have hS : Sh r l := sh_mv (by simpa using h0) (by simpa using h1')
    have hlk := hS.k
    have hlm : (List.map encMv l).length = l.length := List.length_map _
    refine ⟨rfl, ⟨hA, (c17 r hl hm), congrArg AV.bool h0, (c30 l hn), congrArg AV.bool h1', rfl⟩, rfl, ⟨(c21 r hS.t hS.s), ((c32 l hS.k).un), (c31r hS), rfl⟩, ⟨(c21 r hS.t hS.s), ((c32 l hS.k).un), (c33r hS), rfl⟩, ⟨(c21 r hS.t hS.s), ((c32 l hS.k).un), (c34r _ _ hS), rfl⟩, ⟨(c21 r hS.t hS.s), ((c32 l hS.k).un), (c35r hS), rfl⟩, ⟨(c36 r l hS.t hS.s hS.n hS.m hS.k hS.v), rfl⟩, ⟨fun h => h, fun h => h, fun h => h, fun h => h, fun h => by first | exact h | (rw [h]; rfl) | simp_all, (c37 _ _), (c24 [_, _] (by simp)), ?_⟩, rfl, rfl, rfl, ⟨fun h1 => ⟨⟨0, by omega, rfl⟩, fun g hg => ⟨fun hd => ?_, fun hd => ?_⟩⟩, fun h1 => ?_⟩, rfl, ⟨fun h1 => ⟨(c41 r l x y (ok0 (by rw [eS_chk (by simpa using h1)]; rfl)).1 (ok0 (by rw [eS_chk (by simpa using h1)]; rfl)).2 hS.k), ?_⟩, fun h1 => ?_⟩, (c21 r hS.t hS.s), ((c32 l hS.k).un), (c42r hS), congrArg AV.bool (beq_self_eq_true _), (c43s _ (if_len (by rw [List.length_map]; exact hS.k))), congrArg AV.bool (beq_self_eq_true _), (c43s _ (if_len (by rw [List.length_map]; exact hS.k))), congrArg AV.bool (beq_self_eq_true _), congrArg AV.bool (beq_self_eq_true _), congrArg AV.bool (beq_self_eq_true _), congrArg AV.bool (beq_self_eq_true _), congrArg AV.bool (beq_self_eq_true _), rfl⟩
    · trivial --HOLE 1
    · have hlt : g < l.length := by have h9 := of_decide_eq_true hd; have h8 := hg; (try simp only [List.length_map] at h8); (try simp only [List.length_map] at h9); omega
      have : (List.map encI (List.map (rCo r) (List.take g l))).length = g := by simp only [List.length_map, List.length_take]; omega
      have : (List.map encI (List.map (rFe r) (List.take g l))).length = g := by simp only [List.length_map, List.length_take]; omega
      refine ⟨(by omega), (by omega), (by omega), (by omega), (by omega), (by omega), (by omega), (by omega), congrArg AV.agg (row_at encMv hlt), (c38 r _ hS.t ((ok0 h1).2 _ (getD_mem hlt)).t), congrArg AV.agg (row_at encMv hlt), (c39 r _ hS.t ((ok0 h1).2 _ (getD_mem hlt)).t (fe64 (ok0 h1) (getD_mem hlt))), (by unfold In64; omega), ⟨g + 1, by omega, by omega, ?_⟩⟩
      · rw [← take_succ_map encI (rCo r) hlt, ← take_succ_map encI (rFe r) hlt, List.length_append, List.length_append]; rfl
    · have hge : g = l.length := by have h9 := of_decide_eq_false hd; have h8 := hg; (try simp only [List.length_map] at h8); (try simp only [List.length_map] at h9); omega
      subst hge
      refine ⟨(c40 r l (ok0 h1).1 (ok0 h1).2 hS.k), ?_⟩
      · rw [cs4, if_pos h1, fs4, if_pos h1, le4, if_pos h1, List.take_length]
    · rw [cs4, if_neg (by rw [h1]; decide), fs4, if_neg (by rw [h1]; decide), le4, if_neg (by rw [h1]; decide)]; rfl
    · rw [sp4v, if_pos h1]
    · rw [sp4v, if_neg (by rw [h1]; decide)]
  exact c_ofG Tryz.f4 (B4 r l x y [(1, 5, rdF), (1, 10, rdF)]) (m4 r l x y) (by kernel_rfl) (by kernel_rfl) (by kernel_rfl) (by kernel_rfl) key (by kernel_rfl)
theorem c4 (r : Ru) (l : List Mv) (x y : Int) (hA : PCall Tryz.prog G0 16 [] (.bool true)) (hl : r.ts.length ≤ maxLen) (hm : r.rs.length ≤ maxLen) (hn : l.length ≤ maxLen) : PCall Tryz.prog G0 4 [.agg (encRu r), .sl 5 (l.map encMv), .agg [.i x, .i y]] (.bool true) := by
  cases h0 : (!shR r) with
  | true => exact c4_0 r l x y hA hl hm hn h0
  | false => cases h1 : (!shM l) with
    | true => exact c4_1 r l x y hA hl hm hn h0 h1
    | false => exact c4_ok r l x y hA hl hm hn h0 h1
end Go.Proofs.YtimgfogakgakhaaGreatDoor
namespace Go.Proofs.YtimgfogakgakhaaGreatDoor
open Go Go.Av Go.RowKit
theorem or_f {a b : Bool} (h : (if a = true then true else b) = false) : a = false ∧ b = false := by
  cases a <;> simp_all
theorem nor_t {x : Bool} (h : (!x) = true) : x = false := by simpa using h
theorem off_sum {a b : Int} (ha : 0 ≤ a ∧ a < 1440) (hb : 0 ≤ b ∧ b < 1440) (hab : a ≠ b) : offM a b + offM b a = 1440 ∧ 1 ≤ offM a b ∧ 1 ≤ offM b a := by
  have h1 := off_eq ha hb
  have h2 := off_eq hb ha
  by_cases c : b ≥ a
  · have := h1.1 c; have := h2.2 (by omega); omega
  · have := h1.2 (by omega); have := h2.1 (by omega); omega
theorem wi_back {a b m : Int} (ha : 0 ≤ a ∧ a < 1440) (hb : 0 ≤ b ∧ b < 1440) (hab : a ≠ b) (hm : 0 ≤ m ∧ m < 1440) : (wiR a b m == wiR b a m) = false := by
  unfold wiR
  by_cases c1 : a < b <;> by_cases c2 : b < a <;> by_cases c3 : m ≥ a <;> by_cases c4 : m < b <;> by_cases c5 : m ≥ b <;> by_cases c6 : m < a
  all_goals first
    | (exfalso; omega)
    | (simp only [c1, c2, c3, c4, c5, c6, decide_true, decide_false, if_true, if_false, Bool.false_eq_true]; rfl)
theorem sp_z {a b : Int} (ha : 0 ≤ a ∧ a < 1440) (hb : 0 ≤ b ∧ b < 1440) (hab : a ≠ b) : sSp a b = 0 := by
  unfold sSp
  rw [decide_eq_false (show ¬ a < 0 by omega), decide_eq_false (show ¬ a ≥ 1440 by omega), decide_eq_false (show ¬ b < 0 by omega), decide_eq_false (show ¬ b ≥ 1440 by omega), beq_false_of_ne hab]
  rfl
theorem within_z {x lo hi : Int} (h : lo ≤ x ∧ x ≤ hi) : sWithin x lo hi = 0 := within_zero.2 h
theorem c18v {a b m : Int} (ha : 0 ≤ a ∧ a < 1440) (hb : 0 ≤ b ∧ b < 1440) (hab : a ≠ b) (hm : 0 ≤ m ∧ m < 1440) : PCall Tryz.prog G0 18 [.agg [.i a, .i b], .i m] (.tup [.bool (wiR a b m), .i 0]) := by
  have h := c18 a b m
  have e : sFirst [sSp a b, sWithin m 0 1439] = 0 := by rw [sp_z ha hb hab, within_z (by omega)]; rfl
  rw [rWi, e, if_neg (by decide), has_wi ha hb hab hm] at h
  exact h
theorem c19v {a b : Int} (ha : 0 ≤ a ∧ a < 1440) (hb : 0 ≤ b ∧ b < 1440) (hab : a ≠ b) : PCall Tryz.prog G0 19 [.agg [.i a, .i b]] (.tup [.i (offM a b), .i 0]) := by
  have h := c19 a b
  rw [rLe, sp_z ha hb hab, if_neg (by decide)] at h
  exact h
theorem c20v {r : Ru} {l : List Mv} (hS : Sh r l) (h0 : chkMR r l = 0) {day m : Int} (hd : 1 ≤ day ∧ day ≤ 100000) (hm : 0 ≤ m ∧ m ≤ 1439) : PCall Tryz.prog G0 20 [.agg (encRu r), .i day, .i m] (.tup [.i (if wiR r.a r.b m = true then niI r.a r.b day m else 0), .i (if wiR r.a r.b m = true then 0 else 7)]) := by
  have h := c20 r day m hS.t hS.s hS.n hS.m
  have hR := (mv_ok h0).2.1.1
  have e : eNi r day m = 0 := by unfold eNi; rw [chk_eq, (mv_ok h0).1, within_z hd, within_z hm]; rfl
  rw [rNi, xNi, e, if_neg (show ¬ ((0 : Int) != 0) = true by decide), if_neg (show ¬ ((0 : Int) != 0) = true by decide), has_wi hR.a hR.b hR.n (by omega)] at h
  cases hw : wiR r.a r.b m with
  | true => rw [hw] at h; exact h
  | false => rw [hw] at h; exact h
theorem c31v {r : Ru} {l : List Mv} (hS : Sh r l) (h0 : chkMR r l = 0) : PCall Tryz.prog G0 31 [.agg (encRu r), .sl 5 (l.map encMv)] (.tup [.sl 1 ((l.map (rCo r)).map encI), .i 0]) := by
  have h := c31r hS
  rw [h0, cs4, h0, if_pos (by rfl)] at h
  exact h
theorem c34v {r : Ru} {l : List Mv} (hS : Sh r l) (h0 : chkMR r l = 0) {x y : Int} (hx : 0 ≤ x) (hy : x ≤ y) : PCall Tryz.prog G0 34 [.agg (encRu r), .sl 5 (l.map encMv), .agg [.i x, .i y]] (.tup [.i (spW r x y l l.length), .i 0]) := by
  have h := c34r x y hS
  have e : eSr r l x y = 0 := by unfold eSr; rw [h0, decide_eq_false (show ¬ x < 0 by omega), decide_eq_false (show ¬ x > y by omega)]; rfl
  rw [e, sp4v, e, if_pos (by rfl)] at h
  exact h
theorem sumW_take {l : List Int} : ∀ {i k : Nat}, i ≤ k → sumW (l.take k) i = sumW l i
  | 0, _, _ => rfl
  | i + 1, k, h => by
    rw [sumW, sumW, sumW_take (by omega), List.getD_eq_getElem?_getD, List.getD_eq_getElem?_getD, List.getElem?_take, if_pos (by omega)]
theorem chk_take {r : Ru} {l : List Mv} (h : chkMR r l = 0) (k : Nat) (hk : k ≤ l.length) : chkMR r (l.take k) = 0 := by
  have hm := mv_ok h
  unfold chkMR at h ⊢
  obtain ⟨h1, h2⟩ := ite_z h
  have hl : (l.take k).length = k := by rw [List.length_take]; omega
  have e : sFirst [chkR r, sWhen (decide (((l.take k).length : Int) > 256)) 5] = 0 := by
    rw [hm.1, hl, decide_eq_false (show ¬ (k : Int) > 256 by have := hm.2.2; omega)]; rfl
  rw [e, if_neg (by decide), hl]
  have := (scan_zero h2).1
  rw [scan_end]
  intro i hi
  rw [← this i (by omega)]
  unfold fMv
  have e2 : (l.take k).getD i default = l.getD i default := by rw [List.getD_eq_getElem?_getD, List.getD_eq_getElem?_getD, List.getElem?_take, if_pos hi]
  rw [e2, fiI_congr (p := pM (l.take k) _) (q := pM l _) (fun j hj => pM_take (by omega))]
theorem sh_take {r : Ru} {l : List Mv} (h : Sh r l) (k : Nat) : Sh r (l.take k) :=
  ⟨h.t, h.s, h.n, h.m, by rw [List.length_take]; have := h.k; omega, fun m hm => h.v m (List.mem_of_mem_take hm)⟩
theorem co_sum {r : Ru} {l : List Mv} (h : RuOK r ∧ ∀ m, m ∈ l → MvOK r m) (hl : l.length ≤ 1000) : ∀ i, i ≤ l.length → (0 ≤ sumW (l.map (rCo r)) i ∧ sumW (l.map (rCo r)) i ≤ 64 * i) ∧ ∀ j, j < i → sumW (l.map (rCo r)) (j + 1) = sumW (l.map (rCo r)) j + rCo r (l.getD j default) := fun i hi => by
  have hlm : (l.map (rCo r)).length = l.length := List.length_map _
  have := sum_bd (l := l.map (rCo r)) (b := 64) (by omega) (by omega) (fun x hx => by
    obtain ⟨m, hm, rfl⟩ := List.mem_map.1 hx
    exact co_bd h.1 (h.2 m hm)) i (by omega)
  refine ⟨this.1, fun j hj => ?_⟩
  rw [this.2 j hj, getD_map (by omega)]
theorem c35v {r : Ru} {l : List Mv} (hS : Sh r l) (h0 : chkMR r l = 0) : PCall Tryz.prog G0 35 [.agg (encRu r), .sl 5 (l.map encMv)] (.tup [.i (r.q - sumW (l.map (rCo r)) l.length), .i 0]) := by
  have h := c35r hS
  have e := le_eq (mv_ok h0).2.1 hS.k
  rw [h0, le4, h0, if_pos (by rfl), ← e.1, e.2.1] at h
  unfold sSum at h
  rw [List.length_map] at h
  exact h
theorem c35t {r : Ru} {l : List Mv} (hS : Sh r l) (h0 : chkMR r l = 0) {k : Nat} (hk : k ≤ l.length) : PCall Tryz.prog G0 35 [.agg (encRu r), .sl 5 ((l.take k).map encMv)] (.tup [.i (r.q - sumW (l.map (rCo r)) k), .i 0]) := by
  have h := c35v (sh_take hS k) (chk_take h0 k hk)
  rw [List.length_take, Nat.min_eq_left hk, show (l.take k).map (rCo r) = (l.map (rCo r)).take k from List.map_take, sumW_take (Nat.le_refl _)] at h
  exact h
theorem sp_split {r : Ru} {l : List Mv} (h : RuOK r ∧ ∀ m, m ∈ l → MvOK r m) (hl : l.length ≤ 1000) {x y z : Int} (hxy : x ≤ y) (hyz : y ≤ z) : spW r x y l l.length + spW r y z l l.length = spW r x z l l.length := by
  have hb : ∀ (x y : Int) i, i ≤ l.length → 0 ≤ spW r x y l i ∧ spW r x y l i ≤ 64 * i := fun x y i => by
    induction i with
    | zero => intro _; simp [spW]
    | succ i ih =>
      intro hi
      have h2 := ih (by omega)
      have hc := co_bd h.1 (h.2 _ (getD_mem (show i < l.length by omega)))
      rw [spW, wrap_in (by unfold In64; omega)]
      split <;> omega
  have key : ∀ i, i ≤ l.length → spW r x y l i + spW r y z l i = spW r x z l i := fun i => by
    induction i with
    | zero => intro _; rfl
    | succ i ih =>
      intro hi
      have h2 := ih (by omega)
      have hc := co_bd h.1 (h.2 _ (getD_mem (show i < l.length by omega)))
      have b1 := hb x y i (by omega)
      have b2 := hb y z i (by omega)
      have b3 := hb x z i (by omega)
      rw [spW, spW, spW, wrap_in (by unfold In64; omega), wrap_in (by unfold In64; omega), wrap_in (by unfold In64; omega)]
      generalize hm : l.getD i default = m at hc ⊢
      have e : ∀ u v : Int, inR r u v m = (wiR r.a r.b m.mi && (decide (niI r.a r.b m.day m.mi ≥ u) && decide (niI r.a r.b m.day m.mi < v))) := fun u v => by
        unfold inR
        cases wiR r.a r.b m.mi <;> cases decide (niI r.a r.b m.day m.mi ≥ u) <;> cases decide (niI r.a r.b m.day m.mi < v) <;> rfl
      rw [e, e, e]
      generalize niI r.a r.b m.day m.mi = k
      cases wiR r.a r.b m.mi with
      | false => simpa using h2
      | true =>
        simp only [Bool.true_and, Bool.and_eq_true, decide_eq_true_eq]
        by_cases c1 : k ≥ x <;> by_cases c2 : k < y <;> by_cases c3 : k < z <;> by_cases c4 : k ≥ y <;> simp only [c1, c2, c3, c4, and_true, and_false, and_self, if_true, if_false] <;> omega
  exact key _ (Nat.le_refl _)
theorem ni_bd {a b day m : Int} : day - 1 ≤ niI a b day m ∧ niI a b day m ≤ day := by
  unfold niI
  split <;> omega
theorem sp_all {r : Ru} {l : List Mv} (h : RuOK r ∧ ∀ m, m ∈ l → MvOK r m) (hl : l.length ≤ 1000) : spW r 0 100001 l l.length = sumW (l.map (rCo r)) l.length := by
  have key : ∀ i, i ≤ l.length → spW r 0 100001 l i = sumW (l.map (rCo r)) i := fun i => by
    induction i with
    | zero => intro _; rfl
    | succ i ih =>
      intro hi
      have hm := h.2 _ (getD_mem (show i < l.length by omega))
      have h2 := ih (by omega)
      have h3 := (co_sum h hl (i + 1) hi).2 i (by omega)
      have h4 := (co_sum h hl i (by omega)).1
      have hc := co_bd h.1 hm
      rw [spW, h3, h2, wrap_in (by unfold In64; omega)]
      generalize l.getD i default = m at hm hc ⊢
      have hn := ni_bd (a := r.a) (b := r.b) (day := m.day) (m := m.mi)
      have hd := hm.d
      unfold inR
      rw [decide_eq_true (show niI r.a r.b m.day m.mi ≥ 0 by omega), decide_eq_true (show niI r.a r.b m.day m.mi < 100001 by omega)]
      cases hw : wiR r.a r.b m.mi with
      | true => rfl
      | false =>
        rw [show rCo r m = 0 by unfold rCo; rw [hw]; rfl]
        simp
  exact key _ (Nat.le_refl _)
end Go.Proofs.YtimgfogakgakhaaGreatDoor
-- ENC encRu 18 [AV.i X.a, AV.i X.b, AV.i X.c, AV.i X.d, AV.sl 3 (List.map encTp X.ts), AV.i X.q, AV.sl 1 (List.map encS X.rs), AV.i X.dl, AV.i X.fi, AV.i X.ra, AV.int IntKind.u8 X.k0, AV.int IntKind.u8 X.k1, AV.int IntKind.u8 X.k2, AV.int IntKind.u8 X.k3, AV.int IntKind.u8 X.k4, AV.int IntKind.u8 X.k5, AV.int IntKind.u8 X.k6, AV.int IntKind.u8 X.k7]
-- ENC encMv 5 [AV.str X.fl, AV.str X.al, AV.str X.ty, AV.i X.day, AV.i X.mi]
-- ENC encDt 10 [AV.str X.m.fl, AV.str X.m.al, AV.str X.m.ty, AV.i X.m.day, AV.i X.m.mi, AV.str X.k.n, AV.i X.k.c, AV.i X.k.f, AV.bool X.dk, AV.i X.ni]
namespace Go.Proofs.YtimgfogakgakhaaGreatDoor
open Go Go.Av Go.RowKit
def noSyms (l : List Nat) (B : BA) : BA := l.foldl (fun B r => noSym r B) B
def symA (r : Nat) (ks : List Nat) (B : BA) : BA := ks.foldl (fun B k => modA r k (fun a => { a with sym := true }) B) B
def lits (b : Bool) (l : List (Nat × Nat)) : List (Nat × Nat × (List AV → Option AV)) := l.map fun p => (p.1, p.2, fun _ => some (.bool b))
def clL (l : List Nat) : Operand → Bool
  | .tmp t => l.any fun u => u.beq t
  | _ => false
def at4 (a b c d : Int) : Nat → Int
  | 0 => a
  | 1 => b
  | 2 => c
  | _ => d
def sp11 (r : Ru) (l : List Mv) : Nat → List AV → Option AV
  | 16, _ => some (.bool true)
  | 17, _ => some (.bool (shR r))
  | 30, _ => some (.bool (shM l))
  | 21, _ => some (.agg (encRu r))
  | 32, [.sl _ rows] => some (.sl 5 rows)
  | 36, _ => some (.i (chkMR r l))
  | 19, [.agg [.int _ a, .int _ b]] => some (.tup [.i (offM a b), .i 0])
  | 18, [.agg [.int _ a, .int _ b], .int _ m] => some (.tup [.bool (wiR a b m), .i 0])
  | 20, [_, .int _ d, .int _ m] => some (.tup [.i (if wiR r.a r.b m = true then niI r.a r.b d m else 0), .i (if wiR r.a r.b m = true then 0 else 7)])
  | 31, _ => some (.tup [.sl 1 ((l.map (rCo r)).map encI), .i 0])
  | 34, [_, _, .agg [.int _ a, .int _ b]] => some (.tup [.i (spW r a b l l.length), .i 0])
  | 35, [_, .sl _ rows] => some (.tup [.i (r.q - sumW (l.map (rCo r)) rows.length), .i 0])
  | n, w => spS n w
def la11 (r : Ru) (l : List Mv) (n0 n1 : Int) (b : Nat) : Option LA :=
  let B : List (Nat × AV) := [(1, .sl 5 (l.map encMv)), (3, .elt 18 [encRu r] 0 0)]
  if b.beq 0 then
    let K : List GS := [.keep [1, 3, 5, 7, 114, 115] [], .bound 1]
    some { pre := K, post := K
           Gh := Nat
           st := fun i => ⟨B ++ [(5, .elt 2 [[.int .u16 n0, .int .u16 n1]] 0 0), (7, .elt 2 [[.i r.b, .i r.a]] 0 0), (114, .agg [.i (n0.tmod 1440), .i (n1.tmod 1440), .i r.a, .i r.b]), (115, .i i)], [], 1⟩
           ok := fun i => i ≤ 4
           ms := fun i => 4 - i }
  else
    let K : List GS := [.keep [1, 3, 23, 25, 27, 29, 231, 232, 233] [], .bound 1]
    some { pre := K, post := K
           Gh := Nat
           st := fun i => ⟨B ++ [(23, .i (spW r 0 100001 l l.length)), (25, .i (r.q - sumW (l.map (rCo r)) (l.map encMv).length)), (27, .sl 1 ((l.map (rCo r)).map encI)), (29, .i (sumW (l.map (rCo r)) i)), (231, .sl 5 (l.map encMv)), (232, .i (l.map encMv).length), (233, .i i)], [], 1⟩
           ok := fun i => i ≤ (l.map encMv).length
           ms := fun i => (l.map encMv).length - i }
def rdIx (f : Nat → Int) : List AV → Option AV
  | [_, .int _ i] => some (.i (f i.toNat))
  | _ => none
def B11 (r : Ru) (l : List Mv) (n0 n1 : Int) : BA :=
  { symA 31 [12, 13, 14, 15, 18, 19, 20, 21, 22, 29, 30, 31, 32, 33, 34, 35, 36, 37] (noSyms [6, 13, 22, 31, 39] (wrapAt 28 5 (fzB (mkB (sp11 r l) 11 (lits false [(6, 10), (6, 14), (6, 18), (13, 9), (22, 23), (22, 30), (22, 38), (31, 6), (31, 24), (31, 39), (34, 2)] ++ lits true [(39, 12)] ++
      [(8, 2, fun _ => some (.i n0)), (8, 6, fun _ => some (.i n1)), (16, 2, fun _ => some (.i n0)), (10, 0, rdIx (at4 (n0.tmod 1440) (n1.tmod 1440) r.a r.b)), (27, 2, rdL 5 encMv l 5 true), (28, 4, rdL 1 encI (l.map (rCo r)) 1 false), (31, 35, rdL 1 encI (l.map (rCo r)) 1 false), (38, 6, fun _ => some (.sl 5 ((l.take (l.length - 1)).map encMv))), (39, 11, fun _ => some (.i ((l.map (rCo r)).getD (l.length - 1) default)))]) (la11 r l n0 n1))))) with
    cl := clL [99, 141, 230, 301, 305] }
theorem c36s {r : Ru} {l : List Mv} (h : Sh r l) : PCall Tryz.prog G0 36 [.agg (encRu r), .sl 5 (l.map encMv)] (.i (chkMR r l)) := c36 r l h.t h.s h.n h.m h.k h.v
theorem sh_g {r : Ru} {l : List Mv} {c : Bool} (h : (!if (if (!shR r) = true then true else !shM l) = true then true else c) = true) : Sh r l := by
  obtain ⟨h1, h2⟩ := or_f (or_f (nor_t h)).1
  exact sh_mv (by simpa using h1) (by simpa using h2)
theorem at4_b {a b c d : Int} {p : Int → Prop} (h1 : p a) (h2 : p b) (h3 : p c) (h4 : p d) (i : Nat) : p (at4 a b c d i) := by
  unfold at4
  split <;> assumption
theorem at4_nth {a b c d : Int} {i : Nat} (h : i < 4) : nth [AV.i a, AV.i b, AV.i c, AV.i d] i = AV.i (at4 a b c d i) := by
  match i, h with
  | 0, _ => rfl
  | 1, _ => rfl
  | 2, _ => rfl
  | 3, _ => rfl
theorem c35e {r : Ru} {l : List Mv} (hS : Sh r l) (h0 : chkMR r l = 0) : PCall Tryz.prog G0 35 [.agg (encRu r), .sl 5 (l.map encMv)] (.tup [.i (r.q - sumW (l.map (rCo r)) (l.map encMv).length), .i 0]) := by
  have h := c35v hS h0
  rw [← List.length_map (f := encMv)] at h
  exact h
theorem c35t2 {r : Ru} {l : List Mv} (hS : Sh r l) (h0 : chkMR r l = 0) {k : Nat} : PCall Tryz.prog G0 35 [.agg (encRu r), .sl 5 ((l.take k).map encMv)] (.tup [.i (r.q - sumW (l.map (rCo r)) ((l.take k).map encMv).length), .i 0]) := by
  by_cases hk : k ≤ l.length
  · have h := c35t hS h0 hk
    rw [List.length_map, List.length_take, Nat.min_eq_left hk]
    exact h
  · rw [List.take_of_length_le (by omega)]
    exact c35e hS h0
theorem c11 (r : Ru) (l : List Mv) (n0 n1 : Int) (hA : PCall Tryz.prog G0 16 [] (.bool true)) (hl : r.ts.length ≤ maxLen) (hm : r.rs.length ≤ maxLen) (hn : l.length ≤ maxLen) (hn0 : 0 ≤ n0 ∧ n0 ≤ 65535) (hn1 : 0 ≤ n1 ∧ n1 ≤ 65535) : PCall Tryz.prog G0 11 [.agg (encRu r), .sl 5 (l.map encMv), .agg [.int .u16 n0, .int .u16 n1]] (.bool true) := by
  have key :
   (true = true → true = true) ∧ (true = true → true = true) ∧ (false = false → true = true) ∧ ((!!shR r) = true → (!!shR r) = true) ∧ ((!!shR r) = true → (!!shR r) = true) ∧ ((!shR r) = false → (!!shR r) = true) ∧ ((!if (!shR r) =
   true then true else !shM l) = true → (!if (!shR r) = true then true else !shM l) = true) ∧ ((!if (!shR r) = true then true else !shM l) = true → (!if (!shR r) = true then true else !shM l) = true) ∧ ((if (!shR r) = true then true
   else !shM l) = false → (!if (!shR r) = true then true else !shM l) = true) ∧ ((!if (if (!shR r) = true then true else !shM l) = true then true else decide ((↑(List.map encMv l).length : Int) > 12)) = true → (!if (if (!shR r) = true
   then true else !shM l) = true then true else decide ((↑(List.map encMv l).length : Int) > 12)) = true) ∧ ((!if (if (!shR r) = true then true else !shM l) = true then true else decide ((↑(List.map encMv l).length : Int) > 12)) =
   true → (!if (if (!shR r) = true then true else !shM l) = true then true else decide ((↑(List.map encMv l).length : Int) > 12)) = true) ∧ ((!if (if (!shR r) = true then true else !shM l) = true then true else decide ((↑(List.map
   encMv l).length : Int) > 12)) = true → (!if (if (!shR r) = true then true else !shM l) = true then true else decide ((↑(List.map encMv l).length : Int) > 12)) = true) ∧ ((if (if (!shR r) = true then true else !shM l) = true then
   true else decide ((↑(List.map encMv l).length : Int) > 12)) = false → (!if (if (!shR r) = true then true else !shM l) = true then true else decide ((↑(List.map encMv l).length : Int) > 12)) = true) ∧ PCall Tryz.prog G0 16 []
   (AV.bool true) ∧ PCall Tryz.prog G0 17 [AV.agg (encRu r)] (AV.bool (shR r)) ∧ impB (!!shR r) (PCall Tryz.prog G0 30 [AV.sl 5 (List.map encMv l)] (AV.bool (shM l))) ∧ impB (!if (if (!shR r) = true then true else !shM l) = true then
   true else decide ((↑(List.map encMv l).length : Int) > 12)) (PCall Tryz.prog G0 36 [AV.agg (encRu r), AV.sl 5 (List.map encMv l)] (AV.i (chkMR r l))) ∧ ((if (if (if (!shR r) = true then true else !shM l) = true then true else
   decide ((↑(List.map encMv l).length : Int) > 12)) = true then true else chkMR r l != 0) = true → PCall Tryz.prog G0 16 [] (AV.bool true) ∧ AV.bool true = AV.bool true) ∧ ((if (if (if (!shR r) = true then true else !shM l) = true
   then true else decide ((↑(List.map encMv l).length : Int) > 12)) = true then true else chkMR r l != 0) = false → PCall Tryz.prog G0 19 [AV.agg [AV.i r.a, AV.i r.b]] (AV.tup [AV.i (offM r.a r.b), AV.i 0]) ∧ PCall Tryz.prog G0 19
   [AV.agg [AV.i r.b, AV.i r.a]] (AV.tup [AV.i (offM r.b r.a), AV.i 0]) ∧ In64 (offM r.a r.b + offM r.b r.a) ∧ AV.bool (offM r.a r.b + offM r.b r.a != 1440) = AV.bool false ∧ AV.bool (decide (offM r.a r.b < 1)) = AV.bool false ∧
   AV.bool (decide (offM r.b r.a < 1)) = AV.bool false ∧ (0 : Int) ≤ 0 ∧ (0 : Int) < (↑2 : Int) ∧ ¬(1440 : Int) = (0 : Int) ∧ (0 : Int) ≤ 1 ∧ (1 : Int) < (↑2 : Int) ∧ ¬(1440 : Int) = (0 : Int) ∧ AV.i (IntKind.i64.wrap n0) = AV.i n0 ∧
   AV.i (IntKind.i64.wrap n1) = AV.i n1 ∧ (∃ (g : Nat), g ≤ 4 ∧ AS.mk [(1, AV.sl 5 (List.map encMv l)), (3, AV.elt 18 [(encRu r)] 0 0), (5, AV.elt 2 [[AV.int IntKind.u16 n0, AV.int IntKind.u16 n1]] 0 0), (7, AV.elt 2 [[AV.i r.b, AV.i
   r.a]] 0 0), (114, AV.agg [AV.i (n0.tmod (1440 : Int)), AV.i (n1.tmod (1440 : Int)), AV.i r.a, AV.i r.b]), (115, AV.i 0)] [] 1 = AS.mk [(1, AV.sl 5 (List.map encMv l)), (3, AV.elt 18 [(encRu r)] 0 0), (5, AV.elt 2 [[AV.int
   IntKind.u16 n0, AV.int IntKind.u16 n1]] 0 0), (7, AV.elt 2 [[AV.i r.b, AV.i r.a]] 0 0), (114, AV.agg [AV.i (n0.tmod (1440 : Int)), AV.i (n1.tmod (1440 : Int)), AV.i r.a, AV.i r.b]), (115, AV.i (↑g : Int))] [] 1) ∧ ∀ (g : Nat), g ≤
   4 → (decide ((↑g : Int) < 4) = true → (0 : Int) ≤ (↑g : Int) ∧ (↑g : Int) < (↑4 : Int) ∧ nth [AV.i (n0.tmod (1440 : Int)), AV.i (n1.tmod (1440 : Int)), AV.i r.a, AV.i r.b] ((↑g : Int).toNat * 1) = AV.i (at4 (n0.tmod (1440 : Int))
   (n1.tmod (1440 : Int)) r.a r.b (↑g : Int).toNat) ∧ PCall Tryz.prog G0 18 [AV.agg [AV.i r.a, AV.i r.b], AV.i (at4 (n0.tmod (1440 : Int)) (n1.tmod (1440 : Int)) r.a r.b (↑g : Int).toNat)] (AV.tup [AV.bool (wiR r.a r.b (at4 (n0.tmod
   (1440 : Int)) (n1.tmod (1440 : Int)) r.a r.b (↑g : Int).toNat)), AV.i 0]) ∧ PCall Tryz.prog G0 18 [AV.agg [AV.i r.b, AV.i r.a], AV.i (at4 (n0.tmod (1440 : Int)) (n1.tmod (1440 : Int)) r.a r.b (↑g : Int).toNat)] (AV.tup [AV.bool
   (wiR r.b r.a (at4 (n0.tmod (1440 : Int)) (n1.tmod (1440 : Int)) r.a r.b (↑g : Int).toNat)), AV.i 0]) ∧ AV.bool (wiR r.a r.b (at4 (n0.tmod (1440 : Int)) (n1.tmod (1440 : Int)) r.a r.b (↑g : Int).toNat) == wiR r.b r.a (at4 (n0.tmod
   (1440 : Int)) (n1.tmod (1440 : Int)) r.a r.b (↑g : Int).toNat)) = AV.bool false ∧ In64 ((↑g : Int) + 1) ∧ ∃ (g' : Nat), g' ≤ 4 ∧ 4 - g' < 4 - g ∧ AS.mk [(1, AV.sl 5 (List.map encMv l)), (3, AV.elt 18 [(encRu r)] 0 0), (5, AV.elt 2
   [[AV.int IntKind.u16 n0, AV.int IntKind.u16 n1]] 0 0), (7, AV.elt 2 [[AV.i r.b, AV.i r.a]] 0 0), (114, AV.agg [AV.i (n0.tmod (1440 : Int)), AV.i (n1.tmod (1440 : Int)), AV.i r.a, AV.i r.b]), (115, AV.i ((↑g : Int) + 1))] [] 1 =
   AS.mk [(1, AV.sl 5 (List.map encMv l)), (3, AV.elt 18 [(encRu r)] 0 0), (5, AV.elt 2 [[AV.int IntKind.u16 n0, AV.int IntKind.u16 n1]] 0 0), (7, AV.elt 2 [[AV.i r.b, AV.i r.a]] 0 0), (114, AV.agg [AV.i (n0.tmod (1440 : Int)), AV.i
   (n1.tmod (1440 : Int)), AV.i r.a, AV.i r.b]), (115, AV.i (↑g' : Int))] [] 1) ∧ (decide ((↑g : Int) < 4) = false → (0 : Int) ≤ 0 ∧ (0 : Int) < (↑2 : Int) ∧ AV.i (IntKind.i64.wrap n0) = AV.i n0 ∧ PCall Tryz.prog G0 21 [AV.agg (encRu
   r)] (AV.agg (encRu r)) ∧ PCall Tryz.prog G0 32 [AV.sl 5 (List.map encMv l)] (AV.sl 5 (List.map encMv l)) ∧ PCall Tryz.prog G0 34 [AV.agg (encRu r), AV.sl 5 (List.map encMv l), AV.agg [AV.i 0, AV.i n0]] (AV.tup [AV.i (spW r (0 :
   Int) n0 l l.length), AV.i 0]) ∧ PCall Tryz.prog G0 21 [AV.agg (encRu r)] (AV.agg (encRu r)) ∧ PCall Tryz.prog G0 32 [AV.sl 5 (List.map encMv l)] (AV.sl 5 (List.map encMv l)) ∧ PCall Tryz.prog G0 34 [AV.agg (encRu r), AV.sl 5
   (List.map encMv l), AV.agg [AV.i n0, AV.i 100001]] (AV.tup [AV.i (spW r n0 (100001 : Int) l l.length), AV.i 0]) ∧ PCall Tryz.prog G0 21 [AV.agg (encRu r)] (AV.agg (encRu r)) ∧ PCall Tryz.prog G0 32 [AV.sl 5 (List.map encMv l)]
   (AV.sl 5 (List.map encMv l)) ∧ PCall Tryz.prog G0 34 [AV.agg (encRu r), AV.sl 5 (List.map encMv l), AV.agg [AV.i 0, AV.i 100001]] (AV.tup [AV.i (spW r (0 : Int) (100001 : Int) l l.length), AV.i 0]) ∧ PCall Tryz.prog G0 21 [AV.agg
   (encRu r)] (AV.agg (encRu r)) ∧ PCall Tryz.prog G0 32 [AV.sl 5 (List.map encMv l)] (AV.sl 5 (List.map encMv l)) ∧ PCall Tryz.prog G0 35 [AV.agg (encRu r), AV.sl 5 (List.map encMv l)] (AV.tup [AV.i (r.q - sumW (List.map (rCo r) l)
   (List.map encMv l).length), AV.i 0]) ∧ PCall Tryz.prog G0 21 [AV.agg (encRu r)] (AV.agg (encRu r)) ∧ PCall Tryz.prog G0 32 [AV.sl 5 (List.map encMv l)] (AV.sl 5 (List.map encMv l)) ∧ PCall Tryz.prog G0 31 [AV.agg (encRu r), AV.sl 5
   (List.map encMv l)] (AV.tup [AV.sl 1 (List.map encI (List.map (rCo r) l)), AV.i 0]) ∧ In64 (spW r (0 : Int) n0 l l.length + spW r n0 (100001 : Int) l l.length) ∧ In64 (r.q - (r.q - sumW (List.map (rCo r) l) (List.map encMv
   l).length)) ∧ AV.bool ((↑(List.map encI (List.map (rCo r) l)).length : Int) != (↑(List.map encMv l).length : Int)) = AV.bool false ∧ AV.bool (spW r (0 : Int) n0 l l.length + spW r n0 (100001 : Int) l l.length != spW r (0 : Int)
   (100001 : Int) l l.length) = AV.bool false ∧ AV.bool (spW r (0 : Int) (100001 : Int) l l.length != r.q - (r.q - sumW (List.map (rCo r) l) (List.map encMv l).length)) = AV.bool false ∧ (∃ (g : Nat), g ≤ (List.map encMv l).length ∧
   AS.mk [(1, AV.sl 5 (List.map encMv l)), (3, AV.elt 18 [(encRu r)] 0 0), (23, AV.i (spW r (0 : Int) (100001 : Int) l l.length)), (25, AV.i (r.q - sumW (List.map (rCo r) l) (List.map encMv l).length)), (27, AV.sl 1 (List.map encI
   (List.map (rCo r) l))), (29, AV.i 0), (231, AV.sl 5 (List.map encMv l)), (232, AV.i (↑(List.map encMv l).length : Int)), (233, AV.i 0)] [] 1 = AS.mk [(1, AV.sl 5 (List.map encMv l)), (3, AV.elt 18 [(encRu r)] 0 0), (23, AV.i (spW r
   (0 : Int) (100001 : Int) l l.length)), (25, AV.i (r.q - sumW (List.map (rCo r) l) (List.map encMv l).length)), (27, AV.sl 1 (List.map encI (List.map (rCo r) l))), (29, AV.i (sumW (List.map (rCo r) l) g)), (231, AV.sl 5 (List.map
   encMv l)), (232, AV.i (↑(List.map encMv l).length : Int)), (233, AV.i (↑g : Int))] [] 1) ∧ ∀ (g : Nat), g ≤ (List.map encMv l).length → (decide ((↑g : Int) < (↑(List.map encMv l).length : Int)) = true → (0 : Int) ≤ (↑g : Int) ∧ (↑g
   : Int) < (↑(List.map encMv l).length : Int) ∧ AV.agg (nthR (List.map encMv l) (↑g : Int).toNat) = AV.agg (encMv (l.getD (↑g : Int).toNat default)) ∧ (0 : Int) ≤ (↑g : Int) ∧ (↑g : Int) < (↑(List.map encI (List.map (rCo r)
   l)).length : Int) ∧ nth (nthR (List.map encI (List.map (rCo r) l)) (↑g : Int).toNat) 0 = AV.i ((List.map (rCo r) l).getD (↑g : Int).toNat default) ∧ PCall Tryz.prog G0 21 [AV.agg (encRu r)] (AV.agg (encRu r)) ∧ PCall Tryz.prog G0
   20 [AV.agg (encRu r), AV.i (l.getD (↑g : Int).toNat default).day, AV.i (l.getD (↑g : Int).toNat default).mi] (AV.tup [AV.i (if wiR r.a r.b (l.getD (↑g : Int).toNat default).mi = true then niI r.a r.b (l.getD (↑g : Int).toNat
   default).day (l.getD (↑g : Int).toNat default).mi else (0 : Int)), AV.i (if wiR r.a r.b (l.getD (↑g : Int).toNat default).mi = true then (0 : Int) else (7 : Int))]) ∧ PCall Tryz.prog G0 18 [AV.agg [AV.i r.a, AV.i r.b], AV.i (l.getD
   (↑g : Int).toNat default).mi] (AV.tup [AV.bool (wiR r.a r.b (l.getD (↑g : Int).toNat default).mi), AV.i 0]) ∧ (((if wiR r.a r.b (l.getD (↑g : Int).toNat default).mi = true then (0 : Int) else (7 : Int)) == 0) = true → ((if wiR r.a
   r.b (l.getD (↑g : Int).toNat default).mi = true then (0 : Int) else (7 : Int)) == 0) = true) ∧ (((if wiR r.a r.b (l.getD (↑g : Int).toNat default).mi = true then (0 : Int) else (7 : Int)) == 0) = true → ((if wiR r.a r.b (l.getD (↑g
   : Int).toNat default).mi = true then (0 : Int) else (7 : Int)) == 0) = true) ∧ (((if wiR r.a r.b (l.getD (↑g : Int).toNat default).mi = true then (0 : Int) else (7 : Int)) == 0) = true → ((if wiR r.a r.b (l.getD (↑g : Int).toNat
   default).mi = true then (0 : Int) else (7 : Int)) == 0) = true) ∧ (((if wiR r.a r.b (l.getD (↑g : Int).toNat default).mi = true then (0 : Int) else (7 : Int)) == 0) = true → ((if wiR r.a r.b (l.getD (↑g : Int).toNat default).mi =
   true then (0 : Int) else (7 : Int)) == 0) = true) ∧ ((if ((if wiR r.a r.b (l.getD (↑g : Int).toNat default).mi = true then (0 : Int) else (7 : Int)) == 0) = true then (if wiR r.a r.b (l.getD (↑g : Int).toNat default).mi = true then
   niI r.a r.b (l.getD (↑g : Int).toNat default).day (l.getD (↑g : Int).toNat default).mi else (0 : Int)) != (l.getD (↑g : Int).toNat default).day else false) = true → (if ((if wiR r.a r.b (l.getD (↑g : Int).toNat default).mi = true
   then (0 : Int) else (7 : Int)) == 0) = true then (if wiR r.a r.b (l.getD (↑g : Int).toNat default).mi = true then niI r.a r.b (l.getD (↑g : Int).toNat default).day (l.getD (↑g : Int).toNat default).mi else (0 : Int)) != (l.getD (↑g
   : Int).toNat default).day else false) = true) ∧ ((if ((if wiR r.a r.b (l.getD (↑g : Int).toNat default).mi = true then (0 : Int) else (7 : Int)) == 0) = true then (if wiR r.a r.b (l.getD (↑g : Int).toNat default).mi = true then niI
   r.a r.b (l.getD (↑g : Int).toNat default).day (l.getD (↑g : Int).toNat default).mi else (0 : Int)) != (l.getD (↑g : Int).toNat default).day else false) = true → (if ((if wiR r.a r.b (l.getD (↑g : Int).toNat default).mi = true then
   (0 : Int) else (7 : Int)) == 0) = true then (if wiR r.a r.b (l.getD (↑g : Int).toNat default).mi = true then niI r.a r.b (l.getD (↑g : Int).toNat default).day (l.getD (↑g : Int).toNat default).mi else (0 : Int)) != (l.getD (↑g :
   Int).toNat default).day else false) = true) ∧ ((if ((if wiR r.a r.b (l.getD (↑g : Int).toNat default).mi = true then (0 : Int) else (7 : Int)) == 0) = true then (if wiR r.a r.b (l.getD (↑g : Int).toNat default).mi = true then niI
   r.a r.b (l.getD (↑g : Int).toNat default).day (l.getD (↑g : Int).toNat default).mi else (0 : Int)) != (l.getD (↑g : Int).toNat default).day else false) = true → In64 ((l.getD (↑g : Int).toNat default).day - 1)) ∧ ((if ((if wiR r.a
   r.b (l.getD (↑g : Int).toNat default).mi = true then (0 : Int) else (7 : Int)) == 0) = true then (if wiR r.a r.b (l.getD (↑g : Int).toNat default).mi = true then niI r.a r.b (l.getD (↑g : Int).toNat default).day (l.getD (↑g :
   Int).toNat default).mi else (0 : Int)) != (l.getD (↑g : Int).toNat default).day else false) = true → (if ((if wiR r.a r.b (l.getD (↑g : Int).toNat default).mi = true then (0 : Int) else (7 : Int)) == 0) = true then (if wiR r.a r.b
   (l.getD (↑g : Int).toNat default).mi = true then niI r.a r.b (l.getD (↑g : Int).toNat default).day (l.getD (↑g : Int).toNat default).mi else (0 : Int)) != (l.getD (↑g : Int).toNat default).day else false) = true) ∧ ((if ((if wiR
   r.a r.b (l.getD (↑g : Int).toNat default).mi = true then (0 : Int) else (7 : Int)) == 0) = true then (if wiR r.a r.b (l.getD (↑g : Int).toNat default).mi = true then niI r.a r.b (l.getD (↑g : Int).toNat default).day (l.getD (↑g :
   Int).toNat default).mi else (0 : Int)) != (l.getD (↑g : Int).toNat default).day else false) = true → (if ((if wiR r.a r.b (l.getD (↑g : Int).toNat default).mi = true then (0 : Int) else (7 : Int)) == 0) = true then (if wiR r.a r.b
   (l.getD (↑g : Int).toNat default).mi = true then niI r.a r.b (l.getD (↑g : Int).toNat default).day (l.getD (↑g : Int).toNat default).mi else (0 : Int)) != (l.getD (↑g : Int).toNat default).day else false) = true) ∧ ((if ((if wiR
   r.a r.b (l.getD (↑g : Int).toNat default).mi = true then (0 : Int) else (7 : Int)) == 0) = true then (if wiR r.a r.b (l.getD (↑g : Int).toNat default).mi = true then niI r.a r.b (l.getD (↑g : Int).toNat default).day (l.getD (↑g :
   Int).toNat default).mi else (0 : Int)) != (l.getD (↑g : Int).toNat default).day else false) = true → (if ((if wiR r.a r.b (l.getD (↑g : Int).toNat default).mi = true then (0 : Int) else (7 : Int)) == 0) = true then (if wiR r.a r.b
   (l.getD (↑g : Int).toNat default).mi = true then niI r.a r.b (l.getD (↑g : Int).toNat default).day (l.getD (↑g : Int).toNat default).mi else (0 : Int)) != (l.getD (↑g : Int).toNat default).day else false) = true) ∧ (((if wiR r.a
   r.b (l.getD (↑g : Int).toNat default).mi = true then (0 : Int) else (7 : Int)) != 0) = true → ((if wiR r.a r.b (l.getD (↑g : Int).toNat default).mi = true then (0 : Int) else (7 : Int)) != 0) = true) ∧ (((if wiR r.a r.b (l.getD (↑g
   : Int).toNat default).mi = true then (0 : Int) else (7 : Int)) != 0) = true → ((if wiR r.a r.b (l.getD (↑g : Int).toNat default).mi = true then (0 : Int) else (7 : Int)) != 0) = true) ∧ (((if wiR r.a r.b (l.getD (↑g : Int).toNat
   default).mi = true then (0 : Int) else (7 : Int)) != 0 && !(if wiR r.a r.b (l.getD (↑g : Int).toNat default).mi = true then (0 : Int) else (7 : Int)) != 7) = true → ((if wiR r.a r.b (l.getD (↑g : Int).toNat default).mi = true then
   (0 : Int) else (7 : Int)) != 0 && !(if wiR r.a r.b (l.getD (↑g : Int).toNat default).mi = true then (0 : Int) else (7 : Int)) != 7) = true) ∧ (((if wiR r.a r.b (l.getD (↑g : Int).toNat default).mi = true then (0 : Int) else (7 :
   Int)) != 0 && !(if wiR r.a r.b (l.getD (↑g : Int).toNat default).mi = true then (0 : Int) else (7 : Int)) != 7) = true → ((if wiR r.a r.b (l.getD (↑g : Int).toNat default).mi = true then (0 : Int) else (7 : Int)) != 0 && !(if wiR
   r.a r.b (l.getD (↑g : Int).toNat default).mi = true then (0 : Int) else (7 : Int)) != 7) = true) ∧ (((if wiR r.a r.b (l.getD (↑g : Int).toNat default).mi = true then (0 : Int) else (7 : Int)) != 0 && !(if wiR r.a r.b (l.getD (↑g :
   Int).toNat default).mi = true then (0 : Int) else (7 : Int)) != 7) = true → (0 : Int) ≤ (↑g : Int)) ∧ (((if wiR r.a r.b (l.getD (↑g : Int).toNat default).mi = true then (0 : Int) else (7 : Int)) != 0 && !(if wiR r.a r.b (l.getD (↑g
   : Int).toNat default).mi = true then (0 : Int) else (7 : Int)) != 7) = true → (↑g : Int) < (↑(List.map encI (List.map (rCo r) l)).length : Int)) ∧ (((if wiR r.a r.b (l.getD (↑g : Int).toNat default).mi = true then (0 : Int) else (7
   : Int)) != 0 && !(if wiR r.a r.b (l.getD (↑g : Int).toNat default).mi = true then (0 : Int) else (7 : Int)) != 7) = true → ((if wiR r.a r.b (l.getD (↑g : Int).toNat default).mi = true then (0 : Int) else (7 : Int)) != 0 && !(if wiR
   r.a r.b (l.getD (↑g : Int).toNat default).mi = true then (0 : Int) else (7 : Int)) != 7) = true) ∧ (((if wiR r.a r.b (l.getD (↑g : Int).toNat default).mi = true then (0 : Int) else (7 : Int)) != 0 && !(if wiR r.a r.b (l.getD (↑g :
   Int).toNat default).mi = true then (0 : Int) else (7 : Int)) != 7) = true → ((if wiR r.a r.b (l.getD (↑g : Int).toNat default).mi = true then (0 : Int) else (7 : Int)) != 0 && !(if wiR r.a r.b (l.getD (↑g : Int).toNat default).mi =
   true then (0 : Int) else (7 : Int)) != 7) = true) ∧ (((if wiR r.a r.b (l.getD (↑g : Int).toNat default).mi = true then (0 : Int) else (7 : Int)) != 0) = true → ((if wiR r.a r.b (l.getD (↑g : Int).toNat default).mi = true then (0 :
   Int) else (7 : Int)) != 0) = true) ∧ (((if wiR r.a r.b (l.getD (↑g : Int).toNat default).mi = true then (0 : Int) else (7 : Int)) != 0) = true → ((if wiR r.a r.b (l.getD (↑g : Int).toNat default).mi = true then (0 : Int) else (7 :
   Int)) != 7) = false → ((if wiR r.a r.b (l.getD (↑g : Int).toNat default).mi = true then (0 : Int) else (7 : Int)) != 0 && !(if wiR r.a r.b (l.getD (↑g : Int).toNat default).mi = true then (0 : Int) else (7 : Int)) != 7) = true) ∧
   (((if wiR r.a r.b (l.getD (↑g : Int).toNat default).mi = true then (0 : Int) else (7 : Int)) != 0) = true → ((if wiR r.a r.b (l.getD (↑g : Int).toNat default).mi = true then (0 : Int) else (7 : Int)) != 0) = true) ∧ (AV.bool !((if
   wiR r.a r.b (l.getD (↑g : Int).toNat default).mi = true then (0 : Int) else (7 : Int)) == 0) == wiR r.a r.b (l.getD (↑g : Int).toNat default).mi) = AV.bool false ∧ AV.bool (if (if ((if wiR r.a r.b (l.getD (↑g : Int).toNat
   default).mi = true then (0 : Int) else (7 : Int)) == 0) = true then (if wiR r.a r.b (l.getD (↑g : Int).toNat default).mi = true then niI r.a r.b (l.getD (↑g : Int).toNat default).day (l.getD (↑g : Int).toNat default).mi else (0 :
   Int)) != (l.getD (↑g : Int).toNat default).day else false) = true then (if wiR r.a r.b (l.getD (↑g : Int).toNat default).mi = true then niI r.a r.b (l.getD (↑g : Int).toNat default).day (l.getD (↑g : Int).toNat default).mi else (0
   : Int)) != (l.getD (↑g : Int).toNat default).day - 1 else false) = AV.bool false ∧ impB ((if wiR r.a r.b (l.getD (↑g : Int).toNat default).mi = true then (0 : Int) else (7 : Int)) != 0 && !(if wiR r.a r.b (l.getD (↑g : Int).toNat
   default).mi = true then (0 : Int) else (7 : Int)) != 7) (nth (nthR (List.map encI (List.map (rCo r) l)) (↑g : Int).toNat) 0 = AV.i ((List.map (rCo r) l).getD (↑g : Int).toNat default)) ∧ AV.bool (if ((if wiR r.a r.b (l.getD (↑g :
   Int).toNat default).mi = true then (0 : Int) else (7 : Int)) != 0) = true then if ((if wiR r.a r.b (l.getD (↑g : Int).toNat default).mi = true then (0 : Int) else (7 : Int)) != 7) = true then true else (List.map (rCo r) l).getD (↑g
   : Int).toNat default != 0 else false) = AV.bool false ∧ In64 ((↑g : Int) + 1) ∧ ∃ (g' : Nat), g' ≤ (List.map encMv l).length ∧ (List.map encMv l).length - g' < (List.map encMv l).length - g ∧ AS.mk [(1, AV.sl 5 (List.map encMv l)),
   (3, AV.elt 18 [(encRu r)] 0 0), (23, AV.i (spW r (0 : Int) (100001 : Int) l l.length)), (25, AV.i (r.q - sumW (List.map (rCo r) l) (List.map encMv l).length)), (27, AV.sl 1 (List.map encI (List.map (rCo r) l))), (29, AV.i
   (IntKind.i64.wrap (sumW (List.map (rCo r) l) g + (List.map (rCo r) l).getD (↑g : Int).toNat default))), (231, AV.sl 5 (List.map encMv l)), (232, AV.i (↑(List.map encMv l).length : Int)), (233, AV.i ((↑g : Int) + 1))] [] 1 = AS.mk
   [(1, AV.sl 5 (List.map encMv l)), (3, AV.elt 18 [(encRu r)] 0 0), (23, AV.i (spW r (0 : Int) (100001 : Int) l l.length)), (25, AV.i (r.q - sumW (List.map (rCo r) l) (List.map encMv l).length)), (27, AV.sl 1 (List.map encI (List.map
   (rCo r) l))), (29, AV.i (sumW (List.map (rCo r) l) g')), (231, AV.sl 5 (List.map encMv l)), (232, AV.i (↑(List.map encMv l).length : Int)), (233, AV.i (↑g' : Int))] [] 1) ∧ (decide ((↑g : Int) < (↑(List.map encMv l).length : Int))
   = false → AV.bool (sumW (List.map (rCo r) l) g != spW r (0 : Int) (100001 : Int) l l.length) = AV.bool false ∧ (((↑(List.map encMv l).length : Int) == 0) = true → AV.bool true = AV.bool true) ∧ (((↑(List.map encMv l).length : Int)
   == 0) = false → In64 ((↑(List.map encMv l).length : Int) - 1) ∧ (0 : Int) ≤ 0 ∧ (0 : Int) ≤ (↑(List.map encMv l).length : Int) - 1 ∧ (↑(List.map encMv l).length : Int) - 1 ≤ (↑(List.map encMv l).length : Int) ∧ PCall Tryz.prog G0
   21 [AV.agg (encRu r)] (AV.agg (encRu r)) ∧ AV.sl 5 (List.take ((↑(List.map encMv l).length : Int) - 1 - 0).toNat (List.drop 0 (List.map encMv l))) = AV.sl 5 (List.map encMv (List.take (l.length - 1) l)) ∧ PCall Tryz.prog G0 32
   [AV.sl 5 (List.map encMv (List.take (l.length - 1) l))] (AV.sl 5 (List.map encMv (List.take (l.length - 1) l))) ∧ PCall Tryz.prog G0 35 [AV.agg (encRu r), AV.sl 5 (List.map encMv (List.take (l.length - 1) l))] (AV.tup [AV.i (r.q -
   sumW (List.map (rCo r) l) (List.map encMv (List.take (l.length - 1) l)).length), AV.i 0]) ∧ In64 (r.q - sumW (List.map (rCo r) l) (List.map encMv (List.take (l.length - 1) l)).length - (r.q - sumW (List.map (rCo r) l) (List.map
   encMv l).length)) ∧ In64 ((↑(List.map encMv l).length : Int) - 1) ∧ (0 : Int) ≤ (↑(List.map encMv l).length : Int) - 1 ∧ (↑(List.map encMv l).length : Int) - 1 < (↑(List.map encI (List.map (rCo r) l)).length : Int) ∧ nth (nthR
   (List.map encI (List.map (rCo r) l)) ((↑(List.map encMv l).length : Int) - 1).toNat) 0 = AV.i ((List.map (rCo r) l).getD (l.length - 1) default) ∧ AV.bool (r.q - sumW (List.map (rCo r) l) (List.map encMv (List.take (l.length - 1)
   l)).length - (r.q - sumW (List.map (rCo r) l) (List.map encMv l).length) == (List.map (rCo r) l).getD (l.length - 1) default) = AV.bool true ∧ AV.bool true = AV.bool true)))) := by
    have hlm : (List.map encMv l).length = l.length := List.length_map _
    have hcm : (List.map (rCo r) l).length = l.length := List.length_map _
    have hm0 := mod_b (n := n0) hn0.1
    have hm1 := mod_b (n := n1) hn1.1
    have : (List.map encMv l).length = l.length := by simp only [List.length_map]
    have : (List.map encI (List.map (rCo r) l)).length = l.length := by simp only [List.length_map]
    refine ⟨fun h => h, fun h => h, fun h => by first | exact h | (rw [h]; rfl) | simp_all, fun h => h, fun h => h, fun h => by first | exact h | (rw [h]; rfl) | simp_all, fun h => h, fun h => h, fun h => by first | exact h | (rw [h]; rfl) | simp_all, fun h => h, fun h => h, fun h => h, fun h => by first | exact h | (rw [h]; rfl) | simp_all, hA, (c17 r hl hm), impB_iff.2 fun hb => (c30 l hn), impB_iff.2 fun hb => (c36s (sh_g hb)), fun h1 => ⟨hA, rfl⟩, fun h1 => ?_⟩
    · obtain ⟨hx, h0⟩ := or_f h1
      obtain ⟨hx, h12⟩ := or_f hx
      obtain ⟨hx1, hx2⟩ := or_f hx
      have hS : Sh r l := sh_mv (by simpa using hx1) (by simpa using hx2)
      have h0 : chkMR r l = 0 := by simpa using h0
      have hV := (mv_ok h0).2.1
      have hR := hV.1
      have hlk := hS.k
      have ho := off_sum hR.a hR.b hR.n
      have hm4 : ∀ i, 0 ≤ at4 (n0.tmod 1440) (n1.tmod 1440) r.a r.b i ∧ at4 (n0.tmod 1440) (n1.tmod 1440) r.a r.b i < 1440 := at4_b (p := fun x => 0 ≤ x ∧ x < 1440) hm0 hm1 hR.a hR.b
      have hcs := co_sum hV hlk
      have hb1 := (sp_eq hV hlk 0 n0).2
      have hb2 := (sp_eq hV hlk n0 100001).2
      have hb3 := (sp_eq hV hlk 0 100001).2
      have hb4 : 0 ≤ sumW (List.map (rCo r) l) (List.map encMv l).length ∧ sumW (List.map (rCo r) l) (List.map encMv l).length ≤ 64000 := by rw [hlm]; have := (hcs l.length (Nat.le_refl _)).1; omega
      have hb5 := hR.q
      have hb6 : ∀ k, k ≤ l.length → 0 ≤ sumW (List.map (rCo r) l) k ∧ sumW (List.map (rCo r) l) k ≤ 64000 := fun k hk => by have := (hcs k hk).1; omega
      have hb7 : 0 ≤ sumW (List.map (rCo r) l) (List.map encMv (List.take (l.length - 1) l)).length ∧ sumW (List.map (rCo r) l) (List.map encMv (List.take (l.length - 1) l)).length ≤ 64000 := hb6 _ (by rw [List.length_map, List.length_take]; omega)
      refine ⟨(c19v hR.a hR.b hR.n), (c19v hR.b hR.a (Ne.symm hR.n)), (by unfold In64; omega), congrArg AV.bool (by rw [ho.1]; rfl), congrArg AV.bool (decide_eq_false (by omega)), congrArg AV.bool (decide_eq_false (by omega)), (by omega), (by omega), (by decide), (by omega), (by omega), (by decide), congrArg AV.i (wrap_in (by unfold In64; omega)), congrArg AV.i (wrap_in (by unfold In64; omega)), ⟨⟨0, by omega, rfl⟩, fun g hg => ⟨fun hd => ?_, fun hd => ?_⟩⟩⟩
      · have hlt : g < 4 := by have h9 := of_decide_eq_true hd; have h8 := hg; (try simp only [List.length_map] at h8); (try simp only [List.length_map] at h9); omega
        try rw [show (↑g : Int).toNat = g from Int.toNat_natCast g]
        refine ⟨(by omega), (by omega), ?_, (c18v hR.a hR.b hR.n (hm4 _)), (c18v hR.b hR.a (Ne.symm hR.n) (hm4 _)), congrArg AV.bool (wi_back hR.a hR.b hR.n (hm4 _)), (by unfold In64; omega), ⟨g + 1, by omega, by omega, rfl⟩⟩
        · rw [Nat.mul_one]; exact at4_nth hlt
      · have hge : g = 4 := by have h9 := of_decide_eq_false hd; have h8 := hg; (try simp only [List.length_map] at h8); (try simp only [List.length_map] at h9); omega
        subst hge
        refine ⟨(by omega), (by omega), congrArg AV.i (wrap_in (by unfold In64; omega)), (c21 r hS.t hS.s), ((c32 l hS.k).un), (c34v hS h0 (by omega) (by omega)), (c21 r hS.t hS.s), ((c32 l hS.k).un), (c34v hS h0 (by omega) (by omega)), (c21 r hS.t hS.s), ((c32 l hS.k).un), (c34v hS h0 (by omega) (by omega)), (c21 r hS.t hS.s), ((c32 l hS.k).un), (c35e hS h0), (c21 r hS.t hS.s), ((c32 l hS.k).un), (c31v hS h0), (by unfold In64; omega), (by unfold In64; omega), ?_, ?_, ?_, ⟨⟨0, by omega, rfl⟩, fun g hg2 => ⟨fun hd2 => ?_, fun hd2 => ?_⟩⟩⟩
        · rw [hlm, List.length_map, hcm, bne_self_eq_false]
        · rw [sp_split hV hlk (by omega) (by omega), bne_self_eq_false]
        · rw [sp_all hV hlk, hlm, show r.q - (r.q - sumW (List.map (rCo r) l) l.length) = sumW (List.map (rCo r) l) l.length by omega, bne_self_eq_false]
        · have hlt2 : g < l.length := by have h9 := of_decide_eq_true hd2; have h8 := hg2; (try simp only [List.length_map] at h8); (try simp only [List.length_map] at h9); omega
          have hmv := hV.2 _ (getD_mem hlt2)
          have hmd := hmv.d
          have hmn := hmv.m
          try rw [show (↑g : Int).toNat = g from Int.toNat_natCast g]
          refine ⟨(by omega), (by omega), congrArg AV.agg (row_at encMv hlt2), (by omega), (by omega), congrArg (fun r => nth r 0) (row_at encI (by omega)), (c21 r hS.t hS.s), (c20v hS h0 (hV.2 _ (getD_mem hlt2)).d (hV.2 _ (getD_mem hlt2)).m), (c18v hR.a hR.b hR.n (by have := (hV.2 _ (getD_mem hlt2)).m; omega)), fun h => h, fun h => h, fun h => h, fun h => h, fun h => h, fun h => h, fun _ => by unfold In64; omega, fun h => h, fun h => h, fun h => h, fun h => h, fun h => h, fun h => h, fun h => h, fun _ => by omega, fun _ => by omega, fun h => h, fun h => h, fun h => h, fun h2 => fun h => by first | exact h | (rw [h]; rfl) | simp_all, fun h => h, ?_, ?_, impB_iff.2 fun hb => congrArg (fun r => nth r 0) (row_at encI (by omega)), ?_, (by unfold In64; omega), ⟨g + 1, by omega, by omega, rfl⟩⟩
          · cases wiR r.a r.b (l.getD g default).mi <;> rfl
          · show AV.bool (if (if ((if wiR r.a r.b (l.getD g default).mi = true then (0 : Int) else 7) == 0) = true then (if wiR r.a r.b (l.getD g default).mi = true then niI r.a r.b (l.getD g default).day (l.getD g default).mi else 0) != (l.getD g default).day else false) = true then (if wiR r.a r.b (l.getD g default).mi = true then niI r.a r.b (l.getD g default).day (l.getD g default).mi else 0) != (l.getD g default).day - 1 else false) = _
            cases wiR r.a r.b (l.getD g default).mi with
            | false => rfl
            | true =>
              have hk : niI r.a r.b (l.getD g default).day (l.getD g default).mi = (l.getD g default).day ∨ niI r.a r.b (l.getD g default).day (l.getD g default).mi = (l.getD g default).day - 1 := by
                have := ni_bd (a := r.a) (b := r.b) (day := (l.getD g default).day) (m := (l.getD g default).mi)
                omega
              rcases hk with e | e <;> rw [e] <;> simp
          · rw [getD_map hlt2]
            show AV.bool (if ((if wiR r.a r.b (l.getD g default).mi = true then (0 : Int) else 7) != 0) = true then if ((if wiR r.a r.b (l.getD g default).mi = true then (0 : Int) else 7) != 7) = true then true else rCo r (l.getD g default) != 0 else false) = _
            cases hw : wiR r.a r.b (l.getD g default).mi with
            | false => rw [show rCo r (l.getD g default) = 0 by unfold rCo; rw [hw]; rfl]; rfl
            | true => rfl
        · have hge2 : g = l.length := by have h9 := of_decide_eq_false hd2; have h8 := hg2; (try simp only [List.length_map] at h8); (try simp only [List.length_map] at h9); omega
          subst hge2
          refine ⟨?_, fun h2 => rfl, fun h2 => ?_⟩
          · rw [sp_all hV hlk, bne_self_eq_false]
          · have h9 : (List.map encMv l).length ≠ 0 := by have := h2; simp only [beq_eq_false_iff_ne] at this; omega
            refine ⟨(by unfold In64; omega), (by omega), (by omega), (by omega), (c21 r hS.t hS.s), ?_, ((c32 _ (by rw [List.length_take]; omega)).un), (c35t2 hS h0), (by unfold In64; omega), (by unfold In64; omega), (by omega), (by omega), ?_, ?_, rfl⟩
            · rw [hlm, List.drop_zero, List.map_take, show ((l.length : Int) - 1 - 0).toNat = l.length - 1 by omega]
            · rw [hlm, show ((l.length : Int) - 1).toNat = l.length - 1 by omega]
              exact congrArg (fun r => nth r 0) (row_at encI (by omega))
            · have h9 : l.length ≠ 0 := by omega
              have h8 := (hcs l.length (Nat.le_refl _)).2 (l.length - 1) (by omega)
              rw [show l.length - 1 + 1 = l.length by omega] at h8
              rw [hlm, List.length_map, List.length_take, Nat.min_eq_left (by omega), getD_map (by omega), h8]
              refine congrArg AV.bool ?_
              rw [beq_iff_eq]
              omega
  exact c_of Tryz.f11 (B11 r l n0 n1) (by kernel_rfl) (by kernel_rfl) (by kernel_rfl) (by kernel_rfl) key (by kernel_rfl)
end Go.Proofs.YtimgfogakgakhaaGreatDoor
namespace Go.Proofs.YtimgfogakgakhaaGreatDoor
open Go Go.Av Go.RowKit Go.ChangeShapes Go.WideShapes
theorem jp0_11 : (Rows.nightPartsRow.inPlace == Tryz.prog.inPlace 11) = true := by kernel_rfl
theorem jp1_11 : (Rows.nightPartsRow.unfollowed == Tryz.prog.unfollowed 11) = true := by kernel_rfl
theorem jp2_11 : (Rows.nightPartsRow.recurses == Tryz.prog.recurses 11) = true := by kernel_rfl
theorem jp3_11 : (Rows.nightPartsRow.named == Tryz.prog.varsNamed 11) = true := by kernel_rfl
theorem jfacts_11 : joinedFacts Tryz.prog 11 Tryz.f11 Rows.nightPartsSpec Rows.nightPartsRow = true := by
  unfold joinedFacts
  rw [jp0_11, jp1_11, jp2_11, jp3_11]
  kernel_rfl
end Go.Proofs.YtimgfogakgakhaaGreatDoor
