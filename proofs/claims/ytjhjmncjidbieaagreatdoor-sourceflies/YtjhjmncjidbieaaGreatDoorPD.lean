/-
  What chapter 2's reference emission returns, on a type that passes its checks. No condition but the theorems' own. What chapter 2's sectors return. No condition but the theorems' own. What chapter 2's reference sector returns. No condition but the theorems' own. What chapter 2's checks of a state return, and what is heard of one. No condition but the theorems' own. What chapter 2's heard of a state returns. No condition but the theorems' own. What chapter 2's Sector of the source returns. No condition but the theorems' own. What a type that passes the source's checks has. No condition but the theorems' own. What chapter 2's Emission and Heard of the source return. No condition but the theorems' own. What chapter 2's SameInts returns. No condition but the theorems' own. What chapter 2's bands return. No condition but the theorems' own. The plain law of types: the program's and the reference's checks of a type are the same, and so are the bands of an energy.
    No condition but the theorems' own. What chapter 2's reference bands return. No condition but the theorems' own. What the source's bands return. No condition but the theorems' own. What chapter 2's lists of points return: copies, ticks, the state at a tick. No condition but the theorems' own. Plain laws of types: sectors of turned directions, what lies between two settings, emissions that grow and fall, bands that add up. No condition but the theorems' own.
-/
import Derived.Test.YtjhjmncjidbieaaGreatDoorPC
import Derived.Test.YtjhjmncjidbieaaGreatDoorAvC
namespace Go.Proofs.YtjhjmncjidbieaaGreatDoor
open Go Go.Av Go.RowKit
end Go.Proofs.YtjhjmncjidbieaaGreatDoor
namespace Go.Proofs.YtjhjmncjidbieaaGreatDoor
open Go Go.Av Go.RowKit
def sec : Nat → Int → Int → Int → Int
  | 0, _, _, _ => 0
  | n + 1, i, x, y => if (decide (x > y) && decide (y ≥ 0)) || (x == 0 && y == 0) then i else if decide (y ≥ x) && decide (x > 0) then i + 1 else sec n (i + 2) y (-x)
def secX (a b c d : Int) : Int := a * c + b * d
def secY (a b c d : Int) : Int := a * d - b * c
end Go.Proofs.YtjhjmncjidbieaaGreatDoor
namespace Go.Proofs.YtjhjmncjidbieaaGreatDoor
open Go Go.Av Go.RowKit
end Go.Proofs.YtjhjmncjidbieaaGreatDoor
namespace Go.Proofs.YtjhjmncjidbieaaGreatDoor
open Go Go.Av Go.RowKit
end Go.Proofs.YtjhjmncjidbieaaGreatDoor
namespace Go.Proofs.YtjhjmncjidbieaaGreatDoor
open Go Go.Av Go.RowKit
def hrdV (t : Ty) (a b p u v w : Int) : Int := emi t p (u * u + v * v + w * w) * cI [[AV.i t.d0], [AV.i t.d1], [AV.i t.d2], [AV.i t.d3], [AV.i t.d4], [AV.i t.d5], [AV.i t.d6], [AV.i t.d7]] (sec 4 0 (secX a b u v) (secY a b u v)).toNat
def hrd (t : Ty) (a b p u v w : Int) : Int := if decide (4 * (w * w) < u * u + v * v) then (hrdV t a b p u v w * t.side).tdiv 1000000 else (hrdV t a b p u v w).tdiv 1000
end Go.Proofs.YtjhjmncjidbieaaGreatDoor
namespace Go.Proofs.YtjhjmncjidbieaaGreatDoor
open Go Go.Av Go.RowKit
end Go.Proofs.YtjhjmncjidbieaaGreatDoor
namespace Go.Proofs.YtjhjmncjidbieaaGreatDoor
open Go Go.Av Go.RowKit
theorem scan_zero {f : Nat → Int} {n : Nat} {fin : Int} (h : sScan f n fin = 0) : (∀ k, k < n → f k = 0) ∧ fin = 0 := by
  have h1 : ∀ l : List Int, sFirst (l ++ [fin]) = 0 → (∀ x, x ∈ l → x = 0) ∧ fin = 0 := by
    intro l
    induction l with
    | nil => intro h; rw [List.nil_append, first_zero] at h; exact ⟨by simp, h.1⟩
    | cons x l ih =>
      intro h
      rw [List.cons_append, first_zero] at h
      obtain ⟨h2, h3⟩ := h
      have := ih h3
      exact ⟨fun y hy => by rcases List.mem_cons.1 hy with e | e; (· rw [e]; exact h2); (· exact this.1 y e), this.2⟩
  have := h1 _ h
  exact ⟨fun k hk => this.1 _ (List.mem_map.2 ⟨k, List.mem_range.2 hk, rfl⟩), this.2⟩
theorem ls_zero' {c : Int} {f : Nat → Int} {n : Nat} {fin : Int} (h : sLS c f n fin = 0) : c = 0 ∧ (∀ k, k < n → f k = 0) ∧ fin = 0 := by
  unfold sLS at h
  split at h
  · rename_i hc; rw [h] at hc; exact absurd hc (by decide)
  · rename_i hc
    exact ⟨by simpa using hc, scan_zero h⟩
theorem when_z {b : Bool} {e : Int} (he : e ≠ 0) (h : sWhen b e = 0) : b = false := by
  cases b
  · rfl
  · exact absurd h (by simpa [sWhen] using he)
end Go.Proofs.YtjhjmncjidbieaaGreatDoor
namespace Go.Proofs.YtjhjmncjidbieaaGreatDoor
open Go Go.Av Go.RowKit
theorem place_ok {x y z : Int} (h : sPlace x y z = 0) : (-100000 ≤ x ∧ x ≤ 100000) ∧ (-100000 ≤ y ∧ y ≤ 100000) ∧ (0 ≤ z ∧ z ≤ 20000) := by
  unfold sPlace at h
  rw [first_zero, first_zero, first_zero, within_zero, within_zero, within_zero] at h
  exact ⟨h.1, h.2.1, h.2.2.1⟩
end Go.Proofs.YtjhjmncjidbieaaGreatDoor
namespace Go.Proofs.YtjhjmncjidbieaaGreatDoor
open Go Go.Av Go.RowKit
end Go.Proofs.YtjhjmncjidbieaaGreatDoor
namespace Go.Proofs.YtjhjmncjidbieaaGreatDoor
open Go Go.Av Go.RowKit
end Go.Proofs.YtjhjmncjidbieaaGreatDoor
namespace Go.Proofs.YtjhjmncjidbieaaGreatDoor
open Go Go.Av Go.RowKit
def orE (a b : Int) : Int := if a ≠ 0 then a else b
theorem first_c (x : Int) (l : List Int) : sFirst (x :: l) = orE x (sFirst l) := rfl
theorem first_n : sFirst [] = 0 := rfl
theorem orE_0 (a : Int) : orE a 0 = a := by
  unfold orE
  split <;> omega
end Go.Proofs.YtjhjmncjidbieaaGreatDoor
namespace Go.Proofs.YtjhjmncjidbieaaGreatDoor
open Go Go.Av Go.RowKit
end Go.Proofs.YtjhjmncjidbieaaGreatDoor
namespace Go.Proofs.YtjhjmncjidbieaaGreatDoor
open Go Go.Av Go.RowKit
def gsB (g : Nat → List GS) (B : BA) : BA := { B with gs := fun i => B.gs i ++ g i }
end Go.Proofs.YtjhjmncjidbieaaGreatDoor
namespace Go.Proofs.YtjhjmncjidbieaaGreatDoor
open Go Go.Av Go.RowKit
def cJ (rows : List (List AV)) (i j : Nat) : Int := match nth (nthR rows i) j with
  | .int _ n => n
  | _ => 0
def rdC : List AV → Option AV
  | [.elt _ rows i j] => some (.i (cJ rows i j))
  | _ => none
theorem c26 (l : List Fx)  : PCall Tryz.prog G0 26 [.sl 5 (l.map encFx)] (.bool (decide (l.length ≤ 17))) := by
  have key :
   AV.bool (decide ((↑(List.map encFx l).length : Int) ≤ 17)) = AV.bool (decide (l.length ≤ 17)) := by
    rw [List.length_map]
    exact congrArg AV.bool (decide_eq_decide.2 (by omega))
  exact c_of Tryz.f26 (mkB spR 26 [] noLa) (by kernel_rfl) (by kernel_rfl) (by kernel_rfl) (by kernel_rfl) key (by kernel_rfl)
def la29 (l : List Fx) : LA := {
  pre := [.own 3 83 5, .reno 3 1, .keep [0, 3, 6, 7, 8] [1], .bound 2], post := [.reno 3 1, .keep [0, 3, 6, 7, 8] [1], .bound 2]
  Gh := Nat
  st := fun i => ⟨[(0, .sl 5 (l.map encFx)), (3, .own 1 ((l.take i).map encFx).length), (6, .sl 5 (l.map encFx)), (7, .i (l.map encFx).length), (8, .i i)], [(1, .buf 83 5 ((l.take i).map encFx))], 2⟩
  ok := fun i => i ≤ (l.map encFx).length
  ms := fun i => (l.map encFx).length - i }
theorem c29 (l : List Fx) (hl : l.length ≤ 1000) : PCall Tryz.prog G0 29 [.sl 5 (l.map encFx)] (.fresh 83 5 (l.map encFx)) := by
  have key :
   (∃ (g : Nat), g ≤ (List.map encFx l).length ∧ AS.mk [(0, AV.sl 5 (List.map encFx l)), (3, AV.own 1 0), (6, AV.sl 5 (List.map encFx l)), (7, AV.i (↑(List.map encFx l).length : Int)), (8, AV.i 0)] [(1, ABlk.buf 83 5 [])] 2 = AS.mk
   [(0, AV.sl 5 (List.map encFx l)), (3, AV.own 1 (List.map encFx (List.take g l)).length), (6, AV.sl 5 (List.map encFx l)), (7, AV.i (↑(List.map encFx l).length : Int)), (8, AV.i (↑g : Int))] [(1, ABlk.buf 83 5 (List.map encFx
   (List.take g l)))] 2) ∧ ∀ (g : Nat), g ≤ (List.map encFx l).length → (decide ((↑g : Int) < (↑(List.map encFx l).length : Int)) = true → (0 : Int) ≤ (↑g : Int) ∧ (↑g : Int) < (↑(List.map encFx l).length : Int) ∧ AV.agg (nthR
   (List.map encFx l) (↑g : Int).toNat) = AV.agg [AV.i (l.getD (↑g : Int).toNat default).t, AV.i (l.getD (↑g : Int).toNat default).x, AV.i (l.getD (↑g : Int).toNat default).y, AV.i (l.getD (↑g : Int).toNat default).z, AV.i (l.getD (↑g
   : Int).toNat default).p] ∧ (List.map encFx (List.take g l)).length + 1 ≤ 9223372036854775807 ∧ ((List.map encFx (List.take g l)).length + 1) * 40 ≤ 140737488355328 ∧ In64 ((↑g : Int) + 1) ∧ ∃ (g' : Nat), g' ≤ (List.map encFx
   l).length ∧ (List.map encFx l).length - g' < (List.map encFx l).length - g ∧ AS.mk [(0, AV.sl 5 (List.map encFx l)), (3, AV.own 1 ((List.map encFx (List.take g l)).length + 1)), (6, AV.sl 5 (List.map encFx l)), (7, AV.i (↑(List.map
   encFx l).length : Int)), (8, AV.i ((↑g : Int) + 1))] [(1, ABlk.buf 83 5 (List.map encFx (List.take g l) ++ [[AV.i (l.getD (↑g : Int).toNat default).t, AV.i (l.getD (↑g : Int).toNat default).x, AV.i (l.getD (↑g : Int).toNat
   default).y, AV.i (l.getD (↑g : Int).toNat default).z, AV.i (l.getD (↑g : Int).toNat default).p]]))] 2 = AS.mk [(0, AV.sl 5 (List.map encFx l)), (3, AV.own 1 (List.map encFx (List.take g' l)).length), (6, AV.sl 5 (List.map encFx
   l)), (7, AV.i (↑(List.map encFx l).length : Int)), (8, AV.i (↑g' : Int))] [(1, ABlk.buf 83 5 (List.map encFx (List.take g' l)))] 2) ∧ (decide ((↑g : Int) < (↑(List.map encFx l).length : Int)) = false → AV.fresh 83 5 (List.map encFx
   (List.take g l)) = AV.fresh 83 5 (List.map encFx l)) := by
    simp only [List.length_map]
    refine ⟨⟨0, by omega, rfl⟩, fun g hg => ⟨fun hd => ?_, fun hd => ?_⟩⟩
    · have hlt := lt_of_dec hd
      simp only [Int.toNat_natCast]
      refine ⟨by omega, by omega, by rw [row_at _ hlt]; rfl, by rw [List.length_take]; omega, by rw [List.length_take]; omega, by unfold In64; omega, g + 1, hlt, by omega, ?_⟩
      have h2 := take_succ encFx hlt
      simp only [encFx] at h2
      rw [show (l.take g).length + 1 = (l.take (g + 1)).length by simp only [List.length_take]; omega, h2]
      rfl
    · rw [ge_of_dec hd hg, List.take_length]
  exact c_of Tryz.f29 (fzB (mkB spR 29 [(4, 1, rdL 5 encFx l 5 true)] (fun i => if i.beq 0 then some (la29 l) else none))) (by kernel_rfl) (by kernel_rfl) (by kernel_rfl) (by kernel_rfl) key (by kernel_rfl)
theorem c102 (l : List Fx) (h : 1 ≤ l.length) (hl : l.length ≤ 1000) : PCall Tryz.prog G0 102 [.sl 5 (l.map encFx)] (.agg [.i (l.getD 0 default).t, .i (l.getD (l.length - 1) default).t]) := by
  have key :
   (0 : Int) ≤ 0 ∧ (0 : Int) < (↑(List.map encFx l).length : Int) ∧ In64 ((↑(List.map encFx l).length : Int) - 1) ∧ (0 : Int) ≤ (↑(List.map encFx l).length : Int) - 1 ∧ (↑(List.map encFx l).length : Int) - 1 < (↑(List.map encFx
   l).length : Int) ∧ nth (nthR (List.map encFx l) 0) 0 = AV.i (cJ (List.map encFx l) 0 0) ∧ nth (nthR (List.map encFx l) ((↑(List.map encFx l).length : Int) - 1).toNat) 0 = AV.i (cJ (List.map encFx l) ((↑(List.map encFx l).length :
   Int) - 1).toNat 0) ∧ AV.agg [AV.i (cJ (List.map encFx l) 0 0), AV.i (cJ (List.map encFx l) ((↑(List.map encFx l).length : Int) - 1).toNat 0)] = AV.agg [AV.i (l.getD 0 default).t, AV.i (l.getD (l.length - 1) default).t] := by
    have hlm : (List.map encFx l).length = l.length := List.length_map _
    have e1 : ((↑(List.map encFx l).length : Int) - 1).toNat = l.length - 1 := by omega
    have e2 : nthR (List.map encFx l) 0 = encFx (l.getD 0 default) := row_at encFx (by omega)
    have e3 : nthR (List.map encFx l) (l.length - 1) = encFx (l.getD (l.length - 1) default) := row_at encFx (by omega)
    rw [e1]
    unfold cJ
    rw [e2, e3]
    exact ⟨by omega, by omega, by unfold In64; omega, by omega, by omega, rfl, rfl, rfl⟩
  exact c_of Tryz.f102 (mkB spR 102 [(1, 3, rdC), (1, 10, rdC)] noLa) (by kernel_rfl) (by kernel_rfl) (by kernel_rfl) (by kernel_rfl) key (by kernel_rfl)
def atI (l : List Fx) (tk : Int) : Nat → Nat
  | 0 => 0
  | m + 1 => if (l.getD m default).t ≤ tk then m else atI l tk m
theorem atI_lt {l : List Fx} {tk : Int} : ∀ {m : Nat}, 1 ≤ m → atI l tk m < m
  | 0, h => absurd h (by omega)
  | m + 1, _ => by
    simp only [atI]
    split
    · omega
    · by_cases e : m = 0
      · subst e; exact Nat.zero_lt_one
      · have := atI_lt (l := l) (tk := tk) (m := m) (by omega)
        omega
structure TrackOK (l : List Fx) : Prop where
  n1 : 2 ≤ l.length
  n2 : l.length ≤ 16
  b : ∀ i, i < l.length → (0 ≤ (l.getD i default).t ∧ (l.getD i default).t ≤ 100000000) ∧ (-100000 ≤ (l.getD i default).x ∧ (l.getD i default).x ≤ 100000) ∧ (-100000 ≤ (l.getD i default).y ∧ (l.getD i default).y ≤ 100000) ∧ (0 ≤ (l.getD i default).z ∧ (l.getD i default).z ≤ 20000) ∧ 1 ≤ (l.getD i default).p ∧ (l.getD i default).p ≤ 100
  up : ∀ i, i + 1 < l.length → (l.getD i default).t < (l.getD (i + 1) default).t
def atA (l : List Fx) (tk : Int) : Fx := l.getD (atI l tk (l.length - 1)) default
def atB (l : List Fx) (tk : Int) : Fx := l.getD (atI l tk (l.length - 1) + 1) default
def atV (a b : Fx) (tk : Int) : List AV := [.i (sBetween a.x b.x (tk - a.t) (b.t - a.t)), .i (sBetween a.y b.y (tk - a.t) (b.t - a.t)), .i (sBetween a.z b.z (tk - a.t) (b.t - a.t)), .i (b.x - a.x), .i (b.y - a.y), .i (sBetween a.p b.p (tk - a.t) (b.t - a.t))]
def sp126 : Nat → List AV → Option AV
  | 142, [.int _ a, .int _ b, .int _ p, .int _ w] => some (.i (sBetween a b p w))
  | 97, [.int _ a, .int _ b, .int _ p, .int _ w] => some (.i (sBetween a b p w))
  | n, x => spR n x
def la126 (l : List Fx) (tk : Int) : LA := {
  pre := [.keep [0, 1, 4, 5, 17, 18, 19] [1], .bound 2], post := [.keep [0, 1, 4, 5, 17, 18, 19] [1], .bound 2]
  Gh := Nat
  st := fun i => ⟨[(0, .sl 5 (l.map encFx)), (1, .i tk), (4, .ptr 1 0), (5, .i (atI l tk i)), (17, .sl 5 ((l.map encFx).take (l.length - 1))), (18, .i ((l.length : Int) - 1)), (19, .i i)], [(1, .box [.i 0, .i 0, .i 0, .i 0, .i 0, .i 0])], 2⟩
  ok := fun i => i + 1 ≤ l.length
  ms := fun i => l.length - i }
theorem c126 (l : List Fx) (tk : Int) (h : TrackOK l) (htk : -1000 ≤ tk ∧ tk ≤ 200000000) : PCall Tryz.prog G0 126 [.sl 5 (l.map encFx), .i tk] (.agg (atV (atA l tk) (atB l tk) tk)) := by
  have key :
   In64 ((↑(List.map encFx l).length : Int) - 1) ∧ (0 : Int) ≤ 0 ∧ (0 : Int) ≤ (↑(List.map encFx l).length : Int) - 1 ∧ (↑(List.map encFx l).length : Int) - 1 ≤ (↑(List.map encFx l).length : Int) ∧ (∃ (g : Nat), g + 1 ≤ l.length ∧
   AS.mk [(0, AV.sl 5 (List.map encFx l)), (1, AV.i tk), (4, AV.ptr 1 0), (5, AV.i 0), (17, AV.sl 5 (List.take ((↑(List.map encFx l).length : Int) - 1 - 0).toNat (List.drop 0 (List.map encFx l)))), (18, AV.i (↑(List.take ((↑(List.map
   encFx l).length : Int) - 1 - 0).toNat (List.drop 0 (List.map encFx l))).length : Int)), (19, AV.i 0)] [(1, ABlk.box [AV.i 0, AV.i 0, AV.i 0, AV.i 0, AV.i 0, AV.i 0])] 2 = AS.mk [(0, AV.sl 5 (List.map encFx l)), (1, AV.i tk), (4,
   AV.ptr 1 0), (5, AV.i (↑(atI l tk g) : Int)), (17, AV.sl 5 (List.take (l.length - 1) (List.map encFx l))), (18, AV.i ((↑l.length : Int) - 1)), (19, AV.i (↑g : Int))] [(1, ABlk.box [AV.i 0, AV.i 0, AV.i 0, AV.i 0, AV.i 0, AV.i 0])]
   2) ∧ ∀ (g : Nat), g + 1 ≤ l.length → (decide ((↑g : Int) < (↑l.length : Int) - 1) = true → (0 : Int) ≤ (↑g : Int) ∧ (↑g : Int) < (↑(List.take (l.length - 1) (List.map encFx l)).length : Int) ∧ AV.agg (nthR (List.take (l.length - 1)
   (List.map encFx l)) (↑g : Int).toNat) = AV.agg [AV.i (l.getD (↑g : Int).toNat default).t, AV.i (l.getD (↑g : Int).toNat default).x, AV.i (l.getD (↑g : Int).toNat default).y, AV.i (l.getD (↑g : Int).toNat default).z, AV.i (l.getD
   (↑g : Int).toNat default).p] ∧ (decide ((l.getD (↑g : Int).toNat default).t ≤ tk) = true → In64 ((↑g : Int) + 1) ∧ ∃ (g' : Nat), g' + 1 ≤ l.length ∧ l.length - g' < l.length - g ∧ AS.mk [(0, AV.sl 5 (List.map encFx l)), (1, AV.i
   tk), (4, AV.ptr 1 0), (5, AV.i (↑g : Int)), (17, AV.sl 5 (List.take (l.length - 1) (List.map encFx l))), (18, AV.i ((↑l.length : Int) - 1)), (19, AV.i ((↑g : Int) + 1))] [(1, ABlk.box [AV.i 0, AV.i 0, AV.i 0, AV.i 0, AV.i 0, AV.i
   0])] 2 = AS.mk [(0, AV.sl 5 (List.map encFx l)), (1, AV.i tk), (4, AV.ptr 1 0), (5, AV.i (↑(atI l tk g') : Int)), (17, AV.sl 5 (List.take (l.length - 1) (List.map encFx l))), (18, AV.i ((↑l.length : Int) - 1)), (19, AV.i (↑g' :
   Int))] [(1, ABlk.box [AV.i 0, AV.i 0, AV.i 0, AV.i 0, AV.i 0, AV.i 0])] 2) ∧ (decide ((l.getD (↑g : Int).toNat default).t ≤ tk) = false → In64 ((↑g : Int) + 1) ∧ ∃ (g' : Nat), g' + 1 ≤ l.length ∧ l.length - g' < l.length - g ∧
   AS.mk [(0, AV.sl 5 (List.map encFx l)), (1, AV.i tk), (4, AV.ptr 1 0), (5, AV.i (↑(atI l tk g) : Int)), (17, AV.sl 5 (List.take (l.length - 1) (List.map encFx l))), (18, AV.i ((↑l.length : Int) - 1)), (19, AV.i ((↑g : Int) + 1))]
   [(1, ABlk.box [AV.i 0, AV.i 0, AV.i 0, AV.i 0, AV.i 0, AV.i 0])] 2 = AS.mk [(0, AV.sl 5 (List.map encFx l)), (1, AV.i tk), (4, AV.ptr 1 0), (5, AV.i (↑(atI l tk g') : Int)), (17, AV.sl 5 (List.take (l.length - 1) (List.map encFx
   l))), (18, AV.i ((↑l.length : Int) - 1)), (19, AV.i (↑g' : Int))] [(1, ABlk.box [AV.i 0, AV.i 0, AV.i 0, AV.i 0, AV.i 0, AV.i 0])] 2)) ∧ (decide ((↑g : Int) < (↑l.length : Int) - 1) = false → (0 : Int) ≤ (↑(atI l tk g) : Int) ∧
   (↑(atI l tk g) : Int) < (↑(List.map encFx l).length : Int) ∧ In64 ((↑(atI l tk g) : Int) + 1) ∧ (0 : Int) ≤ (↑(atI l tk g) : Int) + 1 ∧ (↑(atI l tk g) : Int) + 1 < (↑(List.map encFx l).length : Int) ∧ AV.agg (nthR (List.map encFx
   l) (↑(atI l tk g) : Int).toNat) = AV.agg [AV.i (l.getD (↑(atI l tk g) : Int).toNat default).t, AV.i (l.getD (↑(atI l tk g) : Int).toNat default).x, AV.i (l.getD (↑(atI l tk g) : Int).toNat default).y, AV.i (l.getD (↑(atI l tk g) :
   Int).toNat default).z, AV.i (l.getD (↑(atI l tk g) : Int).toNat default).p] ∧ AV.agg (nthR (List.map encFx l) ((↑(atI l tk g) : Int) + 1).toNat) = AV.agg [AV.i (l.getD ((↑(atI l tk g) : Int) + 1).toNat default).t, AV.i (l.getD
   ((↑(atI l tk g) : Int) + 1).toNat default).x, AV.i (l.getD ((↑(atI l tk g) : Int) + 1).toNat default).y, AV.i (l.getD ((↑(atI l tk g) : Int) + 1).toNat default).z, AV.i (l.getD ((↑(atI l tk g) : Int) + 1).toNat default).p] ∧ In64
   (tk - (l.getD (↑(atI l tk g) : Int).toNat default).t) ∧ In64 ((l.getD ((↑(atI l tk g) : Int) + 1).toNat default).t - (l.getD (↑(atI l tk g) : Int).toNat default).t) ∧ PCall Tryz.prog G0 142 [AV.i (l.getD (↑(atI l tk g) : Int).toNat
   default).x, AV.i (l.getD ((↑(atI l tk g) : Int) + 1).toNat default).x, AV.i (tk - (l.getD (↑(atI l tk g) : Int).toNat default).t), AV.i ((l.getD ((↑(atI l tk g) : Int) + 1).toNat default).t - (l.getD (↑(atI l tk g) : Int).toNat
   default).t)] (AV.i (sBetween (l.getD (↑(atI l tk g) : Int).toNat default).x (l.getD ((↑(atI l tk g) : Int) + 1).toNat default).x (tk - (l.getD (↑(atI l tk g) : Int).toNat default).t) ((l.getD ((↑(atI l tk g) : Int) + 1).toNat
   default).t - (l.getD (↑(atI l tk g) : Int).toNat default).t))) ∧ PCall Tryz.prog G0 142 [AV.i (l.getD (↑(atI l tk g) : Int).toNat default).y, AV.i (l.getD ((↑(atI l tk g) : Int) + 1).toNat default).y, AV.i (tk - (l.getD (↑(atI l tk
   g) : Int).toNat default).t), AV.i ((l.getD ((↑(atI l tk g) : Int) + 1).toNat default).t - (l.getD (↑(atI l tk g) : Int).toNat default).t)] (AV.i (sBetween (l.getD (↑(atI l tk g) : Int).toNat default).y (l.getD ((↑(atI l tk g) :
   Int) + 1).toNat default).y (tk - (l.getD (↑(atI l tk g) : Int).toNat default).t) ((l.getD ((↑(atI l tk g) : Int) + 1).toNat default).t - (l.getD (↑(atI l tk g) : Int).toNat default).t))) ∧ PCall Tryz.prog G0 142 [AV.i (l.getD
   (↑(atI l tk g) : Int).toNat default).z, AV.i (l.getD ((↑(atI l tk g) : Int) + 1).toNat default).z, AV.i (tk - (l.getD (↑(atI l tk g) : Int).toNat default).t), AV.i ((l.getD ((↑(atI l tk g) : Int) + 1).toNat default).t - (l.getD
   (↑(atI l tk g) : Int).toNat default).t)] (AV.i (sBetween (l.getD (↑(atI l tk g) : Int).toNat default).z (l.getD ((↑(atI l tk g) : Int) + 1).toNat default).z (tk - (l.getD (↑(atI l tk g) : Int).toNat default).t) ((l.getD ((↑(atI l
   tk g) : Int) + 1).toNat default).t - (l.getD (↑(atI l tk g) : Int).toNat default).t))) ∧ In64 ((l.getD ((↑(atI l tk g) : Int) + 1).toNat default).x - (l.getD (↑(atI l tk g) : Int).toNat default).x) ∧ In64 ((l.getD ((↑(atI l tk g) :
   Int) + 1).toNat default).y - (l.getD (↑(atI l tk g) : Int).toNat default).y) ∧ PCall Tryz.prog G0 142 [AV.i (l.getD (↑(atI l tk g) : Int).toNat default).p, AV.i (l.getD ((↑(atI l tk g) : Int) + 1).toNat default).p, AV.i (tk -
   (l.getD (↑(atI l tk g) : Int).toNat default).t), AV.i ((l.getD ((↑(atI l tk g) : Int) + 1).toNat default).t - (l.getD (↑(atI l tk g) : Int).toNat default).t)] (AV.i (sBetween (l.getD (↑(atI l tk g) : Int).toNat default).p (l.getD
   ((↑(atI l tk g) : Int) + 1).toNat default).p (tk - (l.getD (↑(atI l tk g) : Int).toNat default).t) ((l.getD ((↑(atI l tk g) : Int) + 1).toNat default).t - (l.getD (↑(atI l tk g) : Int).toNat default).t))) ∧ AV.agg [AV.i (sBetween
   (l.getD (↑(atI l tk g) : Int).toNat default).x (l.getD ((↑(atI l tk g) : Int) + 1).toNat default).x (tk - (l.getD (↑(atI l tk g) : Int).toNat default).t) ((l.getD ((↑(atI l tk g) : Int) + 1).toNat default).t - (l.getD (↑(atI l tk
   g) : Int).toNat default).t)), AV.i (sBetween (l.getD (↑(atI l tk g) : Int).toNat default).y (l.getD ((↑(atI l tk g) : Int) + 1).toNat default).y (tk - (l.getD (↑(atI l tk g) : Int).toNat default).t) ((l.getD ((↑(atI l tk g) : Int)
   + 1).toNat default).t - (l.getD (↑(atI l tk g) : Int).toNat default).t)), AV.i (sBetween (l.getD (↑(atI l tk g) : Int).toNat default).z (l.getD ((↑(atI l tk g) : Int) + 1).toNat default).z (tk - (l.getD (↑(atI l tk g) : Int).toNat
   default).t) ((l.getD ((↑(atI l tk g) : Int) + 1).toNat default).t - (l.getD (↑(atI l tk g) : Int).toNat default).t)), AV.i ((l.getD ((↑(atI l tk g) : Int) + 1).toNat default).x - (l.getD (↑(atI l tk g) : Int).toNat default).x),
   AV.i ((l.getD ((↑(atI l tk g) : Int) + 1).toNat default).y - (l.getD (↑(atI l tk g) : Int).toNat default).y), AV.i (sBetween (l.getD (↑(atI l tk g) : Int).toNat default).p (l.getD ((↑(atI l tk g) : Int) + 1).toNat default).p (tk -
   (l.getD (↑(atI l tk g) : Int).toNat default).t) ((l.getD ((↑(atI l tk g) : Int) + 1).toNat default).t - (l.getD (↑(atI l tk g) : Int).toNat default).t))] = AV.agg [AV.i (sBetween (atA l tk).x (atB l tk).x (tk - (atA l tk).t) ((atB
   l tk).t - (atA l tk).t)), AV.i (sBetween (atA l tk).y (atB l tk).y (tk - (atA l tk).t) ((atB l tk).t - (atA l tk).t)), AV.i (sBetween (atA l tk).z (atB l tk).z (tk - (atA l tk).t) ((atB l tk).t - (atA l tk).t)), AV.i ((atB l tk).x
   - (atA l tk).x), AV.i ((atB l tk).y - (atA l tk).y), AV.i (sBetween (atA l tk).p (atB l tk).p (tk - (atA l tk).t) ((atB l tk).t - (atA l tk).t))]) := by
    have hlm : (List.map encFx l).length = l.length := List.length_map _
    have hn := h.n1
    have e1 : List.take ((↑(List.map encFx l).length : Int) - 1 - 0).toNat (List.drop 0 (List.map encFx l)) = List.take (l.length - 1) (List.map encFx l) := by
      rw [hlm, List.drop_zero]
      congr 1
      omega
    have e2 : ((List.take (l.length - 1) (List.map encFx l)).length : Int) = (l.length : Int) - 1 := by
      rw [List.length_take, hlm]
      omega
    have hl := h.n2
    refine ⟨by unfold In64; omega, by omega, by omega, by omega, ⟨0, by omega, ?_⟩, fun g hg => ⟨fun hd => ?_, fun hd => ?_⟩⟩
    · rw [e1, e2]
      rfl
    · have hlt := of_decide_eq_true hd
      simp only [Int.toNat_natCast]
      refine ⟨by omega, by rw [e2]; omega, ?_, fun hx => ⟨by unfold In64; omega, g + 1, by omega, by omega, ?_⟩, fun hx => ⟨by unfold In64; omega, g + 1, by omega, by omega, ?_⟩⟩
      · have : nthR (List.take (l.length - 1) (List.map encFx l)) g = nthR (List.map encFx l) g := by
          unfold nthR
          rw [List.getD_eq_getElem?_getD, List.getD_eq_getElem?_getD, List.getElem?_take_of_lt (by omega)]
        rw [this, row_at encFx (by omega)]
        rfl
      · rw [show atI l tk (g + 1) = g from if_pos (of_decide_eq_true hx)]
        rfl
      · rw [show atI l tk (g + 1) = atI l tk g from if_neg (of_decide_eq_false hx)]
        rfl
    · have hge : g = l.length - 1 := by
        have := of_decide_eq_false hd
        omega
      subst hge
      have hi := atI_lt (l := l) (tk := tk) (m := l.length - 1) (by omega)
      have e3 : ((↑(atI l tk (l.length - 1)) : Int) + 1).toNat = atI l tk (l.length - 1) + 1 := by omega
      have r1 : nthR (List.map encFx l) (atI l tk (l.length - 1)) = encFx (atA l tk) := row_at encFx (by omega)
      have r2 : nthR (List.map encFx l) (atI l tk (l.length - 1) + 1) = encFx (atB l tk) := row_at encFx (by omega)
      have bA := h.b (atI l tk (l.length - 1)) (by omega)
      have bB := h.b (atI l tk (l.length - 1) + 1) (by omega)
      have up := h.up (atI l tk (l.length - 1)) (by omega)
      rw [e3, Int.toNat_natCast, r1, r2]
      rw [show l.getD (atI l tk (l.length - 1)) default = atA l tk from rfl] at bA up ⊢
      rw [show l.getD (atI l tk (l.length - 1) + 1) default = atB l tk from rfl] at bB up ⊢
      generalize atA l tk = A at *
      generalize atB l tk = B at *
      exact ⟨by omega, by omega, by unfold In64; omega, by omega, by omega, rfl, rfl, by unfold In64; omega, by unfold In64; omega, c142 _ _ _ _ ⟨by omega, by omega, by omega, by omega, by omega, by omega, by omega⟩, c142 _ _ _ _ ⟨by omega, by omega, by omega, by omega, by omega, by omega, by omega⟩, c142 _ _ _ _ ⟨by omega, by omega, by omega, by omega, by omega, by omega, by omega⟩, by unfold In64; omega, by unfold In64; omega, c142 _ _ _ _ ⟨by omega, by omega, by omega, by omega, by omega, by omega, by omega⟩, rfl⟩
  exact c_of Tryz.f126 (fzB (mkB sp126 126 [(4, 2, rdL 5 encFx l 5 true), (8, 3, rdL 5 encFx l 5 true), (8, 8, rdL 5 encFx l 5 true)] (fun i => if i.beq 0 then some (la126 l tk) else none))) (by kernel_rfl) (by kernel_rfl) (by kernel_rfl) (by kernel_rfl) key (by kernel_rfl)
end Go.Proofs.YtjhjmncjidbieaaGreatDoor
namespace Go.Proofs.YtjhjmncjidbieaaGreatDoor
open Go Go.Av Go.RowKit
theorem floor_eq {n d : Int} (hd : 0 < d) : sFloor n d = n / d := by
  have e1 := Int.mul_tdiv_add_tmod n d
  have e2 := Int.tmod_lt_of_pos n hd
  have e3 : -d < n.tmod d := by
    have := Int.lt_tmod_of_pos n hd
    omega
  have key : ∀ q : Int, q * d ≤ n → n < (q + 1) * d → q = n / d := fun q h1 h2 => by
    have h3 := (Int.le_ediv_iff_mul_le hd).2 h1
    have h4 := (Int.ediv_lt_iff_lt_mul hd).2 h2
    omega
  have e4 : d * n.tdiv d = n.tdiv d * d := Int.mul_comm _ _
  unfold sFloor
  split
  · rename_i h
    refine key _ ?_ ?_
    · rw [Int.sub_mul, Int.one_mul]
      omega
    · rw [Int.sub_add_cancel]
      exact h
  · rename_i h
    have h5 : 0 ≤ n.tmod d := by omega
    refine key _ (by omega) ?_
    rw [Int.add_mul, Int.one_mul]
    omega
theorem bet_eq {a b p w : Int} (hw : 0 < w) : sBetween a b p w = (a * (w - p) + b * p) / w := by
  unfold sBetween
  rw [floor_eq hw]
  have e : a * (w - p) + b * p = (b - a) * p + a * w := by
    rw [Int.mul_sub, Int.sub_mul]
    omega
  rw [e, Int.add_mul_ediv_right _ _ (by omega)]
  omega
theorem bet_mono {a b a' b' p w : Int} (hw : 0 < w) (h0 : 0 ≤ p) (h1 : p ≤ w) (ha : a ≤ a') (hb : b ≤ b') : sBetween a b p w ≤ sBetween a' b' p w := by
  rw [bet_eq hw, bet_eq hw]
  refine Int.ediv_le_ediv hw ?_
  have e1 := Int.mul_le_mul_of_nonneg_right ha (show 0 ≤ w - p by omega)
  have e2 := Int.mul_le_mul_of_nonneg_right hb h0
  omega
theorem bet_same {a p w : Int} (hw : 0 < w) : sBetween a a p w = a := by
  unfold sBetween
  rw [floor_eq hw, Int.sub_self, Int.zero_mul, Int.zero_ediv]
  omega
theorem bet_lo {a b x p w : Int} (hw : 0 < w) (h0 : 0 ≤ p) (h1 : p ≤ w) (ha : x ≤ a) (hb : x ≤ b) : x ≤ sBetween a b p w := by
  have := bet_mono hw h0 h1 ha hb
  rwa [bet_same hw] at this
theorem bet_hi {a b x p w : Int} (hw : 0 < w) (h0 : 0 ≤ p) (h1 : p ≤ w) (ha : a ≤ x) (hb : b ≤ x) : sBetween a b p w ≤ x := by
  have := bet_mono hw h0 h1 ha hb
  rwa [bet_same hw] at this
def val (E P : Nat → Int) (n g : Nat) (p : Int) : Int :=
  if g = n then E (n - 1) else if g = 0 ∨ P g = p then E g else sBetween (E (g - 1)) (E g) (p - P (g - 1)) (P g - P (g - 1))
structure Gat (P : Nat → Int) (n g : Nat) (p : Int) : Prop where
  le : g ≤ n
  below : ∀ j, j < g → P j < p
  at_ : g < n → p ≤ P g
structure UpTy (t : Ty) : Prop where
  u : ∀ i k, i + 1 < t.st.length → k < t.sq.length → eAt (t.sg i).e k ≤ eAt (t.sg (i + 1)).e k
  d : ∀ i k, i < t.st.length → k + 1 < t.sq.length → eAt (t.sg i).e (k + 1) ≤ eAt (t.sg i).e k
end Go.Proofs.YtjhjmncjidbieaaGreatDoor
