/-
  What chapter 2's reference emission returns, on a type that passes its checks. No condition but the theorems' own. What chapter 2's sectors return. No condition but the theorems' own. What chapter 2's reference sector returns. No condition but the theorems' own. What chapter 2's checks of a state return, and what is heard of one. No condition but the theorems' own. What chapter 2's heard of a state returns. No condition but the theorems' own. What chapter 2's Sector of the source returns. No condition but the theorems' own. What a type that passes the source's checks has. No condition but the theorems' own. What chapter 2's Emission and Heard of the source return. No condition but the theorems' own. What chapter 2's SameInts returns. No condition but the theorems' own. What chapter 2's bands return. No condition but the theorems' own. The plain law of types: the program's and the reference's checks of a type are the same, and so are the bands of an energy.
    No condition but the theorems' own. What chapter 2's reference bands return. No condition but the theorems' own. What the source's bands return. No condition but the theorems' own. Plain laws of types: sectors of turned directions, what lies between two settings, emissions that grow and fall, bands that add up. No condition but the theorems' own. What chapter 2's given and told return: the type itself. No condition but the theorems' own. What is asked of a type; what the source returns of it. No condition but the theorems' own.
-/
import Derived.Test.YtjhjmncjidbieaaGreatDoorPC
import Derived.Test.YtjhjmncjidbieaaGreatDoorAvC
namespace Go.Proofs.YtjhjmncjidbieaaGreatDoor
open Go Go.Av Go.RowKit
end Go.Proofs.YtjhjmncjidbieaaGreatDoor
namespace Go.Proofs.YtjhjmncjidbieaaGreatDoor
open Go Go.Av Go.RowKit
/-- The sector of a direction, by four quarter turns. -/
def sec : Nat → Int → Int → Int → Int
  | 0, _, _, _ => 0
  | n + 1, i, x, y => if (decide (x > y) && decide (y ≥ 0)) || (x == 0 && y == 0) then i else if decide (y ≥ x) && decide (x > 0) then i + 1 else sec n (i + 2) y (-x)
def rX : Nat → Int → Int → Int
  | 0, x, _ => x
  | 1, _, y => y
  | 2, x, _ => -x
  | 3, _, y => -y
  | _, x, _ => x
def rY : Nat → Int → Int → Int
  | 0, _, y => y
  | 1, x, _ => -x
  | 2, _, y => -y
  | 3, x, _ => x
  | _, _, y => y
def secX (a b c d : Int) : Int := a * c + b * d
def secY (a b c d : Int) : Int := a * d - b * c
theorem rX_b {B x y : Int} (hx : -B ≤ x ∧ x ≤ B) (hy : -B ≤ y ∧ y ≤ B) : ∀ k, -B ≤ rX k x y ∧ rX k x y ≤ B
  | 0 => hx
  | 1 => hy
  | 2 => by simp only [rX]; omega
  | 3 => by simp only [rX]; omega
  | _ + 4 => hx
theorem r_step {x y : Int} : ∀ {k : Nat}, k < 4 → rX (k + 1) x y = rY k x y ∧ rY (k + 1) x y = 0 - rX k x y
  | 0, _ => ⟨rfl, by simp only [rX, rY]; omega⟩
  | 1, _ => ⟨rfl, by simp only [rX, rY]; omega⟩
  | 2, _ => ⟨rfl, by simp only [rX, rY]; omega⟩
  | 3, _ => ⟨rfl, by simp only [rX, rY]; omega⟩
  | _ + 4, h => absurd h (by omega)
theorem sec_in {a b c d : Int} (ha : -200000 ≤ a ∧ a ≤ 200000) (hb : -200000 ≤ b ∧ b ≤ 200000) (hc : -200000 ≤ c ∧ c ≤ 200000) (hd : -200000 ≤ d ∧ d ≤ 200000) :
    In64 (a * c) ∧ In64 (b * d) ∧ In64 (a * c + b * d) ∧ In64 (a * d) ∧ In64 (b * c) ∧ In64 (a * d - b * c) ∧ (-100000000000 ≤ secX a b c d ∧ secX a b c d ≤ 100000000000) ∧ (-100000000000 ≤ secY a b c d ∧ secY a b c d ≤ 100000000000) := by
  have h1 := mul_bound ha.1 ha.2 hc.1 hc.2
  have h2 := mul_bound hb.1 hb.2 hd.1 hd.2
  have h3 := mul_bound ha.1 ha.2 hd.1 hd.2
  have h4 := mul_bound hb.1 hb.2 hc.1 hc.2
  unfold secX secY In64
  generalize a * c = w1 at *
  generalize b * d = w2 at *
  generalize a * d = w3 at *
  generalize b * c = w4 at *
  omega
theorem sec_step {g : Nat} {x y S : Int} (hg : g < 4) (hs : sec (4 - g) (2 * g : Nat) (rX g x y) (rY g x y) = S) :
    ((((decide (rX g x y > rY g x y) && decide (rY g x y ≥ 0)) || (rX g x y == 0 && rY g x y == 0)) = true → AV.i (2 * g : Nat) = AV.i S) ∧
    (((decide (rX g x y > rY g x y) && decide (rY g x y ≥ 0)) || (rX g x y == 0 && rY g x y == 0)) = false → (decide (rY g x y ≥ rX g x y) && decide (rX g x y > 0)) = true → AV.i ((2 * g : Nat) + 1) = AV.i S) ∧
    (((decide (rX g x y > rY g x y) && decide (rY g x y ≥ 0)) || (rX g x y == 0 && rY g x y == 0)) = false → (decide (rY g x y ≥ rX g x y) && decide (rX g x y > 0)) = false →
      ∃ g' : Nat, (g' ≤ 4 ∧ sec (4 - g') (2 * g' : Nat) (rX g' x y) (rY g' x y) = S) ∧ 4 - g' < 4 - g ∧ rY g x y = rX g' x y ∧ 0 - rX g x y = rY g' x y ∧ ((2 * g : Nat) : Int) + 2 = (2 * g' : Nat))) := by
  rw [show 4 - g = (3 - g) + 1 by omega] at hs
  simp only [sec] at hs
  refine ⟨fun h => ?_, fun h h2 => ?_, fun h h2 => ⟨g + 1, ⟨hg, ?_⟩, by omega, (r_step hg).1.symm, (r_step hg).2.symm, by omega⟩⟩
  · rw [if_pos h] at hs
    rw [hs]
  · rw [if_neg (by rw [h]; decide), if_pos h2] at hs
    rw [hs]
  · rw [if_neg (by rw [h]; decide), if_neg (by rw [h2]; decide)] at hs
    rw [show 4 - (g + 1) = 3 - g by omega, (r_step hg).1, (r_step hg).2, show ((2 * (g + 1) : Nat) : Int) = ((2 * g : Nat) : Int) + 2 by omega, show 0 - rX g x y = - rX g x y by omega]
    exact hs
def la116 (a b c d : Int) : LA := {
  pre := [.keep [5, 6, 7] [], .bound 1], post := [.keep [5, 6, 7] [], .bound 1]
  Gh := Nat
  st := fun k => ⟨[(5, .i (rX k (secX a b c d) (secY a b c d))), (6, .i (rY k (secX a b c d) (secY a b c d))), (7, .i (2 * k : Nat))], [], 1⟩
  ok := fun k => k ≤ 4 ∧ sec (4 - k) (2 * k : Nat) (rX k (secX a b c d) (secY a b c d)) (rY k (secX a b c d) (secY a b c d)) = sec 4 0 (secX a b c d) (secY a b c d)
  ms := fun k => 4 - k }
theorem c116 (a b c d : Int) (ha : -200000 ≤ a ∧ a ≤ 200000) (hb : -200000 ≤ b ∧ b ≤ 200000) (hc : -200000 ≤ c ∧ c ≤ 200000) (hd : -200000 ≤ d ∧ d ≤ 200000) : PCall Tryz.prog G0 116 [.agg [.i a, .i b], .agg [.i c, .i d]] (.i (sec 4 0 (secX a b c d) (secY a b c d))) := by
  have key :
   In64 (a * c) ∧ In64 (b * d) ∧ In64 (a * c + b * d) ∧ In64 (a * d) ∧ In64 (b * c) ∧ In64 (a * d - b * c) ∧ (∃ (g : Nat), (g ≤ 4 ∧ sec (4 - g) (↑(2 * g) : Int) (rX g (secX a b c d) (secY a b c d)) (rY g (secX a b c d) (secY a b c d))
   = sec 4 (0 : Int) (secX a b c d) (secY a b c d)) ∧ AS.mk [(5, AV.i (a * c + b * d)), (6, AV.i (a * d - b * c)), (7, AV.i 0)] [] 1 = AS.mk [(5, AV.i (rX g (secX a b c d) (secY a b c d))), (6, AV.i (rY g (secX a b c d) (secY a b c
   d))), (7, AV.i (↑(2 * g) : Int))] [] 1) ∧ ∀ (g : Nat), g ≤ 4 ∧ sec (4 - g) (↑(2 * g) : Int) (rX g (secX a b c d) (secY a b c d)) (rY g (secX a b c d) (secY a b c d)) = sec 4 (0 : Int) (secX a b c d) (secY a b c d) → (decide ((↑(2 *
   g) : Int) < (8 : Int)) = true → (decide (rX g (secX a b c d) (secY a b c d) > rY g (secX a b c d) (secY a b c d)) = true → (decide (rY g (secX a b c d) (secY a b c d) ≥ (0 : Int)) = true → (true = false → false = true) ∧ AV.bool
   (decide (rX g (secX a b c d) (secY a b c d) > rY g (secX a b c d) (secY a b c d))) = AV.bool true ∧ AV.bool (decide (rY g (secX a b c d) (secY a b c d) ≥ (0 : Int))) = AV.bool true ∧ (true = true → AV.i (↑(2 * g) : Int) = AV.i (sec
   4 (0 : Int) (secX a b c d) (secY a b c d))) ∧ (true = false → (decide (rY g (secX a b c d) (secY a b c d) ≥ rX g (secX a b c d) (secY a b c d)) = true → AV.bool (decide (rY g (secX a b c d) (secY a b c d) ≥ rX g (secX a b c d)
   (secY a b c d))) = AV.bool true ∧ (decide (rX g (secX a b c d) (secY a b c d) > (0 : Int)) = true → In64 ((↑(2 * g) : Int) + (1 : Int)) ∧ AV.i ((↑(2 * g) : Int) + (1 : Int)) = AV.i (sec 4 (0 : Int) (secX a b c d) (secY a b c d))) ∧
   (decide (rX g (secX a b c d) (secY a b c d) > (0 : Int)) = false → In64 ((0 : Int) - rX g (secX a b c d) (secY a b c d)) ∧ In64 ((↑(2 * g) : Int) + (2 : Int)) ∧ ∃ (g' : Nat), (g' ≤ 4 ∧ sec (4 - g') (↑(2 * g') : Int) (rX g' (secX a
   b c d) (secY a b c d)) (rY g' (secX a b c d) (secY a b c d)) = sec 4 (0 : Int) (secX a b c d) (secY a b c d)) ∧ 4 - g' < 4 - g ∧ AS.mk [(5, AV.i (rY g (secX a b c d) (secY a b c d))), (6, AV.i ((0 : Int) - rX g (secX a b c d) (secY
   a b c d))), (7, AV.i ((↑(2 * g) : Int) + (2 : Int)))] [] 1 = AS.mk [(5, AV.i (rX g' (secX a b c d) (secY a b c d))), (6, AV.i (rY g' (secX a b c d) (secY a b c d))), (7, AV.i (↑(2 * g') : Int))] [] 1)) ∧ (decide (rY g (secX a b c
   d) (secY a b c d) ≥ rX g (secX a b c d) (secY a b c d)) = false → (false = true → false = true) ∧ AV.bool (decide (rY g (secX a b c d) (secY a b c d) ≥ rX g (secX a b c d) (secY a b c d))) = AV.bool false ∧ (false = true → In64
   ((↑(2 * g) : Int) + (1 : Int)) ∧ AV.i ((↑(2 * g) : Int) + (1 : Int)) = AV.i (sec 4 (0 : Int) (secX a b c d) (secY a b c d))) ∧ (false = false → In64 ((0 : Int) - rX g (secX a b c d) (secY a b c d)) ∧ In64 ((↑(2 * g) : Int) + (2 :
   Int)) ∧ ∃ (g' : Nat), (g' ≤ 4 ∧ sec (4 - g') (↑(2 * g') : Int) (rX g' (secX a b c d) (secY a b c d)) (rY g' (secX a b c d) (secY a b c d)) = sec 4 (0 : Int) (secX a b c d) (secY a b c d)) ∧ 4 - g' < 4 - g ∧ AS.mk [(5, AV.i (rY g
   (secX a b c d) (secY a b c d))), (6, AV.i ((0 : Int) - rX g (secX a b c d) (secY a b c d))), (7, AV.i ((↑(2 * g) : Int) + (2 : Int)))] [] 1 = AS.mk [(5, AV.i (rX g' (secX a b c d) (secY a b c d))), (6, AV.i (rY g' (secX a b c d)
   (secY a b c d))), (7, AV.i (↑(2 * g') : Int))] [] 1)))) ∧ (decide (rY g (secX a b c d) (secY a b c d) ≥ (0 : Int)) = false → ((rX g (secX a b c d) (secY a b c d) == (0 : Int)) = true → AV.bool (decide (rX g (secX a b c d) (secY a b
   c d) > rY g (secX a b c d) (secY a b c d))) = AV.bool true ∧ AV.bool (decide (rY g (secX a b c d) (secY a b c d) ≥ (0 : Int))) = AV.bool false ∧ AV.bool (rX g (secX a b c d) (secY a b c d) == (0 : Int)) = AV.bool true ∧ ((rY g
   (secX a b c d) (secY a b c d) == (0 : Int)) = true → AV.i (↑(2 * g) : Int) = AV.i (sec 4 (0 : Int) (secX a b c d) (secY a b c d))) ∧ ((rY g (secX a b c d) (secY a b c d) == (0 : Int)) = false → (decide (rY g (secX a b c d) (secY a
   b c d) ≥ rX g (secX a b c d) (secY a b c d)) = true → AV.bool (decide (rY g (secX a b c d) (secY a b c d) ≥ rX g (secX a b c d) (secY a b c d))) = AV.bool true ∧ (decide (rX g (secX a b c d) (secY a b c d) > (0 : Int)) = true →
   In64 ((↑(2 * g) : Int) + (1 : Int)) ∧ AV.i ((↑(2 * g) : Int) + (1 : Int)) = AV.i (sec 4 (0 : Int) (secX a b c d) (secY a b c d))) ∧ (decide (rX g (secX a b c d) (secY a b c d) > (0 : Int)) = false → In64 ((0 : Int) - rX g (secX a b
   c d) (secY a b c d)) ∧ In64 ((↑(2 * g) : Int) + (2 : Int)) ∧ ∃ (g' : Nat), (g' ≤ 4 ∧ sec (4 - g') (↑(2 * g') : Int) (rX g' (secX a b c d) (secY a b c d)) (rY g' (secX a b c d) (secY a b c d)) = sec 4 (0 : Int) (secX a b c d) (secY
   a b c d)) ∧ 4 - g' < 4 - g ∧ AS.mk [(5, AV.i (rY g (secX a b c d) (secY a b c d))), (6, AV.i ((0 : Int) - rX g (secX a b c d) (secY a b c d))), (7, AV.i ((↑(2 * g) : Int) + (2 : Int)))] [] 1 = AS.mk [(5, AV.i (rX g' (secX a b c d)
   (secY a b c d))), (6, AV.i (rY g' (secX a b c d) (secY a b c d))), (7, AV.i (↑(2 * g') : Int))] [] 1)) ∧ (decide (rY g (secX a b c d) (secY a b c d) ≥ rX g (secX a b c d) (secY a b c d)) = false → (false = true → false = true) ∧
   AV.bool (decide (rY g (secX a b c d) (secY a b c d) ≥ rX g (secX a b c d) (secY a b c d))) = AV.bool false ∧ (false = true → In64 ((↑(2 * g) : Int) + (1 : Int)) ∧ AV.i ((↑(2 * g) : Int) + (1 : Int)) = AV.i (sec 4 (0 : Int) (secX a
   b c d) (secY a b c d))) ∧ (false = false → In64 ((0 : Int) - rX g (secX a b c d) (secY a b c d)) ∧ In64 ((↑(2 * g) : Int) + (2 : Int)) ∧ ∃ (g' : Nat), (g' ≤ 4 ∧ sec (4 - g') (↑(2 * g') : Int) (rX g' (secX a b c d) (secY a b c d))
   (rY g' (secX a b c d) (secY a b c d)) = sec 4 (0 : Int) (secX a b c d) (secY a b c d)) ∧ 4 - g' < 4 - g ∧ AS.mk [(5, AV.i (rY g (secX a b c d) (secY a b c d))), (6, AV.i ((0 : Int) - rX g (secX a b c d) (secY a b c d))), (7, AV.i
   ((↑(2 * g) : Int) + (2 : Int)))] [] 1 = AS.mk [(5, AV.i (rX g' (secX a b c d) (secY a b c d))), (6, AV.i (rY g' (secX a b c d) (secY a b c d))), (7, AV.i (↑(2 * g') : Int))] [] 1)))) ∧ ((rX g (secX a b c d) (secY a b c d) == (0 :
   Int)) = false → (false = true → false = true) ∧ AV.bool (decide (rX g (secX a b c d) (secY a b c d) > rY g (secX a b c d) (secY a b c d))) = AV.bool true ∧ AV.bool (decide (rY g (secX a b c d) (secY a b c d) ≥ (0 : Int))) = AV.bool
   false ∧ AV.bool (rX g (secX a b c d) (secY a b c d) == (0 : Int)) = AV.bool false ∧ (false = true → AV.i (↑(2 * g) : Int) = AV.i (sec 4 (0 : Int) (secX a b c d) (secY a b c d))) ∧ (false = false → (decide (rY g (secX a b c d) (secY
   a b c d) ≥ rX g (secX a b c d) (secY a b c d)) = true → AV.bool (decide (rY g (secX a b c d) (secY a b c d) ≥ rX g (secX a b c d) (secY a b c d))) = AV.bool true ∧ (decide (rX g (secX a b c d) (secY a b c d) > (0 : Int)) = true →
   In64 ((↑(2 * g) : Int) + (1 : Int)) ∧ AV.i ((↑(2 * g) : Int) + (1 : Int)) = AV.i (sec 4 (0 : Int) (secX a b c d) (secY a b c d))) ∧ (decide (rX g (secX a b c d) (secY a b c d) > (0 : Int)) = false → In64 ((0 : Int) - rX g (secX a b
   c d) (secY a b c d)) ∧ In64 ((↑(2 * g) : Int) + (2 : Int)) ∧ ∃ (g' : Nat), (g' ≤ 4 ∧ sec (4 - g') (↑(2 * g') : Int) (rX g' (secX a b c d) (secY a b c d)) (rY g' (secX a b c d) (secY a b c d)) = sec 4 (0 : Int) (secX a b c d) (secY
   a b c d)) ∧ 4 - g' < 4 - g ∧ AS.mk [(5, AV.i (rY g (secX a b c d) (secY a b c d))), (6, AV.i ((0 : Int) - rX g (secX a b c d) (secY a b c d))), (7, AV.i ((↑(2 * g) : Int) + (2 : Int)))] [] 1 = AS.mk [(5, AV.i (rX g' (secX a b c d)
   (secY a b c d))), (6, AV.i (rY g' (secX a b c d) (secY a b c d))), (7, AV.i (↑(2 * g') : Int))] [] 1)) ∧ (decide (rY g (secX a b c d) (secY a b c d) ≥ rX g (secX a b c d) (secY a b c d)) = false → (false = true → false = true) ∧
   AV.bool (decide (rY g (secX a b c d) (secY a b c d) ≥ rX g (secX a b c d) (secY a b c d))) = AV.bool false ∧ (false = true → In64 ((↑(2 * g) : Int) + (1 : Int)) ∧ AV.i ((↑(2 * g) : Int) + (1 : Int)) = AV.i (sec 4 (0 : Int) (secX a
   b c d) (secY a b c d))) ∧ (false = false → In64 ((0 : Int) - rX g (secX a b c d) (secY a b c d)) ∧ In64 ((↑(2 * g) : Int) + (2 : Int)) ∧ ∃ (g' : Nat), (g' ≤ 4 ∧ sec (4 - g') (↑(2 * g') : Int) (rX g' (secX a b c d) (secY a b c d))
   (rY g' (secX a b c d) (secY a b c d)) = sec 4 (0 : Int) (secX a b c d) (secY a b c d)) ∧ 4 - g' < 4 - g ∧ AS.mk [(5, AV.i (rY g (secX a b c d) (secY a b c d))), (6, AV.i ((0 : Int) - rX g (secX a b c d) (secY a b c d))), (7, AV.i
   ((↑(2 * g) : Int) + (2 : Int)))] [] 1 = AS.mk [(5, AV.i (rX g' (secX a b c d) (secY a b c d))), (6, AV.i (rY g' (secX a b c d) (secY a b c d))), (7, AV.i (↑(2 * g') : Int))] [] 1)))))) ∧ (decide (rX g (secX a b c d) (secY a b c d)
   > rY g (secX a b c d) (secY a b c d)) = false → (false = true → (false = true → false = true) ∧ (true = false → false = true) ∧ AV.bool (decide (rX g (secX a b c d) (secY a b c d) > rY g (secX a b c d) (secY a b c d))) = AV.bool
   false ∧ AV.bool false = AV.bool true ∧ (true = true → AV.i (↑(2 * g) : Int) = AV.i (sec 4 (0 : Int) (secX a b c d) (secY a b c d))) ∧ (true = false → (decide (rY g (secX a b c d) (secY a b c d) ≥ rX g (secX a b c d) (secY a b c d))
   = true → AV.bool (decide (rY g (secX a b c d) (secY a b c d) ≥ rX g (secX a b c d) (secY a b c d))) = AV.bool true ∧ (decide (rX g (secX a b c d) (secY a b c d) > (0 : Int)) = true → In64 ((↑(2 * g) : Int) + (1 : Int)) ∧ AV.i ((↑(2
   * g) : Int) + (1 : Int)) = AV.i (sec 4 (0 : Int) (secX a b c d) (secY a b c d))) ∧ (decide (rX g (secX a b c d) (secY a b c d) > (0 : Int)) = false → In64 ((0 : Int) - rX g (secX a b c d) (secY a b c d)) ∧ In64 ((↑(2 * g) : Int) +
   (2 : Int)) ∧ ∃ (g' : Nat), (g' ≤ 4 ∧ sec (4 - g') (↑(2 * g') : Int) (rX g' (secX a b c d) (secY a b c d)) (rY g' (secX a b c d) (secY a b c d)) = sec 4 (0 : Int) (secX a b c d) (secY a b c d)) ∧ 4 - g' < 4 - g ∧ AS.mk [(5, AV.i (rY
   g (secX a b c d) (secY a b c d))), (6, AV.i ((0 : Int) - rX g (secX a b c d) (secY a b c d))), (7, AV.i ((↑(2 * g) : Int) + (2 : Int)))] [] 1 = AS.mk [(5, AV.i (rX g' (secX a b c d) (secY a b c d))), (6, AV.i (rY g' (secX a b c d)
   (secY a b c d))), (7, AV.i (↑(2 * g') : Int))] [] 1)) ∧ (decide (rY g (secX a b c d) (secY a b c d) ≥ rX g (secX a b c d) (secY a b c d)) = false → (false = true → false = true) ∧ AV.bool (decide (rY g (secX a b c d) (secY a b c d)
   ≥ rX g (secX a b c d) (secY a b c d))) = AV.bool false ∧ (false = true → In64 ((↑(2 * g) : Int) + (1 : Int)) ∧ AV.i ((↑(2 * g) : Int) + (1 : Int)) = AV.i (sec 4 (0 : Int) (secX a b c d) (secY a b c d))) ∧ (false = false → In64 ((0
   : Int) - rX g (secX a b c d) (secY a b c d)) ∧ In64 ((↑(2 * g) : Int) + (2 : Int)) ∧ ∃ (g' : Nat), (g' ≤ 4 ∧ sec (4 - g') (↑(2 * g') : Int) (rX g' (secX a b c d) (secY a b c d)) (rY g' (secX a b c d) (secY a b c d)) = sec 4 (0 :
   Int) (secX a b c d) (secY a b c d)) ∧ 4 - g' < 4 - g ∧ AS.mk [(5, AV.i (rY g (secX a b c d) (secY a b c d))), (6, AV.i ((0 : Int) - rX g (secX a b c d) (secY a b c d))), (7, AV.i ((↑(2 * g) : Int) + (2 : Int)))] [] 1 = AS.mk [(5,
   AV.i (rX g' (secX a b c d) (secY a b c d))), (6, AV.i (rY g' (secX a b c d) (secY a b c d))), (7, AV.i (↑(2 * g') : Int))] [] 1)))) ∧ (false = false → ((rX g (secX a b c d) (secY a b c d) == (0 : Int)) = true → (false = true →
   false = true) ∧ AV.bool (decide (rX g (secX a b c d) (secY a b c d) > rY g (secX a b c d) (secY a b c d))) = AV.bool false ∧ AV.bool false = AV.bool false ∧ AV.bool (rX g (secX a b c d) (secY a b c d) == (0 : Int)) = AV.bool true ∧
   ((rY g (secX a b c d) (secY a b c d) == (0 : Int)) = true → AV.i (↑(2 * g) : Int) = AV.i (sec 4 (0 : Int) (secX a b c d) (secY a b c d))) ∧ ((rY g (secX a b c d) (secY a b c d) == (0 : Int)) = false → (decide (rY g (secX a b c d)
   (secY a b c d) ≥ rX g (secX a b c d) (secY a b c d)) = true → AV.bool (decide (rY g (secX a b c d) (secY a b c d) ≥ rX g (secX a b c d) (secY a b c d))) = AV.bool true ∧ (decide (rX g (secX a b c d) (secY a b c d) > (0 : Int)) =
   true → In64 ((↑(2 * g) : Int) + (1 : Int)) ∧ AV.i ((↑(2 * g) : Int) + (1 : Int)) = AV.i (sec 4 (0 : Int) (secX a b c d) (secY a b c d))) ∧ (decide (rX g (secX a b c d) (secY a b c d) > (0 : Int)) = false → In64 ((0 : Int) - rX g
   (secX a b c d) (secY a b c d)) ∧ In64 ((↑(2 * g) : Int) + (2 : Int)) ∧ ∃ (g' : Nat), (g' ≤ 4 ∧ sec (4 - g') (↑(2 * g') : Int) (rX g' (secX a b c d) (secY a b c d)) (rY g' (secX a b c d) (secY a b c d)) = sec 4 (0 : Int) (secX a b c
   d) (secY a b c d)) ∧ 4 - g' < 4 - g ∧ AS.mk [(5, AV.i (rY g (secX a b c d) (secY a b c d))), (6, AV.i ((0 : Int) - rX g (secX a b c d) (secY a b c d))), (7, AV.i ((↑(2 * g) : Int) + (2 : Int)))] [] 1 = AS.mk [(5, AV.i (rX g' (secX
   a b c d) (secY a b c d))), (6, AV.i (rY g' (secX a b c d) (secY a b c d))), (7, AV.i (↑(2 * g') : Int))] [] 1)) ∧ (decide (rY g (secX a b c d) (secY a b c d) ≥ rX g (secX a b c d) (secY a b c d)) = false → (false = true → false =
   true) ∧ AV.bool (decide (rY g (secX a b c d) (secY a b c d) ≥ rX g (secX a b c d) (secY a b c d))) = AV.bool false ∧ (false = true → In64 ((↑(2 * g) : Int) + (1 : Int)) ∧ AV.i ((↑(2 * g) : Int) + (1 : Int)) = AV.i (sec 4 (0 : Int)
   (secX a b c d) (secY a b c d))) ∧ (false = false → In64 ((0 : Int) - rX g (secX a b c d) (secY a b c d)) ∧ In64 ((↑(2 * g) : Int) + (2 : Int)) ∧ ∃ (g' : Nat), (g' ≤ 4 ∧ sec (4 - g') (↑(2 * g') : Int) (rX g' (secX a b c d) (secY a b
   c d)) (rY g' (secX a b c d) (secY a b c d)) = sec 4 (0 : Int) (secX a b c d) (secY a b c d)) ∧ 4 - g' < 4 - g ∧ AS.mk [(5, AV.i (rY g (secX a b c d) (secY a b c d))), (6, AV.i ((0 : Int) - rX g (secX a b c d) (secY a b c d))), (7,
   AV.i ((↑(2 * g) : Int) + (2 : Int)))] [] 1 = AS.mk [(5, AV.i (rX g' (secX a b c d) (secY a b c d))), (6, AV.i (rY g' (secX a b c d) (secY a b c d))), (7, AV.i (↑(2 * g') : Int))] [] 1)))) ∧ ((rX g (secX a b c d) (secY a b c d) ==
   (0 : Int)) = false → (false = true → false = true) ∧ (false = true → false = true) ∧ AV.bool (decide (rX g (secX a b c d) (secY a b c d) > rY g (secX a b c d) (secY a b c d))) = AV.bool false ∧ AV.bool false = AV.bool false ∧
   AV.bool (rX g (secX a b c d) (secY a b c d) == (0 : Int)) = AV.bool false ∧ (false = true → AV.i (↑(2 * g) : Int) = AV.i (sec 4 (0 : Int) (secX a b c d) (secY a b c d))) ∧ (false = false → (decide (rY g (secX a b c d) (secY a b c
   d) ≥ rX g (secX a b c d) (secY a b c d)) = true → AV.bool (decide (rY g (secX a b c d) (secY a b c d) ≥ rX g (secX a b c d) (secY a b c d))) = AV.bool true ∧ (decide (rX g (secX a b c d) (secY a b c d) > (0 : Int)) = true → In64
   ((↑(2 * g) : Int) + (1 : Int)) ∧ AV.i ((↑(2 * g) : Int) + (1 : Int)) = AV.i (sec 4 (0 : Int) (secX a b c d) (secY a b c d))) ∧ (decide (rX g (secX a b c d) (secY a b c d) > (0 : Int)) = false → In64 ((0 : Int) - rX g (secX a b c d)
   (secY a b c d)) ∧ In64 ((↑(2 * g) : Int) + (2 : Int)) ∧ ∃ (g' : Nat), (g' ≤ 4 ∧ sec (4 - g') (↑(2 * g') : Int) (rX g' (secX a b c d) (secY a b c d)) (rY g' (secX a b c d) (secY a b c d)) = sec 4 (0 : Int) (secX a b c d) (secY a b c
   d)) ∧ 4 - g' < 4 - g ∧ AS.mk [(5, AV.i (rY g (secX a b c d) (secY a b c d))), (6, AV.i ((0 : Int) - rX g (secX a b c d) (secY a b c d))), (7, AV.i ((↑(2 * g) : Int) + (2 : Int)))] [] 1 = AS.mk [(5, AV.i (rX g' (secX a b c d) (secY
   a b c d))), (6, AV.i (rY g' (secX a b c d) (secY a b c d))), (7, AV.i (↑(2 * g') : Int))] [] 1)) ∧ (decide (rY g (secX a b c d) (secY a b c d) ≥ rX g (secX a b c d) (secY a b c d)) = false → (false = true → false = true) ∧ AV.bool
   (decide (rY g (secX a b c d) (secY a b c d) ≥ rX g (secX a b c d) (secY a b c d))) = AV.bool false ∧ (false = true → In64 ((↑(2 * g) : Int) + (1 : Int)) ∧ AV.i ((↑(2 * g) : Int) + (1 : Int)) = AV.i (sec 4 (0 : Int) (secX a b c d)
   (secY a b c d))) ∧ (false = false → In64 ((0 : Int) - rX g (secX a b c d) (secY a b c d)) ∧ In64 ((↑(2 * g) : Int) + (2 : Int)) ∧ ∃ (g' : Nat), (g' ≤ 4 ∧ sec (4 - g') (↑(2 * g') : Int) (rX g' (secX a b c d) (secY a b c d)) (rY g'
   (secX a b c d) (secY a b c d)) = sec 4 (0 : Int) (secX a b c d) (secY a b c d)) ∧ 4 - g' < 4 - g ∧ AS.mk [(5, AV.i (rY g (secX a b c d) (secY a b c d))), (6, AV.i ((0 : Int) - rX g (secX a b c d) (secY a b c d))), (7, AV.i ((↑(2 *
   g) : Int) + (2 : Int)))] [] 1 = AS.mk [(5, AV.i (rX g' (secX a b c d) (secY a b c d))), (6, AV.i (rY g' (secX a b c d) (secY a b c d))), (7, AV.i (↑(2 * g') : Int))] [] 1))))))) ∧ (decide ((↑(2 * g) : Int) < (8 : Int)) = false →
   AV.i 0 = AV.i (sec 4 (0 : Int) (secX a b c d) (secY a b c d))) := by
    obtain ⟨i1, i2, i3, i4, i5, i6, bX, bY⟩ := sec_in ha hb hc hd
    refine ⟨i1, i2, i3, i4, i5, i6, ⟨0, ⟨by omega, rfl⟩, rfl⟩, fun g ⟨hg, hs⟩ => ⟨fun hy => ?_, fun hy => ?_⟩⟩
    · have hg4 : g < 4 := by have := of_decide_eq_true hy; omega
      obtain ⟨f1, f2, f3⟩ := sec_step hg4 hs
      have hbx := rX_b bX bY g
      have j1 : In64 ((2 * g : Nat) + 1) := by unfold In64; omega
      have j2 : In64 ((2 * g : Nat) + 2) := by unfold In64; omega
      have j3 : In64 (0 - rX g (secX a b c d) (secY a b c d)) := by unfold In64; omega
      clear hs hy bX bY hbx i1 i2 i3 i4 i5 i6 ha hb hc hd hg
      generalize sec 4 0 (secX a b c d) (secY a b c d) = S at *
      generalize decide (rX g (secX a b c d) (secY a b c d) > rY g (secX a b c d) (secY a b c d)) = p at *
      generalize decide (rY g (secX a b c d) (secY a b c d) ≥ 0) = q at *
      generalize (rX g (secX a b c d) (secY a b c d) == 0) = r at *
      generalize (rY g (secX a b c d) (secY a b c d) == 0) = s at *
      generalize decide (rY g (secX a b c d) (secY a b c d) ≥ rX g (secX a b c d) (secY a b c d)) = u at *
      generalize decide (rX g (secX a b c d) (secY a b c d) > 0) = w at *
      cases p <;> cases q <;> cases r <;> cases s <;> cases u <;> cases w
      all_goals repeat' (first | (intro h; cases h; done) | exact j1 | exact j2 | exact j3 | apply And.intro | intro _)
      all_goals first
        | rfl
        | exact f1 rfl
        | exact f2 rfl rfl
        | (obtain ⟨g', q1, q2, q3, q4, q5⟩ := f3 rfl rfl; exact ⟨g', q1, q2, by rw [q3, q4, q5]⟩)
    · have hg4 : g = 4 := by have := of_decide_eq_false hy; omega
      subst hg4
      exact congrArg AV.i hs
  exact c_of Tryz.f116 ({ fzB (mkB spR 116 [] (fun j => if j.beq 0 then some (la116 a b c d) else none)) with split := fun j => if j.beq 5 then 1 else if j.beq 7 then 1 else 0 }) (by kernel_rfl) (by kernel_rfl) (by kernel_rfl) (by kernel_rfl) key (by kernel_rfl)
end Go.Proofs.YtjhjmncjidbieaaGreatDoor
namespace Go.Proofs.YtjhjmncjidbieaaGreatDoor
open Go Go.Av Go.RowKit
end Go.Proofs.YtjhjmncjidbieaaGreatDoor
namespace Go.Proofs.YtjhjmncjidbieaaGreatDoor
open Go Go.Av Go.RowKit
def sState (x y z a b p : Int) : Int := sFirst [sPlace x y z, sDir a b, sPower p]
def sp47 : Nat → List AV → Option AV
  | 35, [.agg [.int _ x, .int _ y, .int _ z]] => some (.i (sPlace x y z))
  | 46, [.agg [.int _ x, .int _ y]] => some (.i (sDir x y))
  | 44, [.int _ p] => some (.i (sPower p))
  | n, x => spR n x
theorem c47 (x y z a b p : Int)  : PCall Tryz.prog G0 47 [.agg [.i x, .i y, .i z, .i a, .i b, .i p]] (.i (sState x y z a b p)) := by
  have key :
   PCall Tryz.prog G0 35 [AV.agg [AV.i x, AV.i y, AV.i z]] (AV.i (sPlace x y z)) ∧ PCall Tryz.prog G0 46 [AV.agg [AV.i a, AV.i b]] (AV.i (sDir a b)) ∧ PCall Tryz.prog G0 44 [AV.i p] (AV.i (sPower p)) ∧ PCall Tryz.prog G0 93 [AV.sl 1
   [[AV.i (sPlace x y z)], [AV.i (sDir a b)], [AV.i (sPower p)]]] (AV.i (sFirst [hdI [AV.i (sPlace x y z)], hdI [AV.i (sDir a b)], hdI [AV.i (sPower p)]])) ∧ AV.i (sFirst [hdI [AV.i (sPlace x y z)], hdI [AV.i (sDir a b)], hdI [AV.i
   (sPower p)]]) = AV.i (sState x y z a b p) := by
    exact ⟨c35 _ _ _, c46 _ _, c44 _, c93 [_, _, _] (by simp), rfl⟩
  exact c_of Tryz.f47 (fzB (mkB sp47 47 [] noLa)) (by kernel_rfl) (by kernel_rfl) (by kernel_rfl) (by kernel_rfl) key (by kernel_rfl)
end Go.Proofs.YtjhjmncjidbieaaGreatDoor
namespace Go.Proofs.YtjhjmncjidbieaaGreatDoor
open Go Go.Av Go.RowKit
/-- The sectors' share: dir of a type. -/
def hrdV (t : Ty) (a b p u v w : Int) : Int := emi t p (u * u + v * v + w * w) * cI [[AV.i t.d0], [AV.i t.d1], [AV.i t.d2], [AV.i t.d3], [AV.i t.d4], [AV.i t.d5], [AV.i t.d6], [AV.i t.d7]] (sec 4 0 (secX a b u v) (secY a b u v)).toNat
def hrd (t : Ty) (a b p u v w : Int) : Int := if decide (4 * (w * w) < u * u + v * v) then (hrdV t a b p u v w * t.side).tdiv 1000000 else (hrdV t a b p u v w).tdiv 1000
def sp117 (t : Ty) : Nat → List AV → Option AV
  | 113, [.agg [.int _ x, .int _ y, .int _ z], .agg [.int _ x2, .int _ y2, .int _ z2]] => some (.agg [.i (x - x2), .i (y - y2), .i (z - z2)])
  | 112, [.agg [.int _ x, .int _ y, .int _ z]] => some (.agg [.i (x * x + y * y), .i (z * z)])
  | 116, [.agg [.int _ a, .int _ b], .agg [.int _ c, .int _ d]] => some (.i (sec 4 0 (secX a b c d) (secY a b c d)))
  | 50, [.agg [.int _ a, .int _ b], .agg [.int _ c, .int _ d]] => some (.i (sec 4 0 (secX a b c d) (secY a b c d)))
  | 114, [_, .int _ p, .int _ d] => some (.i (emi t p d))
  | 49, [_, .int _ p, .int _ d] => some (.i (emi t p d))
  | n, x => spR n x
theorem tdiv_abs {n d B : Int} (_hd : 0 < d) (h1 : -B ≤ n) (h2 : n ≤ B) : n.tdiv d ≤ B ∧ -B ≤ n.tdiv d := by
  have h : (n.tdiv d).natAbs = n.natAbs / d.natAbs := Int.natAbs_tdiv n d
  have h4 : n.natAbs / d.natAbs ≤ n.natAbs := Nat.div_le_self _ _
  omega
theorem floor_b {n d : Int} (hd : 0 < d) (h1 : -10000000000 ≤ n) (h2 : n ≤ 10000000000) : -10000000001 ≤ sFloor n d ∧ sFloor n d ≤ 10000000000 := by
  have h3 : n.tdiv d ≤ 10000000000 ∧ -10000000000 ≤ n.tdiv d := tdiv_abs hd h1 h2
  unfold sFloor
  split <;> omega
theorem sq_nn (u : Int) : 0 ≤ u * u := by
  rcases Int.le_total 0 u with h | h
  · exact Int.mul_nonneg h h
  · have := Int.mul_nonneg (a := -u) (b := -u) (by omega) (by omega)
    rw [Int.neg_mul_neg] at this
    exact this
theorem sq_zero {u v : Int} (h : u * u + v * v = 0) : u = 0 := by
  have h1 : 0 ≤ u * u := sq_nn u
  have h2 : 0 ≤ v * v := sq_nn v
  have h3 : u * u = 0 := by omega
  rcases Int.mul_eq_zero.1 h3 with h | h <;> exact h
theorem sec_b : ∀ (n : Nat) (i x y : Int), 0 ≤ i → 0 ≤ sec n i x y ∧ (sec n i x y < i + 2 * n ∨ sec n i x y = 0)
  | 0, _, _, _, _ => ⟨Int.le_refl _, .inr rfl⟩
  | n + 1, i, x, y, h => by
    simp only [sec]
    split
    · omega
    · split
      · omega
      · have := sec_b n (i + 2) y (-x) (by omega)
        omega
theorem sec_8 (x y : Int) : 0 ≤ sec 4 0 x y ∧ sec 4 0 x y < 8 := by
  have := sec_b 4 0 x y (by omega)
  omega
theorem emi_b {t : Ty} {p d : Int} (h : OKTy t) (hp : 1 ≤ p) (hp2 : p ≤ 100) : -20000000000 ≤ emi t p d ∧ emi t p d ≤ 20000000000 := by
  have hK := bandN_lt (l := t.sq) (d := d) h.q1
  have hle := geN_le (t := t) (p := p) t.st.length
  have hn := h.n1
  unfold emi
  split
  · have := h.eb (t.st.length - 1) _ (by omega) hK
    omega
  · rename_i h1
    split
    · have := h.eb (geN t p t.st.length) _ (by omega) hK
      omega
    · rename_i h2
      have h0 : geN t p t.st.length ≠ 0 := fun e => h2 (.inl e)
      have hB := emi_bet h hp hp2 (by omega) h0 hK
      rw [cI_map, cI_map] at hB
      obtain ⟨a1, a2⟩ := h.eb (geN t p t.st.length - 1) _ (by omega) hK
      obtain ⟨b1, b2⟩ := h.eb (geN t p t.st.length) _ (by omega) hK
      obtain ⟨c1, c2⟩ := h.pb (geN t p t.st.length - 1) (by omega)
      have hm := mul_bound (x := eAt (t.sg (geN t p t.st.length)).e (bandN t.sq d t.sq.length) - eAt (t.sg (geN t p t.st.length - 1)).e (bandN t.sq d t.sq.length)) (y := p - (t.sg (geN t p t.st.length - 1)).p) (A := 100000000) (B := 100) (by omega) (by omega) (by omega) (by omega)
      have hf := floor_b (n := (eAt (t.sg (geN t p t.st.length)).e (bandN t.sq d t.sq.length) - eAt (t.sg (geN t p t.st.length - 1)).e (bandN t.sq d t.sq.length)) * (p - (t.sg (geN t p t.st.length - 1)).p)) hB.w (by omega) (by omega)
      unfold sBetween
      omega
theorem hrd_in {t : Ty} {a b p u v w : Int} (h : OKTy t) (hp : 1 ≤ p ∧ p ≤ 100) (hD : ∀ i, i < 8 → 0 ≤ t.dir.getD i default ∧ t.dir.getD i default ≤ 2000) (hs : 0 ≤ t.side ∧ t.side ≤ 1000) :
    In64 (hrdV t a b p u v w) ∧ In64 (hrdV t a b p u v w * t.side) ∧ In64 ((hrdV t a b p u v w * t.side).tdiv 1000000) ∧ In64 ((hrdV t a b p u v w).tdiv 1000) := by
  have h8 := sec_8 (secX a b u v) (secY a b u v)
  have hd := hD (sec 4 0 (secX a b u v) (secY a b u v)).toNat (by omega)
  rw [← cI_map] at hd
  have he := emi_b (d := u * u + v * v + w * w) h hp.1 hp.2
  have h1 := mul_bound (A := 20000000000) (B := 2000) he.1 he.2 (by omega) hd.2
  have hv : -(20000000000 * 2000) ≤ hrdV t a b p u v w ∧ hrdV t a b p u v w ≤ 20000000000 * 2000 := h1
  have h2 := mul_bound (A := 40000000000000) (B := 1000) (x := hrdV t a b p u v w) (y := t.side) (by omega) (by omega) (by omega) hs.2
  generalize hrdV t a b p u v w * t.side = m at *
  generalize hrdV t a b p u v w = k at *
  refine ⟨by unfold In64; omega, by unfold In64; omega, ?_, ?_⟩
  · have := tdiv_abs (n := m) (d := 1000000) (B := 40000000000000000) (by omega) (by omega) (by omega)
    unfold In64; omega
  · have := tdiv_abs (n := k) (d := 1000) (B := 40000000000000) (by omega) (by omega) (by omega)
    unfold In64; omega
theorem quad_in {u v w : Int} (hu : -200000 ≤ u ∧ u ≤ 200000) (hv : -200000 ≤ v ∧ v ≤ 200000) (hw : -20000 ≤ w ∧ w ≤ 20000) :
    In64 (u * u) ∧ In64 (v * v) ∧ In64 (u * u + v * v) ∧ In64 (w * w) ∧ In64 (u * u + v * v + w * w) ∧ In64 (4 * (w * w)) ∧ In64 (4 * w) ∧ In64 (4 * w * w) := by
  have h1 := mul_bound hu.1 hu.2 hu.1 hu.2
  have h2 := mul_bound hv.1 hv.2 hv.1 hv.2
  have h3 := mul_bound hw.1 hw.2 hw.1 hw.2
  rw [Int.mul_assoc 4 w w]
  generalize u * u = q1 at *
  generalize v * v = q2 at *
  generalize w * w = q3 at *
  unfold In64
  omega
theorem c117 (t : Ty) (x y z a b p x2 y2 z2 : Int) (h : OKTy t) (hx : -100000 ≤ x ∧ x ≤ 100000) (hy : -100000 ≤ y ∧ y ≤ 100000) (hz : 0 ≤ z ∧ z ≤ 20000) (ha : -200000 ≤ a ∧ a ≤ 200000) (hb : -200000 ≤ b ∧ b ≤ 200000) (hp : 1 ≤ p ∧ p ≤ 100) (hx2 : -100000 ≤ x2 ∧ x2 ≤ 100000) (hy2 : -100000 ≤ y2 ∧ y2 ≤ 100000) (hz2 : 0 ≤ z2 ∧ z2 ≤ 20000) (hD : ∀ i, i < 8 → 0 ≤ t.dir.getD i default ∧ t.dir.getD i default ≤ 2000) (hs : 0 ≤ t.side ∧ t.side ≤ 1000) : PCall Tryz.prog G0 117 [.agg (encTy t), .agg [.i x, .i y, .i z, .i a, .i b, .i p], .agg [.i x2, .i y2, .i z2]] (.i (hrd t a b p (x2 - x) (y2 - y) (z2 - z))) := by
  have key :
   PCall Tryz.prog G0 113 [AV.agg [AV.i x2, AV.i y2, AV.i z2], AV.agg [AV.i x, AV.i y, AV.i z]] (AV.agg [AV.i (x2 - x), AV.i (y2 - y), AV.i (z2 - z)]) ∧ PCall Tryz.prog G0 112 [AV.agg [AV.i (x2 - x), AV.i (y2 - y), AV.i (z2 - z)]]
   (AV.agg [AV.i ((x2 - x) * (x2 - x) + (y2 - y) * (y2 - y)), AV.i ((z2 - z) * (z2 - z))]) ∧ ((!((x2 - x) * (x2 - x) + (y2 - y) * (y2 - y) == (0 : Int) && true && ((z2 - z) * (z2 - z) == (0 : Int) && true && true))) = true → PCall
   Tryz.prog G0 116 [AV.agg [AV.i a, AV.i b], AV.agg [AV.i (x2 - x), AV.i (y2 - y)]] (AV.i (sec 4 (0 : Int) (secX a b (x2 - x) (y2 - y)) (secY a b (x2 - x) (y2 - y)))) ∧ (0 : Int) ≤ (0 : Int) ∧ (0 : Int) < (↑2 : Int) ∧ (0 : Int) ≤ (1
   : Int) ∧ (1 : Int) < (↑2 : Int) ∧ In64 ((x2 - x) * (x2 - x) + (y2 - y) * (y2 - y) + (z2 - z) * (z2 - z)) ∧ (0 : Int) ≤ sec 4 (0 : Int) (secX a b (x2 - x) (y2 - y)) (secY a b (x2 - x) (y2 - y)) ∧ sec 4 (0 : Int) (secX a b (x2 - x)
   (y2 - y)) (secY a b (x2 - x) (y2 - y)) < (↑8 : Int) ∧ In64 (emi t p ((x2 - x) * (x2 - x) + (y2 - y) * (y2 - y) + (z2 - z) * (z2 - z)) * cI [[AV.i t.d0], [AV.i t.d1], [AV.i t.d2], [AV.i t.d3], [AV.i t.d4], [AV.i t.d5], [AV.i t.d6],
   [AV.i t.d7]] (sec 4 (0 : Int) (secX a b (x2 - x) (y2 - y)) (secY a b (x2 - x) (y2 - y))).toNat) ∧ PCall Tryz.prog G0 114 [AV.agg [AV.str t.name, AV.sl 1 (List.map encI t.sh), AV.i t.d0, AV.i t.d1, AV.i t.d2, AV.i t.d3, AV.i t.d4,
   AV.i t.d5, AV.i t.d6, AV.i t.d7, AV.i t.side, AV.sl 1 (List.map encI t.sq), AV.sl 2 (List.map encSg t.st)], AV.i p, AV.i ((x2 - x) * (x2 - x) + (y2 - y) * (y2 - y) + (z2 - z) * (z2 - z))] (AV.i (emi t p ((x2 - x) * (x2 - x) + (y2 -
   y) * (y2 - y) + (z2 - z) * (z2 - z)))) ∧ nth (nthR [[AV.i t.d0], [AV.i t.d1], [AV.i t.d2], [AV.i t.d3], [AV.i t.d4], [AV.i t.d5], [AV.i t.d6], [AV.i t.d7]] (sec 4 (0 : Int) (secX a b (x2 - x) (y2 - y)) (secY a b (x2 - x) (y2 -
   y))).toNat) 0 = AV.i (cI [[AV.i t.d0], [AV.i t.d1], [AV.i t.d2], [AV.i t.d3], [AV.i t.d4], [AV.i t.d5], [AV.i t.d6], [AV.i t.d7]] (sec 4 (0 : Int) (secX a b (x2 - x) (y2 - y)) (secY a b (x2 - x) (y2 - y))).toNat) ∧ (0 : Int) ≤ (1 :
   Int) ∧ (1 : Int) < (↑2 : Int) ∧ In64 ((4 : Int) * ((z2 - z) * (z2 - z))) ∧ (0 : Int) ≤ (0 : Int) ∧ (0 : Int) < (↑2 : Int) ∧ (decide ((4 : Int) * ((z2 - z) * (z2 - z)) < (x2 - x) * (x2 - x) + (y2 - y) * (y2 - y)) = true → In64 (emi
   t p ((x2 - x) * (x2 - x) + (y2 - y) * (y2 - y) + (z2 - z) * (z2 - z)) * cI [[AV.i t.d0], [AV.i t.d1], [AV.i t.d2], [AV.i t.d3], [AV.i t.d4], [AV.i t.d5], [AV.i t.d6], [AV.i t.d7]] (sec 4 (0 : Int) (secX a b (x2 - x) (y2 - y)) (secY
   a b (x2 - x) (y2 - y))).toNat * t.side) ∧ ¬(1000000 : Int) = (0 : Int) ∧ In64 ((emi t p ((x2 - x) * (x2 - x) + (y2 - y) * (y2 - y) + (z2 - z) * (z2 - z)) * cI [[AV.i t.d0], [AV.i t.d1], [AV.i t.d2], [AV.i t.d3], [AV.i t.d4], [AV.i
   t.d5], [AV.i t.d6], [AV.i t.d7]] (sec 4 (0 : Int) (secX a b (x2 - x) (y2 - y)) (secY a b (x2 - x) (y2 - y))).toNat * t.side).tdiv (1000000 : Int)) ∧ AV.i ((emi t p ((x2 - x) * (x2 - x) + (y2 - y) * (y2 - y) + (z2 - z) * (z2 - z)) *
   cI [[AV.i t.d0], [AV.i t.d1], [AV.i t.d2], [AV.i t.d3], [AV.i t.d4], [AV.i t.d5], [AV.i t.d6], [AV.i t.d7]] (sec 4 (0 : Int) (secX a b (x2 - x) (y2 - y)) (secY a b (x2 - x) (y2 - y))).toNat * t.side).tdiv (1000000 : Int)) = AV.i
   (hrd t a b p (x2 - x) (y2 - y) (z2 - z))) ∧ (decide ((4 : Int) * ((z2 - z) * (z2 - z)) < (x2 - x) * (x2 - x) + (y2 - y) * (y2 - y)) = false → ¬(1000 : Int) = (0 : Int) ∧ In64 ((emi t p ((x2 - x) * (x2 - x) + (y2 - y) * (y2 - y) +
   (z2 - z) * (z2 - z)) * cI [[AV.i t.d0], [AV.i t.d1], [AV.i t.d2], [AV.i t.d3], [AV.i t.d4], [AV.i t.d5], [AV.i t.d6], [AV.i t.d7]] (sec 4 (0 : Int) (secX a b (x2 - x) (y2 - y)) (secY a b (x2 - x) (y2 - y))).toNat).tdiv (1000 :
   Int)) ∧ AV.i ((emi t p ((x2 - x) * (x2 - x) + (y2 - y) * (y2 - y) + (z2 - z) * (z2 - z)) * cI [[AV.i t.d0], [AV.i t.d1], [AV.i t.d2], [AV.i t.d3], [AV.i t.d4], [AV.i t.d5], [AV.i t.d6], [AV.i t.d7]] (sec 4 (0 : Int) (secX a b (x2 -
   x) (y2 - y)) (secY a b (x2 - x) (y2 - y))).toNat).tdiv (1000 : Int)) = AV.i (hrd t a b p (x2 - x) (y2 - y) (z2 - z)))) ∧ ((!((x2 - x) * (x2 - x) + (y2 - y) * (y2 - y) == (0 : Int) && true && ((z2 - z) * (z2 - z) == (0 : Int) &&
   true && true))) = false → (0 : Int) ≤ (0 : Int) ∧ (0 : Int) < (↑2 : Int) ∧ (0 : Int) ≤ (1 : Int) ∧ (1 : Int) < (↑2 : Int) ∧ In64 ((x2 - x) * (x2 - x) + (y2 - y) * (y2 - y) + (z2 - z) * (z2 - z)) ∧ (0 : Int) ≤ (0 : Int) ∧ (0 : Int)
   < (↑8 : Int) ∧ In64 (emi t p ((x2 - x) * (x2 - x) + (y2 - y) * (y2 - y) + (z2 - z) * (z2 - z)) * cI [[AV.i t.d0], [AV.i t.d1], [AV.i t.d2], [AV.i t.d3], [AV.i t.d4], [AV.i t.d5], [AV.i t.d6], [AV.i t.d7]] 0) ∧ PCall Tryz.prog G0
   114 [AV.agg [AV.str t.name, AV.sl 1 (List.map encI t.sh), AV.i t.d0, AV.i t.d1, AV.i t.d2, AV.i t.d3, AV.i t.d4, AV.i t.d5, AV.i t.d6, AV.i t.d7, AV.i t.side, AV.sl 1 (List.map encI t.sq), AV.sl 2 (List.map encSg t.st)], AV.i p,
   AV.i ((x2 - x) * (x2 - x) + (y2 - y) * (y2 - y) + (z2 - z) * (z2 - z))] (AV.i (emi t p ((x2 - x) * (x2 - x) + (y2 - y) * (y2 - y) + (z2 - z) * (z2 - z)))) ∧ AV.i t.d0 = AV.i (cI [[AV.i t.d0], [AV.i t.d1], [AV.i t.d2], [AV.i t.d3],
   [AV.i t.d4], [AV.i t.d5], [AV.i t.d6], [AV.i t.d7]] 0) ∧ (0 : Int) ≤ (1 : Int) ∧ (1 : Int) < (↑2 : Int) ∧ In64 ((4 : Int) * ((z2 - z) * (z2 - z))) ∧ (0 : Int) ≤ (0 : Int) ∧ (0 : Int) < (↑2 : Int) ∧ (decide ((4 : Int) * ((z2 - z) *
   (z2 - z)) < (x2 - x) * (x2 - x) + (y2 - y) * (y2 - y)) = true → In64 (emi t p ((x2 - x) * (x2 - x) + (y2 - y) * (y2 - y) + (z2 - z) * (z2 - z)) * cI [[AV.i t.d0], [AV.i t.d1], [AV.i t.d2], [AV.i t.d3], [AV.i t.d4], [AV.i t.d5],
   [AV.i t.d6], [AV.i t.d7]] 0 * t.side) ∧ ¬(1000000 : Int) = (0 : Int) ∧ In64 ((emi t p ((x2 - x) * (x2 - x) + (y2 - y) * (y2 - y) + (z2 - z) * (z2 - z)) * cI [[AV.i t.d0], [AV.i t.d1], [AV.i t.d2], [AV.i t.d3], [AV.i t.d4], [AV.i
   t.d5], [AV.i t.d6], [AV.i t.d7]] 0 * t.side).tdiv (1000000 : Int)) ∧ AV.i ((emi t p ((x2 - x) * (x2 - x) + (y2 - y) * (y2 - y) + (z2 - z) * (z2 - z)) * cI [[AV.i t.d0], [AV.i t.d1], [AV.i t.d2], [AV.i t.d3], [AV.i t.d4], [AV.i
   t.d5], [AV.i t.d6], [AV.i t.d7]] 0 * t.side).tdiv (1000000 : Int)) = AV.i (hrd t a b p (x2 - x) (y2 - y) (z2 - z))) ∧ (decide ((4 : Int) * ((z2 - z) * (z2 - z)) < (x2 - x) * (x2 - x) + (y2 - y) * (y2 - y)) = false → ¬(1000 : Int) =
   (0 : Int) ∧ In64 ((emi t p ((x2 - x) * (x2 - x) + (y2 - y) * (y2 - y) + (z2 - z) * (z2 - z)) * cI [[AV.i t.d0], [AV.i t.d1], [AV.i t.d2], [AV.i t.d3], [AV.i t.d4], [AV.i t.d5], [AV.i t.d6], [AV.i t.d7]] 0).tdiv (1000 : Int)) ∧ AV.i
   ((emi t p ((x2 - x) * (x2 - x) + (y2 - y) * (y2 - y) + (z2 - z) * (z2 - z)) * cI [[AV.i t.d0], [AV.i t.d1], [AV.i t.d2], [AV.i t.d3], [AV.i t.d4], [AV.i t.d5], [AV.i t.d6], [AV.i t.d7]] 0).tdiv (1000 : Int)) = AV.i (hrd t a b p (x2
   - x) (y2 - y) (z2 - z)))) := by
    obtain ⟨k1, k2, k3, k4, k5, k6, k7, k8⟩ := quad_in (u := x2 - x) (v := y2 - y) (w := z2 - z) (by omega) (by omega) (by omega)
    obtain ⟨m1, m2, m3, m4⟩ := hrd_in (a := a) (b := b) (u := x2 - x) (v := y2 - y) (w := z2 - z) h hp hD hs
    have h8 := sec_8 (secX a b (x2 - x) (y2 - y)) (secY a b (x2 - x) (y2 - y))
    refine ⟨c113 _ _ _ _ _ _ (by unfold In64; omega) (by unfold In64; omega) (by unfold In64; omega), c112 _ _ _ k1 k2 k3 k4, fun hn => ?_, fun hn => ?_⟩
    · refine ⟨c116 _ _ _ _ ha hb (by omega) (by omega), by omega, by omega, by omega, by omega, k5, h8.1, h8.2, m1, c114 t _ _ h hp.1 hp.2, cI_at (l := t.dir) (i := (sec 4 0 (secX a b (x2 - x) (y2 - y)) (secY a b (x2 - x) (y2 - y))).toNat) (show _ < (8 : Nat) by omega), by omega, by omega, k6, by omega, by omega, fun e => ⟨m2, by omega, m3, ?_⟩, fun e => ⟨by omega, m4, ?_⟩⟩
      · rw [hrd, if_pos e]
        rfl
      · rw [hrd, if_neg (by rw [e]; decide)]
        rfl
    · have hz0 : (x2 - x) * (x2 - x) + (y2 - y) * (y2 - y) = 0 := by
        simp only [Bool.not_eq_false', Bool.and_eq_true, beq_iff_eq] at hn
        exact hn.1.1
      have e1 : x2 - x = 0 := sq_zero hz0
      have e2 : y2 - y = 0 := sq_zero (by rw [Int.add_comm]; exact hz0)
      have es : sec 4 0 (secX a b (x2 - x) (y2 - y)) (secY a b (x2 - x) (y2 - y)) = 0 := by
        rw [e1, e2]
        simp only [secX, secY, Int.mul_zero, Int.add_zero, Int.sub_zero]
        rfl
      have ev : hrdV t a b p (x2 - x) (y2 - y) (z2 - z) = emi t p ((x2 - x) * (x2 - x) + (y2 - y) * (y2 - y) + (z2 - z) * (z2 - z)) * cI [[AV.i t.d0], [AV.i t.d1], [AV.i t.d2], [AV.i t.d3], [AV.i t.d4], [AV.i t.d5], [AV.i t.d6], [AV.i t.d7]] 0 := by
        unfold hrdV
        rw [es]
        rfl
      rw [ev] at m1 m2 m3 m4
      refine ⟨by omega, by omega, by omega, by omega, k5, by omega, by omega, m1, c114 t _ _ h hp.1 hp.2, rfl, by omega, by omega, k6, by omega, by omega, fun e => ⟨m2, by omega, m3, ?_⟩, fun e => ⟨by omega, m4, ?_⟩⟩
      · rw [hrd, if_pos e, ev]
      · rw [hrd, if_neg (by rw [e]; decide), ev]
  exact c_of Tryz.f117 (fzB (mkB (sp117 t) 117 [(6, 12, rdJ)] noLa)) (by kernel_rfl) (by kernel_rfl) (by kernel_rfl) (by kernel_rfl) key (by kernel_rfl)
end Go.Proofs.YtjhjmncjidbieaaGreatDoor
namespace Go.Proofs.YtjhjmncjidbieaaGreatDoor
open Go Go.Av Go.RowKit
theorem dir_ok {x y : Int} (h : sDir x y = 0) : (-200000 ≤ x ∧ x ≤ 200000) ∧ (-200000 ≤ y ∧ y ≤ 200000) := by
  unfold sDir at h
  rw [first_zero, first_zero, within_zero, within_zero] at h
  exact ⟨h.1, h.2.1⟩
def chkSec (a b c d : Int) : Int := sFirst [sDir a b, sDir c d]
def srcSec (a b c d : Int) : List AV := if chkSec a b c d != 0 then [.i 0, .i (chkSec a b c d)] else [.i (sec 4 0 (secX a b c d) (secY a b c d)), .i 0]
theorem c41 (a b c d : Int)  : PCall Tryz.prog G0 41 [.agg [.i a, .i b], .agg [.i c, .i d]] (.tup (srcSec a b c d)) := by
  have key :
   PCall Tryz.prog G0 115 [AV.agg [AV.i a, AV.i b]] (AV.i (sDir a b)) ∧ PCall Tryz.prog G0 115 [AV.agg [AV.i c, AV.i d]] (AV.i (sDir c d)) ∧ PCall Tryz.prog G0 87 [AV.sl 1 [[AV.i (sDir a b)], [AV.i (sDir c d)]]] (AV.i (sFirst [hdI
   [AV.i (sDir a b)], hdI [AV.i (sDir c d)]])) ∧ ((sFirst [hdI [AV.i (sDir a b)], hdI [AV.i (sDir c d)]] != (0 : Int)) = true → AV.tup [AV.i 0, AV.i (sFirst [hdI [AV.i (sDir a b)], hdI [AV.i (sDir c d)]])] = AV.tup (srcSec a b c d)) ∧
   ((sFirst [hdI [AV.i (sDir a b)], hdI [AV.i (sDir c d)]] != (0 : Int)) = false → PCall Tryz.prog G0 116 [AV.agg [AV.i a, AV.i b], AV.agg [AV.i c, AV.i d]] (AV.i (sec 4 (0 : Int) (secX a b c d) (secY a b c d))) ∧ AV.tup [AV.i (sec 4
   (0 : Int) (secX a b c d) (secY a b c d)), AV.i 0] = AV.tup (srcSec a b c d)) := by
    refine ⟨c115 _ _, c115 _ _, c87 [_, _] (by simp), fun h => ?_, fun h => ?_⟩
    · have h : (chkSec a b c d != 0) = true := h
      rw [srcSec, if_pos h]
      rfl
    · have h : (chkSec a b c d != 0) = false := h
      have hz : chkSec a b c d = 0 := by simpa using h
      unfold chkSec at hz
      rw [first_zero, first_zero] at hz
      obtain ⟨h1, h2⟩ := dir_ok hz.1
      obtain ⟨h3, h4⟩ := dir_ok hz.2.1
      refine ⟨c116 _ _ _ _ h1 h2 h3 h4, ?_⟩
      rw [srcSec, if_neg (by rw [show (chkSec a b c d != 0) = false from h]; decide)]
  exact c_of Tryz.f41 (fzB (mkB (sp117 default) 41 [] noLa)) (by kernel_rfl) (by kernel_rfl) (by kernel_rfl) (by kernel_rfl) key (by kernel_rfl)
end Go.Proofs.YtjhjmncjidbieaaGreatDoor
namespace Go.Proofs.YtjhjmncjidbieaaGreatDoor
open Go Go.Av Go.RowKit
theorem scan_zero {f : Nat → Int} {n : Nat} {fin : Int} (h : sScan f n fin = 0) : (∀ k, k < n → f k = 0) ∧ fin = 0 := by
  have h1 : ∀ l : List Int, sFirst (l ++ [fin]) = 0 → (∀ x, x ∈ l → x = 0) ∧ fin = 0 := by
    intro l
    induction l with
    | nil => intro h; rw [List.nil_append, first_zero] at h; exact ⟨by simp, h.1⟩
    | cons x l ih =>
      intro h
      rw [List.cons_append, first_zero] at h
      obtain ⟨h2, h3⟩ := h
      have := ih h3
      exact ⟨fun y hy => by rcases List.mem_cons.1 hy with e | e; (· rw [e]; exact h2); (· exact this.1 y e), this.2⟩
  have := h1 _ h
  exact ⟨fun k hk => this.1 _ (List.mem_map.2 ⟨k, List.mem_range.2 hk, rfl⟩), this.2⟩
theorem ls_zero' {c : Int} {f : Nat → Int} {n : Nat} {fin : Int} (h : sLS c f n fin = 0) : c = 0 ∧ (∀ k, k < n → f k = 0) ∧ fin = 0 := by
  unfold sLS at h
  split at h
  · rename_i hc; rw [h] at hc; exact absurd hc (by decide)
  · rename_i hc
    exact ⟨by simpa using hc, scan_zero h⟩
theorem when_z {b : Bool} {e : Int} (he : e ≠ 0) (h : sWhen b e = 0) : b = false := by
  cases b
  · rfl
  · exact absurd h (by simpa [sWhen] using he)
theorem counted_zero {n m : Int} (h : sCounted n m = 0) : n ≠ 0 ∧ n ≤ m := by
  unfold sCounted at h
  rw [first_zero, first_zero] at h
  have h1 := when_z (by decide) h.1
  have h2 := when_z (by decide) h.2.1
  have := of_decide_eq_false h2
  exact ⟨ne_of_beq_false h1, by omega⟩
theorem ok_of {t : Ty} (h : sTyS t = 0) : OKTy t := by
  unfold sTyS at h
  split at h
  · rename_i h1; rw [h] at h1; exact absurd h1 (by decide)
  · obtain ⟨h2, h3, h4⟩ := ls_zero' h
    unfold cTyS2 at h2
    rw [first_zero, first_zero, first_zero, first_zero] at h2
    obtain ⟨_, _, hq, _⟩ := h2
    have hq := counted_zero hq
    obtain ⟨hn, hS, _⟩ := ls_zero' h4
    have hn := counted_zero hn
    have hc : ∀ i, i < t.st.length → sFirst [sWithin (t.sg i).p 1 100, sWhen (decide ((t.sg i).p ≤ lastP t i)) 11, sWhen (((t.sg i).e.length : Int) != (t.sq.length : Int)) 2, sRanged (t.sg i).e 100000000] = 0 := fun i hi => (ls_zero' (hS i hi)).1
    have hel : ∀ i, i < t.st.length → (t.sg i).e.length = t.sq.length := fun i hi => first4_3 (hc i hi)
    refine ⟨by omega, by omega, by omega, by omega, hel, fun i hi => ?_, fun i hi => ?_, fun i k hi hk => ?_⟩
    · have := hc i hi
      rw [first_zero, within_zero] at this
      exact this.1
    · have := hc (i + 1) hi
      rw [first_zero, first_zero] at this
      have h5 := of_decide_eq_false (when_z (by decide) this.2.1)
      have e : lastP t (i + 1) = (t.sg i).p := rfl
      rw [e] at h5
      omega
    · have := hc i hi
      rw [first_zero, first_zero, first_zero, first_zero] at this
      exact ranged_of this.2.2.2.1 k (by rw [hel i hi]; exact hk)
end Go.Proofs.YtjhjmncjidbieaaGreatDoor
namespace Go.Proofs.YtjhjmncjidbieaaGreatDoor
open Go Go.Av Go.RowKit
theorem side_of {t : Ty} (h : sTyS t = 0) : (∀ i, i < 8 → 0 ≤ t.dir.getD i default ∧ t.dir.getD i default ≤ 2000) ∧ 0 ≤ t.side ∧ t.side ≤ 1000 := by
  unfold sTyS at h
  split at h
  · rename_i h1; rw [h] at h1; exact absurd h1 (by decide)
  · obtain ⟨h2, _, _⟩ := ls_zero' h
    unfold cTyS2 at h2
    rw [first_zero, first_zero, within_zero] at h2
    exact ⟨fun i hi => ranged_of h2.1 i hi, h2.2.1⟩
theorem place_ok {x y z : Int} (h : sPlace x y z = 0) : (-100000 ≤ x ∧ x ≤ 100000) ∧ (-100000 ≤ y ∧ y ≤ 100000) ∧ (0 ≤ z ∧ z ≤ 20000) := by
  unfold sPlace at h
  rw [first_zero, first_zero, first_zero, within_zero, within_zero, within_zero] at h
  exact ⟨h.1, h.2.1, h.2.2.1⟩
def sp40 (t : Ty) (u v w : Int) : Nat → List AV → Option AV
  | 53, _ => some (.i (sTyS t))
  | 98, [.int _ p] => some (.i (sPower p))
  | 104, [.agg [.int _ x, .int _ y, .int _ z]] => some (.i (sPlace x y z))
  | 117, [_, .agg [_, _, _, .int _ a, .int _ b, .int _ p], _] => some (.i (hrd t a b p u v w))
  | n, x => sp117 t n x
def chkEmi (t : Ty) (p d : Int) : Int := sFirst [sTyS t, sPower p, sWithin d 0 100000000000]
def srcEmi (t : Ty) (p d : Int) : List AV := if chkEmi t p d != 0 then [.i 0, .i (chkEmi t p d)] else [.i (emi t p d), .i 0]
theorem c40 (t : Ty) (p d : Int) (hn : t.st.length ≤ 1000) (hs : t.sh.length ≤ 1000) (hq : t.sq.length ≤ 1000) (hl : ∀ s, s ∈ t.st → s.e.length ≤ 1000) (hN : t.name.length ≤ 1000000) : PCall Tryz.prog G0 40 [.agg (encTy t), .i p, .i d] (.tup (srcEmi t p d)) := by
  have key :
   PCall Tryz.prog G0 53 [AV.agg [AV.str t.name, AV.sl 1 (List.map encI t.sh), AV.i t.d0, AV.i t.d1, AV.i t.d2, AV.i t.d3, AV.i t.d4, AV.i t.d5, AV.i t.d6, AV.i t.d7, AV.i t.side, AV.sl 1 (List.map encI t.sq), AV.sl 2 (List.map encSg
   t.st)]] (AV.i (sTyS t)) ∧ PCall Tryz.prog G0 98 [AV.i p] (AV.i (sPower p)) ∧ PCall Tryz.prog G0 89 [AV.i d, AV.i 0, AV.i 100000000000] (AV.i (sWithin d (0 : Int) (100000000000 : Int))) ∧ PCall Tryz.prog G0 87 [AV.sl 1 [[AV.i (sTyS
   t)], [AV.i (sPower p)], [AV.i (sWithin d (0 : Int) (100000000000 : Int))]]] (AV.i (sFirst [hdI [AV.i (sTyS t)], hdI [AV.i (sPower p)], hdI [AV.i (sWithin d (0 : Int) (100000000000 : Int))]])) ∧ ((sFirst [hdI [AV.i (sTyS t)], hdI
   [AV.i (sPower p)], hdI [AV.i (sWithin d (0 : Int) (100000000000 : Int))]] != (0 : Int)) = true → AV.tup [AV.i 0, AV.i (sFirst [hdI [AV.i (sTyS t)], hdI [AV.i (sPower p)], hdI [AV.i (sWithin d (0 : Int) (100000000000 : Int))]])] =
   AV.tup (srcEmi t p d)) ∧ ((sFirst [hdI [AV.i (sTyS t)], hdI [AV.i (sPower p)], hdI [AV.i (sWithin d (0 : Int) (100000000000 : Int))]] != (0 : Int)) = false → PCall Tryz.prog G0 114 [AV.agg [AV.str t.name, AV.sl 1 (List.map encI
   t.sh), AV.i t.d0, AV.i t.d1, AV.i t.d2, AV.i t.d3, AV.i t.d4, AV.i t.d5, AV.i t.d6, AV.i t.d7, AV.i t.side, AV.sl 1 (List.map encI t.sq), AV.sl 2 (List.map encSg t.st)], AV.i p, AV.i d] (AV.i (emi t p d)) ∧ AV.tup [AV.i (emi t p
   d), AV.i 0] = AV.tup (srcEmi t p d)) := by
    refine ⟨c53 t hn hs hq hl hN, c98 _, c89 _ _ _, c87 [_, _, _] (by simp), fun h => ?_, fun h => ?_⟩
    · have h : (chkEmi t p d != 0) = true := h
      rw [srcEmi, if_pos h]
      rfl
    · have h : (chkEmi t p d != 0) = false := h
      have hz : chkEmi t p d = 0 := by simpa using h
      unfold chkEmi at hz
      rw [first_zero, first_zero] at hz
      obtain ⟨h1, h2, _⟩ := hz
      unfold sPower at h2
      rw [within_zero] at h2
      refine ⟨c114 t _ _ (ok_of h1) h2.1 h2.2, ?_⟩
      rw [srcEmi, if_neg (by rw [h]; decide)]
  exact c_of Tryz.f40 (fzB (mkB (sp40 t 0 0 0) 40 [] noLa)) (by kernel_rfl) (by kernel_rfl) (by kernel_rfl) (by kernel_rfl) key (by kernel_rfl)
def chkHrd (t : Ty) (x y z a b p x2 y2 z2 : Int) : Int := sFirst [sTyS t, sPlace x y z, sDir a b, sPower p, sPlace x2 y2 z2]
def srcHrd (t : Ty) (x y z a b p x2 y2 z2 : Int) : List AV := if chkHrd t x y z a b p x2 y2 z2 != 0 then [.i 0, .i (chkHrd t x y z a b p x2 y2 z2)] else [.i (hrd t a b p (x2 - x) (y2 - y) (z2 - z)), .i 0]
theorem c42 (t : Ty) (x y z a b p x2 y2 z2 : Int) (hn : t.st.length ≤ 1000) (hs : t.sh.length ≤ 1000) (hq : t.sq.length ≤ 1000) (hl : ∀ s, s ∈ t.st → s.e.length ≤ 1000) (hN : t.name.length ≤ 1000000) : PCall Tryz.prog G0 42 [.agg (encTy t), .agg [.i x, .i y, .i z, .i a, .i b, .i p], .agg [.i x2, .i y2, .i z2]] (.tup (srcHrd t x y z a b p x2 y2 z2)) := by
  have key :
   PCall Tryz.prog G0 53 [AV.agg [AV.str t.name, AV.sl 1 (List.map encI t.sh), AV.i t.d0, AV.i t.d1, AV.i t.d2, AV.i t.d3, AV.i t.d4, AV.i t.d5, AV.i t.d6, AV.i t.d7, AV.i t.side, AV.sl 1 (List.map encI t.sq), AV.sl 2 (List.map encSg
   t.st)]] (AV.i (sTyS t)) ∧ PCall Tryz.prog G0 104 [AV.agg [AV.i x, AV.i y, AV.i z]] (AV.i (sPlace x y z)) ∧ PCall Tryz.prog G0 115 [AV.agg [AV.i a, AV.i b]] (AV.i (sDir a b)) ∧ PCall Tryz.prog G0 98 [AV.i p] (AV.i (sPower p)) ∧
   PCall Tryz.prog G0 104 [AV.agg [AV.i x2, AV.i y2, AV.i z2]] (AV.i (sPlace x2 y2 z2)) ∧ PCall Tryz.prog G0 87 [AV.sl 1 [[AV.i (sTyS t)], [AV.i (sPlace x y z)], [AV.i (sDir a b)], [AV.i (sPower p)], [AV.i (sPlace x2 y2 z2)]]] (AV.i
   (sFirst [hdI [AV.i (sTyS t)], hdI [AV.i (sPlace x y z)], hdI [AV.i (sDir a b)], hdI [AV.i (sPower p)], hdI [AV.i (sPlace x2 y2 z2)]])) ∧ ((sFirst [hdI [AV.i (sTyS t)], hdI [AV.i (sPlace x y z)], hdI [AV.i (sDir a b)], hdI [AV.i
   (sPower p)], hdI [AV.i (sPlace x2 y2 z2)]] != (0 : Int)) = true → AV.tup [AV.i 0, AV.i (sFirst [hdI [AV.i (sTyS t)], hdI [AV.i (sPlace x y z)], hdI [AV.i (sDir a b)], hdI [AV.i (sPower p)], hdI [AV.i (sPlace x2 y2 z2)]])] = AV.tup
   (srcHrd t x y z a b p x2 y2 z2)) ∧ ((sFirst [hdI [AV.i (sTyS t)], hdI [AV.i (sPlace x y z)], hdI [AV.i (sDir a b)], hdI [AV.i (sPower p)], hdI [AV.i (sPlace x2 y2 z2)]] != (0 : Int)) = false → PCall Tryz.prog G0 117 [AV.agg [AV.str
   t.name, AV.sl 1 (List.map encI t.sh), AV.i t.d0, AV.i t.d1, AV.i t.d2, AV.i t.d3, AV.i t.d4, AV.i t.d5, AV.i t.d6, AV.i t.d7, AV.i t.side, AV.sl 1 (List.map encI t.sq), AV.sl 2 (List.map encSg t.st)], AV.agg [AV.i x, AV.i y, AV.i
   z, AV.i a, AV.i b, AV.i p], AV.agg [AV.i x2, AV.i y2, AV.i z2]] (AV.i (hrd t a b p (x2 - x) (y2 - y) (z2 - z))) ∧ AV.tup [AV.i (hrd t a b p (x2 - x) (y2 - y) (z2 - z)), AV.i 0] = AV.tup (srcHrd t x y z a b p x2 y2 z2)) := by
    refine ⟨c53 t hn hs hq hl hN, c104 _ _ _, c115 _ _, c98 _, c104 _ _ _, c87 [_, _, _, _, _] (by simp), fun h => ?_, fun h => ?_⟩
    · have h : (chkHrd t x y z a b p x2 y2 z2 != 0) = true := h
      rw [srcHrd, if_pos h]
      rfl
    · have h : (chkHrd t x y z a b p x2 y2 z2 != 0) = false := h
      have hz : chkHrd t x y z a b p x2 y2 z2 = 0 := by simpa using h
      unfold chkHrd at hz
      rw [first_zero, first_zero, first_zero, first_zero, first_zero] at hz
      obtain ⟨h1, h2, h3, h4, h5, _⟩ := hz
      unfold sPower at h4
      rw [within_zero] at h4
      obtain ⟨p1, p2, p3⟩ := place_ok h2
      obtain ⟨p4, p5, p6⟩ := place_ok h5
      obtain ⟨d1, d2⟩ := dir_ok h3
      obtain ⟨s1, s2⟩ := side_of h1
      refine ⟨c117 t x y z a b p x2 y2 z2 (ok_of h1) p1 p2 p3 d1 d2 h4 p4 p5 p6 s1 s2, ?_⟩
      rw [srcHrd, if_neg (by rw [h]; decide)]
  exact c_of Tryz.f42 (fzB (mkB (sp40 t (x2 - x) (y2 - y) (z2 - z)) 42 [] noLa)) (by kernel_rfl) (by kernel_rfl) (by kernel_rfl) (by kernel_rfl) key (by kernel_rfl)
end Go.Proofs.YtjhjmncjidbieaaGreatDoor
namespace Go.Proofs.YtjhjmncjidbieaaGreatDoor
open Go Go.Av Go.RowKit
end Go.Proofs.YtjhjmncjidbieaaGreatDoor
namespace Go.Proofs.YtjhjmncjidbieaaGreatDoor
open Go Go.Av Go.RowKit
def bandS (e x : Int) : Int := e.tdiv 1000 * x + (e.tmod 1000 * x).tdiv 1000
theorem c120 (x e : Int) (hx : 0 ≤ x ∧ x ≤ 1000) (he : 0 ≤ e ∧ e ≤ 10000000000000) : PCall Tryz.prog G0 120 [.i x, .elt 1 [[.i e]] 0 0] (.i (bandS e x)) := by
  have key :
   ¬(1000 : Int) = (0 : Int) ∧ In64 (e.tdiv (1000 : Int)) ∧ In64 (e.tdiv (1000 : Int) * x) ∧ ¬(1000 : Int) = (0 : Int) ∧ In64 (e.tmod (1000 : Int) * x) ∧ ¬(1000 : Int) = (0 : Int) ∧ In64 ((e.tmod (1000 : Int) * x).tdiv (1000 : Int)) ∧
   In64 (e.tdiv (1000 : Int) * x + (e.tmod (1000 : Int) * x).tdiv (1000 : Int)) ∧ AV.i (e.tdiv (1000 : Int) * x + (e.tmod (1000 : Int) * x).tdiv (1000 : Int)) = AV.i (bandS e x) := by
    have e1 : e.tdiv 1000 = e / 1000 := Int.tdiv_eq_ediv_of_nonneg he.1
    have e2 : e.tmod 1000 = e % 1000 := Int.tmod_eq_emod_of_nonneg he.1
    have h1 := mul_bound (A := 10000000000) (B := 1000) (x := e / 1000) (y := x) (by omega) (by omega) (by omega) hx.2
    have h2 := mul_bound (A := 1000) (B := 1000) (x := e % 1000) (y := x) (by omega) (by omega) (by omega) hx.2
    have h3 := tdiv_abs (n := e % 1000 * x) (d := 1000) (B := 1000000) (by omega) (by omega) (by omega)
    rw [bandS, e1, e2]
    generalize e / 1000 * x = q1 at *
    generalize e % 1000 * x = q2 at *
    exact ⟨by omega, by unfold In64; omega, by unfold In64; omega, by omega, by unfold In64; omega, by omega, by unfold In64; omega, by unfold In64; omega, rfl⟩
  exact c_of Tryz.f120 (mkB spR 120 [] noLa) (by kernel_rfl) (by kernel_rfl) (by kernel_rfl) (by kernel_rfl) key (by kernel_rfl)
def sp119 (m : Int) : Nat → List AV → Option AV
  | 120, [.int _ x, _] => some (.i (bandS m x))
  | n, x => spR n x
def la119 (l : List Int) (m : Int) : LA := {
  pre := [.own 5 3 1, .reno 5 1, .keep [1, 5, 8, 9, 10] [1], .bound 2], post := [.reno 5 1, .keep [1, 5, 8, 9, 10] [1], .bound 2]
  Gh := Nat
  st := fun i => ⟨[(1, .fn (.func 120) [] [.elt 1 [[.i m]] 0 0]), (5, .own 1 (((l.take i).map fun x => bandS m x).map encI).length), (8, .sl 1 (l.map encI)), (9, .i (l.map encI).length), (10, .i i)], [(1, .buf 3 1 (((l.take i).map fun x => bandS m x).map encI))], 2⟩
  ok := fun i => i ≤ (l.map encI).length
  ms := fun i => (l.map encI).length - i }
theorem c119 (l : List Int) (m : Int) (hl : l.length ≤ 1000) (hm : 0 ≤ m ∧ m ≤ 10000000000000) (hx : ∀ k, k < l.length → 0 ≤ l.getD k default ∧ l.getD k default ≤ 1000) : PCall Tryz.prog G0 119 [.sl 1 (l.map encI), .fn (.func 120) [] [.elt 1 [[.i m]] 0 0]] (.fresh 3 1 ((l.map fun x => bandS m x).map encI)) := by
  have key :
   (∃ (g : Nat), g ≤ (List.map encI l).length ∧ AS.mk [(1, AV.fn (Fn.func 120) [] [AV.elt 1 [[AV.i m]] 0 0]), (5, AV.own 1 0), (8, AV.sl 1 (List.map encI l)), (9, AV.i (↑(List.map encI l).length : Int)), (10, AV.i 0)] [(1, ABlk.buf 3
   1 [])] 2 = AS.mk [(1, AV.fn (Fn.func 120) [] [AV.elt 1 [[AV.i m]] 0 0]), (5, AV.own 1 (List.map encI (List.map (fun (x : Int) => bandS m x) (List.take g l))).length), (8, AV.sl 1 (List.map encI l)), (9, AV.i (↑(List.map encI
   l).length : Int)), (10, AV.i (↑g : Int))] [(1, ABlk.buf 3 1 (List.map encI (List.map (fun (x : Int) => bandS m x) (List.take g l))))] 2) ∧ ∀ (g : Nat), g ≤ (List.map encI l).length → (decide ((↑g : Int) < (↑(List.map encI l).length
   : Int)) = true → (0 : Int) ≤ (↑g : Int) ∧ (↑g : Int) < (↑(List.map encI l).length : Int) ∧ nth (nthR (List.map encI l) (↑g : Int).toNat) 0 = AV.i (l.getD (↑g : Int).toNat default) ∧ (List.map encI (List.map (fun (x : Int) => bandS
   m x) (List.take g l))).length + 1 ≤ 9223372036854775807 ∧ ((List.map encI (List.map (fun (x : Int) => bandS m x) (List.take g l))).length + 1) * 8 ≤ 140737488355328 ∧ PCall Tryz.prog G0 120 [AV.i (l.getD (↑g : Int).toNat default),
   AV.elt 1 [[AV.i m]] 0 0] (AV.i (bandS m (l.getD (↑g : Int).toNat default))) ∧ In64 ((↑g : Int) + (1 : Int)) ∧ ∃ (g' : Nat), g' ≤ (List.map encI l).length ∧ (List.map encI l).length - g' < (List.map encI l).length - g ∧ AS.mk [(1,
   AV.fn (Fn.func 120) [] [AV.elt 1 [[AV.i m]] 0 0]), (5, AV.own 1 ((List.map encI (List.map (fun (x : Int) => bandS m x) (List.take g l))).length + 1)), (8, AV.sl 1 (List.map encI l)), (9, AV.i (↑(List.map encI l).length : Int)),
   (10, AV.i ((↑g : Int) + (1 : Int)))] [(1, ABlk.buf 3 1 (List.map encI (List.map (fun (x : Int) => bandS m x) (List.take g l)) ++ [[AV.i (bandS m (l.getD (↑g : Int).toNat default))]]))] 2 = AS.mk [(1, AV.fn (Fn.func 120) [] [AV.elt
   1 [[AV.i m]] 0 0]), (5, AV.own 1 (List.map encI (List.map (fun (x : Int) => bandS m x) (List.take g' l))).length), (8, AV.sl 1 (List.map encI l)), (9, AV.i (↑(List.map encI l).length : Int)), (10, AV.i (↑g' : Int))] [(1, ABlk.buf 3
   1 (List.map encI (List.map (fun (x : Int) => bandS m x) (List.take g' l))))] 2) ∧ (decide ((↑g : Int) < (↑(List.map encI l).length : Int)) = false → AV.fresh 3 1 (List.map encI (List.map (fun (x : Int) => bandS m x) (List.take g
   l))) = AV.fresh 3 1 (List.map encI (List.map (fun (x : Int) => bandS m x) l))) := by
    simp only [List.length_map]
    refine ⟨⟨0, by omega, rfl⟩, fun g hg => ⟨fun hd => ?_, fun hd => ?_⟩⟩
    · have hlt := lt_of_dec hd
      simp only [Int.toNat_natCast]
      refine ⟨by omega, by omega, by rw [row_at _ hlt]; rfl, by rw [List.length_take]; omega, by rw [List.length_take]; omega, c120 _ _ (hx g hlt) hm, by unfold In64; omega, g + 1, hlt, by omega, ?_⟩
      have h2 := take_succ_map encI (fun x => bandS m x) hlt
      simp only [encI] at h2
      rw [show (l.take g).length + 1 = (l.take (g + 1)).length by simp only [List.length_take]; omega, h2]
      rfl
    · rw [ge_of_dec hd hg, List.take_length]
  exact c_of Tryz.f119 (mkB (sp119 m) 119 [(4, 1, rdOr [rdL 1 encI l 1 false])] (fun i => if i.beq 0 then some (la119 l m) else none)) (by kernel_rfl) (by kernel_rfl) (by kernel_rfl) (by kernel_rfl) key (by kernel_rfl)
end Go.Proofs.YtjhjmncjidbieaaGreatDoor
namespace Go.Proofs.YtjhjmncjidbieaaGreatDoor
open Go Go.Av Go.RowKit
/-- One error after another. -/
def orE (a b : Int) : Int := if a ≠ 0 then a else b
theorem first_c (x : Int) (l : List Int) : sFirst (x :: l) = orE x (sFirst l) := rfl
theorem first_n : sFirst [] = 0 := rfl
theorem orE_0 (a : Int) : orE a 0 = a := by
  unfold orE
  split <;> omega
theorem orE_as (a b c : Int) : orE (orE a b) c = orE a (orE b c) := by
  unfold orE
  by_cases h : a = 0
  · simp [h]
  · simp [h]
theorem orE_c {a b c : Int} (h : a = 0 → b = c) : orE a b = orE a c := by
  unfold orE
  by_cases e : a = 0
  · rw [h e]
  · rw [if_pos e, if_pos e]
theorem ite_or (c x : Int) : (if (c != 0) = true then c else x) = orE c x := by
  unfold orE
  by_cases h : c = 0
  · simp [h]
  · simp [h]
theorem ls_or (c : Int) (f : Nat → Int) (n : Nat) (fin : Int) : sLS c f n fin = orE c (sScan f n fin) := ite_or _ _
theorem first_app (m : List Int) : ∀ l, sFirst (l ++ m) = orE (sFirst l) (sFirst m)
  | [] => by
    rw [List.nil_append, first_n]
    rfl
  | x :: l => by rw [List.cons_append, first_c, first_c, first_app m l, orE_as]
theorem scan_or (f : Nat → Int) (n : Nat) (fin : Int) : sScan f n fin = orE (sScan f n 0) fin := by
  unfold sScan
  rw [first_app, first_app, first_c, first_n, orE_0, first_c, first_n, orE_0, orE_0]
theorem scan_same {f g : Nat → Int} {n : Nat} {fin : Int} (h : ∀ k, k < n → f k = g k) : sScan f n fin = sScan g n fin := by
  unfold sScan
  rw [List.map_congr_left (fun k hk => h k (List.mem_range.1 hk))]
theorem eAt_rep (n k : Nat) : eAt (List.replicate n 0) k = 0 := by
  unfold eAt
  rw [List.getD_eq_getElem?_getD, List.getElem?_replicate]
  split <;> rfl
theorem cSet_eq (t : Ty) (i : Nat) : cSetS t i = cSetR t i := by
  unfold cSetS cSetR
  rw [first_c, first_c (sPower _)]
  show orE (sWithin (t.sg i).p 1 100) _ = orE (sWithin (t.sg i).p 1 100) _
  refine orE_c fun h => ?_
  have hp := within_zero.1 h
  have e : decide ((t.sg i).p ≤ lastP t i) = if i = 0 then false else decide ((t.sg i).p ≤ (t.sg (i - 1)).p) := by
    unfold lastP
    by_cases e0 : i = 0
    · rw [if_pos e0, if_pos e0]
      exact decide_eq_false (by omega)
    · rw [if_neg e0, if_neg e0]
  rw [e]
  rfl
theorem fSet_eq (t : Ty) (i : Nat) : fSetS t i = fSetR t i := by
  unfold fSetS fSetR
  rw [ls_or, ls_or, cSet_eq]
  refine orE_c fun h => scan_same fun k hk => ?_
  have e : badS t i k = badR t i k := by
    unfold badS badR
    congr 1
    by_cases e0 : i = 0
    · rw [if_pos e0, lastE, if_pos e0, eAt_rep]
      unfold cSetR at h
      simp only [first_zero] at h
      have := ranged_of h.2.2.2.1 k hk
      exact decide_eq_false (by unfold eAt; omega)
    · rw [if_neg e0, lastE, if_neg e0]
  rw [e]
theorem shares_or (l : List Int) : sShares l = orE (sCounted l.length 8) (orE (sRanged l 1000) (sWhen (sumI l l.length != 1000) 1)) := by
  unfold sShares sCounted sRanged
  rw [ite_or]
  simp only [first_c, first_n, orE_0, orE_as]
theorem squares_or (l : List Int) : sSquares l = orE (sCounted l.length 8) (orE (sRanged l 100000000000) (sScan (fSq l) l.length 0)) := by
  unfold sSquares sCounted sRanged
  rw [ls_or]
  simp only [first_c, first_n, orE_0, orE_as]
theorem sumW_eq {l : List Int} (h : ∀ k, k < l.length → 0 ≤ l.getD k default ∧ l.getD k default ≤ 1000) (hl : l.length ≤ 1000) : ∀ i, i ≤ l.length → sumW l i = sumI l i
  | 0, _ => rfl
  | i + 1, hi => by
    have h1 := sumI_bound h (i + 1) hi
    have h2 := sumW_eq h hl i (by omega)
    show IntKind.i64.wrap (sumW l i + l.getD i default) = sumI l i + l.getD i default
    rw [h2]
    have h3 : sumI l (i + 1) = sumI l i + l.getD i default := rfl
    rw [← h3]
    have : (0 : Int) ≤ 1000 * ((i + 1 : Nat) : Int) ∧ 1000 * ((i + 1 : Nat) : Int) ≤ 1000000 := by omega
    exact in64_wrap (by unfold In64; omega)
theorem ty_eq (t : Ty) : sTyS t = sTyR t := by
  have e1 : cTyS1 t = orE (sWhen (!sName t.name) 8) (sShares t.sh) := by
    unfold cTyS1
    rw [shares_or, first_c, first_c, first_c, first_c, first_n, orE_0]
    refine congrArg _ (orE_c fun h1 => orE_c fun h2 => ?_)
    have h3 : t.sh.length ≤ 8 := by
      have := (counted_zero h1).2
      omega
    rw [sumW_eq (ranged_of h2) (by omega) _ (by omega)]
  have e2 : sSets t = orE (sWhen ((t.st.length : Int) == 0) 12) (orE (sWhen (decide ((t.st.length : Int) > 6)) 5) (sScan (fSetR t) t.st.length 0)) := by
    unfold sSets
    rw [ls_or, scan_same fun k _ => fSet_eq t k]
    unfold sCounted
    simp only [first_c, first_n, orE_0, orE_as]
  unfold sTyS sTyR cTyS2 cTyR
  rw [ite_or, ls_or, ls_or, scan_or (fSq t.sq), e1, e2]
  simp only [first_c, first_n, orE_0, orE_as, squares_or]
  rfl
/-- A share of an energy. -/
def bandR (e x : Int) : Int := (e * x).tdiv 1000
def bnds (l : List Int) (e : Int) : List Int := l.map fun x => bandR e x
def restR (l : List Int) (e : Int) : Nat → Int
  | 0 => e
  | n + 1 => restR l e n - bandR e (l.getD n default)
/-- The bands of an energy. -/
def bnd (l : List Int) (e : Int) : List Int := (bnds l e).set 0 ((bnds l e).getD 0 default + restR l e l.length)
theorem band_b {e x : Int} (hx : 0 ≤ x ∧ x ≤ 1000) (he : 0 ≤ e ∧ e ≤ 10000000000000) : (0 ≤ e * x ∧ e * x ≤ 10000000000000000) ∧ 0 ≤ bandR e x ∧ bandR e x ≤ 10000000000000 := by
  have h1 := mul_bound (A := 10000000000000) (B := 1000) (x := e) (y := x) (by omega) he.2 (by omega) hx.2
  have h3 : 0 ≤ e * x := Int.mul_nonneg he.1 hx.1
  have h2 : bandR e x = e * x / 1000 := Int.tdiv_eq_ediv_of_nonneg h3
  rw [h2]
  generalize e * x = q at *
  omega
theorem band_eq {e x : Int} (hx : 0 ≤ x ∧ x ≤ 1000) (he : 0 ≤ e ∧ e ≤ 10000000000000) : bandS e x = bandR e x := by
  have h0 := band_b hx he
  have h1 : 0 ≤ e % 1000 * x := Int.mul_nonneg (by omega) hx.1
  unfold bandS bandR
  rw [Int.tdiv_eq_ediv_of_nonneg he.1, Int.tmod_eq_emod_of_nonneg he.1, Int.tdiv_eq_ediv_of_nonneg h1, Int.tdiv_eq_ediv_of_nonneg h0.1.1]
  have e1 : e * x = e % 1000 * x + 1000 * (e / 1000 * x) := by
    rw [← Int.mul_assoc, ← Int.add_mul, Int.emod_add_mul_ediv]
  rw [e1, Int.add_mul_ediv_left _ _ (by decide), Int.add_comm]
theorem bnds_len (l : List Int) (e : Int) : (bnds l e).length = l.length := List.length_map _
theorem bnds_get {l : List Int} {e : Int} {k : Nat} (h : k < l.length) : (bnds l e).getD k default = bandR e (l.getD k default) := by
  unfold bnds
  rw [List.getD_eq_getElem?_getD, List.getD_eq_getElem?_getD, List.getElem?_map, List.getElem?_eq_getElem h]
  rfl
theorem rest_sum {l : List Int} {e : Int} : ∀ i, i ≤ l.length → restR l e i = e - sumI (bnds l e) i
  | 0, _ => by
    show e = e - 0
    omega
  | i + 1, h => by
    show restR l e i - bandR e (l.getD i default) = e - (sumI (bnds l e) i + (bnds l e).getD i default)
    rw [rest_sum i (by omega), bnds_get (by omega)]
    omega
theorem bnds_b {l : List Int} {e : Int} (hx : ∀ k, k < l.length → 0 ≤ l.getD k default ∧ l.getD k default ≤ 1000) (he : 0 ≤ e ∧ e ≤ 10000000000000) : ∀ k, k < (bnds l e).length → 0 ≤ (bnds l e).getD k default ∧ (bnds l e).getD k default ≤ 10000000000000 := fun k hk => by
  rw [bnds_len] at hk
  rw [bnds_get hk]
  exact (band_b (hx k hk) he).2
theorem rest_b {l : List Int} {e : Int} (hx : ∀ k, k < l.length → 0 ≤ l.getD k default ∧ l.getD k default ≤ 1000) (he : 0 ≤ e ∧ e ≤ 10000000000000) (hl : l.length ≤ 1000) : ∀ i, i ≤ l.length → -10000000000000000 ≤ restR l e i ∧ restR l e i ≤ 10000000000000 := fun i hi => by
  have := sumI_bound (bnds_b hx he) i (by rw [bnds_len]; exact hi)
  rw [rest_sum i hi]
  omega
theorem sumW_bnds {l : List Int} {e : Int} (hx : ∀ k, k < l.length → 0 ≤ l.getD k default ∧ l.getD k default ≤ 1000) (he : 0 ≤ e ∧ e ≤ 10000000000000) (hl : l.length ≤ 1000) : ∀ i, i ≤ l.length → sumW (bnds l e) i = sumI (bnds l e) i
  | 0, _ => rfl
  | i + 1, hi => by
    have h1 := sumI_bound (bnds_b hx he) (i + 1) (by rw [bnds_len]; exact hi)
    show IntKind.i64.wrap (sumW (bnds l e) i + (bnds l e).getD i default) = sumI (bnds l e) i + (bnds l e).getD i default
    rw [sumW_bnds hx he hl i (by omega)]
    have h3 : sumI (bnds l e) (i + 1) = sumI (bnds l e) i + (bnds l e).getD i default := rfl
    rw [← h3]
    exact in64_wrap (by unfold In64; omega)
theorem bandS_map {l : List Int} {e : Int} (hx : ∀ k, k < l.length → 0 ≤ l.getD k default ∧ l.getD k default ≤ 1000) (he : 0 ≤ e ∧ e ≤ 10000000000000) : (l.map fun x => bandS e x) = bnds l e := by
  refine List.map_congr_left fun x hm => ?_
  obtain ⟨k, hk, rfl⟩ := List.getElem_of_mem hm
  have := hx k hk
  rw [List.getD_eq_getElem?_getD, List.getElem?_eq_getElem hk] at this
  exact band_eq this he
theorem put_bnd {l : List Int} (h : l ≠ []) (x : Int) : putRow (l.map encI) 0 0 [.i x] = (l.set 0 x).map encI := by
  match l, h with
  | y :: l, _ => rfl
end Go.Proofs.YtjhjmncjidbieaaGreatDoor
namespace Go.Proofs.YtjhjmncjidbieaaGreatDoor
open Go Go.Av Go.RowKit
def rd52 (t : Ty) (e : Int) : List AV → Option AV := fun _ => some (.i ((bnds t.sh e).getD 0 default))
end Go.Proofs.YtjhjmncjidbieaaGreatDoor
namespace Go.Proofs.YtjhjmncjidbieaaGreatDoor
open Go Go.Av Go.RowKit
theorem shr_of {t : Ty} (h : sTyS t = 0) : t.sh.length ≠ 0 ∧ t.sh.length ≤ 8 ∧ ∀ k, k < t.sh.length → 0 ≤ t.sh.getD k default ∧ t.sh.getD k default ≤ 1000 := by
  unfold sTyS at h
  split at h
  · rename_i h1; rw [h] at h1; exact absurd h1 (by decide)
  · rename_i h1
    have h2 : cTyS1 t = 0 := by simpa using h1
    unfold cTyS1 at h2
    rw [first_zero, first_zero, first_zero] at h2
    have h3 := counted_zero h2.2.1
    exact ⟨by omega, by omega, ranged_of h2.2.2.1⟩
def chkBan (t : Ty) (e : Int) : Int := sFirst [sTyS t, sWithin e 0 10000000000000]
def rBan (t : Ty) (e : Int) : List Int := if chkBan t e != 0 then [] else bnd t.sh e
def sp43 (t : Ty) (e : Int) : Nat → List AV → Option AV
  | 53, _ => some (.i (sTyS t))
  | 118, _ => some (.i (sWithin e 0 10000000000000))
  | 119, _ => some (.fresh 3 1 ((bnds t.sh e).map encI))
  | 121, _ => some (.i (sumW (bnds t.sh e) (bnds t.sh e).length))
  | n, x => spR n x
def gsB (g : Nat → List GS) (B : BA) : BA := { B with gs := fun i => B.gs i ++ g i }
def gs43 (i : Nat) : List GS := if i.beq 3 then [.nil 4 1] else []
theorem c43 (t : Ty) (e : Int) (hn : t.st.length ≤ 1000) (hs : t.sh.length ≤ 1000) (hq : t.sq.length ≤ 1000) (hl : ∀ s, s ∈ t.st → s.e.length ≤ 1000) (hN : t.name.length ≤ 1000000) : PCall Tryz.prog G0 43 [.agg (encTy t), .i e] (.tup [.sl 1 ((rBan t e).map encI), .i (chkBan t e)]) := by
  have key :
   PCall Tryz.prog G0 53 [AV.agg [AV.str t.name, AV.sl 1 (List.map encI t.sh), AV.i t.d0, AV.i t.d1, AV.i t.d2, AV.i t.d3, AV.i t.d4, AV.i t.d5, AV.i t.d6, AV.i t.d7, AV.i t.side, AV.sl 1 (List.map encI t.sq), AV.sl 2 (List.map encSg
   t.st)]] (AV.i (sTyS t)) ∧ PCall Tryz.prog G0 118 [AV.i e] (AV.i (sWithin e (0 : Int) (10000000000000 : Int))) ∧ PCall Tryz.prog G0 87 [AV.sl 1 [[AV.i (sTyS t)], [AV.i (sWithin e (0 : Int) (10000000000000 : Int))]]] (AV.i (sFirst
   [hdI [AV.i (sTyS t)], hdI [AV.i (sWithin e (0 : Int) (10000000000000 : Int))]])) ∧ ((sFirst [hdI [AV.i (sTyS t)], hdI [AV.i (sWithin e (0 : Int) (10000000000000 : Int))]] != (0 : Int)) = true → AV.tup [AV.sl 1 [], AV.i (sFirst [hdI
   [AV.i (sTyS t)], hdI [AV.i (sWithin e (0 : Int) (10000000000000 : Int))]])] = AV.tup [AV.sl 1 (List.map encI (rBan t e)), AV.i (chkBan t e)]) ∧ ((sFirst [hdI [AV.i (sTyS t)], hdI [AV.i (sWithin e (0 : Int) (10000000000000 : Int))]]
   != (0 : Int)) = false → PCall Tryz.prog G0 119 [AV.sl 1 (List.map encI t.sh), AV.fn (Fn.func 120) [] [AV.elt 1 [[AV.i e]] 0 0]] (AV.fresh 3 1 (List.map encI (bnds t.sh e))) ∧ In64 (e - sumW (bnds t.sh e) (bnds t.sh e).length) ∧
   PCall Tryz.prog G0 121 [AV.sl 1 (List.map encI (bnds t.sh e))] (AV.i (sumW (bnds t.sh e) (bnds t.sh e).length)) ∧ (0 : Int) ≤ (0 : Int) ∧ (0 : Int) < (↑(List.map encI (bnds t.sh e)).length : Int) ∧ 0 < (List.map encI (bnds t.sh
   e)).length ∧ In64 ((bnds t.sh e).getD 0 default + (e - sumW (bnds t.sh e) (bnds t.sh e).length)) ∧ (0 : Int) ≤ (0 : Int) ∧ (0 : Int) < (↑(List.map encI (bnds t.sh e)).length : Int) ∧ 0 < (List.map encI (bnds t.sh e)).length ∧ nth
   (nthR (List.map encI (bnds t.sh e)) 0) 0 = AV.i ((bnds t.sh e).getD 0 default) ∧ AV.tup [AV.sl 1 (putRow (List.map encI (bnds t.sh e)) 0 0 [AV.i ((bnds t.sh e).getD 0 default + (e - sumW (bnds t.sh e) (bnds t.sh e).length))]), AV.i
   0] = AV.tup [AV.sl 1 (List.map encI (rBan t e)), AV.i (chkBan t e)]) := by
    have e0 : sFirst [hdI [AV.i (sTyS t)], hdI [AV.i (sWithin e 0 10000000000000)]] = chkBan t e := rfl
    rw [e0]
    refine ⟨c53 t hn hs hq hl hN, c118 e, c87 [_, _] (by simp), fun h => ?_, fun h => ?_⟩
    · have h' : (chkBan t e != 0) = true := h
      rw [rBan, if_pos h']
      rfl
    · have h' : (chkBan t e != 0) = false := h
      have hz : chkBan t e = 0 := by simpa using h'
      have hz2 := hz
      unfold chkBan at hz2
      simp only [first_zero, within_zero] at hz2
      obtain ⟨hT, he, _⟩ := hz2
      obtain ⟨h0, h8, hx⟩ := shr_of hT
      have k119 := c119 t.sh e (by omega) he hx
      rw [bandS_map hx he] at k119
      have hl1 : (List.map encI (bnds t.sh e)).length = t.sh.length := by rw [List.length_map, bnds_len]
      have hR := rest_b hx he (by omega) _ (Nat.le_refl _)
      have hB := bnds_b hx he 0 (by rw [bnds_len]; omega)
      have hne : bnds t.sh e ≠ [] := fun h => by
        have := congrArg List.length h
        rw [bnds_len] at this
        exact h0 this
      have hw : e - sumW (bnds t.sh e) (bnds t.sh e).length = restR t.sh e t.sh.length := by
        rw [bnds_len, sumW_bnds hx he (by omega) _ (Nat.le_refl _), rest_sum _ (Nat.le_refl _)]
      have k121 := c121 (bnds t.sh e) (by rw [bnds_len]; omega)
      rw [hw]
      refine ⟨k119, by unfold In64; omega, k121, by omega, by omega, by omega, by unfold In64; omega, by omega, by omega, by omega, by rw [cI_at (by rw [bnds_len]; omega), cI_map], ?_⟩
      rw [put_bnd hne, rBan, if_neg (by rw [h']; decide), hz]
      rfl
  exact c_of Tryz.f43 (gsB gs43 (fzB (mkB (sp43 t e) 43 [(6, 2, rd52 t e)] noLa))) (by kernel_rfl) (by kernel_rfl) (by kernel_rfl) (by kernel_rfl) key (by kernel_rfl)
end Go.Proofs.YtjhjmncjidbieaaGreatDoor
namespace Go.Proofs.YtjhjmncjidbieaaGreatDoor
open Go Go.Av Go.RowKit
theorem sec_succ (n : Nat) (i x y : Int) : sec (n + 1) i x y = if (x > y ∧ y ≥ 0) ∨ (x = 0 ∧ y = 0) then i else if y ≥ x ∧ x > 0 then i + 1 else sec n (i + 2) y (-x) := by
  simp only [sec, Bool.or_eq_true, Bool.and_eq_true, decide_eq_true_eq, beq_iff_eq]
theorem sec_0 {x y : Int} (h1 : x > y) (h2 : y ≥ 0) : sec 4 0 x y = 0 := by
  rw [sec_succ, if_pos (by omega)]
theorem sec_1 {x y : Int} (h1 : y ≥ x) (h2 : x > 0) : sec 4 0 x y = 1 := by
  rw [sec_succ, if_neg (by omega), if_pos (by omega)]
  rfl
theorem sec_2 {x y : Int} (h1 : y > -x) (h2 : -x ≥ 0) : sec 4 0 x y = 2 := by
  rw [sec_succ, if_neg (by omega), if_neg (by omega), sec_succ, if_pos (by omega)]
  rfl
theorem sec_3 {x y : Int} (h1 : -x ≥ y) (h2 : y > 0) : sec 4 0 x y = 3 := by
  rw [sec_succ, if_neg (by omega), if_neg (by omega), sec_succ, if_neg (by omega), if_pos (by omega)]
  rfl
theorem sec_4 {x y : Int} (h1 : -x > -y) (h2 : -y ≥ 0) : sec 4 0 x y = 4 := by
  rw [sec_succ, if_neg (by omega), if_neg (by omega), sec_succ, if_neg (by omega), if_neg (by omega), sec_succ, if_pos (by omega)]
  rfl
theorem sec_5 {x y : Int} (h1 : -y ≥ -x) (h2 : -x > 0) : sec 4 0 x y = 5 := by
  rw [sec_succ, if_neg (by omega), if_neg (by omega), sec_succ, if_neg (by omega), if_neg (by omega), sec_succ, if_neg (by omega), if_pos (by omega)]
  rfl
theorem sec_6 {x y : Int} (h1 : -y > x) (h2 : x ≥ 0) : sec 4 0 x y = 6 := by
  rw [sec_succ, if_neg (by omega), if_neg (by omega), sec_succ, if_neg (by omega), if_neg (by omega), sec_succ, if_neg (by omega), if_neg (by omega), sec_succ, if_pos (by omega)]
  rfl
theorem sec_7 {x y : Int} (h1 : x ≥ -y) (h2 : -y > 0) : sec 4 0 x y = 7 := by
  rw [sec_succ, if_neg (by omega), if_neg (by omega), sec_succ, if_neg (by omega), if_neg (by omega), sec_succ, if_neg (by omega), if_neg (by omega), sec_succ, if_neg (by omega), if_pos (by omega)]
  rfl
theorem octs {x y : Int} (h : ¬ (x = 0 ∧ y = 0)) : (x > y ∧ y ≥ 0) ∨ (y ≥ x ∧ x > 0) ∨ (y > -x ∧ -x ≥ 0) ∨ (-x ≥ y ∧ y > 0) ∨ (-x > -y ∧ -y ≥ 0) ∨ (-y ≥ -x ∧ -x > 0) ∨ (-y > x ∧ x ≥ 0) ∨ (x ≥ -y ∧ -y > 0) := by
  omega
theorem sec_turn2 {x y : Int} (h : ¬ (x = 0 ∧ y = 0)) : sec 4 0 (-y) (x) = (sec 4 0 x y + 2).tmod 8 := by
  rcases octs h with h | h | h | h | h | h | h | h
  · rw [sec_0 h.1 h.2, sec_2 (by omega) (by omega)]
    rfl
  · rw [sec_1 h.1 h.2, sec_3 (by omega) (by omega)]
    rfl
  · rw [sec_2 h.1 h.2, sec_4 (by omega) (by omega)]
    rfl
  · rw [sec_3 h.1 h.2, sec_5 (by omega) (by omega)]
    rfl
  · rw [sec_4 h.1 h.2, sec_6 (by omega) (by omega)]
    rfl
  · rw [sec_5 h.1 h.2, sec_7 (by omega) (by omega)]
    rfl
  · rw [sec_6 h.1 h.2, sec_0 (by omega) (by omega)]
    rfl
  · rw [sec_7 h.1 h.2, sec_1 (by omega) (by omega)]
    rfl
theorem sec_turn1 {x y : Int} (h : ¬ (x = 0 ∧ y = 0)) : sec 4 0 (x - y) (y + x) = (sec 4 0 x y + 1).tmod 8 := by
  rcases octs h with h | h | h | h | h | h | h | h
  · rw [sec_0 h.1 h.2, sec_1 (by omega) (by omega)]
    rfl
  · rw [sec_1 h.1 h.2, sec_2 (by omega) (by omega)]
    rfl
  · rw [sec_2 h.1 h.2, sec_3 (by omega) (by omega)]
    rfl
  · rw [sec_3 h.1 h.2, sec_4 (by omega) (by omega)]
    rfl
  · rw [sec_4 h.1 h.2, sec_5 (by omega) (by omega)]
    rfl
  · rw [sec_5 h.1 h.2, sec_6 (by omega) (by omega)]
    rfl
  · rw [sec_6 h.1 h.2, sec_7 (by omega) (by omega)]
    rfl
  · rw [sec_7 h.1 h.2, sec_0 (by omega) (by omega)]
    rfl
theorem sec_far {x y : Int} (h : ¬ (x = 0 ∧ y = 0)) : sec 4 0 (3 * x) (3 * y) = sec 4 0 x y := by
  rcases octs h with h | h | h | h | h | h | h | h
  · rw [sec_0 h.1 h.2, sec_0 (by omega) (by omega)]
  · rw [sec_1 h.1 h.2, sec_1 (by omega) (by omega)]
  · rw [sec_2 h.1 h.2, sec_2 (by omega) (by omega)]
  · rw [sec_3 h.1 h.2, sec_3 (by omega) (by omega)]
  · rw [sec_4 h.1 h.2, sec_4 (by omega) (by omega)]
  · rw [sec_5 h.1 h.2, sec_5 (by omega) (by omega)]
  · rw [sec_6 h.1 h.2, sec_6 (by omega) (by omega)]
  · rw [sec_7 h.1 h.2, sec_7 (by omega) (by omega)]
theorem turn_ne {a b c d : Int} (h1 : ¬ (a = 0 ∧ b = 0)) (h2 : ¬ (c = 0 ∧ d = 0)) : ¬ (a * c + b * d = 0 ∧ a * d - b * c = 0) := by
  rintro ⟨hx, hy⟩
  have sq : ∀ x : Int, 0 ≤ x * x := fun x => by
    rcases Int.le_total 0 x with h | h
    · exact Int.mul_nonneg h h
    · have := Int.mul_nonneg (Int.neg_nonneg_of_nonpos h) (Int.neg_nonneg_of_nonpos h)
      rwa [Int.neg_mul_neg] at this
  have z : ∀ x : Int, x * x = 0 → x = 0 := fun x h => by
    rcases Int.mul_eq_zero.1 h with h | h <;> exact h
  have k1 : (a * a + b * b) * c = 0 := by
    have e : (a * a + b * b) * c = a * (a * c + b * d) - b * (a * d - b * c) := by
      simp only [Int.mul_add, Int.add_mul, Int.mul_sub, ← Int.mul_assoc]
      rw [Int.mul_comm b a]
      omega
    rw [e, hx, hy]
    omega
  have k2 : (a * a + b * b) * d = 0 := by
    have e : (a * a + b * b) * d = b * (a * c + b * d) + a * (a * d - b * c) := by
      simp only [Int.mul_add, Int.add_mul, Int.mul_sub, ← Int.mul_assoc]
      rw [Int.mul_comm b a]
      omega
    rw [e, hx, hy]
    omega
  have k3 : a * a + b * b ≠ 0 := fun h => by
    have := sq a
    have := sq b
    exact h1 ⟨z a (by omega), z b (by omega)⟩
  exact h2 ⟨(Int.mul_eq_zero.1 k1).resolve_left k3, (Int.mul_eq_zero.1 k2).resolve_left k3⟩
theorem floor_eq {n d : Int} (hd : 0 < d) : sFloor n d = n / d := by
  have e1 := Int.mul_tdiv_add_tmod n d
  have e2 := Int.tmod_lt_of_pos n hd
  have e3 : -d < n.tmod d := by
    have := Int.lt_tmod_of_pos n hd
    omega
  have key : ∀ q : Int, q * d ≤ n → n < (q + 1) * d → q = n / d := fun q h1 h2 => by
    have h3 := (Int.le_ediv_iff_mul_le hd).2 h1
    have h4 := (Int.ediv_lt_iff_lt_mul hd).2 h2
    omega
  have e4 : d * n.tdiv d = n.tdiv d * d := Int.mul_comm _ _
  unfold sFloor
  split
  · rename_i h
    refine key _ ?_ ?_
    · rw [Int.sub_mul, Int.one_mul]
      omega
    · rw [Int.sub_add_cancel]
      exact h
  · rename_i h
    have h5 : 0 ≤ n.tmod d := by omega
    refine key _ (by omega) ?_
    rw [Int.add_mul, Int.one_mul]
    omega
theorem bet_eq {a b p w : Int} (hw : 0 < w) : sBetween a b p w = (a * (w - p) + b * p) / w := by
  unfold sBetween
  rw [floor_eq hw]
  have e : a * (w - p) + b * p = (b - a) * p + a * w := by
    rw [Int.mul_sub, Int.sub_mul]
    omega
  rw [e, Int.add_mul_ediv_right _ _ (by omega)]
  omega
theorem bet_mono {a b a' b' p w : Int} (hw : 0 < w) (h0 : 0 ≤ p) (h1 : p ≤ w) (ha : a ≤ a') (hb : b ≤ b') : sBetween a b p w ≤ sBetween a' b' p w := by
  rw [bet_eq hw, bet_eq hw]
  refine Int.ediv_le_ediv hw ?_
  have e1 := Int.mul_le_mul_of_nonneg_right ha (show 0 ≤ w - p by omega)
  have e2 := Int.mul_le_mul_of_nonneg_right hb h0
  omega
theorem bet_same {a p w : Int} (hw : 0 < w) : sBetween a a p w = a := by
  unfold sBetween
  rw [floor_eq hw, Int.sub_self, Int.zero_mul, Int.zero_ediv]
  omega
theorem bet_lo {a b x p w : Int} (hw : 0 < w) (h0 : 0 ≤ p) (h1 : p ≤ w) (ha : x ≤ a) (hb : x ≤ b) : x ≤ sBetween a b p w := by
  have := bet_mono hw h0 h1 ha hb
  rwa [bet_same hw] at this
theorem bet_hi {a b x p w : Int} (hw : 0 < w) (h0 : 0 ≤ p) (h1 : p ≤ w) (ha : a ≤ x) (hb : b ≤ x) : sBetween a b p w ≤ x := by
  have := bet_mono hw h0 h1 ha hb
  rwa [bet_same hw] at this
theorem bet_part {a b p p' w : Int} (hw : 0 < w) (hab : a ≤ b) (hp : p ≤ p') : sBetween a b p w ≤ sBetween a b p' w := by
  unfold sBetween
  rw [floor_eq hw, floor_eq hw]
  have := Int.ediv_le_ediv hw (Int.mul_le_mul_of_nonneg_left hp (show 0 ≤ b - a by omega))
  omega
/-- A value between settings: as emi reads it. -/
def val (E P : Nat → Int) (n g : Nat) (p : Int) : Int :=
  if g = n then E (n - 1) else if g = 0 ∨ P g = p then E g else sBetween (E (g - 1)) (E g) (p - P (g - 1)) (P g - P (g - 1))
structure Gat (P : Nat → Int) (n g : Nat) (p : Int) : Prop where
  le : g ≤ n
  below : ∀ j, j < g → P j < p
  at_ : g < n → p ≤ P g
theorem gat_seg {P : Nat → Int} {n g : Nat} {p : Int} (h : Gat P n g p) (h1 : ¬ g = n) (h2 : ¬ (g = 0 ∨ P g = p)) : 0 < P g - P (g - 1) ∧ 0 ≤ p - P (g - 1) ∧ p - P (g - 1) ≤ P g - P (g - 1) := by
  have a1 := h.at_ (by have := h.le; omega)
  have a2 := h.below (g - 1) (by omega)
  omega
theorem val_le {E E' P : Nat → Int} {n g : Nat} {p : Int} (hn : 1 ≤ n) (h : Gat P n g p) (hE : ∀ i, i < n → E i ≤ E' i) : val E P n g p ≤ val E' P n g p := by
  unfold val
  split
  · exact hE _ (by omega)
  · rename_i h1
    have := h.le
    split
    · exact hE _ (by omega)
    · rename_i h2
      have := gat_seg h h1 h2
      exact bet_mono (by omega) (by omega) (by omega) (hE _ (by omega)) (hE _ (by omega))
theorem val_hi {E P : Nat → Int} {n g : Nat} {p : Int} (h : Gat P n g p) (hE : ∀ i, i + 1 < n → E i ≤ E (i + 1)) (hg : g < n) : val E P n g p ≤ E g := by
  unfold val
  rw [if_neg (by omega)]
  split
  · exact Int.le_refl _
  · rename_i h2
    have := gat_seg h (by omega) h2
    have h3 := hE (g - 1) (by omega)
    rw [show g - 1 + 1 = g by omega] at h3
    exact bet_hi (by omega) (by omega) (by omega) h3 (Int.le_refl _)
theorem val_lo {E P : Nat → Int} {n g : Nat} {p : Int} (h : Gat P n g p) (hE : ∀ i, i + 1 < n → E i ≤ E (i + 1)) (hg : 1 ≤ g) : E (g - 1) ≤ val E P n g p := by
  unfold val
  split
  · rename_i e; rw [e]; exact Int.le_refl _
  · rename_i h1
    have := h.le
    have h3 := hE (g - 1) (by omega)
    rw [show g - 1 + 1 = g by omega] at h3
    split
    · exact h3
    · rename_i h2
      have := gat_seg h h1 h2
      exact bet_lo (by omega) (by omega) (by omega) (Int.le_refl _) h3
theorem up_chain {E : Nat → Int} {n : Nat} (hE : ∀ i, i + 1 < n → E i ≤ E (i + 1)) : ∀ (k i : Nat), i + k < n → E i ≤ E (i + k)
  | 0, i, _ => Int.le_refl _
  | k + 1, i, h => by
    have h1 := up_chain hE k i (by omega)
    have h2 := hE (i + k) (by omega)
    rw [show i + (k + 1) = i + k + 1 by omega]
    omega
theorem val_up {E P : Nat → Int} {n g g' : Nat} {p p' : Int} (h : Gat P n g p) (h' : Gat P n g' p') (hp : p ≤ p') (hE : ∀ i, i + 1 < n → E i ≤ E (i + 1)) : val E P n g p ≤ val E P n g' p' := by
  have hg : g ≤ g' := by
    rcases Nat.lt_or_ge g' g with h1 | h1
    · have a1 := h.below g' h1
      have a2 := h'.at_ (by have := h.le; omega)
      omega
    · exact h1
  rcases Nat.lt_or_ge g g' with h1 | h1
  · have b1 := val_hi h hE (by have := h'.le; omega)
    have b2 := val_lo h' hE (by omega)
    have b3 := up_chain hE (g' - 1 - g) g (by have := h'.le; omega)
    rw [show g + (g' - 1 - g) = g' - 1 by omega] at b3
    omega
  · have e : g' = g := by omega
    subst e
    by_cases e1 : g' = n
    · unfold val
      rw [if_pos e1, if_pos e1]
      exact Int.le_refl _
    · have hlt : g' < n := by have := h.le; omega
      have a1 := h.at_ hlt
      have a2 := h'.at_ hlt
      by_cases e2 : g' = 0 ∨ P g' = p'
      · rw [show val E P n g' p' = E g' by unfold val; rw [if_neg e1, if_pos e2]]
        exact val_hi h hE hlt
      · by_cases e3 : P g' = p
        · exact absurd (Or.inr (by omega)) e2
        · have e4 : ¬ (g' = 0 ∨ P g' = p) := by omega
          unfold val
          rw [if_neg e1, if_neg e1, if_neg e2, if_neg e4]
          have h3 := hE (g' - 1) (by omega)
          rw [show g' - 1 + 1 = g' by omega] at h3
          have := gat_seg h e1 e4
          exact bet_part (by omega) h3 (by omega)
theorem val_nn {E P : Nat → Int} {n g : Nat} {p x : Int} (hn : 1 ≤ n) (h : Gat P n g p) (hE : ∀ i, i < n → x ≤ E i) : x ≤ val E P n g p := by
  unfold val
  split
  · exact hE _ (by omega)
  · rename_i h1
    have := h.le
    split
    · exact hE _ (by omega)
    · rename_i h2
      have := gat_seg h h1 h2
      exact bet_lo (by omega) (by omega) (by omega) (hE _ (by omega)) (hE _ (by omega))
theorem bandN_le {l : List Int} {d : Int} : ∀ n, bandN l d n ≤ n
  | 0 => Nat.le_refl _
  | n + 1 => by
    simp only [bandN]
    have := bandN_le (l := l) (d := d) n
    split <;> omega
theorem bandN_up {l : List Int} {d d' : Int} (h : d ≤ d') : ∀ n, bandN l d n ≤ bandN l d' n
  | 0 => Nat.le_refl _
  | n + 1 => by
    simp only [bandN, decide_eq_true_eq]
    have h1 := bandN_up (l := l) h n
    have h2 := bandN_le (l := l) (d := d) n
    split
    · rw [if_pos (by omega)]
      exact Nat.le_refl _
    · split <;> omega

/-- Energies grow with the settings, and fall with the squares. -/
structure UpTy (t : Ty) : Prop where
  u : ∀ i k, i + 1 < t.st.length → k < t.sq.length → eAt (t.sg i).e k ≤ eAt (t.sg (i + 1)).e k
  d : ∀ i k, i < t.st.length → k + 1 < t.sq.length → eAt (t.sg i).e (k + 1) ≤ eAt (t.sg i).e k
theorem sets_zero {t : Ty} (h : sTyS t = 0) : ∀ i, i < t.st.length → fSetS t i = 0 := by
  unfold sTyS at h
  split at h
  · rename_i h1; rw [h] at h1; exact absurd h1 (by decide)
  · obtain ⟨_, _, h4⟩ := ls_zero' h
    exact (ls_zero' h4).2.1
theorem up_of {t : Ty} (h : sTyS t = 0) : UpTy t := by
  have hO := ok_of h
  have key : ∀ i k, i < t.st.length → k < t.sq.length → badS t i k = false := fun i k hi hk => by
    have h1 := (ls_zero' (sets_zero h i hi)).2.1 k (by rw [hO.el i hi]; exact hk)
    cases hb : badS t i k with
    | false => rfl
    | true => rw [hb] at h1; exact absurd h1 (by decide)
  refine ⟨fun i k hi hk => ?_, fun i k hi hk => ?_⟩
  · have h1 := key (i + 1) k hi hk
    unfold badS at h1
    rw [Bool.or_eq_false_iff] at h1
    have h2 := of_decide_eq_false h1.2
    rw [lastE, if_neg (by omega), Nat.add_sub_cancel] at h2
    omega
  · have h1 := key i (k + 1) hi hk
    unfold badS up at h1
    rw [Bool.or_eq_false_iff, if_neg (by omega), Nat.add_sub_cancel] at h1
    have h2 := of_decide_eq_false h1.1
    omega
def enF (t : Ty) (d : Int) (i : Nat) : Int := eAt (t.sg i).e (bandN t.sq d t.sq.length)
def pwF (t : Ty) (i : Nat) : Int := (t.sg i).p
theorem emi_val (t : Ty) (p d : Int) : emi t p d = val (enF t d) (pwF t) t.st.length (geN t p t.st.length) p := rfl
theorem gat (t : Ty) (p : Int) : Gat (pwF t) t.st.length (geN t p t.st.length) p := ⟨geN_le _, geN_below _, geN_at _⟩
theorem emi_nn {t : Ty} {p d : Int} (h : sTyS t = 0) : 0 ≤ emi t p d := by
  have hO := ok_of h
  rw [emi_val]
  exact val_nn hO.n1 (gat t p) fun i hi => (hO.eb i _ hi (bandN_lt hO.q1)).1
theorem emi_far {t : Ty} {p d d' : Int} (h : sTyS t = 0) (hd : d ≤ d') : emi t p d' ≤ emi t p d := by
  have hO := ok_of h
  have hU := up_of h
  rw [emi_val, emi_val]
  refine val_le hO.n1 (gat t p) fun i hi => ?_
  have h1 := bandN_up (l := t.sq) hd t.sq.length
  have h2 := bandN_lt (l := t.sq) (d := d') hO.q1
  have : ∀ k j, j + k < t.sq.length → eAt (t.sg i).e (j + k) ≤ eAt (t.sg i).e j := by
    intro k
    induction k with
    | zero => intro j _; exact Int.le_refl _
    | succ k ih =>
      intro j hj
      have a1 := ih j (by omega)
      have a2 := hU.d i (j + k) hi (by omega)
      rw [show j + (k + 1) = j + k + 1 by omega]
      omega
  have h3 := this (bandN t.sq d' t.sq.length - bandN t.sq d t.sq.length) (bandN t.sq d t.sq.length) (by omega)
  rw [show bandN t.sq d t.sq.length + (bandN t.sq d' t.sq.length - bandN t.sq d t.sq.length) = bandN t.sq d' t.sq.length by omega] at h3
  exact h3
theorem emi_more {t : Ty} {p p' d : Int} (h : sTyS t = 0) (hp : p ≤ p') : emi t p d ≤ emi t p' d := by
  have hO := ok_of h
  have hU := up_of h
  rw [emi_val, emi_val]
  exact val_up (gat t p) (gat t p') hp fun i hi => hU.u i _ hi (bandN_lt hO.q1)
/-- Turned by a quarter with its receiver, a state is heard alike. -/
theorem hrd_turn (t : Ty) (a b p u v w : Int) : hrd t (-b) a p (-v) u w = hrd t a b p u v w := by
  have e1 : -v * -v + u * u = u * u + v * v := by rw [Int.neg_mul_neg, Int.add_comm]
  have e2 : secX (-b) a (-v) u = secX a b u v := by
    unfold secX
    rw [Int.neg_mul_neg, Int.add_comm]
  have e3 : secY (-b) a (-v) u = secY a b u v := by
    unfold secY
    rw [Int.neg_mul, Int.mul_neg]
    omega
  unfold hrd hrdV
  rw [e1, e2, e3]
theorem sec_quarter (a b c d : Int) : sec 4 0 (secX (-b) a (-d) c) (secY (-b) a (-d) c) = sec 4 0 (secX a b c d) (secY a b c d) := by
  have e2 : secX (-b) a (-d) c = secX a b c d := by
    unfold secX
    rw [Int.neg_mul_neg, Int.add_comm]
  have e3 : secY (-b) a (-d) c = secY a b c d := by
    unfold secY
    rw [Int.neg_mul, Int.mul_neg]
    omega
  rw [e2, e3]
theorem sec_two {a b c d : Int} (h1 : ¬ (a = 0 ∧ b = 0)) (h2 : ¬ (c = 0 ∧ d = 0)) : sec 4 0 (secX a b (-d) c) (secY a b (-d) c) = (sec 4 0 (secX a b c d) (secY a b c d) + 2).tmod 8 := by
  have e2 : secX a b (-d) c = -(secY a b c d) := by
    unfold secX secY
    rw [Int.mul_neg]
    omega
  have e3 : secY a b (-d) c = secX a b c d := by
    unfold secY secX
    rw [Int.mul_neg]
    omega
  rw [e2, e3]
  exact sec_turn2 (turn_ne h1 h2)
theorem sec_one {a b c d : Int} (h1 : ¬ (a = 0 ∧ b = 0)) (h2 : ¬ (c = 0 ∧ d = 0)) : sec 4 0 (secX a b (c - d) (c + d)) (secY a b (c - d) (c + d)) = (sec 4 0 (secX a b c d) (secY a b c d) + 1).tmod 8 := by
  have e2 : secX a b (c - d) (c + d) = secX a b c d - secY a b c d := by
    unfold secX secY
    rw [Int.mul_sub, Int.mul_add]
    omega
  have e3 : secY a b (c - d) (c + d) = secY a b c d + secX a b c d := by
    unfold secY secX
    rw [Int.mul_sub, Int.mul_add]
    omega
  rw [e2, e3]
  exact sec_turn1 (turn_ne h1 h2)
theorem sec_three (a b c d : Int) : sec 4 0 (secX a b (3 * c) (3 * d)) (secY a b (3 * c) (3 * d)) = sec 4 0 (secX a b c d) (secY a b c d) := by
  by_cases h : secX a b c d = 0 ∧ secY a b c d = 0
  · have e2 : secX a b (3 * c) (3 * d) = 3 * secX a b c d := by
      unfold secX
      rw [Int.mul_left_comm, Int.mul_left_comm b]
      omega
    have e3 : secY a b (3 * c) (3 * d) = 3 * secY a b c d := by
      unfold secY
      rw [Int.mul_left_comm, Int.mul_left_comm b]
      omega
    rw [e2, e3, h.1, h.2]
    rfl
  · have e2 : secX a b (3 * c) (3 * d) = 3 * secX a b c d := by
      unfold secX
      rw [Int.mul_left_comm, Int.mul_left_comm b]
      omega
    have e3 : secY a b (3 * c) (3 * d) = 3 * secY a b c d := by
      unfold secY
      rw [Int.mul_left_comm, Int.mul_left_comm b]
      omega
    rw [e2, e3]
    exact sec_far h
/-- The shares of a type add up to 1000. -/
theorem shr_sum {t : Ty} (h : sTyS t = 0) : sumI t.sh t.sh.length = 1000 := by
  have h3 := shr_of h
  unfold sTyS at h
  split at h
  · rename_i h1; rw [h] at h1; exact absurd h1 (by decide)
  · rename_i h1
    have h2 : cTyS1 t = 0 := by simpa using h1
    unfold cTyS1 at h2
    rw [first_zero, first_zero, first_zero, first_zero] at h2
    have h4 := when_z (by decide) h2.2.2.2.1
    rw [sumW_eq h3.2.2 (by omega) _ (Nat.le_refl _)] at h4
    simpa using h4
theorem band_le {e x : Int} (hx : 0 ≤ x ∧ x ≤ 1000) (he : 0 ≤ e ∧ e ≤ 10000000000000) : bandR e x * 1000 ≤ e * x := by
  have h1 := band_b hx he
  have h2 : bandR e x = e * x / 1000 := Int.tdiv_eq_ediv_of_nonneg h1.1.1
  rw [h2]
  generalize e * x = q
  omega
theorem sum_le {l : List Int} {e : Int} (hx : ∀ k, k < l.length → 0 ≤ l.getD k default ∧ l.getD k default ≤ 1000) (he : 0 ≤ e ∧ e ≤ 10000000000000) : ∀ i, i ≤ l.length → sumI (bnds l e) i * 1000 ≤ e * sumI l i
  | 0, _ => by
    show (0 : Int) * 1000 ≤ e * 0
    omega
  | i + 1, h => by
    have h1 := sum_le hx he i (by omega)
    have h2 := band_le (hx i (by omega)) he
    show (sumI (bnds l e) i + (bnds l e).getD i default) * 1000 ≤ e * (sumI l i + l.getD i default)
    rw [bnds_get (by omega), Int.add_mul, Int.mul_add]
    omega
theorem rest_nn {l : List Int} {e : Int} (hx : ∀ k, k < l.length → 0 ≤ l.getD k default ∧ l.getD k default ≤ 1000) (he : 0 ≤ e ∧ e ≤ 10000000000000) (hs : sumI l l.length = 1000) : 0 ≤ restR l e l.length := by
  have h1 := sum_le hx he _ (Nat.le_refl _)
  rw [hs] at h1
  rw [rest_sum _ (Nat.le_refl _)]
  omega
theorem sum_set {l : List Int} (h : l ≠ []) (x : Int) : ∀ i, 1 ≤ i → sumI (l.set 0 x) i = sumI l i - l.getD 0 default + x
  | 0, h1 => absurd h1 (by omega)
  | 1, _ => by
    match l, h with
    | y :: l, _ =>
      show (0 : Int) + x = 0 + y - y + x
      omega
  | i + 2, _ => by
    have h1 := sum_set h x (i + 1) (by omega)
    show sumI (l.set 0 x) (i + 1) + (l.set 0 x).getD (i + 1) default = sumI l (i + 1) + l.getD (i + 1) default - l.getD 0 default + x
    rw [h1]
    have : (l.set 0 x).getD (i + 1) default = l.getD (i + 1) default := by
      match l, h with
      | y :: l, _ => rfl
    rw [this]
    omega
theorem bnd_len (l : List Int) (e : Int) : (bnd l e).length = l.length := by rw [bnd, List.length_set, bnds_len]
theorem bnd_nn {l : List Int} {e : Int} (hx : ∀ k, k < l.length → 0 ≤ l.getD k default ∧ l.getD k default ≤ 1000) (he : 0 ≤ e ∧ e ≤ 10000000000000) (hs : sumI l l.length = 1000) (h0 : l.length ≠ 0) : ∀ k, k < (bnd l e).length → 0 ≤ (bnd l e).getD k default := fun k hk => by
  rw [bnd_len] at hk
  have h1 := rest_nn hx he hs
  have h2 := bnds_b hx he
  unfold bnd
  match k with
  | 0 =>
    have h3 := h2 0 (by rw [bnds_len]; omega)
    have : ((bnds l e).set 0 ((bnds l e).getD 0 default + restR l e l.length)).getD 0 default = (bnds l e).getD 0 default + restR l e l.length := by
      rw [List.getD_eq_getElem?_getD, List.getElem?_set_self (by rw [bnds_len]; omega)]
      rfl
    rw [this]
    omega
  | k + 1 =>
    have h3 := h2 (k + 1) (by rw [bnds_len]; omega)
    have : ∀ (m : List Int) (x : Int), (m.set 0 x).getD (k + 1) default = m.getD (k + 1) default := fun m x => by
      cases m <;> rfl
    rw [this]
    exact h3.1
theorem bnd_sum {l : List Int} {e : Int} (h0 : l.length ≠ 0) : sumI (bnd l e) (bnd l e).length = e := by
  rw [bnd_len]
  have hne : bnds l e ≠ [] := fun h => by
    have := congrArg List.length h
    rw [bnds_len] at this
    exact h0 this
  unfold bnd
  rw [sum_set hne _ _ (by omega), rest_sum _ (Nat.le_refl _)]
  omega
/-- A sum of what is not below 0 never falls. -/
theorem sum_up {l : List Int} (h : ∀ k, k < l.length → 0 ≤ l.getD k default) : ∀ k i, i + k ≤ l.length → sumI l i ≤ sumI l (i + k)
  | 0, _, _ => Int.le_refl _
  | k + 1, i, hi => by
    have h1 := sum_up h k i (by omega)
    have h2 := h (i + k) (by omega)
    show sumI l i ≤ sumI l (i + k) + l.getD (i + k) default
    omega
end Go.Proofs.YtjhjmncjidbieaaGreatDoor
namespace Go.Proofs.YtjhjmncjidbieaaGreatDoor
open Go Go.Av Go.RowKit
def sp28 : Nat → List AV → Option AV
  | 58, [.agg c] => some (.agg c)
  | n, x => spR n x
def zeroTy : List AV := [.str [], .ex (.slice none 0 0), .i 0, .i 0, .i 0, .i 0, .i 0, .i 0, .i 0, .i 0, .i 0, .ex (.slice none 0 0), .ex (.slice none 0 0)]
def la28 (t : Ty) : LA := {
  pre := [.reno 3 1, .reno 2 3, .ownb 1 12 182 2, .renc 1 12 2, .keep [2, 3, 20, 21, 22] [1, 2, 3], .bound 4], post := [.renc 1 12 2, .keep [2, 3, 20, 21, 22] [1, 2, 3], .bound 4]
  Gh := Nat
  st := fun i => ⟨[(2, .ptr 3 0), (3, .ptr 1 0), (20, .sl 2 (t.st.map encSg)), (21, .i t.st.length), (22, .i i)], [(1, .box [.str t.name, .sl 1 (t.sh.map encI), .i t.d0, .i t.d1, .i t.d2, .i t.d3, .i t.d4, .i t.d5, .i t.d6, .i t.d7, .i t.side, .sl 1 (t.sq.map encI), .own 2 ((t.st.take i).map encSg).length]), (2, .buf 182 2 ((t.st.take i).map encSg)), (3, .box zeroTy)], 4⟩
  ok := fun i => i ≤ t.st.length
  ms := fun i => t.st.length - i }
theorem c28 (t : Ty) (hl : t.st.length ≤ 1000) (h2 : t.sh.length ≤ 1000) (h3 : t.sq.length ≤ 1000) (h4 : ∀ s, s ∈ t.st → s.e.length ≤ 1000) : PCall Tryz.prog G0 28 [.agg (encTy t)] (.agg (encTy t)) := by
  have key :
   PCall Tryz.prog G0 58 [AV.agg [AV.str t.name, AV.sl 1 (List.map encI t.sh), AV.i t.d0, AV.i t.d1, AV.i t.d2, AV.i t.d3, AV.i t.d4, AV.i t.d5, AV.i t.d6, AV.i t.d7, AV.i t.side, AV.sl 1 (List.map encI t.sq), AV.sl 2 (List.map encSg
   t.st)]] (AV.agg [AV.str t.name, AV.sl 1 (List.map encI t.sh), AV.i t.d0, AV.i t.d1, AV.i t.d2, AV.i t.d3, AV.i t.d4, AV.i t.d5, AV.i t.d6, AV.i t.d7, AV.i t.side, AV.sl 1 (List.map encI t.sq), AV.sl 2 (List.map encSg t.st)]) ∧ (∃
   (g : Nat), g ≤ t.st.length ∧ AS.mk [(2, AV.ptr 3 0), (3, AV.ptr 1 0), (20, AV.sl 2 (List.map encSg t.st)), (21, AV.i (↑(List.map encSg t.st).length : Int)), (22, AV.i 0)] [(1, ABlk.box [AV.str t.name, AV.sl 1 (List.map encI t.sh),
   AV.i t.d0, AV.i t.d1, AV.i t.d2, AV.i t.d3, AV.i t.d4, AV.i t.d5, AV.i t.d6, AV.i t.d7, AV.i t.side, AV.sl 1 (List.map encI t.sq), AV.own 2 0]), (2, ABlk.buf 182 2 []), (3, ABlk.box [AV.str [], AV.ex (Value.slice none 0 0), AV.i 0,
   AV.i 0, AV.i 0, AV.i 0, AV.i 0, AV.i 0, AV.i 0, AV.i 0, AV.i 0, AV.ex (Value.slice none 0 0), AV.ex (Value.slice none 0 0)])] 4 = AS.mk [(2, AV.ptr 3 0), (3, AV.ptr 1 0), (20, AV.sl 2 (List.map encSg t.st)), (21, AV.i (↑t.st.length
   : Int)), (22, AV.i (↑g : Int))] [(1, ABlk.box [AV.str t.name, AV.sl 1 (List.map encI t.sh), AV.i t.d0, AV.i t.d1, AV.i t.d2, AV.i t.d3, AV.i t.d4, AV.i t.d5, AV.i t.d6, AV.i t.d7, AV.i t.side, AV.sl 1 (List.map encI t.sq), AV.own 2
   (List.map encSg (List.take g t.st)).length]), (2, ABlk.buf 182 2 (List.map encSg (List.take g t.st))), (3, ABlk.box [AV.str [], AV.ex (Value.slice none 0 0), AV.i 0, AV.i 0, AV.i 0, AV.i 0, AV.i 0, AV.i 0, AV.i 0, AV.i 0, AV.i 0,
   AV.ex (Value.slice none 0 0), AV.ex (Value.slice none 0 0)])] 4) ∧ ∀ (g : Nat), g ≤ t.st.length → (decide ((↑g : Int) < (↑t.st.length : Int)) = true → (0 : Int) ≤ (↑g : Int) ∧ (↑g : Int) < (↑(List.map encSg t.st).length : Int) ∧
   AV.agg (nthR (List.map encSg t.st) (↑g : Int).toNat) = AV.agg [AV.i (t.st.getD (↑g : Int).toNat default).p, AV.sl 1 (List.map encI (t.st.getD (↑g : Int).toNat default).e)] ∧ (List.map encSg (List.take g t.st)).length + 1 ≤
   9223372036854775807 ∧ ((List.map encSg (List.take g t.st)).length + 1) * 32 ≤ 140737488355328 ∧ In64 ((↑g : Int) + (1 : Int)) ∧ ∃ (g' : Nat), g' ≤ t.st.length ∧ t.st.length - g' < t.st.length - g ∧ AS.mk [(2, AV.ptr 3 0), (3,
   AV.ptr 1 0), (20, AV.sl 2 (List.map encSg t.st)), (21, AV.i (↑t.st.length : Int)), (22, AV.i ((↑g : Int) + (1 : Int)))] [(1, ABlk.box [AV.str t.name, AV.sl 1 (List.map encI t.sh), AV.i t.d0, AV.i t.d1, AV.i t.d2, AV.i t.d3, AV.i
   t.d4, AV.i t.d5, AV.i t.d6, AV.i t.d7, AV.i t.side, AV.sl 1 (List.map encI t.sq), AV.own 2 ((List.map encSg (List.take g t.st)).length + 1)]), (2, ABlk.buf 182 2 (List.map encSg (List.take g t.st) ++ [[AV.i (t.st.getD (↑g :
   Int).toNat default).p, AV.sl 1 (List.map encI (t.st.getD (↑g : Int).toNat default).e)]])), (3, ABlk.box [AV.str [], AV.ex (Value.slice none 0 0), AV.i 0, AV.i 0, AV.i 0, AV.i 0, AV.i 0, AV.i 0, AV.i 0, AV.i 0, AV.i 0, AV.ex
   (Value.slice none 0 0), AV.ex (Value.slice none 0 0)])] 4 = AS.mk [(2, AV.ptr 3 0), (3, AV.ptr 1 0), (20, AV.sl 2 (List.map encSg t.st)), (21, AV.i (↑t.st.length : Int)), (22, AV.i (↑g' : Int))] [(1, ABlk.box [AV.str t.name, AV.sl
   1 (List.map encI t.sh), AV.i t.d0, AV.i t.d1, AV.i t.d2, AV.i t.d3, AV.i t.d4, AV.i t.d5, AV.i t.d6, AV.i t.d7, AV.i t.side, AV.sl 1 (List.map encI t.sq), AV.own 2 (List.map encSg (List.take g' t.st)).length]), (2, ABlk.buf 182 2
   (List.map encSg (List.take g' t.st))), (3, ABlk.box [AV.str [], AV.ex (Value.slice none 0 0), AV.i 0, AV.i 0, AV.i 0, AV.i 0, AV.i 0, AV.i 0, AV.i 0, AV.i 0, AV.i 0, AV.ex (Value.slice none 0 0), AV.ex (Value.slice none 0 0)])] 4)
   ∧ (decide ((↑g : Int) < (↑t.st.length : Int)) = false → AV.agg [AV.str t.name, AV.sl 1 (List.map encI t.sh), AV.i t.d0, AV.i t.d1, AV.i t.d2, AV.i t.d3, AV.i t.d4, AV.i t.d5, AV.i t.d6, AV.i t.d7, AV.i t.side, AV.sl 1 (List.map
   encI t.sq), AV.sl 2 (List.map encSg (List.take g t.st))] = AV.agg [AV.str t.name, AV.sl 1 (List.map encI t.sh), AV.i t.d0, AV.i t.d1, AV.i t.d2, AV.i t.d3, AV.i t.d4, AV.i t.d5, AV.i t.d6, AV.i t.d7, AV.i t.side, AV.sl 1 (List.map
   encI t.sq), AV.sl 2 (List.map encSg t.st)]) := by
    have hlm : (List.map encSg t.st).length = t.st.length := List.length_map _
    refine ⟨c58 t hl h2 h3 h4, ⟨0, by omega, by rw [hlm]; rfl⟩, fun g hg => ⟨fun hd => ?_, fun hd => ?_⟩⟩
    · have hlt := lt_of_dec hd
      have h6 := take_succ encSg hlt
      have h7 : (List.map encSg (List.take g t.st)).length = g := by rw [List.length_map, List.length_take]; omega
      have h8 : (List.map encSg (List.take (g + 1) t.st)).length = g + 1 := by rw [List.length_map, List.length_take]; omega
      refine ⟨by omega, by omega, congrArg AV.agg (row_at encSg hlt), by omega, by omega, by unfold In64; omega, g + 1, hlt, by omega, ?_⟩
      rw [h8, ← h6, h7]
      rfl
    · rw [ge_of_dec hd hg, List.take_length]
  exact c_of Tryz.f28 ({ modA 6 4 (fun a => { a with fz := false }) (mkB sp28 28 [(5, 1, rdL 2 encSg t.st 2 true)] (fun i => if i.beq 0 then some (la28 t) else none)) with bx := fun i => if i.beq 0 then [.frzc 1 12] else [], gs := fun i => if i.beq 1 then [.frzo 1] else [] }) (by kernel_rfl) (by kernel_rfl) (by kernel_rfl) (by kernel_rfl) key (by kernel_rfl)
end Go.Proofs.YtjhjmncjidbieaaGreatDoor
namespace Go.Proofs.YtjhjmncjidbieaaGreatDoor
open Go Go.Av Go.RowKit
def rEmi (t : Ty) (p d : Int) : Int := if chkEmi t p d != 0 then 0 else emi t p d
def rSec (a b c d : Int) : Int := if chkSec a b c d != 0 then 0 else sec 4 0 (secX a b c d) (secY a b c d)
def rHrd (t : Ty) (x y z a b p x2 y2 z2 : Int) : Int := if chkHrd t x y z a b p x2 y2 z2 != 0 then 0 else hrd t a b p (x2 - x) (y2 - y) (z2 - z)
structure Ask where
  p : Int
  d : Int
  x : Int
  y : Int
  z : Int
  a : Int
  b : Int
  q : Int
  x2 : Int
  y2 : Int
  z2 : Int
  u : Int
  v : Int
  e : Int
def encAsk (k : Ask) : List AV := [.i k.p, .i k.d, .i k.x, .i k.y, .i k.z, .i k.a, .i k.b, .i k.q, .i k.x2, .i k.y2, .i k.z2, .i k.u, .i k.v, .i k.e]
theorem src_two (c e : Int) : (if (c != 0) = true then [AV.i 0, AV.i c] else [AV.i e, AV.i 0]) = [AV.i (if (c != 0) = true then 0 else e), AV.i c] := by
  by_cases h : c = 0
  · subst h; rfl
  · have h' : (c != 0) = true := by simpa using h
    rw [if_pos h', if_pos h']
theorem r_zero {c e : Int} (h : (c == 0) = true) : (if (c != 0) = true then 0 else e) = e := by
  have : c = 0 := by simpa using h
  subst this
  rfl
structure ShortTy (t : Ty) : Prop where
  n : t.name.length ≤ 40
  s : t.sh.length ≤ 9
  q : t.sq.length ≤ 9
  st : t.st.length ≤ 7
  e : ∀ x, x ∈ t.st → x.e.length ≤ 9
theorem short_of {t : Ty} (h : sShort t = true) : ShortTy t := by
  unfold sShort at h
  simp only [Bool.and_eq_true, List.all_eq_true, decide_eq_true_eq] at h
  exact ⟨h.2.1, h.2.2.1, h.2.2.2.1, h.2.2.2.2, h.1⟩
def rdT : List AV → Option AV := fun _ => some (.bool true)
/-- A region's guards are known. -/
def noSym (r : Nat) (B : BA) : BA := { B with ra := fun i => if i.beq r then { B.ra i with ans := (B.ra i).ans.map fun a => { a with sym := false } } else B.ra i }
def b6 (t : Ty) (k : Ask) : List (Nat × AV) := [(2, .elt 13 [encTy t] 0 0), (3, .elt 14 [encAsk k] 0 0), (4, .bool false)]
theorem c41t (a b c d : Int) : PCall Tryz.prog G0 41 [.agg [.i a, .i b], .agg [.i c, .i d]] (.tup [.i (rSec a b c d), .i (chkSec a b c d)]) := by
  have h := c41 a b c d
  rw [srcSec, src_two] at h
  exact h
theorem c40t {t : Ty} (h : ShortTy t) (p d : Int) : PCall Tryz.prog G0 40 [.agg (encTy t), .i p, .i d] (.tup [.i (rEmi t p d), .i (chkEmi t p d)]) := by
  have h := c40 t p d (by have := h.st; omega) (by have := h.s; omega) (by have := h.q; omega) (fun x hx => by have := h.e x hx; omega) (by have := h.n; omega)
  rw [srcEmi, src_two] at h
  exact h
theorem c42t {t : Ty} (h : ShortTy t) (x y z a b p x2 y2 z2 : Int) : PCall Tryz.prog G0 42 [.agg (encTy t), .agg [.i x, .i y, .i z, .i a, .i b, .i p], .agg [.i x2, .i y2, .i z2]] (.tup [.i (rHrd t x y z a b p x2 y2 z2), .i (chkHrd t x y z a b p x2 y2 z2)]) := by
  have h := c42 t x y z a b p x2 y2 z2 (by have := h.st; omega) (by have := h.s; omega) (by have := h.q; omega) (fun x hx => by have := h.e x hx; omega) (by have := h.n; omega)
  rw [srcHrd, src_two] at h
  exact h
theorem dir_z {x y : Int} (hx : -200000 ≤ x ∧ x ≤ 200000) (hy : -200000 ≤ y ∧ y ≤ 200000) : sDir x y = 0 := by
  unfold sDir
  simp only [first_zero, within_zero]
  exact ⟨hx, hy, rfl⟩
theorem sec_z {a b c d : Int} (ha : -200000 ≤ a ∧ a ≤ 200000) (hb : -200000 ≤ b ∧ b ≤ 200000) (hc : -200000 ≤ c ∧ c ≤ 200000) (hd : -200000 ≤ d ∧ d ≤ 200000) : chkSec a b c d = 0 ∧ rSec a b c d = sec 4 0 (secX a b c d) (secY a b c d) := by
  have h : chkSec a b c d = 0 := by
    unfold chkSec
    simp only [first_zero]
    exact ⟨dir_z ha hb, dir_z hc hd, rfl⟩
  exact ⟨h, r_zero (by rw [h]; rfl)⟩
theorem emi_z {t : Ty} {p d : Int} (h : sTyS t = 0) (hp : 1 ≤ p ∧ p ≤ 100) (hd : 0 ≤ d ∧ d ≤ 100000000000) : chkEmi t p d = 0 ∧ rEmi t p d = emi t p d := by
  have h : chkEmi t p d = 0 := by
    unfold chkEmi sPower
    simp only [first_zero, within_zero]
    exact ⟨h, hp, hd, rfl⟩
  exact ⟨h, r_zero (by rw [h]; rfl)⟩
theorem hrd_z {t : Ty} {x y z a b p x2 y2 z2 : Int} (h : sTyS t = 0) (h1 : sPlace x y z = 0) (h2 : sDir a b = 0) (h3 : sPower p = 0) (h4 : sPlace x2 y2 z2 = 0) : chkHrd t x y z a b p x2 y2 z2 = 0 ∧ rHrd t x y z a b p x2 y2 z2 = hrd t a b p (x2 - x) (y2 - y) (z2 - z) := by
  have h : chkHrd t x y z a b p x2 y2 z2 = 0 := by
    unfold chkHrd
    simp only [first_zero]
    exact ⟨h, h1, h2, h3, h4, rfl⟩
  exact ⟨h, r_zero (by rw [h]; rfl)⟩
theorem ban_z {t : Ty} {e : Int} (h : sTyS t = 0) (he : 0 ≤ e ∧ e ≤ 10000000000000) : chkBan t e = 0 ∧ rBan t e = bnd t.sh e := by
  have h : chkBan t e = 0 := by
    unfold chkBan
    simp only [first_zero, within_zero]
    exact ⟨h, he, rfl⟩
  exact ⟨h, by rw [rBan, h]; rfl⟩
theorem maxI_le {x y c : Int} (h : maxI x y ≤ c) : x ≤ c ∧ y ≤ c := by
  unfold maxI at h
  split at h <;> omega
end Go.Proofs.YtjhjmncjidbieaaGreatDoor
