/-
  What chapter 7's functions of a span of the day return, and of rules. No condition but the theorems' own. What chapter 7's checks of rules return. No condition but the theorems' own. What chapter 7's check of rules returns, the reference's; it is the source's. No condition but the theorems' own. NightSpans returns true. No condition but the theorems' own. The arguments of chapter 7's statements, and the way from a contract of a statement to its row. No condition but the theorems' own. What chapter 7's functions of movements return. No condition but the theorems' own. Further arguments of chapter 7's statements. No condition but the theorems' own. What chapter 7's checks of movements return, of both sides. No condition but the theorems' own. What chapter 7's counts and fees are. No condition but the theorems' own.
-/
import Derived.Test.YtimgfogakgakhaaGreatDoorPA
import Derived.Test.YtimgfogakgakhaaGreatDoorAvD
import Derived.Test.YtimgfogakgakhaaGreatDoorCards
import Derived.Test.YtimgfogakgakhaaGreatDoorTie
import Derived.LaidMore
import Derived.LaidOnce
import Derived.Stop.Joined
import Derived.SevenTiedAt
namespace Go.Proofs.YtimgfogakgakhaaGreatDoor
open Go Go.Av Go.RowKit
structure Tp where
  n : List UInt8
  c : Int
  f : Int
  deriving Inhabited
structure Ru where
  a : Int
  b : Int
  c : Int
  d : Int
  ts : List Tp
  q : Int
  rs : List (List UInt8)
  dl : Int
  fi : Int
  ra : Int
  k0 : Int
  k1 : Int
  k2 : Int
  k3 : Int
  k4 : Int
  k5 : Int
  k6 : Int
  k7 : Int
  deriving Inhabited
def encTp (t : Tp) : List AV := [.str t.n, .i t.c, .i t.f]
def encS (s : List UInt8) : List AV := [.str s]
def encRu (r : Ru) : List AV := [.i r.a, .i r.b, .i r.c, .i r.d, .sl 3 (r.ts.map encTp), .i r.q, .sl 1 (r.rs.map encS), .i r.dl, .i r.fi, .i r.ra, .int .u8 r.k0, .int .u8 r.k1, .int .u8 r.k2, .int .u8 r.k3, .int .u8 r.k4, .int .u8 r.k5, .int .u8 r.k6, .int .u8 r.k7]
def wiR (a b m : Int) : Bool := if decide (a < b) then (if decide (m ≥ a) then decide (m < b) else false) else if decide (m ≥ a) then true else decide (m < b)
def sSp (a b : Int) : Int := sWhen (if (if (if (if decide (a < 0) then true else decide (a ≥ 1440)) then true else decide (b < 0)) then true else decide (b ≥ 1440)) then true else a == b) 14
def hasS (a b m : Int) : Bool := decide (offM a m < offM a b)
def niI (a b day m : Int) : Int := if (if decide (a > b) then decide (m < b) else false) then day - 1 else day
def spS : Nat → List AV → Option AV
  | 22, [.agg [.int _ a, .int _ b]] => some (.i (sSp a b))
  | 88, [.agg [.int _ a, .int _ b]] => some (.i (sSp a b))
  | 89, [.int _ m] => some (.i (sWithin m 0 1439))
  | 90, [.agg [.int _ a, .int _ b], .int _ m] => some (.bool (hasS a b m))
  | 26, [.agg [.int _ a, .int _ b], .int _ m] => some (.bool (wiR a b m))
  | 115, [.agg [.int _ a, _], .int _ m] => some (.i (offM a m))
  | 91, [.agg [.int _ a, .int _ b]] => some (.i (offM a b))
  | n, x => spN n x
theorem c22 (a b : Int)  : PCall Tryz.prog G0 22 [.agg [.i a, .i b]] (.i (sSp a b)) := by
  have key :
   ((!decide (a < 0)) = true → (!decide (a < 0)) = true) ∧ ((!decide (a < 0)) = true → (!decide (a < 0)) = true) ∧ (decide (a < 0) = false → (!decide (a < 0)) = true) ∧ ((!if decide (a < 0) = true then true else decide (a ≥ 1440)) =
   true → (!if decide (a < 0) = true then true else decide (a ≥ 1440)) = true) ∧ ((!if decide (a < 0) = true then true else decide (a ≥ 1440)) = true → (!if decide (a < 0) = true then true else decide (a ≥ 1440)) = true) ∧ ((if decide
   (a < 0) = true then true else decide (a ≥ 1440)) = false → (!if decide (a < 0) = true then true else decide (a ≥ 1440)) = true) ∧ ((!if (if decide (a < 0) = true then true else decide (a ≥ 1440)) = true then true else decide (b <
   0)) = true → (!if (if decide (a < 0) = true then true else decide (a ≥ 1440)) = true then true else decide (b < 0)) = true) ∧ ((!if (if decide (a < 0) = true then true else decide (a ≥ 1440)) = true then true else decide (b < 0)) =
   true → (!if (if decide (a < 0) = true then true else decide (a ≥ 1440)) = true then true else decide (b < 0)) = true) ∧ ((if (if decide (a < 0) = true then true else decide (a ≥ 1440)) = true then true else decide (b < 0)) = false
   → (!if (if decide (a < 0) = true then true else decide (a ≥ 1440)) = true then true else decide (b < 0)) = true) ∧ ((!if (if (if decide (a < 0) = true then true else decide (a ≥ 1440)) = true then true else decide (b < 0)) = true
   then true else decide (b ≥ 1440)) = true → (!if (if (if decide (a < 0) = true then true else decide (a ≥ 1440)) = true then true else decide (b < 0)) = true then true else decide (b ≥ 1440)) = true) ∧ ((!if (if (if decide (a < 0) =
   true then true else decide (a ≥ 1440)) = true then true else decide (b < 0)) = true then true else decide (b ≥ 1440)) = true → (!if (if (if decide (a < 0) = true then true else decide (a ≥ 1440)) = true then true else decide (b <
   0)) = true then true else decide (b ≥ 1440)) = true) ∧ ((!if (if (if decide (a < 0) = true then true else decide (a ≥ 1440)) = true then true else decide (b < 0)) = true then true else decide (b ≥ 1440)) = true → (!if (if (if
   decide (a < 0) = true then true else decide (a ≥ 1440)) = true then true else decide (b < 0)) = true then true else decide (b ≥ 1440)) = true) ∧ ((!if (if (if decide (a < 0) = true then true else decide (a ≥ 1440)) = true then true
   else decide (b < 0)) = true then true else decide (b ≥ 1440)) = true → (!if (if (if decide (a < 0) = true then true else decide (a ≥ 1440)) = true then true else decide (b < 0)) = true then true else decide (b ≥ 1440)) = true) ∧
   ((if (if (if decide (a < 0) = true then true else decide (a ≥ 1440)) = true then true else decide (b < 0)) = true then true else decide (b ≥ 1440)) = false → (!if (if (if decide (a < 0) = true then true else decide (a ≥ 1440)) =
   true then true else decide (b < 0)) = true then true else decide (b ≥ 1440)) = true) ∧ PCall Tryz.prog G0 37 [AV.bool (if (if (if (if decide (a < 0) = true then true else decide (a ≥ 1440)) = true then true else decide (b < 0)) =
   true then true else decide (b ≥ 1440)) = true then true else a == b), AV.i 14] (AV.i (sWhen (if (if (if (if decide (a < 0) = true then true else decide (a ≥ 1440)) = true then true else decide (b < 0)) = true then true else decide
   (b ≥ 1440)) = true then true else a == b) (14 : Int))) ∧ AV.i (sWhen (if (if (if (if decide (a < 0) = true then true else decide (a ≥ 1440)) = true then true else decide (b < 0)) = true then true else decide (b ≥ 1440)) = true then
   true else a == b) (14 : Int)) = AV.i (sSp a b) := by
    repeat' (first | apply And.intro | intro _)
    all_goals first
      | assumption
      | exact c37 _ _
      | exact c95 _ _
      | rfl
      | (simp_all; done)
  exact c_of Tryz.f22 (mkB spS 22 [] noLa) (by kernel_rfl) (by kernel_rfl) (by kernel_rfl) (by kernel_rfl) key (by kernel_rfl)
theorem c88 (a b : Int)  : PCall Tryz.prog G0 88 [.agg [.i a, .i b]] (.i (sSp a b)) := by
  have key :
   ((!decide (a < 0)) = true → (!decide (a < 0)) = true) ∧ ((!decide (a < 0)) = true → (!decide (a < 0)) = true) ∧ (decide (a < 0) = false → (!decide (a < 0)) = true) ∧ ((!if decide (a < 0) = true then true else decide (a ≥ 1440)) =
   true → (!if decide (a < 0) = true then true else decide (a ≥ 1440)) = true) ∧ ((!if decide (a < 0) = true then true else decide (a ≥ 1440)) = true → (!if decide (a < 0) = true then true else decide (a ≥ 1440)) = true) ∧ ((if decide
   (a < 0) = true then true else decide (a ≥ 1440)) = false → (!if decide (a < 0) = true then true else decide (a ≥ 1440)) = true) ∧ ((!if (if decide (a < 0) = true then true else decide (a ≥ 1440)) = true then true else decide (b <
   0)) = true → (!if (if decide (a < 0) = true then true else decide (a ≥ 1440)) = true then true else decide (b < 0)) = true) ∧ ((!if (if decide (a < 0) = true then true else decide (a ≥ 1440)) = true then true else decide (b < 0)) =
   true → (!if (if decide (a < 0) = true then true else decide (a ≥ 1440)) = true then true else decide (b < 0)) = true) ∧ ((if (if decide (a < 0) = true then true else decide (a ≥ 1440)) = true then true else decide (b < 0)) = false
   → (!if (if decide (a < 0) = true then true else decide (a ≥ 1440)) = true then true else decide (b < 0)) = true) ∧ ((!if (if (if decide (a < 0) = true then true else decide (a ≥ 1440)) = true then true else decide (b < 0)) = true
   then true else decide (b ≥ 1440)) = true → (!if (if (if decide (a < 0) = true then true else decide (a ≥ 1440)) = true then true else decide (b < 0)) = true then true else decide (b ≥ 1440)) = true) ∧ ((!if (if (if decide (a < 0) =
   true then true else decide (a ≥ 1440)) = true then true else decide (b < 0)) = true then true else decide (b ≥ 1440)) = true → (!if (if (if decide (a < 0) = true then true else decide (a ≥ 1440)) = true then true else decide (b <
   0)) = true then true else decide (b ≥ 1440)) = true) ∧ ((!if (if (if decide (a < 0) = true then true else decide (a ≥ 1440)) = true then true else decide (b < 0)) = true then true else decide (b ≥ 1440)) = true → (!if (if (if
   decide (a < 0) = true then true else decide (a ≥ 1440)) = true then true else decide (b < 0)) = true then true else decide (b ≥ 1440)) = true) ∧ ((!if (if (if decide (a < 0) = true then true else decide (a ≥ 1440)) = true then true
   else decide (b < 0)) = true then true else decide (b ≥ 1440)) = true → (!if (if (if decide (a < 0) = true then true else decide (a ≥ 1440)) = true then true else decide (b < 0)) = true then true else decide (b ≥ 1440)) = true) ∧
   ((if (if (if decide (a < 0) = true then true else decide (a ≥ 1440)) = true then true else decide (b < 0)) = true then true else decide (b ≥ 1440)) = false → (!if (if (if decide (a < 0) = true then true else decide (a ≥ 1440)) =
   true then true else decide (b < 0)) = true then true else decide (b ≥ 1440)) = true) ∧ PCall Tryz.prog G0 95 [AV.bool (if (if (if (if decide (a < 0) = true then true else decide (a ≥ 1440)) = true then true else decide (b < 0)) =
   true then true else decide (b ≥ 1440)) = true then true else a == b), AV.i 14] (AV.i (sWhen (if (if (if (if decide (a < 0) = true then true else decide (a ≥ 1440)) = true then true else decide (b < 0)) = true then true else decide
   (b ≥ 1440)) = true then true else a == b) (14 : Int))) ∧ AV.i (sWhen (if (if (if (if decide (a < 0) = true then true else decide (a ≥ 1440)) = true then true else decide (b < 0)) = true then true else decide (b ≥ 1440)) = true then
   true else a == b) (14 : Int)) = AV.i (sSp a b) := by
    repeat' (first | apply And.intro | intro _)
    all_goals first
      | assumption
      | exact c37 _ _
      | exact c95 _ _
      | rfl
      | (simp_all; done)
  exact c_of Tryz.f88 (mkB spS 88 [] noLa) (by kernel_rfl) (by kernel_rfl) (by kernel_rfl) (by kernel_rfl) key (by kernel_rfl)
theorem c89 (m : Int)  : PCall Tryz.prog G0 89 [.i m] (.i (sWithin m 0 1439)) := by
  have key :
   PCall Tryz.prog G0 92 [AV.i m, AV.i 0, AV.i 1439] (AV.i (sWithin m (0 : Int) (1439 : Int))) ∧ AV.i (sWithin m (0 : Int) (1439 : Int)) = AV.i (sWithin m (0 : Int) (1439 : Int)) := by
    exact ⟨c92 _ _ _, rfl⟩
  exact c_of Tryz.f89 (mkB spS 89 [] noLa) (by kernel_rfl) (by kernel_rfl) (by kernel_rfl) (by kernel_rfl) key (by kernel_rfl)
theorem c90 (a b m : Int) (ha : 0 ≤ a ∧ a < 1440) (hb : 0 ≤ b ∧ b < 1440) (hm : 0 ≤ m ∧ m < 1440) : PCall Tryz.prog G0 90 [.agg [.i a, .i b], .i m] (.bool (hasS a b m)) := by
  have key :
   PCall Tryz.prog G0 115 [AV.agg [AV.i a, AV.i b], AV.i m] (AV.i (offM a m)) ∧ PCall Tryz.prog G0 91 [AV.agg [AV.i a, AV.i b]] (AV.i (offM a b)) ∧ AV.bool (decide (offM a m < offM a b)) = AV.bool (hasS a b m) := by
    exact ⟨c115 a b m (by unfold In64; omega) (by unfold In64; omega), c91 a b (by unfold In64; omega) (by unfold In64; omega), rfl⟩
  exact c_of Tryz.f90 (mkB spS 90 [] noLa) (by kernel_rfl) (by kernel_rfl) (by kernel_rfl) (by kernel_rfl) key (by kernel_rfl)
theorem c26 (a b m : Int)  : PCall Tryz.prog G0 26 [.agg [.i a, .i b], .i m] (.bool (wiR a b m)) := by
  have key :
   (decide (a < b) = true → (decide (m ≥ a) = true → decide (m ≥ a) = true) ∧ (decide (m ≥ a) = true → decide (m ≥ a) = true) ∧ (decide (m ≥ a) = true → decide (m ≥ a) = true) ∧ (decide (m ≥ a) = true → decide (m ≥ a) = true) ∧
   AV.bool (if decide (m ≥ a) = true then decide (m < b) else false) = AV.bool (wiR a b m)) ∧ (decide (a < b) = false → ((!decide (m ≥ a)) = true → (!decide (m ≥ a)) = true) ∧ ((!decide (m ≥ a)) = true → (!decide (m ≥ a)) = true) ∧
   ((!decide (m ≥ a)) = true → (!decide (m ≥ a)) = true) ∧ (decide (m ≥ a) = false → (!decide (m ≥ a)) = true) ∧ AV.bool (if decide (m ≥ a) = true then true else decide (m < b)) = AV.bool (wiR a b m)) := by
    refine ⟨fun h => ⟨fun h => h, fun h => h, fun h => h, fun h => h, ?_⟩, fun h => ⟨fun h => h, fun h => h, fun h => h, fun h => by rw [h]; rfl, ?_⟩⟩
    · rw [wiR, if_pos h]
    · show _ = AV.bool (if decide (a < b) then (if decide (m ≥ a) then decide (m < b) else false) else if decide (m ≥ a) then true else decide (m < b))
      rw [h]
      rfl
  exact c_of Tryz.f26 (mkB spS 26 [] noLa) (by kernel_rfl) (by kernel_rfl) (by kernel_rfl) (by kernel_rfl) key (by kernel_rfl)
def cntN (p : Nat → Bool) : Nat → Nat
  | 0 => 0
  | n + 1 => if p n then cntN p n + 1 else cntN p n
theorem cnt_le (p : Nat → Bool) : ∀ n, cntN p n ≤ n
  | 0 => Nat.le_refl _
  | n + 1 => by
    have := cnt_le p n
    simp only [cntN]
    split <;> omega
def la27 (a b : Int) : LA := {
  pre := [.keep [1, 3, 4] [], .bound 1], post := [.keep [1, 3, 4] [], .bound 1]
  Gh := Nat
  st := fun i => ⟨[(1, .elt 2 [[.i a, .i b]] 0 0), (3, .i (cntN (fun m => wiR a b m) i)), (4, .i i)], [], 1⟩
  ok := fun i => i ≤ 1440
  ms := fun i => 1440 - i }
theorem c27 (a b : Int)  : PCall Tryz.prog G0 27 [.agg [.i a, .i b]] (.i (cntN (fun m => wiR a b m) 1440)) := by
  have key :
   (∃ (g : Nat), g ≤ 1440 ∧ AS.mk [(1, AV.elt 2 [[AV.i a, AV.i b]] 0 0), (3, AV.i 0), (4, AV.i 0)] [] 1 = AS.mk [(1, AV.elt 2 [[AV.i a, AV.i b]] 0 0), (3, AV.i (↑(cntN (fun (m : Nat) => wiR a b (↑m : Int)) g) : Int)), (4, AV.i (↑g :
   Int))] [] 1) ∧ ∀ (g : Nat), g ≤ 1440 → (decide ((↑g : Int) < 1440) = true → PCall Tryz.prog G0 26 [AV.agg [AV.i a, AV.i b], AV.i (↑g : Int)] (AV.bool (wiR a b (↑g : Int))) ∧ (wiR a b (↑g : Int) = true → In64 ((↑(cntN (fun (m : Nat)
   => wiR a b (↑m : Int)) g) : Int) + 1) ∧ In64 ((↑g : Int) + 1) ∧ ∃ (g' : Nat), g' ≤ 1440 ∧ 1440 - g' < 1440 - g ∧ AS.mk [(1, AV.elt 2 [[AV.i a, AV.i b]] 0 0), (3, AV.i ((↑(cntN (fun (m : Nat) => wiR a b (↑m : Int)) g) : Int) + 1)),
   (4, AV.i ((↑g : Int) + 1))] [] 1 = AS.mk [(1, AV.elt 2 [[AV.i a, AV.i b]] 0 0), (3, AV.i (↑(cntN (fun (m : Nat) => wiR a b (↑m : Int)) g') : Int)), (4, AV.i (↑g' : Int))] [] 1) ∧ (wiR a b (↑g : Int) = false → In64 ((↑g : Int) + 1)
   ∧ ∃ (g' : Nat), g' ≤ 1440 ∧ 1440 - g' < 1440 - g ∧ AS.mk [(1, AV.elt 2 [[AV.i a, AV.i b]] 0 0), (3, AV.i (↑(cntN (fun (m : Nat) => wiR a b (↑m : Int)) g) : Int)), (4, AV.i ((↑g : Int) + 1))] [] 1 = AS.mk [(1, AV.elt 2 [[AV.i a,
   AV.i b]] 0 0), (3, AV.i (↑(cntN (fun (m : Nat) => wiR a b (↑m : Int)) g') : Int)), (4, AV.i (↑g' : Int))] [] 1)) ∧ (decide ((↑g : Int) < 1440) = false → AV.i (↑(cntN (fun (m : Nat) => wiR a b (↑m : Int)) g) : Int) = AV.i (↑(cntN
   (fun (m : Nat) => wiR a b (↑m : Int)) 1440) : Int)) := by
    have hc : ∀ g, cntN (fun (m : Nat) => wiR a b m) g ≤ g := cnt_le _
    refine ⟨⟨0, by omega, rfl⟩, fun g hg => ⟨fun hd => ⟨c26 a b g, fun h => ?_, fun h => ?_⟩, fun hd => ?_⟩⟩
    · have hlt : g < 1440 := by have := of_decide_eq_true hd; omega
      refine ⟨by have := hc g; unfold In64; omega, by unfold In64; omega, g + 1, by omega, by omega, ?_⟩
      rw [show cntN (fun (m : Nat) => wiR a b m) (g + 1) = cntN (fun (m : Nat) => wiR a b m) g + 1 from if_pos h]
      rfl
    · have hlt : g < 1440 := by have := of_decide_eq_true hd; omega
      refine ⟨by unfold In64; omega, g + 1, by omega, by omega, ?_⟩
      rw [show cntN (fun (m : Nat) => wiR a b m) (g + 1) = cntN (fun (m : Nat) => wiR a b m) g from if_neg (by show ¬ wiR a b g = true; rw [h]; decide)]
      rfl
    · have := of_decide_eq_false hd
      rw [show g = 1440 by omega]
  exact c_of Tryz.f27 (mkB spS 27 [] (fun i => if i.beq 0 then some (la27 a b) else none)) (by kernel_rfl) (by kernel_rfl) (by kernel_rfl) (by kernel_rfl) key (by kernel_rfl)
theorem c28 (r : Ru) (day m : Int) (h : In64 (day - 1)) : PCall Tryz.prog G0 28 [.agg (encRu r), .i day, .i m] (.i (niI r.a r.b day m)) := by
  have key :
   (decide (r.a > r.b) = true → decide (r.a > r.b) = true) ∧ (decide (r.a > r.b) = true → decide (r.a > r.b) = true) ∧ (decide (r.a > r.b) = true → decide (r.a > r.b) = true) ∧ (decide (r.a > r.b) = true → decide (r.a > r.b) = true) ∧
   (decide (r.a > r.b) = true → decide (r.a > r.b) = true) ∧ ((if decide (r.a > r.b) = true then decide (m < r.b) else false) = true → In64 (day - 1) ∧ AV.i (day - 1) = AV.i (niI r.a r.b day m)) ∧ ((if decide (r.a > r.b) = true then
   decide (m < r.b) else false) = false → AV.i day = AV.i (niI r.a r.b day m)) := by
    refine ⟨fun h => h, fun h => h, fun h => h, fun h => h, fun h => h, fun h2 => ⟨h, ?_⟩, fun h2 => ?_⟩
    · rw [niI, if_pos h2]
    · rw [niI, if_neg (by rw [h2]; decide)]
  exact c_of Tryz.f28 ({ mkB spS 28 [] noLa with split := fun i => if i.beq 1 then 0 else 0 }) (by kernel_rfl) (by kernel_rfl) (by kernel_rfl) (by kernel_rfl) key (by kernel_rfl)
theorem c93 (r : Ru) (day m : Int) (h : In64 (day - 1)) : PCall Tryz.prog G0 93 [.agg (encRu r), .i day, .i m] (.i (niI r.a r.b day m)) := by
  have key :
   (decide (r.a > r.b) = true → decide (r.a > r.b) = true) ∧ (decide (r.a > r.b) = true → decide (r.a > r.b) = true) ∧ (decide (r.a > r.b) = true → decide (r.a > r.b) = true) ∧ (decide (r.a > r.b) = true → decide (r.a > r.b) = true) ∧
   (decide (r.a > r.b) = true → decide (r.a > r.b) = true) ∧ ((if decide (r.a > r.b) = true then decide (m < r.b) else false) = true → In64 (day - 1) ∧ AV.i (day - 1) = AV.i (niI r.a r.b day m)) ∧ ((if decide (r.a > r.b) = true then
   decide (m < r.b) else false) = false → AV.i day = AV.i (niI r.a r.b day m)) := by
    refine ⟨fun h => h, fun h => h, fun h => h, fun h => h, fun h => h, fun h2 => ⟨h, ?_⟩, fun h2 => ?_⟩
    · rw [niI, if_pos h2]
    · rw [niI, if_neg (by rw [h2]; decide)]
  exact c_of Tryz.f93 (mkB spS 93 [] noLa) (by kernel_rfl) (by kernel_rfl) (by kernel_rfl) (by kernel_rfl) key (by kernel_rfl)
def insS (c d a b : Int) : Bool := if c == a && d == b then true else (List.range (offM c d).toNat).all fun (i : Nat) => hasS a b ((c + i).tmod 1440)
def fa96 (c d a b : Int) : FA := {
  X := Nat, xs := List.range (offM c d).toNat, enc := fun i => [.i ((c + i).tmod 1440)]
  post := [.keep [] [1], .bound 2]
  Gh := Unit
  st := fun _ => ⟨[(3, .elt 2 [[.i a, .i b]] 0 0), (4, .ptr 1 0), (10, .fn (.func 172) [] [.elt 2 [[.i c, .i d]] 0 0])], [(1, .box [.bool false])], 2⟩
  ok := fun pre _ => (pre.all fun i => hasS a b ((c + i).tmod 1440)) = true }
def sp96 : Nat → List AV → Option AV
  | 146, [.agg [.int _ a, .int _ b]] => some (.fn (.func 172) [] [.elt 2 [[.i a, .i b]] 0 0])
  | n, x => spS n x
theorem c146 (a b : Int)  : PCall Tryz.prog G0 146 [.agg [.i a, .i b]] (.fn (.func 172) [] [.elt 2 [[.i a, .i b]] 0 0]) := by
  have key :
   AV.fn (Fn.func 172) [] [AV.elt 2 [[AV.i a, AV.i b]] 0 0] = AV.fn (Fn.func 172) [] [AV.elt 2 [[AV.i a, AV.i b]] 0 0] := by
    rfl
  exact c_of Tryz.f146 (mkB spS 146 [] noLa) (by kernel_rfl) (by kernel_rfl) (by kernel_rfl) (by kernel_rfl) key (by kernel_rfl)
theorem c96 (a b c d : Int) (ha : 0 ≤ a ∧ a < 1440) (hb : 0 ≤ b ∧ b < 1440) (hc : 0 ≤ c ∧ c < 1440) (hd : 0 ≤ d ∧ d < 1440) : PCall Tryz.prog G0 96 [.agg [.i c, .i d], .agg [.i a, .i b]] (.bool (insS c d a b)) := by
  have key :
   ((c == a && true && (d == b && true && true)) = true → AV.bool true = AV.bool (insS c d a b)) ∧ ((c == a && true && (d == b && true && true)) = false → PCall Tryz.prog G0 146 [AV.agg [AV.i c, AV.i d]] (AV.fn (Fn.func 172) []
   [AV.elt 2 [[AV.i c, AV.i d]] 0 0]) ∧ PSeq Tryz.prog G0 172 [AV.elt 2 [[AV.i c, AV.i d]] 0 0] (List.map (fa96 c d a b).enc (List.range (offM c d).toNat)) ∧ (∀ (x : Nat), 1 = 1) ∧ (∃ (g : Unit), true = true ∧ AS.mk [(3, AV.elt 2
   [[AV.i a, AV.i b]] 0 0), (4, AV.ptr 1 0), (10, AV.fn (Fn.func 172) [] [AV.elt 2 [[AV.i c, AV.i d]] 0 0])] [(1, ABlk.box [AV.bool false])] 2 = AS.mk [(3, AV.elt 2 [[AV.i a, AV.i b]] 0 0), (4, AV.ptr 1 0), (10, AV.fn (Fn.func 172) []
   [AV.elt 2 [[AV.i c, AV.i d]] 0 0])] [(1, ABlk.box [AV.bool false])] 2) ∧ (∀ (pre : List Nat) (x : Nat) (post : List Nat) (g : Unit), List.range (offM c d).toNat = pre ++ x :: post → (pre.all fun (i : Nat) => hasS a b ((c + (↑i :
   Int)).tmod (1440 : Int))) = true → Exit.normal = Exit.normal ∧ false = false ∧ PCall Tryz.prog G0 90 [AV.agg [AV.i a, AV.i b], AV.i ((c + (↑x : Int)).tmod (1440 : Int))] (AV.bool (hasS a b ((c + (↑x : Int)).tmod (1440 : Int)))) ∧
   ((!hasS a b ((c + (↑x : Int)).tmod (1440 : Int))) = true → false = false ∧ AV.bool false = AV.bool (insS c d a b)) ∧ ((!hasS a b ((c + (↑x : Int)).tmod (1440 : Int))) = false → false = false ∧ ∃ (g' : Unit), ((pre ++ [x]).all fun
   (i : Nat) => hasS a b ((c + (↑i : Int)).tmod (1440 : Int))) = true ∧ AS.mk [(3, AV.elt 2 [[AV.i a, AV.i b]] 0 0), (4, AV.ptr 1 0), (10, AV.fn (Fn.func 172) [] [AV.elt 2 [[AV.i c, AV.i d]] 0 0])] [(1, ABlk.box [AV.bool false])] 2 =
   AS.mk [(3, AV.elt 2 [[AV.i a, AV.i b]] 0 0), (4, AV.ptr 1 0), (10, AV.fn (Fn.func 172) [] [AV.elt 2 [[AV.i c, AV.i d]] 0 0])] [(1, ABlk.box [AV.bool false])] 2)) ∧ ∀ (g : Unit), ((List.range (offM c d).toNat).all fun (i : Nat) =>
   hasS a b ((c + (↑i : Int)).tmod (1440 : Int))) = true → AV.bool true = AV.bool (insS c d a b)) := by
    refine ⟨fun h => ?_, fun h => ⟨c146 c d, s172 c d hc hd, fun _ => rfl, ⟨(), rfl, rfl⟩, fun pre x post g hr hg => ⟨rfl, rfl, c90 a b _ ha hb (mod_b (by omega)), fun hx => ⟨rfl, ?_⟩, fun hx => ⟨rfl, (), ?_, rfl⟩⟩, fun g hg => ?_⟩⟩
    · simp only [Bool.and_true] at h
      rw [insS, if_pos h]
    · have e : insS c d a b = (List.range (offM c d).toNat).all fun (i : Nat) => hasS a b ((c + i).tmod 1440) := if_neg (by simpa using h)
      rw [e, hr, List.all_append, List.all_cons]
      rw [show hasS a b ((c + (x : Int)).tmod 1440) = false by simpa using hx]
      simp
    · rw [List.all_append, hg]
      simpa using hx
    · have e : insS c d a b = (List.range (offM c d).toNat).all fun (i : Nat) => hasS a b ((c + i).tmod 1440) := if_neg (by simpa using h)
      rw [e, hg]
  exact c_of Tryz.f96 ({ mkB sp96 96 [] noLa with fa := some (fa96 c d a b), gs := fun i => if i.beq 3 then [.reno 4 1, .keep [3, 4, 10] [1], .bound 2] else [] }) (by kernel_rfl) (by kernel_rfl) (by kernel_rfl) (by kernel_rfl) key (by kernel_rfl)
def pN (ts : List Tp) (s : List UInt8) (i : Nat) : Bool := (ts.getD i default).n == s
def pS (rs : List (List UInt8)) (s : List UInt8) (i : Nat) : Bool := rs.getD i default == s
def rdN (f : Nat → List UInt8) : List AV → Option AV
  | [.elt _ _ i _] => some (.str (f i))
  | _ => none
def la94 (ts : List Tp) (s : List UInt8) : LA := {
  pre := [.keep [0, 1, 5] [], .bound 1], post := [.keep [0, 1, 5] [], .bound 1]
  Gh := Nat
  st := fun i => ⟨[(0, .sl 3 (ts.map encTp)), (1, .str s), (5, .i i)], [], 1⟩
  ok := fun i => i ≤ ts.length ∧ ∀ j, j < i → pN ts s j = false
  ms := fun i => ts.length - i }
theorem c94 (ts : List Tp) (s : List UInt8) (hl : ts.length ≤ 1000) : PCall Tryz.prog G0 94 [.sl 3 (ts.map encTp), .str s] (.i (fiI (pN ts s) ts.length)) := by
  have key :
   (∃ (g : Nat), (g ≤ ts.length ∧ ∀ (j : Nat), j < g → pN ts s j = false) ∧ AS.mk [(0, AV.sl 3 (List.map encTp ts)), (1, AV.str s), (5, AV.i 0)] [] 1 = AS.mk [(0, AV.sl 3 (List.map encTp ts)), (1, AV.str s), (5, AV.i (↑g : Int))] []
   1) ∧ ∀ (g : Nat), (g ≤ ts.length ∧ ∀ (j : Nat), j < g → pN ts s j = false) → (decide ((↑g : Int) < (↑(List.map encTp ts).length : Int)) = true → (0 : Int) ≤ (↑g : Int) ∧ (↑g : Int) < (↑(List.map encTp ts).length : Int) ∧ nth (nthR
   (List.map encTp ts) (↑g : Int).toNat) 0 = AV.str (ts.getD (↑g : Int).toNat default).n ∧ (((ts.getD (↑g : Int).toNat default).n == s) = true → AV.i (↑g : Int) = AV.i (fiI (pN ts s) ts.length)) ∧ (((ts.getD (↑g : Int).toNat
   default).n == s) = false → In64 ((↑g : Int) + 1) ∧ ∃ (g' : Nat), (g' ≤ ts.length ∧ ∀ (j : Nat), j < g' → pN ts s j = false) ∧ ts.length - g' < ts.length - g ∧ AS.mk [(0, AV.sl 3 (List.map encTp ts)), (1, AV.str s), (5, AV.i ((↑g :
   Int) + 1))] [] 1 = AS.mk [(0, AV.sl 3 (List.map encTp ts)), (1, AV.str s), (5, AV.i (↑g' : Int))] [] 1)) ∧ (decide ((↑g : Int) < (↑(List.map encTp ts).length : Int)) = false → AV.i (-1) = AV.i (fiI (pN ts s) ts.length)) := by
    have hlm : (List.map encTp ts).length = ts.length := List.length_map _
    refine ⟨⟨0, ⟨by omega, by intros; omega⟩, rfl⟩, fun g ⟨hg, ha⟩ => ⟨fun hd => ?_, fun hd => ?_⟩⟩
    · rw [hlm] at hd
      have hlt := lt_of_dec hd
      refine ⟨by omega, by omega, by rw [show nthR (List.map encTp ts) ((g : Int)).toNat = encTp (ts.getD g default) from row_at encTp hlt]; rfl, fun hx => ?_, fun hx => ⟨by unfold In64; omega, g + 1, ⟨hlt, fun j hj => ?_⟩, by omega, rfl⟩⟩
      · rw [fiI, fi_some ha (show pN ts s g = true from hx) hlt, if_neg (by omega)]
      · by_cases e : j = g
        · rw [e]; exact hx
        · exact ha j (by omega)
    · rw [hlm] at hd
      have e := ge_of_dec hd hg
      subst e
      rw [fiI, fi_none ha, if_pos rfl]
  exact c_of Tryz.f94 (mkB spS 94 [(4, 4, rdN fun i => (ts.getD i default).n)] (fun j => if j.beq 0 then some (la94 ts s) else none)) (by kernel_rfl) (by kernel_rfl) (by kernel_rfl) (by kernel_rfl) key (by kernel_rfl)
def la72 (rs : List (List UInt8)) (s : List UInt8) : LA := {
  pre := [.keep [0, 1, 5] [], .bound 1], post := [.keep [0, 1, 5] [], .bound 1]
  Gh := Nat
  st := fun i => ⟨[(0, .sl 1 (rs.map encS)), (1, .str s), (5, .i i)], [], 1⟩
  ok := fun i => i ≤ rs.length ∧ ∀ j, j < i → pS rs s j = false
  ms := fun i => rs.length - i }
theorem c72 (rs : List (List UInt8)) (s : List UInt8) (hl : rs.length ≤ 1000) : PCall Tryz.prog G0 72 [.sl 1 (rs.map encS), .str s] (.bool (decide (fiN (pS rs s) rs.length < rs.length))) := by
  have key :
   (∃ (g : Nat), (g ≤ rs.length ∧ ∀ (j : Nat), j < g → pS rs s j = false) ∧ AS.mk [(0, AV.sl 1 (List.map encS rs)), (1, AV.str s), (5, AV.i 0)] [] 1 = AS.mk [(0, AV.sl 1 (List.map encS rs)), (1, AV.str s), (5, AV.i (↑g : Int))] [] 1)
   ∧ ∀ (g : Nat), (g ≤ rs.length ∧ ∀ (j : Nat), j < g → pS rs s j = false) → (decide ((↑g : Int) < (↑(List.map encS rs).length : Int)) = true → (0 : Int) ≤ (↑g : Int) ∧ (↑g : Int) < (↑(List.map encS rs).length : Int) ∧ nth (nthR
   (List.map encS rs) (↑g : Int).toNat) 0 = AV.str (rs.getD (↑g : Int).toNat []) ∧ ((rs.getD (↑g : Int).toNat [] == s) = true → AV.bool true = AV.bool (decide (fiN (pS rs s) rs.length < rs.length))) ∧ ((rs.getD (↑g : Int).toNat [] ==
   s) = false → In64 ((↑g : Int) + 1) ∧ ∃ (g' : Nat), (g' ≤ rs.length ∧ ∀ (j : Nat), j < g' → pS rs s j = false) ∧ rs.length - g' < rs.length - g ∧ AS.mk [(0, AV.sl 1 (List.map encS rs)), (1, AV.str s), (5, AV.i ((↑g : Int) + 1))] []
   1 = AS.mk [(0, AV.sl 1 (List.map encS rs)), (1, AV.str s), (5, AV.i (↑g' : Int))] [] 1)) ∧ (decide ((↑g : Int) < (↑(List.map encS rs).length : Int)) = false → AV.bool false = AV.bool (decide (fiN (pS rs s) rs.length < rs.length)))
   := by
    have hlm : (List.map encS rs).length = rs.length := List.length_map _
    refine ⟨⟨0, ⟨by omega, by intros; omega⟩, rfl⟩, fun g ⟨hg, ha⟩ => ⟨fun hd => ?_, fun hd => ?_⟩⟩
    · rw [hlm] at hd
      have hlt := lt_of_dec hd
      refine ⟨by omega, by omega, by rw [show nthR (List.map encS rs) ((g : Int)).toNat = encS (rs.getD g default) from row_at encS hlt]; rfl, fun hx => ?_, fun hx => ⟨by unfold In64; omega, g + 1, ⟨hlt, fun j hj => ?_⟩, by omega, rfl⟩⟩
      · rw [decide_eq_true (fi_ex (p := pS rs s) hlt hx)]
      · by_cases e : j = g
        · rw [e]; exact hx
        · exact ha j (by omega)
    · rw [hlm] at hd
      have e := ge_of_dec hd hg
      subst e
      rw [fi_none ha, decide_eq_false (Nat.lt_irrefl _)]
  exact c_of Tryz.f72 (mkB spS 72 [(4, 3, rdN fun i => rs.getD i default)] (fun j => if j.beq 0 then some (la72 rs s) else none)) (by kernel_rfl) (by kernel_rfl) (by kernel_rfl) (by kernel_rfl) key (by kernel_rfl)
theorem c98 (t : Tp)  : PCall Tryz.prog G0 98 [.agg (encTp t)] (.str t.n) := by
  have key :
   AV.str t.n = AV.str t.n := by
    rfl
  exact c_of Tryz.f98 (mkB spS 98 [] noLa) (by kernel_rfl) (by kernel_rfl) (by kernel_rfl) (by kernel_rfl) key (by kernel_rfl)
theorem c101 (n : Int)  : PCall Tryz.prog G0 101 [.i n] (.i 0) := by
  have key :
   AV.i 0 = AV.i 0 := by
    rfl
  exact c_of Tryz.f101 (mkB spS 101 [] noLa) (by kernel_rfl) (by kernel_rfl) (by kernel_rfl) (by kernel_rfl) key (by kernel_rfl)
def sp97 : Nat → List AV → Option AV
  | 98, [.agg (.str n :: _)] => some (.str n)
  | n, x => spS n x
def la97 (ts : List Tp) : LA := {
  pre := [.own 5 9 1, .reno 5 1, .keep [1, 5, 8, 9, 10] [1], .bound 2], post := [.reno 5 1, .keep [1, 5, 8, 9, 10] [1], .bound 2]
  Gh := Nat
  st := fun i => ⟨[(1, .fn (.func 98) [] []), (5, .own 1 (((ts.take i).map Tp.n).map encS).length), (8, .sl 3 (ts.map encTp)), (9, .i (ts.map encTp).length), (10, .i i)], [(1, .buf 9 1 (((ts.take i).map Tp.n).map encS))], 2⟩
  ok := fun i => i ≤ (ts.map encTp).length
  ms := fun i => (ts.map encTp).length - i }
theorem c97 (ts : List Tp) (hl : ts.length ≤ 1000) : PCall Tryz.prog G0 97 [.sl 3 (ts.map encTp), .fn (.func 98) [] []] (.fresh 9 1 ((ts.map Tp.n).map encS)) := by
  have key :
   (∃ (g : Nat), g ≤ (List.map encTp ts).length ∧ AS.mk [(1, AV.fn (Fn.func 98) [] []), (5, AV.own 1 0), (8, AV.sl 3 (List.map encTp ts)), (9, AV.i (↑(List.map encTp ts).length : Int)), (10, AV.i 0)] [(1, ABlk.buf 9 1 [])] 2 = AS.mk
   [(1, AV.fn (Fn.func 98) [] []), (5, AV.own 1 (List.map encS (List.map Tp.n (List.take g ts))).length), (8, AV.sl 3 (List.map encTp ts)), (9, AV.i (↑(List.map encTp ts).length : Int)), (10, AV.i (↑g : Int))] [(1, ABlk.buf 9 1
   (List.map encS (List.map Tp.n (List.take g ts))))] 2) ∧ ∀ (g : Nat), g ≤ (List.map encTp ts).length → (decide ((↑g : Int) < (↑(List.map encTp ts).length : Int)) = true → (0 : Int) ≤ (↑g : Int) ∧ (↑g : Int) < (↑(List.map encTp
   ts).length : Int) ∧ AV.agg (nthR (List.map encTp ts) (↑g : Int).toNat) = AV.agg [AV.str (ts.getD (↑g : Int).toNat default).n, AV.i (ts.getD (↑g : Int).toNat default).c, AV.i (ts.getD (↑g : Int).toNat default).f] ∧ (List.map encS
   (List.map Tp.n (List.take g ts))).length + 1 ≤ 9223372036854775807 ∧ ((List.map encS (List.map Tp.n (List.take g ts))).length + 1) * 16 ≤ 140737488355328 ∧ PCall Tryz.prog G0 98 [AV.agg [AV.str (ts.getD (↑g : Int).toNat default).n,
   AV.i (ts.getD (↑g : Int).toNat default).c, AV.i (ts.getD (↑g : Int).toNat default).f]] (AV.str (ts.getD (↑g : Int).toNat default).n) ∧ In64 ((↑g : Int) + 1) ∧ ∃ (g' : Nat), g' ≤ (List.map encTp ts).length ∧ (List.map encTp
   ts).length - g' < (List.map encTp ts).length - g ∧ AS.mk [(1, AV.fn (Fn.func 98) [] []), (5, AV.own 1 ((List.map encS (List.map Tp.n (List.take g ts))).length + 1)), (8, AV.sl 3 (List.map encTp ts)), (9, AV.i (↑(List.map encTp
   ts).length : Int)), (10, AV.i ((↑g : Int) + 1))] [(1, ABlk.buf 9 1 (List.map encS (List.map Tp.n (List.take g ts)) ++ [[AV.str (ts.getD (↑g : Int).toNat default).n]]))] 2 = AS.mk [(1, AV.fn (Fn.func 98) [] []), (5, AV.own 1
   (List.map encS (List.map Tp.n (List.take g' ts))).length), (8, AV.sl 3 (List.map encTp ts)), (9, AV.i (↑(List.map encTp ts).length : Int)), (10, AV.i (↑g' : Int))] [(1, ABlk.buf 9 1 (List.map encS (List.map Tp.n (List.take g'
   ts))))] 2) ∧ (decide ((↑g : Int) < (↑(List.map encTp ts).length : Int)) = false → AV.fresh 9 1 (List.map encS (List.map Tp.n (List.take g ts))) = AV.fresh 9 1 (List.map encS (List.map Tp.n ts))) := by
    have hlm : (List.map encTp ts).length = ts.length := List.length_map _
    refine ⟨⟨0, by omega, rfl⟩, fun g hg => ⟨fun hd => ?_, fun hd => ?_⟩⟩
    · rw [hlm] at hd
      have hlt := lt_of_dec hd
      have h2 := take_succ_map encS Tp.n hlt
      have h7 : (List.map encS (List.map Tp.n (List.take g ts))).length = g := by rw [List.length_map, List.length_map, List.length_take]; omega
      have h8 : (List.map encS (List.map Tp.n (List.take (g + 1) ts))).length = g + 1 := by rw [List.length_map, List.length_map, List.length_take]; omega
      refine ⟨by omega, by omega, congrArg AV.agg (row_at encTp hlt), by omega, by omega, c98 (ts.getD g default), by unfold In64; omega, g + 1, by omega, by omega, ?_⟩
      rw [h8, ← h2, h7]
      rfl
    · rw [ge_of_dec hd hg, hlm, List.take_length]
  exact c_of Tryz.f97 (fzB (mkB sp97 97 [(4, 1, rdL 3 encTp ts 3 true)] (fun i => if i.beq 0 then some (la97 ts) else none))) (by kernel_rfl) (by kernel_rfl) (by kernel_rfl) (by kernel_rfl) key (by kernel_rfl)
end Go.Proofs.YtimgfogakgakhaaGreatDoor
namespace Go.Proofs.YtimgfogakgakhaaGreatDoor
open Go Go.Av Go.RowKit
def shR (r : Ru) : Bool := (r.ts.all fun t => decide (t.n.length ≤ 40)) && ((r.rs.all fun s => decide (s.length ≤ 40)) && (if decide ((r.ts.length : Int) ≤ 17) then decide ((r.rs.length : Int) ≤ 9) else false))
def la17 (r : Ru) (b : Nat) : Option LA :=
  if b.beq 0 then some {
    pre := [.keep [1, 3] [], .bound 1], post := [.keep [1, 3] [], .bound 1]
    Gh := Nat
    st := fun i => ⟨[(1, .elt 18 [encRu r] 0 0), (3, .i i)], [], 1⟩
    ok := fun i => i ≤ r.ts.length ∧ ∀ j, j < i → (r.ts.getD j default).n.length ≤ 40
    ms := fun i => r.ts.length - i }
  else some {
    pre := [.keep [1, 4] [], .bound 1], post := [.keep [1, 4] [], .bound 1]
    Gh := Nat
    st := fun i => ⟨[(1, .elt 18 [encRu r] 0 0), (4, .i i)], [], 1⟩
    ok := fun i => i ≤ r.rs.length ∧ ∀ j, j < i → (r.rs.getD j default).length ≤ 40
    ms := fun i => r.rs.length - i }
theorem c17 (r : Ru) (hl : r.ts.length ≤ maxLen) (hm : r.rs.length ≤ maxLen) : PCall Tryz.prog G0 17 [.agg (encRu r)] (.bool (shR r)) := by
  have key :
   (∃ (g : Nat), (g ≤ r.ts.length ∧ ∀ (j : Nat), j < g → (r.ts.getD j default).n.length ≤ 40) ∧ AS.mk [(1, AV.elt 18 [(encRu r)] 0 0), (3, AV.i 0)] [] 1 = AS.mk [(1, AV.elt 18 [(encRu r)] 0 0), (3, AV.i (↑g : Int))] [] 1) ∧ ∀ (g :
   Nat), (g ≤ r.ts.length ∧ ∀ (j : Nat), j < g → (r.ts.getD j default).n.length ≤ 40) → (decide ((↑g : Int) < (↑(List.map encTp r.ts).length : Int)) = true → (0 : Int) ≤ (↑g : Int) ∧ (↑g : Int) < (↑(List.map encTp r.ts).length : Int)
   ∧ nth (nthR (List.map encTp r.ts) (↑g : Int).toNat) 0 = AV.str (r.ts.getD (↑g : Int).toNat default).n ∧ (decide ((↑(r.ts.getD (↑g : Int).toNat default).n.length : Int) > 40) = true → AV.bool false = AV.bool (shR r)) ∧ (decide
   ((↑(r.ts.getD (↑g : Int).toNat default).n.length : Int) > 40) = false → In64 ((↑g : Int) + 1) ∧ ∃ (g' : Nat), (g' ≤ r.ts.length ∧ ∀ (j : Nat), j < g' → (r.ts.getD j default).n.length ≤ 40) ∧ r.ts.length - g' < r.ts.length - g ∧
   AS.mk [(1, AV.elt 18 [(encRu r)] 0 0), (3, AV.i ((↑g : Int) + 1))] [] 1 = AS.mk [(1, AV.elt 18 [(encRu r)] 0 0), (3, AV.i (↑g' : Int))] [] 1)) ∧ (decide ((↑g : Int) < (↑(List.map encTp r.ts).length : Int)) = false → (∃ (g : Nat),
   (g ≤ r.rs.length ∧ ∀ (j : Nat), j < g → (r.rs.getD j []).length ≤ 40) ∧ AS.mk [(1, AV.elt 18 [(encRu r)] 0 0), (4, AV.i 0)] [] 1 = AS.mk [(1, AV.elt 18 [(encRu r)] 0 0), (4, AV.i (↑g : Int))] [] 1) ∧ ∀ (g : Nat), (g ≤ r.rs.length ∧
   ∀ (j : Nat), j < g → (r.rs.getD j []).length ≤ 40) → (decide ((↑g : Int) < (↑(List.map encS r.rs).length : Int)) = true → (0 : Int) ≤ (↑g : Int) ∧ (↑g : Int) < (↑(List.map encS r.rs).length : Int) ∧ nth (nthR (List.map encS r.rs)
   (↑g : Int).toNat) 0 = AV.str (r.rs.getD (↑g : Int).toNat []) ∧ (decide ((↑(r.rs.getD (↑g : Int).toNat default).length : Int) > 40) = true → AV.bool false = AV.bool (shR r)) ∧ (decide ((↑(r.rs.getD (↑g : Int).toNat default).length :
   Int) > 40) = false → In64 ((↑g : Int) + 1) ∧ ∃ (g' : Nat), (g' ≤ r.rs.length ∧ ∀ (j : Nat), j < g' → (r.rs.getD j []).length ≤ 40) ∧ r.rs.length - g' < r.rs.length - g ∧ AS.mk [(1, AV.elt 18 [(encRu r)] 0 0), (4, AV.i ((↑g : Int) +
   1))] [] 1 = AS.mk [(1, AV.elt 18 [(encRu r)] 0 0), (4, AV.i (↑g' : Int))] [] 1)) ∧ (decide ((↑g : Int) < (↑(List.map encS r.rs).length : Int)) = false → (decide ((↑(List.map encTp r.ts).length : Int) ≤ 17) = true → decide
   ((↑(List.map encTp r.ts).length : Int) ≤ 17) = true) ∧ (decide ((↑(List.map encTp r.ts).length : Int) ≤ 17) = true → decide ((↑(List.map encTp r.ts).length : Int) ≤ 17) = true) ∧ (decide ((↑(List.map encTp r.ts).length : Int) ≤ 17)
   = true → decide ((↑(List.map encTp r.ts).length : Int) ≤ 17) = true) ∧ (decide ((↑(List.map encTp r.ts).length : Int) ≤ 17) = true → decide ((↑(List.map encTp r.ts).length : Int) ≤ 17) = true) ∧ AV.bool (if decide ((↑(List.map
   encTp r.ts).length : Int) ≤ 17) = true then decide ((↑(List.map encS r.rs).length : Int) ≤ 9) else false) = AV.bool (shR r))) := by
    have hlm : (List.map encTp r.ts).length = r.ts.length := List.length_map _
    have hsm : (List.map encS r.rs).length = r.rs.length := List.length_map _
    have hM : maxLen ≤ 9223372036854775807 := by unfold maxLen; omega
    rw [hlm, hsm]
    refine ⟨⟨0, ⟨by omega, by intros; omega⟩, rfl⟩, fun g ⟨hg, ha⟩ => ⟨fun hd => ?_, fun hd => ?_⟩⟩
    · have hlt := lt_of_dec hd
      refine ⟨by omega, by omega, by rw [show nthR (List.map encTp r.ts) ((g : Int)).toNat = encTp (r.ts.getD g default) from row_at encTp hlt]; rfl, fun hx => ?_, fun hx => ⟨by unfold In64; omega, g + 1, ⟨hlt, fun j hj => ?_⟩, by omega, rfl⟩⟩
      · have hx : ((r.ts.getD g default).n.length : Int) > 40 := of_decide_eq_true hx
        have : r.ts.all (fun t => decide (t.n.length ≤ 40)) = false := List.all_eq_false.2 ⟨_, getD_mem hlt, by rw [decide_eq_true_eq]; omega⟩
        rw [shR, this]
        rfl
      · by_cases e : j = g
        · have hx : ¬ ((r.ts.getD g default).n.length : Int) > 40 := of_decide_eq_false hx
          rw [e]; omega
        · exact ha j (by omega)
    · have e := ge_of_dec hd hg
      subst e
      have hA : r.ts.all (fun t => decide (t.n.length ≤ 40)) = true := List.all_eq_true.2 fun t ht => by
        obtain ⟨i, hi, e⟩ := List.mem_iff_getElem.1 ht
        have := ha i hi
        rw [List.getD_eq_getElem?_getD, List.getElem?_eq_getElem hi, e] at this
        exact decide_eq_true this
      refine ⟨⟨0, ⟨by omega, by intros; omega⟩, rfl⟩, fun g ⟨hg, ha⟩ => ⟨fun hd => ?_, fun hd => ⟨fun h => h, fun h => h, fun h => h, fun h => h, ?_⟩⟩⟩
      · have hlt := lt_of_dec hd
        refine ⟨by omega, by omega, by rw [show nthR (List.map encS r.rs) ((g : Int)).toNat = encS (r.rs.getD g default) from row_at encS hlt]; rfl, fun hx => ?_, fun hx => ⟨by unfold In64; omega, g + 1, ⟨hlt, fun j hj => ?_⟩, by omega, rfl⟩⟩
        · have hx : ((r.rs.getD g default).length : Int) > 40 := of_decide_eq_true hx
          have : r.rs.all (fun s => decide (s.length ≤ 40)) = false := List.all_eq_false.2 ⟨_, getD_mem hlt, by rw [decide_eq_true_eq]; omega⟩
          rw [shR, hA, this]
          rfl
        · by_cases e : j = g
          · have hx : ¬ ((r.rs.getD g default).length : Int) > 40 := of_decide_eq_false hx
            rw [e]
            show (r.rs.getD g default).length ≤ 40
            omega
          · exact ha j (by omega)
      · have e := ge_of_dec hd hg
        subst e
        have hB : r.rs.all (fun s => decide (s.length ≤ 40)) = true := List.all_eq_true.2 fun t ht => by
          obtain ⟨i, hi, e⟩ := List.mem_iff_getElem.1 ht
          have h : (r.rs.getD i default).length ≤ 40 := ha i hi
          rw [List.getD_eq_getElem?_getD, List.getElem?_eq_getElem hi, e] at h
          exact decide_eq_true h
        rw [shR, hA, hB]
        rfl
  exact c_of Tryz.f17 (mkB spS 17 [(4, 5, rdL 3 encTp r.ts 1 false), (9, 4, rdL 1 encS r.rs 1 false)] (la17 r)) (by kernel_rfl) (by kernel_rfl) (by kernel_rfl) (by kernel_rfl) key (by kernel_rfl)
theorem sp_ok {a b : Int} (h : sSp a b = 0) : (0 ≤ a ∧ a < 1440) ∧ (0 ≤ b ∧ b < 1440) ∧ a ≠ b := by
  have h1 := when_z (by decide) h
  have key : ¬ a < 0 ∧ ¬ a ≥ 1440 ∧ ¬ b < 0 ∧ ¬ b ≥ 1440 ∧ ¬ a = b := by
    refine ⟨fun c => ?_, fun c => ?_, fun c => ?_, fun c => ?_, fun c => ?_⟩ <;> simp [c] at h1
  exact ⟨by omega, by omega, key.2.2.2.2⟩
def rWi (a b m : Int) : Bool := if sFirst [sSp a b, sWithin m 0 1439] != 0 then false else hasS a b m
theorem c18 (a b m : Int)  : PCall Tryz.prog G0 18 [.agg [.i a, .i b], .i m] (.tup [.bool (rWi a b m), .i (sFirst [sSp a b, sWithin m 0 1439])]) := by
  have key :
   PCall Tryz.prog G0 88 [AV.agg [AV.i a, AV.i b]] (AV.i (sSp a b)) ∧ PCall Tryz.prog G0 89 [AV.i m] (AV.i (sWithin m (0 : Int) (1439 : Int))) ∧ PCall Tryz.prog G0 87 [AV.sl 1 [[AV.i (sSp a b)], [AV.i (sWithin m (0 : Int) (1439 :
   Int))]]] (AV.i (sFirst [hdI [AV.i (sSp a b)], hdI [AV.i (sWithin m (0 : Int) (1439 : Int))]])) ∧ ((sFirst [hdI [AV.i (sSp a b)], hdI [AV.i (sWithin m (0 : Int) (1439 : Int))]] != 0) = true → AV.tup [AV.bool false, AV.i (sFirst [hdI
   [AV.i (sSp a b)], hdI [AV.i (sWithin m (0 : Int) (1439 : Int))]])] = AV.tup [AV.bool (rWi a b m), AV.i (sFirst [sSp a b, sWithin m (0 : Int) (1439 : Int)])]) ∧ ((sFirst [hdI [AV.i (sSp a b)], hdI [AV.i (sWithin m (0 : Int) (1439 :
   Int))]] != 0) = false → PCall Tryz.prog G0 90 [AV.agg [AV.i a, AV.i b], AV.i m] (AV.bool (hasS a b m)) ∧ AV.tup [AV.bool (hasS a b m), AV.i 0] = AV.tup [AV.bool (rWi a b m), AV.i (sFirst [sSp a b, sWithin m (0 : Int) (1439 :
   Int)])]) := by
    refine ⟨c88 _ _, c89 _, c87 [_, _] (by simp), fun h => ?_, fun h => ?_⟩
    · have h : (sFirst [sSp a b, sWithin m 0 1439] != 0) = true := h
      rw [rWi, if_pos h]
      rfl
    · have h : (sFirst [sSp a b, sWithin m 0 1439] != 0) = false := h
      have hz := bne_f h
      have hz' := hz
      rw [first_zero, first_zero, within_zero] at hz'
      have p := sp_ok hz'.1
      refine ⟨c90 a b m p.1 p.2.1 (by omega), ?_⟩
      rw [rWi, if_neg (by rw [h]; decide), hz]
  exact c_of Tryz.f18 (mkB spS 18 [] noLa) (by kernel_rfl) (by kernel_rfl) (by kernel_rfl) (by kernel_rfl) key (by kernel_rfl)
def rLe (a b : Int) : Int := if sSp a b != 0 then 0 else offM a b
theorem c19 (a b : Int)  : PCall Tryz.prog G0 19 [.agg [.i a, .i b]] (.tup [.i (rLe a b), .i (sSp a b)]) := by
  have key :
   PCall Tryz.prog G0 88 [AV.agg [AV.i a, AV.i b]] (AV.i (sSp a b)) ∧ ((sSp a b != 0) = true → AV.tup [AV.i 0, AV.i (sSp a b)] = AV.tup [AV.i (rLe a b), AV.i (sSp a b)]) ∧ ((sSp a b != 0) = false → PCall Tryz.prog G0 91 [AV.agg [AV.i
   a, AV.i b]] (AV.i (offM a b)) ∧ AV.tup [AV.i (offM a b), AV.i 0] = AV.tup [AV.i (rLe a b), AV.i (sSp a b)]) := by
    refine ⟨c88 _ _, fun h => ?_, fun h => ?_⟩
    · rw [rLe, if_pos h]
    · have hz := bne_f h
      have p := sp_ok hz
      refine ⟨c91 a b (by unfold In64; omega) (by unfold In64; omega), ?_⟩
      rw [rLe, if_neg (by rw [h]; decide), hz]
  exact c_of Tryz.f19 (mkB spS 19 [] noLa) (by kernel_rfl) (by kernel_rfl) (by kernel_rfl) (by kernel_rfl) key (by kernel_rfl)
def fur (r : Ru) (i : Nat) : Int := sFirst [sWithin (r.ts.getD i default).c 0 64, sWithin (r.ts.getD i default).f 0 100000]
theorem c100 (r : Ru) (i : Nat) (hi : i < r.ts.length) : PCall Tryz.prog G0 100 [.i i, .elt 18 [encRu r] 0 0] (.i (fur r i)) := by
  have key :
   (0 : Int) ≤ (↑i : Int) ∧ (↑i : Int) < (↑(List.map encTp r.ts).length : Int) ∧ (0 : Int) ≤ (↑i : Int) ∧ (↑i : Int) < (↑(List.map encTp r.ts).length : Int) ∧ nth (nthR (List.map encTp r.ts) (↑i : Int).toNat) 1 = AV.i (r.ts.getD (↑i :
   Int).toNat default).c ∧ PCall Tryz.prog G0 92 [AV.i (r.ts.getD (↑i : Int).toNat default).c, AV.i 0, AV.i 64] (AV.i (sWithin (r.ts.getD (↑i : Int).toNat default).c (0 : Int) (64 : Int))) ∧ nth (nthR (List.map encTp r.ts) (↑i :
   Int).toNat) 2 = AV.i (r.ts.getD (↑i : Int).toNat default).f ∧ PCall Tryz.prog G0 92 [AV.i (r.ts.getD (↑i : Int).toNat default).f, AV.i 0, AV.i 100000] (AV.i (sWithin (r.ts.getD (↑i : Int).toNat default).f (0 : Int) (100000 : Int)))
   ∧ PCall Tryz.prog G0 87 [AV.sl 1 [[AV.i (sWithin (r.ts.getD (↑i : Int).toNat default).c (0 : Int) (64 : Int))], [AV.i (sWithin (r.ts.getD (↑i : Int).toNat default).f (0 : Int) (100000 : Int))]]] (AV.i (sFirst [hdI [AV.i (sWithin
   (r.ts.getD (↑i : Int).toNat default).c (0 : Int) (64 : Int))], hdI [AV.i (sWithin (r.ts.getD (↑i : Int).toNat default).f (0 : Int) (100000 : Int))]])) ∧ AV.i (sFirst [hdI [AV.i (sWithin (r.ts.getD (↑i : Int).toNat default).c (0 :
   Int) (64 : Int))], hdI [AV.i (sWithin (r.ts.getD (↑i : Int).toNat default).f (0 : Int) (100000 : Int))]]) = AV.i (fur r i) := by
    have hlm : (List.map encTp r.ts).length = r.ts.length := List.length_map _
    simp only [Int.toNat_natCast]
    exact ⟨by omega, by omega, by omega, by omega, by rw [row_at encTp hi]; rfl, c92 _ _ _, by rw [row_at encTp hi]; rfl, c92 _ _ _, c87 [_, _] (by simp), rfl⟩
  exact c_of Tryz.f100 (mkB spS 100 [(1, 5, rdL 3 encTp r.ts 1 false), (1, 12, rdL 3 encTp r.ts 1 false)] noLa) (by kernel_rfl) (by kernel_rfl) (by kernel_rfl) (by kernel_rfl) key (by kernel_rfl)
def knS (l : List (List UInt8)) : List (AV × AV) := l.map fun s => keyE s
theorem put_nm {l : List (List UInt8)} {g : Nat} (hg : g < l.length) (h : hasK (knS (l.take g)) (.str (l.getD g default)) = false) : mput (.str (l.getD g default)) (.bool true) (knS (l.take g)) = some (knS (l.take (g + 1))) := by
  unfold knS at h ⊢
  rw [has_map (fun s => s)] at h
  rw [put_map (fun s => s) _ _ h, List.take_add_one, List.map_append]
  simp [List.getD_eq_getElem?_getD, hg]
def fNm (l : List (List UInt8)) (g : Nat → Int) (i : Nat) : Int := sFirst [sWhen (!sName (l.getD i default)) 8, sWhen (hasK (knS (l.take i)) (.str (l.getD i default))) 9, g i]
def chkN (l : List (List UInt8)) (g : Nat → Int) : Int := sScan (fNm l g) l.length 0
def la99 (l : List (List UInt8)) (g : Nat → Int) (F : AV) : LA := {
  pre := [.keep [1, 5, 10, 11, 12] [2], .bound 3], post := [.keep [1, 5, 10, 11, 12] [2], .bound 3]
  Gh := Nat
  st := fun i => ⟨[(1, F), (5, .ref 2), (10, .sl 1 (l.map encS)), (11, .i (l.map encS).length), (12, .i i)], [(2, .map (knS (l.take i)))], 3⟩
  ok := fun i => i ≤ l.length ∧ ∀ j, j < i → fNm l g j = 0
  ms := fun i => l.length - i }
def sp99 (g : Nat → Int) : Nat → List AV → Option AV
  | 100, (.int _ i :: _) => some (.i (g i.toNat))
  | 101, _ => some (.i 0)
  | n, x => spS n x
def atK (B : BA) : BA := modA 5 4 (fun a => { a with rdb := rdK }) B
def F100 (r : Ru) : AV := .fn (.func 100) [] [.elt 18 [encRu r] 0 0]
def F101 : AV := .fn (.func 101) [] []
theorem c99a (r : Ru) (hl : r.ts.length ≤ 1000) (hn : ∀ t, t ∈ r.ts → t.n.length ≤ 1000) : PCall Tryz.prog G0 99 [.sl 1 ((r.ts.map Tp.n).map encS), F100 r] (.i (chkN (r.ts.map Tp.n) (fur r))) := by
  have key :
   (∃ (g : Nat), (g ≤ (List.map Tp.n r.ts).length ∧ ∀ (j : Nat), j < g → fNm (List.map Tp.n r.ts) (fur r) j = (0 : Int)) ∧ AS.mk [(1, AV.fn (Fn.func 100) [] [AV.elt 18 [(encRu r)] 0 0]), (5, AV.ref 2), (10, AV.sl 1 (List.map encS
   (List.map Tp.n r.ts))), (11, AV.i (↑(List.map encS (List.map Tp.n r.ts)).length : Int)), (12, AV.i 0)] [(2, ABlk.map [])] 3 = AS.mk [(1, AV.fn (Fn.func 100) [] [AV.elt 18 [(encRu r)] 0 0]), (5, AV.ref 2), (10, AV.sl 1 (List.map
   encS (List.map Tp.n r.ts))), (11, AV.i (↑(List.map encS (List.map Tp.n r.ts)).length : Int)), (12, AV.i (↑g : Int))] [(2, ABlk.map (knS (List.take g (List.map Tp.n r.ts))))] 3) ∧ ∀ (g : Nat), (g ≤ (List.map Tp.n r.ts).length ∧ ∀ (j
   : Nat), j < g → fNm (List.map Tp.n r.ts) (fur r) j = (0 : Int)) → (decide ((↑g : Int) < (↑(List.map encS (List.map Tp.n r.ts)).length : Int)) = true → (0 : Int) ≤ (↑g : Int) ∧ (↑g : Int) < (↑(List.map encS (List.map Tp.n
   r.ts)).length : Int) ∧ nth (nthR (List.map encS (List.map Tp.n r.ts)) (↑g : Int).toNat) 0 = AV.str ((List.map Tp.n r.ts).getD (↑g : Int).toNat []) ∧ (mlook (AV.str ((List.map Tp.n r.ts).getD (↑g : Int).toNat [])) (knS (List.take g
   (List.map Tp.n r.ts)))).isSome = true ∧ PCall Tryz.prog G0 113 [AV.str ((List.map Tp.n r.ts).getD (↑g : Int).toNat [])] (AV.i (sWhen (!sName ((List.map Tp.n r.ts).getD (↑g : Int).toNat [])) (8 : Int))) ∧ lookV false (AV.bool false)
   (mlook (AV.str ((List.map Tp.n r.ts).getD (↑g : Int).toNat [])) (knS (List.take g (List.map Tp.n r.ts)))) = AV.bool (hasK (knS (List.take g (List.map Tp.n r.ts))) (AV.str ((List.map Tp.n r.ts).getD (↑g : Int).toNat []))) ∧ PCall
   Tryz.prog G0 95 [AV.bool (hasK (knS (List.take g (List.map Tp.n r.ts))) (AV.str ((List.map Tp.n r.ts).getD (↑g : Int).toNat []))), AV.i 9] (AV.i (sWhen (hasK (knS (List.take g (List.map Tp.n r.ts))) (AV.str ((List.map Tp.n
   r.ts).getD (↑g : Int).toNat []))) (9 : Int))) ∧ PCall Tryz.prog G0 100 [AV.i (↑g : Int), AV.elt 18 [(encRu r)] 0 0] (AV.i (fur r (↑g : Int).toNat)) ∧ PCall Tryz.prog G0 87 [AV.sl 1 [[AV.i (sWhen (!sName ((List.map Tp.n r.ts).getD
   (↑g : Int).toNat [])) (8 : Int))], [AV.i (sWhen (hasK (knS (List.take g (List.map Tp.n r.ts))) (AV.str ((List.map Tp.n r.ts).getD (↑g : Int).toNat []))) (9 : Int))], [AV.i (fur r (↑g : Int).toNat)]]] (AV.i (sFirst [hdI [AV.i (sWhen
   (!sName ((List.map Tp.n r.ts).getD (↑g : Int).toNat [])) (8 : Int))], hdI [AV.i (sWhen (hasK (knS (List.take g (List.map Tp.n r.ts))) (AV.str ((List.map Tp.n r.ts).getD (↑g : Int).toNat []))) (9 : Int))], hdI [AV.i (fur r (↑g :
   Int).toNat)]])) ∧ ((sFirst [hdI [AV.i (sWhen (!sName ((List.map Tp.n r.ts).getD (↑g : Int).toNat [])) (8 : Int))], hdI [AV.i (sWhen (hasK (knS (List.take g (List.map Tp.n r.ts))) (AV.str ((List.map Tp.n r.ts).getD (↑g : Int).toNat
   []))) (9 : Int))], hdI [AV.i (fur r (↑g : Int).toNat)]] != 0) = true → AV.i (sFirst [hdI [AV.i (sWhen (!sName ((List.map Tp.n r.ts).getD (↑g : Int).toNat [])) (8 : Int))], hdI [AV.i (sWhen (hasK (knS (List.take g (List.map Tp.n
   r.ts))) (AV.str ((List.map Tp.n r.ts).getD (↑g : Int).toNat []))) (9 : Int))], hdI [AV.i (fur r (↑g : Int).toNat)]]) = AV.i (chkN (List.map Tp.n r.ts) (fur r))) ∧ ((sFirst [hdI [AV.i (sWhen (!sName ((List.map Tp.n r.ts).getD (↑g :
   Int).toNat [])) (8 : Int))], hdI [AV.i (sWhen (hasK (knS (List.take g (List.map Tp.n r.ts))) (AV.str ((List.map Tp.n r.ts).getD (↑g : Int).toNat []))) (9 : Int))], hdI [AV.i (fur r (↑g : Int).toNat)]] != 0) = false → (mput (AV.str
   ((List.map Tp.n r.ts).getD (↑g : Int).toNat [])) (AV.bool true) (knS (List.take g (List.map Tp.n r.ts)))).isSome = true ∧ In64 ((↑g : Int) + 1) ∧ ∃ (g' : Nat), (g' ≤ (List.map Tp.n r.ts).length ∧ ∀ (j : Nat), j < g' → fNm (List.map
   Tp.n r.ts) (fur r) j = (0 : Int)) ∧ (List.map Tp.n r.ts).length - g' < (List.map Tp.n r.ts).length - g ∧ AS.mk [(1, AV.fn (Fn.func 100) [] [AV.elt 18 [(encRu r)] 0 0]), (5, AV.ref 2), (10, AV.sl 1 (List.map encS (List.map Tp.n
   r.ts))), (11, AV.i (↑(List.map encS (List.map Tp.n r.ts)).length : Int)), (12, AV.i ((↑g : Int) + 1))] [(2, ABlk.map ((mput (AV.str ((List.map Tp.n r.ts).getD (↑g : Int).toNat [])) (AV.bool true) (knS (List.take g (List.map Tp.n
   r.ts)))).getD []))] 3 = AS.mk [(1, AV.fn (Fn.func 100) [] [AV.elt 18 [(encRu r)] 0 0]), (5, AV.ref 2), (10, AV.sl 1 (List.map encS (List.map Tp.n r.ts))), (11, AV.i (↑(List.map encS (List.map Tp.n r.ts)).length : Int)), (12, AV.i
   (↑g' : Int))] [(2, ABlk.map (knS (List.take g' (List.map Tp.n r.ts))))] 3)) ∧ (decide ((↑g : Int) < (↑(List.map encS (List.map Tp.n r.ts)).length : Int)) = false → AV.i 0 = AV.i (chkN (List.map Tp.n r.ts) (fur r))) := by
    have hlm : (List.map encS (List.map Tp.n r.ts)).length = (List.map Tp.n r.ts).length := List.length_map _
    have hlr : (List.map Tp.n r.ts).length ≤ 1000 := by rw [List.length_map]; exact hl
    have hnr : ∀ s, s ∈ (List.map Tp.n r.ts) → s.length ≤ 1000 := fun s hs => by obtain ⟨t, ht, rfl⟩ := List.mem_map.1 hs; exact hn t ht
    refine ⟨⟨0, ⟨by omega, by intros; omega⟩, rfl⟩, fun g ⟨hg, ha⟩ => ⟨fun hd => ?_, fun hd => ?_⟩⟩
    · rw [hlm] at hd
      have hlt := lt_of_dec hd
      have hput : fNm (List.map Tp.n r.ts) (fur r) g = 0 → mput (.str ((List.map Tp.n r.ts).getD g default)) (.bool true) (knS ((List.map Tp.n r.ts).take g)) = some (knS ((List.map Tp.n r.ts).take (g + 1))) := fun hz => by
        unfold fNm at hz
        rw [first_zero, first_zero] at hz
        exact put_nm hlt (when_z (by decide) hz.2.1)
      refine ⟨by omega, by omega, by rw [show nthR (List.map encS (List.map Tp.n r.ts)) ((g : Int)).toNat = encS ((List.map Tp.n r.ts).getD g default) from row_at encS hlt]; rfl, look_some (fun s => s) _ _, c113 ((List.map Tp.n r.ts).getD g default) (by have := hnr _ (getD_mem hlt); omega), look_key (fun s => s) _ _, c95 _ _, c100 r g (by rw [List.length_map] at hlt; exact hlt), c87 [_, _, _] (by simp), fun hx => ?_, fun hx => ?_⟩
      · have hne : fNm (List.map Tp.n r.ts) (fur r) g ≠ 0 := bne_t hx
        refine av_int ?_
        unfold chkN
        rw [scan_hit hlt ha hne]
        rfl
      · have hz : fNm (List.map Tp.n r.ts) (fur r) g = 0 := bne_f hx
        have hp := hput hz
        refine ⟨by rw [show mput (AV.str ((List.map Tp.n r.ts).getD ((g : Int)).toNat [])) (AV.bool true) (knS (List.take g (List.map Tp.n r.ts))) = _ from hp]; rfl, by unfold In64; omega, g + 1, ⟨hlt, fun j hj => ?_⟩, by omega, ?_⟩
        · by_cases e : j = g
          · rw [e]; exact hz
          · exact ha j (by omega)
        · rw [show mput (AV.str ((List.map Tp.n r.ts).getD ((g : Int)).toNat [])) (AV.bool true) (knS (List.take g (List.map Tp.n r.ts))) = _ from hp]
          rfl
    · rw [hlm] at hd
      have e := ge_of_dec hd hg
      subst e
      unfold chkN
      rw [scan_end ha]
  exact c_of Tryz.f99 (atK (mkB (sp99 (fur r)) 99 [(4, 2, rdL 1 encS (r.ts.map Tp.n) 1 false)] (fun i => if i.beq 0 then some (la99 (r.ts.map Tp.n) (fur r) (F100 r)) else none))) (by kernel_rfl) (by kernel_rfl) (by kernel_rfl) (by kernel_rfl) key (by kernel_rfl)
theorem c99b (l : List (List UInt8)) (hl : l.length ≤ 1000) (hn : ∀ s, s ∈ l → s.length ≤ 1000) : PCall Tryz.prog G0 99 [.sl 1 (l.map encS), F101] (.i (chkN l fun _ => 0)) := by
  have key :
   (∃ (g : Nat), (g ≤ l.length ∧ ∀ (j : Nat), j < g → fNm l (fun (x : Nat) => (0 : Int)) j = (0 : Int)) ∧ AS.mk [(1, AV.fn (Fn.func 101) [] []), (5, AV.ref 2), (10, AV.sl 1 (List.map encS l)), (11, AV.i (↑(List.map encS l).length :
   Int)), (12, AV.i 0)] [(2, ABlk.map [])] 3 = AS.mk [(1, AV.fn (Fn.func 101) [] []), (5, AV.ref 2), (10, AV.sl 1 (List.map encS l)), (11, AV.i (↑(List.map encS l).length : Int)), (12, AV.i (↑g : Int))] [(2, ABlk.map (knS (List.take g
   l)))] 3) ∧ ∀ (g : Nat), (g ≤ l.length ∧ ∀ (j : Nat), j < g → fNm l (fun (x : Nat) => (0 : Int)) j = (0 : Int)) → (decide ((↑g : Int) < (↑(List.map encS l).length : Int)) = true → (0 : Int) ≤ (↑g : Int) ∧ (↑g : Int) < (↑(List.map
   encS l).length : Int) ∧ nth (nthR (List.map encS l) (↑g : Int).toNat) 0 = AV.str (l.getD (↑g : Int).toNat []) ∧ (mlook (AV.str (l.getD (↑g : Int).toNat [])) (knS (List.take g l))).isSome = true ∧ PCall Tryz.prog G0 113 [AV.str
   (l.getD (↑g : Int).toNat [])] (AV.i (sWhen (!sName (l.getD (↑g : Int).toNat [])) (8 : Int))) ∧ lookV false (AV.bool false) (mlook (AV.str (l.getD (↑g : Int).toNat [])) (knS (List.take g l))) = AV.bool (hasK (knS (List.take g l))
   (AV.str (l.getD (↑g : Int).toNat []))) ∧ PCall Tryz.prog G0 95 [AV.bool (hasK (knS (List.take g l)) (AV.str (l.getD (↑g : Int).toNat []))), AV.i 9] (AV.i (sWhen (hasK (knS (List.take g l)) (AV.str (l.getD (↑g : Int).toNat []))) (9
   : Int))) ∧ PCall Tryz.prog G0 101 [AV.i (↑g : Int)] (AV.i 0) ∧ PCall Tryz.prog G0 87 [AV.sl 1 [[AV.i (sWhen (!sName (l.getD (↑g : Int).toNat [])) (8 : Int))], [AV.i (sWhen (hasK (knS (List.take g l)) (AV.str (l.getD (↑g :
   Int).toNat []))) (9 : Int))], [AV.i 0]]] (AV.i (sFirst [hdI [AV.i (sWhen (!sName (l.getD (↑g : Int).toNat [])) (8 : Int))], hdI [AV.i (sWhen (hasK (knS (List.take g l)) (AV.str (l.getD (↑g : Int).toNat []))) (9 : Int))], hdI [AV.i
   0]])) ∧ ((sFirst [hdI [AV.i (sWhen (!sName (l.getD (↑g : Int).toNat [])) (8 : Int))], hdI [AV.i (sWhen (hasK (knS (List.take g l)) (AV.str (l.getD (↑g : Int).toNat []))) (9 : Int))], hdI [AV.i 0]] != 0) = true → AV.i (sFirst [hdI
   [AV.i (sWhen (!sName (l.getD (↑g : Int).toNat [])) (8 : Int))], hdI [AV.i (sWhen (hasK (knS (List.take g l)) (AV.str (l.getD (↑g : Int).toNat []))) (9 : Int))], hdI [AV.i 0]]) = AV.i (chkN l fun (x : Nat) => (0 : Int))) ∧ ((sFirst
   [hdI [AV.i (sWhen (!sName (l.getD (↑g : Int).toNat [])) (8 : Int))], hdI [AV.i (sWhen (hasK (knS (List.take g l)) (AV.str (l.getD (↑g : Int).toNat []))) (9 : Int))], hdI [AV.i 0]] != 0) = false → (mput (AV.str (l.getD (↑g :
   Int).toNat [])) (AV.bool true) (knS (List.take g l))).isSome = true ∧ In64 ((↑g : Int) + 1) ∧ ∃ (g' : Nat), (g' ≤ l.length ∧ ∀ (j : Nat), j < g' → fNm l (fun (x : Nat) => (0 : Int)) j = (0 : Int)) ∧ l.length - g' < l.length - g ∧
   AS.mk [(1, AV.fn (Fn.func 101) [] []), (5, AV.ref 2), (10, AV.sl 1 (List.map encS l)), (11, AV.i (↑(List.map encS l).length : Int)), (12, AV.i ((↑g : Int) + 1))] [(2, ABlk.map ((mput (AV.str (l.getD (↑g : Int).toNat [])) (AV.bool
   true) (knS (List.take g l))).getD []))] 3 = AS.mk [(1, AV.fn (Fn.func 101) [] []), (5, AV.ref 2), (10, AV.sl 1 (List.map encS l)), (11, AV.i (↑(List.map encS l).length : Int)), (12, AV.i (↑g' : Int))] [(2, ABlk.map (knS (List.take
   g' l)))] 3)) ∧ (decide ((↑g : Int) < (↑(List.map encS l).length : Int)) = false → AV.i 0 = AV.i (chkN l fun (x : Nat) => (0 : Int))) := by
    have hlm : (List.map encS (l)).length = (l).length := List.length_map _
    have hlr : (l).length ≤ 1000 := hl
    have hnr : ∀ s, s ∈ (l) → s.length ≤ 1000 := hn
    refine ⟨⟨0, ⟨by omega, by intros; omega⟩, rfl⟩, fun g ⟨hg, ha⟩ => ⟨fun hd => ?_, fun hd => ?_⟩⟩
    · rw [hlm] at hd
      have hlt := lt_of_dec hd
      have hput : fNm (l) (fun _ => 0) g = 0 → mput (.str ((l).getD g default)) (.bool true) (knS ((l).take g)) = some (knS ((l).take (g + 1))) := fun hz => by
        unfold fNm at hz
        rw [first_zero, first_zero] at hz
        exact put_nm hlt (when_z (by decide) hz.2.1)
      refine ⟨by omega, by omega, by rw [show nthR (List.map encS (l)) ((g : Int)).toNat = encS ((l).getD g default) from row_at encS hlt]; rfl, look_some (fun s => s) _ _, c113 ((l).getD g default) (by have := hnr _ (getD_mem hlt); omega), look_key (fun s => s) _ _, c95 _ _, c101 _, c87 [_, _, _] (by simp), fun hx => ?_, fun hx => ?_⟩
      · have hne : fNm (l) (fun _ => 0) g ≠ 0 := bne_t hx
        refine av_int ?_
        unfold chkN
        rw [scan_hit hlt ha hne]
        rfl
      · have hz : fNm (l) (fun _ => 0) g = 0 := bne_f hx
        have hp := hput hz
        refine ⟨by rw [show mput (AV.str ((l).getD ((g : Int)).toNat [])) (AV.bool true) (knS (List.take g (l))) = _ from hp]; rfl, by unfold In64; omega, g + 1, ⟨hlt, fun j hj => ?_⟩, by omega, ?_⟩
        · by_cases e : j = g
          · rw [e]; exact hz
          · exact ha j (by omega)
        · rw [show mput (AV.str ((l).getD ((g : Int)).toNat [])) (AV.bool true) (knS (List.take g (l))) = _ from hp]
          rfl
    · rw [hlm] at hd
      have e := ge_of_dec hd hg
      subst e
      unfold chkN
      rw [scan_end ha]
  exact c_of Tryz.f99 (atK (mkB (sp99 fun _ => 0) 99 [(4, 2, rdL 1 encS l 1 false)] (fun i => if i.beq 0 then some (la99 l (fun _ => 0) F101) else none))) (by kernel_rfl) (by kernel_rfl) (by kernel_rfl) (by kernel_rfl) key (by kernel_rfl)
def e1 (r : Ru) : Int := sFirst [sSp r.a r.b, sSp r.c r.d]
def e2 (r : Ru) : Int := sFirst [sWhen (!insS r.c r.d r.a r.b) 21, sWhen (decide ((r.ts.length : Int) > 16)) 5]
def e4 (r : Ru) : Int := sFirst [sWithin r.q 0 100000, sWhen (decide ((r.rs.length : Int) > 8)) 5]
def e5 (r : Ru) : Int := sFirst [chkN r.rs fun _ => 0, sWithin r.dl 0 60, sWithin r.fi 0 100000, sWithin r.ra 1 60]
def chkS (r : Ru) : Int := if e1 r != 0 then e1 r else if e2 r != 0 then e2 r else if chkN (r.ts.map Tp.n) (fur r) != 0 then chkN (r.ts.map Tp.n) (fur r) else if e4 r != 0 then e4 r else e5 r
def sp29 (r : Ru) : Nat → List AV → Option AV
  | 96, _ => some (.bool (insS r.c r.d r.a r.b))
  | 97, _ => some (.sl 1 ((r.ts.map Tp.n).map encS))
  | 99, [_, .fn (.func 100) _ _] => some (.i (chkN (r.ts.map Tp.n) (fur r)))
  | 99, _ => some (.i (chkN r.rs fun _ => 0))
  | n, x => spS n x
theorem c29 (r : Ru) (hl : r.ts.length ≤ 1000) (hm : r.rs.length ≤ 1000) (hn : ∀ t, t ∈ r.ts → t.n.length ≤ 1000) (hs : ∀ s, s ∈ r.rs → s.length ≤ 1000) : PCall Tryz.prog G0 29 [.agg (encRu r)] (.i (chkS r)) := by
  have key :
   PCall Tryz.prog G0 88 [AV.agg [AV.i r.a, AV.i r.b]] (AV.i (sSp r.a r.b)) ∧ PCall Tryz.prog G0 88 [AV.agg [AV.i r.c, AV.i r.d]] (AV.i (sSp r.c r.d)) ∧ PCall Tryz.prog G0 87 [AV.sl 1 [[AV.i (sSp r.a r.b)], [AV.i (sSp r.c r.d)]]]
   (AV.i (sFirst [hdI [AV.i (sSp r.a r.b)], hdI [AV.i (sSp r.c r.d)]])) ∧ ((sFirst [hdI [AV.i (sSp r.a r.b)], hdI [AV.i (sSp r.c r.d)]] != 0) = true → AV.i (sFirst [hdI [AV.i (sSp r.a r.b)], hdI [AV.i (sSp r.c r.d)]]) = AV.i (chkS r))
   ∧ ((sFirst [hdI [AV.i (sSp r.a r.b)], hdI [AV.i (sSp r.c r.d)]] != 0) = false → PCall Tryz.prog G0 96 [AV.agg [AV.i r.c, AV.i r.d], AV.agg [AV.i r.a, AV.i r.b]] (AV.bool (insS r.c r.d r.a r.b)) ∧ PCall Tryz.prog G0 95 [AV.bool
   !insS r.c r.d r.a r.b, AV.i 21] (AV.i (sWhen (!insS r.c r.d r.a r.b) (21 : Int))) ∧ PCall Tryz.prog G0 95 [AV.bool (decide ((↑(List.map encTp r.ts).length : Int) > 16)), AV.i 5] (AV.i (sWhen (decide ((↑(List.map encTp r.ts).length
   : Int) > 16)) (5 : Int))) ∧ PCall Tryz.prog G0 87 [AV.sl 1 [[AV.i (sWhen (!insS r.c r.d r.a r.b) (21 : Int))], [AV.i (sWhen (decide ((↑(List.map encTp r.ts).length : Int) > 16)) (5 : Int))]]] (AV.i (sFirst [hdI [AV.i (sWhen (!insS
   r.c r.d r.a r.b) (21 : Int))], hdI [AV.i (sWhen (decide ((↑(List.map encTp r.ts).length : Int) > 16)) (5 : Int))]])) ∧ ((sFirst [hdI [AV.i (sWhen (!insS r.c r.d r.a r.b) (21 : Int))], hdI [AV.i (sWhen (decide ((↑(List.map encTp
   r.ts).length : Int) > 16)) (5 : Int))]] != 0) = true → AV.i (sFirst [hdI [AV.i (sWhen (!insS r.c r.d r.a r.b) (21 : Int))], hdI [AV.i (sWhen (decide ((↑(List.map encTp r.ts).length : Int) > 16)) (5 : Int))]]) = AV.i (chkS r)) ∧
   ((sFirst [hdI [AV.i (sWhen (!insS r.c r.d r.a r.b) (21 : Int))], hdI [AV.i (sWhen (decide ((↑(List.map encTp r.ts).length : Int) > 16)) (5 : Int))]] != 0) = false → PCall Tryz.prog G0 97 [AV.sl 3 (List.map encTp r.ts), AV.fn
   (Fn.func 98) [] []] (AV.sl 1 (List.map encS (List.map Tp.n r.ts))) ∧ PCall Tryz.prog G0 99 [AV.sl 1 (List.map encS (List.map Tp.n r.ts)), AV.fn (Fn.func 100) [] [AV.elt 18 [(encRu r)] 0 0]] (AV.i (chkN (List.map Tp.n r.ts) (fur
   r))) ∧ ((chkN (List.map Tp.n r.ts) (fur r) != 0) = true → AV.i (chkN (List.map Tp.n r.ts) (fur r)) = AV.i (chkS r)) ∧ ((chkN (List.map Tp.n r.ts) (fur r) != 0) = false → PCall Tryz.prog G0 92 [AV.i r.q, AV.i 0, AV.i 100000] (AV.i
   (sWithin r.q (0 : Int) (100000 : Int))) ∧ PCall Tryz.prog G0 95 [AV.bool (decide ((↑(List.map encS r.rs).length : Int) > 8)), AV.i 5] (AV.i (sWhen (decide ((↑(List.map encS r.rs).length : Int) > 8)) (5 : Int))) ∧ PCall Tryz.prog G0
   87 [AV.sl 1 [[AV.i (sWithin r.q (0 : Int) (100000 : Int))], [AV.i (sWhen (decide ((↑(List.map encS r.rs).length : Int) > 8)) (5 : Int))]]] (AV.i (sFirst [hdI [AV.i (sWithin r.q (0 : Int) (100000 : Int))], hdI [AV.i (sWhen (decide
   ((↑(List.map encS r.rs).length : Int) > 8)) (5 : Int))]])) ∧ ((sFirst [hdI [AV.i (sWithin r.q (0 : Int) (100000 : Int))], hdI [AV.i (sWhen (decide ((↑(List.map encS r.rs).length : Int) > 8)) (5 : Int))]] != 0) = true → AV.i (sFirst
   [hdI [AV.i (sWithin r.q (0 : Int) (100000 : Int))], hdI [AV.i (sWhen (decide ((↑(List.map encS r.rs).length : Int) > 8)) (5 : Int))]]) = AV.i (chkS r)) ∧ ((sFirst [hdI [AV.i (sWithin r.q (0 : Int) (100000 : Int))], hdI [AV.i (sWhen
   (decide ((↑(List.map encS r.rs).length : Int) > 8)) (5 : Int))]] != 0) = false → PCall Tryz.prog G0 99 [AV.sl 1 (List.map encS r.rs), AV.fn (Fn.func 101) [] []] (AV.i (chkN r.rs fun (x : Nat) => (0 : Int))) ∧ PCall Tryz.prog G0 92
   [AV.i r.dl, AV.i 0, AV.i 60] (AV.i (sWithin r.dl (0 : Int) (60 : Int))) ∧ PCall Tryz.prog G0 92 [AV.i r.fi, AV.i 0, AV.i 100000] (AV.i (sWithin r.fi (0 : Int) (100000 : Int))) ∧ PCall Tryz.prog G0 92 [AV.i r.ra, AV.i 1, AV.i 60]
   (AV.i (sWithin r.ra (1 : Int) (60 : Int))) ∧ PCall Tryz.prog G0 87 [AV.sl 1 [[AV.i (chkN r.rs fun (x : Nat) => (0 : Int))], [AV.i (sWithin r.dl (0 : Int) (60 : Int))], [AV.i (sWithin r.fi (0 : Int) (100000 : Int))], [AV.i (sWithin
   r.ra (1 : Int) (60 : Int))]]] (AV.i (sFirst [hdI [AV.i (chkN r.rs fun (x : Nat) => (0 : Int))], hdI [AV.i (sWithin r.dl (0 : Int) (60 : Int))], hdI [AV.i (sWithin r.fi (0 : Int) (100000 : Int))], hdI [AV.i (sWithin r.ra (1 : Int)
   (60 : Int))]])) ∧ AV.i (sFirst [hdI [AV.i (chkN r.rs fun (x : Nat) => (0 : Int))], hdI [AV.i (sWithin r.dl (0 : Int) (60 : Int))], hdI [AV.i (sWithin r.fi (0 : Int) (100000 : Int))], hdI [AV.i (sWithin r.ra (1 : Int) (60 : Int))]])
   = AV.i (chkS r))))) := by
    simp only [List.length_map]
    refine ⟨c88 _ _, c88 _ _, c87 [_, _] (by simp), fun h => ?_, fun h => ?_⟩
    · have h : (e1 r != 0) = true := h
      rw [chkS, if_pos h]
      rfl
    · have h : (e1 r != 0) = false := h
      have hz := bne_f h
      unfold e1 at hz
      rw [first_zero, first_zero] at hz
      have p := sp_ok hz.1
      have q := sp_ok hz.2.1
      have n1 : ¬ (e1 r != 0) = true := by rw [h]; decide
      refine ⟨c96 r.a r.b r.c r.d p.1 p.2.1 q.1 q.2.1, c95 _ _, c95 _ _, c87 [_, _] (by simp), fun h2 => ?_, fun h2 => ?_⟩
      · have h2 : (e2 r != 0) = true := h2
        rw [chkS, if_neg n1, if_pos h2]
        rfl
      · have h2 : (e2 r != 0) = false := h2
        have n2 : ¬ (e2 r != 0) = true := by rw [h2]; decide
        refine ⟨(c97 r.ts hl).un, c99a r hl hn, fun h3 => ?_, fun h3 => ⟨c92 _ _ _, c95 _ _, c87 [_, _] (by simp), fun h4 => ?_, fun h4 => ⟨c99b r.rs hm hs, c92 _ _ _, c92 _ _ _, c92 _ _ _, c87 [_, _, _, _] (by simp), ?_⟩⟩⟩
        · rw [chkS, if_neg n1, if_neg n2, if_pos h3]
        · have h4 : (e4 r != 0) = true := h4
          rw [chkS, if_neg n1, if_neg n2, if_neg (by rw [h3]; decide), if_pos h4]
          rfl
        · have h4 : (e4 r != 0) = false := h4
          rw [chkS, if_neg n1, if_neg n2, if_neg (by rw [h3]; decide), if_neg (by rw [h4]; decide)]
          rfl
  exact c_of Tryz.f29 (fzB (mkB (sp29 r) 29 [] noLa)) (by kernel_rfl) (by kernel_rfl) (by kernel_rfl) (by kernel_rfl) key (by kernel_rfl)
theorem chkS_sp {r : Ru} (h : chkS r = 0) : sSp r.a r.b = 0 := by
  unfold chkS at h
  by_cases n : (e1 r != 0) = true
  · rw [if_pos n] at h
    rw [h] at n
    cases n
  · have hz : e1 r = 0 := by simpa using n
    unfold e1 at hz
    rw [first_zero] at hz
    exact hz.1
def eNi (r : Ru) (day m : Int) : Int := sFirst [chkS r, sWithin day 1 100000, sWithin m 0 1439]
def rNi (r : Ru) (day m : Int) : Int := if eNi r day m != 0 then 0 else if (!hasS r.a r.b m) then 0 else niI r.a r.b day m
def xNi (r : Ru) (day m : Int) : Int := if eNi r day m != 0 then eNi r day m else if (!hasS r.a r.b m) then 7 else 0
def sp20 (r : Ru) : Nat → List AV → Option AV
  | 29, _ => some (.i (chkS r))
  | 93, [_, .int _ day, .int _ m] => some (.i (niI r.a r.b day m))
  | n, x => spS n x
theorem c20 (r : Ru) (day m : Int) (hl : r.ts.length ≤ 1000) (hm : r.rs.length ≤ 1000) (hn : ∀ t, t ∈ r.ts → t.n.length ≤ 1000) (hs : ∀ s, s ∈ r.rs → s.length ≤ 1000) : PCall Tryz.prog G0 20 [.agg (encRu r), .i day, .i m] (.tup [.i (rNi r day m), .i (xNi r day m)]) := by
  have key :
   PCall Tryz.prog G0 29 [AV.agg (encRu r)] (AV.i (chkS r)) ∧ PCall Tryz.prog G0 92 [AV.i day, AV.i 1, AV.i 100000] (AV.i (sWithin day (1 : Int) (100000 : Int))) ∧ PCall Tryz.prog G0 89 [AV.i m] (AV.i (sWithin m (0 : Int) (1439 :
   Int))) ∧ PCall Tryz.prog G0 87 [AV.sl 1 [[AV.i (chkS r)], [AV.i (sWithin day (1 : Int) (100000 : Int))], [AV.i (sWithin m (0 : Int) (1439 : Int))]]] (AV.i (sFirst [hdI [AV.i (chkS r)], hdI [AV.i (sWithin day (1 : Int) (100000 :
   Int))], hdI [AV.i (sWithin m (0 : Int) (1439 : Int))]])) ∧ ((sFirst [hdI [AV.i (chkS r)], hdI [AV.i (sWithin day (1 : Int) (100000 : Int))], hdI [AV.i (sWithin m (0 : Int) (1439 : Int))]] != 0) = true → AV.tup [AV.i 0, AV.i (sFirst
   [hdI [AV.i (chkS r)], hdI [AV.i (sWithin day (1 : Int) (100000 : Int))], hdI [AV.i (sWithin m (0 : Int) (1439 : Int))]])] = AV.tup [AV.i (rNi r day m), AV.i (xNi r day m)]) ∧ ((sFirst [hdI [AV.i (chkS r)], hdI [AV.i (sWithin day (1
   : Int) (100000 : Int))], hdI [AV.i (sWithin m (0 : Int) (1439 : Int))]] != 0) = false → PCall Tryz.prog G0 90 [AV.agg [AV.i r.a, AV.i r.b], AV.i m] (AV.bool (hasS r.a r.b m)) ∧ ((!hasS r.a r.b m) = true → AV.tup [AV.i 0, AV.i 7] =
   AV.tup [AV.i (rNi r day m), AV.i (xNi r day m)]) ∧ ((!hasS r.a r.b m) = false → PCall Tryz.prog G0 93 [AV.agg (encRu r), AV.i day, AV.i m] (AV.i (niI r.a r.b day m)) ∧ AV.tup [AV.i (niI r.a r.b day m), AV.i 0] = AV.tup [AV.i (rNi r
   day m), AV.i (xNi r day m)])) := by
    refine ⟨c29 r hl hm hn hs, c92 _ _ _, c89 _, c87 [_, _, _] (by simp), fun h => ?_, fun h => ?_⟩
    · have h : (eNi r day m != 0) = true := h
      rw [rNi, xNi, if_pos h, if_pos h]
      rfl
    · have h : (eNi r day m != 0) = false := h
      have n1 : ¬ (eNi r day m != 0) = true := by rw [h]; decide
      have hz := bne_f h
      unfold eNi at hz
      rw [first_zero, first_zero, first_zero, within_zero, within_zero] at hz
      have p := sp_ok (chkS_sp hz.1)
      refine ⟨c90 r.a r.b m p.1 p.2.1 (by omega), fun h2 => ?_, fun h2 => ⟨c93 r day m (by unfold In64; omega), ?_⟩⟩
      · rw [rNi, xNi, if_neg n1, if_neg n1, if_pos h2, if_pos h2]
      · rw [rNi, xNi, if_neg n1, if_neg n1, if_neg (by rw [h2]; decide), if_neg (by rw [h2]; decide)]
  exact c_of Tryz.f20 (fzB (mkB (sp20 r) 20 [] noLa)) (by kernel_rfl) (by kernel_rfl) (by kernel_rfl) (by kernel_rfl) key (by kernel_rfl)
def la21 (r : Ru) : LA := {
  pre := [.reno 3 1, .reno 2 3, .ownb 1 4 157 3, .renc 1 4 2, .keep [2, 3, 26, 27, 28] [1, 2, 3], .bound 4], post := [.renc 1 4 2, .keep [2, 3, 26, 27, 28] [1, 2, 3], .bound 4]
  Gh := Nat
  st := fun i => ⟨[(2, .ptr 3 0), (3, .ptr 1 0), (26, .sl 3 (r.ts.map encTp)), (27, .i (r.ts.map encTp).length), (28, .i i)], [(1, .box [.i r.a, .i r.b, .i r.c, .i r.d, .own 2 ((r.ts.take i).map encTp).length, .i r.q, .sl 1 (r.rs.map encS), .i r.dl, .i r.fi, .i r.ra, .int .u8 r.k0, .int .u8 r.k1, .int .u8 r.k2, .int .u8 r.k3, .int .u8 r.k4, .int .u8 r.k5, .int .u8 r.k6, .int .u8 r.k7]), (2, .buf 157 3 ((r.ts.take i).map encTp)), (3, .box [.i 0, .i 0, .i 0, .i 0, .ex (.slice none 0 0), .i 0, .ex (.slice none 0 0), .i 0, .i 0, .i 0, .int .u8 0, .int .u8 0, .int .u8 0, .int .u8 0, .int .u8 0, .int .u8 0, .int .u8 0, .int .u8 0])], 4⟩
  ok := fun i => i ≤ r.ts.length
  ms := fun i => r.ts.length - i }
theorem c21 (r : Ru) (hl : r.ts.length ≤ 1000) (hm : r.rs.length ≤ 1000) : PCall Tryz.prog G0 21 [.agg (encRu r)] (.agg (encRu r)) := by
  have key :
   0 + (List.map encS r.rs).length ≤ 9223372036854775807 ∧ (0 + (List.map encS r.rs).length) * 16 ≤ 140737488355328 ∧ (∃ (g : Nat), g ≤ r.ts.length ∧ AS.mk [(2, AV.ptr 3 0), (3, AV.ptr 1 0), (26, AV.sl 3 (List.map encTp r.ts)), (27,
   AV.i (↑(List.map encTp r.ts).length : Int)), (28, AV.i 0)] [(1, ABlk.box [AV.i r.a, AV.i r.b, AV.i r.c, AV.i r.d, AV.own 2 0, AV.i r.q, AV.sl 1 ([] ++ List.map encS r.rs), AV.i r.dl, AV.i r.fi, AV.i r.ra, AV.int IntKind.u8 r.k0,
   AV.int IntKind.u8 r.k1, AV.int IntKind.u8 r.k2, AV.int IntKind.u8 r.k3, AV.int IntKind.u8 r.k4, AV.int IntKind.u8 r.k5, AV.int IntKind.u8 r.k6, AV.int IntKind.u8 r.k7]), (2, ABlk.buf 157 3 []), (3, ABlk.box [AV.i 0, AV.i 0, AV.i 0,
   AV.i 0, AV.ex (Value.slice none 0 0), AV.i 0, AV.ex (Value.slice none 0 0), AV.i 0, AV.i 0, AV.i 0, AV.int IntKind.u8 (0 : Int), AV.int IntKind.u8 (0 : Int), AV.int IntKind.u8 (0 : Int), AV.int IntKind.u8 (0 : Int), AV.int
   IntKind.u8 (0 : Int), AV.int IntKind.u8 (0 : Int), AV.int IntKind.u8 (0 : Int), AV.int IntKind.u8 (0 : Int)])] 4 = AS.mk [(2, AV.ptr 3 0), (3, AV.ptr 1 0), (26, AV.sl 3 (List.map encTp r.ts)), (27, AV.i (↑(List.map encTp
   r.ts).length : Int)), (28, AV.i (↑g : Int))] [(1, ABlk.box [AV.i r.a, AV.i r.b, AV.i r.c, AV.i r.d, AV.own 2 (List.map encTp (List.take g r.ts)).length, AV.i r.q, AV.sl 1 (List.map encS r.rs), AV.i r.dl, AV.i r.fi, AV.i r.ra,
   AV.int IntKind.u8 r.k0, AV.int IntKind.u8 r.k1, AV.int IntKind.u8 r.k2, AV.int IntKind.u8 r.k3, AV.int IntKind.u8 r.k4, AV.int IntKind.u8 r.k5, AV.int IntKind.u8 r.k6, AV.int IntKind.u8 r.k7]), (2, ABlk.buf 157 3 (List.map encTp
   (List.take g r.ts))), (3, ABlk.box [AV.i 0, AV.i 0, AV.i 0, AV.i 0, AV.ex (Value.slice none 0 0), AV.i 0, AV.ex (Value.slice none 0 0), AV.i 0, AV.i 0, AV.i 0, AV.int IntKind.u8 (0 : Int), AV.int IntKind.u8 (0 : Int), AV.int
   IntKind.u8 (0 : Int), AV.int IntKind.u8 (0 : Int), AV.int IntKind.u8 (0 : Int), AV.int IntKind.u8 (0 : Int), AV.int IntKind.u8 (0 : Int), AV.int IntKind.u8 (0 : Int)])] 4) ∧ ∀ (g : Nat), g ≤ r.ts.length → (decide ((↑g : Int) <
   (↑(List.map encTp r.ts).length : Int)) = true → (0 : Int) ≤ (↑g : Int) ∧ (↑g : Int) < (↑(List.map encTp r.ts).length : Int) ∧ AV.agg (nthR (List.map encTp r.ts) (↑g : Int).toNat) = AV.agg [AV.str (r.ts.getD (↑g : Int).toNat
   default).n, AV.i (r.ts.getD (↑g : Int).toNat default).c, AV.i (r.ts.getD (↑g : Int).toNat default).f] ∧ (List.map encTp (List.take g r.ts)).length + 1 ≤ 9223372036854775807 ∧ ((List.map encTp (List.take g r.ts)).length + 1) * 32 ≤
   140737488355328 ∧ In64 ((↑g : Int) + 1) ∧ ∃ (g' : Nat), g' ≤ r.ts.length ∧ r.ts.length - g' < r.ts.length - g ∧ AS.mk [(2, AV.ptr 3 0), (3, AV.ptr 1 0), (26, AV.sl 3 (List.map encTp r.ts)), (27, AV.i (↑(List.map encTp r.ts).length
   : Int)), (28, AV.i ((↑g : Int) + 1))] [(1, ABlk.box [AV.i r.a, AV.i r.b, AV.i r.c, AV.i r.d, AV.own 2 ((List.map encTp (List.take g r.ts)).length + 1), AV.i r.q, AV.sl 1 (List.map encS r.rs), AV.i r.dl, AV.i r.fi, AV.i r.ra, AV.int
   IntKind.u8 r.k0, AV.int IntKind.u8 r.k1, AV.int IntKind.u8 r.k2, AV.int IntKind.u8 r.k3, AV.int IntKind.u8 r.k4, AV.int IntKind.u8 r.k5, AV.int IntKind.u8 r.k6, AV.int IntKind.u8 r.k7]), (2, ABlk.buf 157 3 (List.map encTp
   (List.take g r.ts) ++ [[AV.str (r.ts.getD (↑g : Int).toNat default).n, AV.i (r.ts.getD (↑g : Int).toNat default).c, AV.i (r.ts.getD (↑g : Int).toNat default).f]])), (3, ABlk.box [AV.i 0, AV.i 0, AV.i 0, AV.i 0, AV.ex (Value.slice
   none 0 0), AV.i 0, AV.ex (Value.slice none 0 0), AV.i 0, AV.i 0, AV.i 0, AV.int IntKind.u8 (0 : Int), AV.int IntKind.u8 (0 : Int), AV.int IntKind.u8 (0 : Int), AV.int IntKind.u8 (0 : Int), AV.int IntKind.u8 (0 : Int), AV.int
   IntKind.u8 (0 : Int), AV.int IntKind.u8 (0 : Int), AV.int IntKind.u8 (0 : Int)])] 4 = AS.mk [(2, AV.ptr 3 0), (3, AV.ptr 1 0), (26, AV.sl 3 (List.map encTp r.ts)), (27, AV.i (↑(List.map encTp r.ts).length : Int)), (28, AV.i (↑g' :
   Int))] [(1, ABlk.box [AV.i r.a, AV.i r.b, AV.i r.c, AV.i r.d, AV.own 2 (List.map encTp (List.take g' r.ts)).length, AV.i r.q, AV.sl 1 (List.map encS r.rs), AV.i r.dl, AV.i r.fi, AV.i r.ra, AV.int IntKind.u8 r.k0, AV.int IntKind.u8
   r.k1, AV.int IntKind.u8 r.k2, AV.int IntKind.u8 r.k3, AV.int IntKind.u8 r.k4, AV.int IntKind.u8 r.k5, AV.int IntKind.u8 r.k6, AV.int IntKind.u8 r.k7]), (2, ABlk.buf 157 3 (List.map encTp (List.take g' r.ts))), (3, ABlk.box [AV.i 0,
   AV.i 0, AV.i 0, AV.i 0, AV.ex (Value.slice none 0 0), AV.i 0, AV.ex (Value.slice none 0 0), AV.i 0, AV.i 0, AV.i 0, AV.int IntKind.u8 (0 : Int), AV.int IntKind.u8 (0 : Int), AV.int IntKind.u8 (0 : Int), AV.int IntKind.u8 (0 : Int),
   AV.int IntKind.u8 (0 : Int), AV.int IntKind.u8 (0 : Int), AV.int IntKind.u8 (0 : Int), AV.int IntKind.u8 (0 : Int)])] 4) ∧ (decide ((↑g : Int) < (↑(List.map encTp r.ts).length : Int)) = false → AV.agg [AV.i r.a, AV.i r.b, AV.i r.c,
   AV.i r.d, AV.sl 3 (List.map encTp (List.take g r.ts)), AV.i r.q, AV.sl 1 (List.map encS r.rs), AV.i r.dl, AV.i r.fi, AV.i r.ra, AV.int IntKind.u8 r.k0, AV.int IntKind.u8 r.k1, AV.int IntKind.u8 r.k2, AV.int IntKind.u8 r.k3, AV.int
   IntKind.u8 r.k4, AV.int IntKind.u8 r.k5, AV.int IntKind.u8 r.k6, AV.int IntKind.u8 r.k7] = AV.agg (encRu r)) := by
    have hsm : (List.map encS r.rs).length = r.rs.length := List.length_map _
    have hlm : (List.map encTp r.ts).length = r.ts.length := List.length_map _
    refine ⟨by omega, by omega, ⟨0, by omega, rfl⟩, fun g hg => ⟨fun hd => ?_, fun hd => ?_⟩⟩
    · rw [hlm] at hd
      have hlt := lt_of_dec hd
      have h2 := take_succ encTp hlt
      have h7 : (List.map encTp (List.take g r.ts)).length = g := by rw [List.length_map, List.length_take]; omega
      have h8 : (List.map encTp (List.take (g + 1) r.ts)).length = g + 1 := by rw [List.length_map, List.length_take]; omega
      refine ⟨by omega, by omega, congrArg AV.agg (row_at encTp hlt), by omega, by omega, by unfold In64; omega, g + 1, by omega, by omega, ?_⟩
      rw [h8, ← h2, h7]
      rfl
    · rw [hlm] at hd
      rw [ge_of_dec hd hg, List.take_length]
      rfl
  exact c_of Tryz.f21 ({ modA 5 4 (fun a => { a with fz := false }) (fzB (mkB spS 21 [(4, 1, rdL 3 encTp r.ts 3 true)] (fun i => if i.beq 0 then some (la21 r) else none))) with bx := fun i => if i.beq 0 then [.frzc 1 4] else [] }) (by kernel_rfl) (by kernel_rfl) (by kernel_rfl) (by kernel_rfl) key (by kernel_rfl)
end Go.Proofs.YtimgfogakgakhaaGreatDoor
namespace Go.Proofs.YtimgfogakgakhaaGreatDoor
open Go Go.Av Go.RowKit
def pRn (rows : List (List AV)) (s : List UInt8) (i : Nat) : Bool := match nth (nthR rows i) 0 with
  | .str x => x == s
  | _ => false
def fM (r : Ru) (m : Nat) : Int := if (if wiR r.c r.d m then !wiR r.a r.b m else false) then 21 else 0
def fT (r : Ru) (i : Nat) : Int := sFirst [sWhen (!sName (r.ts.getD i default).n) 8, sWhen (decide (fiI (pN r.ts (r.ts.getD i default).n) i ≥ 0)) 9, sWithin (r.ts.getD i default).c 0 64, sWithin (r.ts.getD i default).f 0 100000]
def fS (r : Ru) (i : Nat) : Int := sFirst [sWhen (!sName (r.rs.getD i default)) 8, sWhen (decide (fiN (pS r.rs (r.rs.getD i default)) i < i)) 9]
def e6 (r : Ru) : Int := sFirst [sWithin r.dl 0 60, sWithin r.fi 0 100000, sWithin r.ra 1 60]
def chkR (r : Ru) : Int := if e1 r != 0 then e1 r else sScan (fM r) 1440 (if decide ((r.ts.length : Int) > 16) then 5 else sScan (fT r) r.ts.length (if e4 r != 0 then e4 r else sScan (fS r) r.rs.length (e6 r)))
def sp25 : Nat → List AV → Option AV
  | 94, [.sl _ rows, .str s] => some (.i (fiI (pRn rows s) rows.length))
  | 72, [.sl _ rows, .str s] => some (.bool (decide (fiN (pRn rows s) rows.length < rows.length)))
  | n, x => spS n x
def la25 (r : Ru) (b : Nat) : Option LA :=
  if b.beq 0 then some {
    pre := [.keep [1, 4] [], .bound 1], post := [.keep [1, 4] [], .bound 1]
    Gh := Nat
    st := fun i => ⟨[(1, .elt 18 [encRu r] 0 0), (4, .i i)], [], 1⟩
    ok := fun i => i ≤ 1440 ∧ ∀ j, j < i → fM r j = 0
    ms := fun i => 1440 - i }
  else if b.beq 2 then some {
    pre := [.keep [1, 5] [], .bound 1], post := [.keep [1, 5] [], .bound 1]
    Gh := Nat
    st := fun i => ⟨[(1, .elt 18 [encRu r] 0 0), (5, .i i)], [], 1⟩
    ok := fun i => i ≤ r.ts.length ∧ ∀ j, j < i → fT r j = 0
    ms := fun i => r.ts.length - i }
  else some {
    pre := [.keep [1, 9] [], .bound 1], post := [.keep [1, 9] [], .bound 1]
    Gh := Nat
    st := fun i => ⟨[(1, .elt 18 [encRu r] 0 0), (9, .i i)], [], 1⟩
    ok := fun i => i ≤ r.rs.length ∧ ∀ j, j < i → fS r j = 0
    ms := fun i => r.rs.length - i }
theorem pN_take {ts : List Tp} {s : List UInt8} {g j : Nat} (hj : j < g) : pN (ts.take g) s j = pN ts s j := by
  unfold pN
  rw [List.getD_eq_getElem?_getD, List.getD_eq_getElem?_getD, List.getElem?_take, if_pos hj]
theorem pS_take {rs : List (List UInt8)} {s : List UInt8} {g j : Nat} (hj : j < g) : pS (rs.take g) s j = pS rs s j := by
  unfold pS
  rw [List.getD_eq_getElem?_getD, List.getD_eq_getElem?_getD, List.getElem?_take, if_pos hj]
theorem pRn_tp {ts : List Tp} {s : List UInt8} {i : Nat} (h : i < ts.length) : pRn (ts.map encTp) s i = pN ts s i := by
  unfold pRn
  rw [row_at encTp h]
  rfl
theorem pRn_s {rs : List (List UInt8)} {s : List UInt8} {i : Nat} (h : i < rs.length) : pRn (rs.map encS) s i = pS rs s i := by
  unfold pRn
  rw [row_at encS h]
  rfl
theorem fiP {ts : List Tp} {s : List UInt8} {g : Nat} (hg : g ≤ ts.length) : fiI (pRn ((ts.take g).map encTp) s) ((ts.take g).map encTp).length = fiI (pN ts s) g := by
  have e : ((ts.take g).map encTp).length = g := by rw [List.length_map, List.length_take]; omega
  rw [e]
  exact fiI_congr fun j hj => (pRn_tp (by rw [List.length_take]; omega)).trans (pN_take hj)
theorem fiQ {rs : List (List UInt8)} {s : List UInt8} {g : Nat} (hg : g ≤ rs.length) : decide (fiN (pRn ((rs.take g).map encS) s) ((rs.take g).map encS).length < ((rs.take g).map encS).length) = decide (fiN (pS rs s) g < g) := by
  have e : ((rs.take g).map encS).length = g := by rw [List.length_map, List.length_take]; omega
  rw [e, fi_congr fun j hj => (pRn_s (by rw [List.length_take]; omega)).trans (pS_take hj)]
theorem c94t {ts : List Tp} {g : Nat} (s : List UInt8) (hl : ts.length ≤ 1000) (hg : g ≤ ts.length) : PCall Tryz.prog G0 94 [.sl 3 ((ts.take g).map encTp), .str s] (.i (fiI (pN ts s) g)) := by
  have h := c94 (ts.take g) s (by rw [List.length_take]; omega)
  rw [show (ts.take g).length = g by rw [List.length_take]; omega, fiI_congr (fun j hj => pN_take hj)] at h
  exact h
theorem c72t {rs : List (List UInt8)} {g : Nat} (s : List UInt8) (hl : rs.length ≤ 1000) (hg : g ≤ rs.length) : PCall Tryz.prog G0 72 [.sl 1 ((rs.take g).map encS), .str s] (.bool (decide (fiN (pS rs s) g < g))) := by
  have h := c72 (rs.take g) s (by rw [List.length_take]; omega)
  rw [show (rs.take g).length = g by rw [List.length_take]; omega, fi_congr (fun j hj => pS_take hj)] at h
  exact h
theorem c25 (r : Ru) (hl : r.ts.length ≤ 1000) (hm : r.rs.length ≤ 1000) (hn : ∀ t, t ∈ r.ts → t.n.length ≤ 1000) (hs : ∀ s, s ∈ r.rs → s.length ≤ 1000) : PCall Tryz.prog G0 25 [.agg (encRu r)] (.i (chkR r)) := by
  have key :
   PCall Tryz.prog G0 22 [AV.agg [AV.i r.a, AV.i r.b]] (AV.i (sSp r.a r.b)) ∧ PCall Tryz.prog G0 22 [AV.agg [AV.i r.c, AV.i r.d]] (AV.i (sSp r.c r.d)) ∧ PCall Tryz.prog G0 24 [AV.sl 1 [[AV.i (sSp r.a r.b)], [AV.i (sSp r.c r.d)]]]
   (AV.i (sFirst [hdI [AV.i (sSp r.a r.b)], hdI [AV.i (sSp r.c r.d)]])) ∧ ((sFirst [hdI [AV.i (sSp r.a r.b)], hdI [AV.i (sSp r.c r.d)]] != 0) = true → AV.i (sFirst [hdI [AV.i (sSp r.a r.b)], hdI [AV.i (sSp r.c r.d)]]) = AV.i (chkR r))
   ∧ ((sFirst [hdI [AV.i (sSp r.a r.b)], hdI [AV.i (sSp r.c r.d)]] != 0) = false → (∃ (g : Nat), (g ≤ 1440 ∧ ∀ (j : Nat), j < g → fM r j = (0 : Int)) ∧ AS.mk [(1, AV.elt 18 [(encRu r)] 0 0), (4, AV.i 0)] [] 1 = AS.mk [(1, AV.elt 18
   [(encRu r)] 0 0), (4, AV.i (↑g : Int))] [] 1) ∧ ∀ (g : Nat), (g ≤ 1440 ∧ ∀ (j : Nat), j < g → fM r j = (0 : Int)) → (decide ((↑g : Int) < 1440) = true → (wiR r.c r.d (↑g : Int) = true → wiR r.c r.d (↑g : Int) = true) ∧ (wiR r.c r.d
   (↑g : Int) = true → wiR r.c r.d (↑g : Int) = true) ∧ (wiR r.c r.d (↑g : Int) = true → wiR r.c r.d (↑g : Int) = true) ∧ (wiR r.c r.d (↑g : Int) = true → wiR r.c r.d (↑g : Int) = true) ∧ (wiR r.c r.d (↑g : Int) = true → wiR r.c r.d
   (↑g : Int) = true) ∧ PCall Tryz.prog G0 26 [AV.agg [AV.i r.c, AV.i r.d], AV.i (↑g : Int)] (AV.bool (wiR r.c r.d (↑g : Int))) ∧ impB (wiR r.c r.d (↑g : Int)) (PCall Tryz.prog G0 26 [AV.agg [AV.i r.a, AV.i r.b], AV.i (↑g : Int)]
   (AV.bool (wiR r.a r.b (↑g : Int)))) ∧ ((if wiR r.c r.d (↑g : Int) = true then !wiR r.a r.b (↑g : Int) else false) = true → AV.i 21 = AV.i (chkR r)) ∧ ((if wiR r.c r.d (↑g : Int) = true then !wiR r.a r.b (↑g : Int) else false) =
   false → In64 ((↑g : Int) + 1) ∧ ∃ (g' : Nat), (g' ≤ 1440 ∧ ∀ (j : Nat), j < g' → fM r j = (0 : Int)) ∧ 1440 - g' < 1440 - g ∧ AS.mk [(1, AV.elt 18 [(encRu r)] 0 0), (4, AV.i ((↑g : Int) + 1))] [] 1 = AS.mk [(1, AV.elt 18 [(encRu
   r)] 0 0), (4, AV.i (↑g' : Int))] [] 1)) ∧ (decide ((↑g : Int) < 1440) = false → (decide ((↑(List.map encTp r.ts).length : Int) > 16) = true → AV.i 5 = AV.i (chkR r)) ∧ (decide ((↑(List.map encTp r.ts).length : Int) > 16) = false →
   (∃ (g : Nat), (g ≤ r.ts.length ∧ ∀ (j : Nat), j < g → fT r j = (0 : Int)) ∧ AS.mk [(1, AV.elt 18 [(encRu r)] 0 0), (5, AV.i 0)] [] 1 = AS.mk [(1, AV.elt 18 [(encRu r)] 0 0), (5, AV.i (↑g : Int))] [] 1) ∧ ∀ (g : Nat), (g ≤
   r.ts.length ∧ ∀ (j : Nat), j < g → fT r j = (0 : Int)) → (decide ((↑g : Int) < (↑(List.map encTp r.ts).length : Int)) = true → (0 : Int) ≤ (↑g : Int) ∧ (↑g : Int) < (↑(List.map encTp r.ts).length : Int) ∧ AV.agg (nthR (List.map
   encTp r.ts) (↑g : Int).toNat) = AV.agg [AV.str (r.ts.getD (↑g : Int).toNat default).n, AV.i (r.ts.getD (↑g : Int).toNat default).c, AV.i (r.ts.getD (↑g : Int).toNat default).f] ∧ (0 : Int) ≤ 0 ∧ (0 : Int) ≤ (↑g : Int) ∧ (↑g : Int)
   ≤ (↑(List.map encTp r.ts).length : Int) ∧ PCall Tryz.prog G0 51 [AV.str (r.ts.getD (↑g : Int).toNat default).n] (AV.i (sWhen (!sName (r.ts.getD (↑g : Int).toNat default).n) (8 : Int))) ∧ PCall Tryz.prog G0 94 [AV.sl 3 (List.take
   ((↑g : Int) - 0).toNat (List.drop 0 (List.map encTp r.ts))), AV.str (r.ts.getD (↑g : Int).toNat default).n] (AV.i (fiI (pRn (List.take ((↑g : Int) - 0).toNat (List.drop (Int.toNat (0 : Int)) (List.map encTp r.ts))) (r.ts.getD (↑g :
   Int).toNat default).n) (List.take ((↑g : Int) - 0).toNat (List.drop 0 (List.map encTp r.ts))).length)) ∧ PCall Tryz.prog G0 37 [AV.bool (decide (fiI (pRn (List.take ((↑g : Int) - 0).toNat (List.drop (Int.toNat (0 : Int)) (List.map
   encTp r.ts))) (r.ts.getD (↑g : Int).toNat default).n) (List.take ((↑g : Int) - 0).toNat (List.drop (Int.toNat (0 : Int)) (List.map encTp r.ts))).length ≥ 0)), AV.i 9] (AV.i (sWhen (decide (fiI (pRn (List.take ((↑g : Int) - 0).toNat
   (List.drop (Int.toNat (0 : Int)) (List.map encTp r.ts))) (r.ts.getD (↑g : Int).toNat default).n) (List.take ((↑g : Int) - 0).toNat (List.drop (Int.toNat (0 : Int)) (List.map encTp r.ts))).length ≥ 0)) (9 : Int))) ∧ PCall Tryz.prog
   G0 23 [AV.i (r.ts.getD (↑g : Int).toNat default).c, AV.i 0, AV.i 64] (AV.i (sWithin (r.ts.getD (↑g : Int).toNat default).c (0 : Int) (64 : Int))) ∧ PCall Tryz.prog G0 23 [AV.i (r.ts.getD (↑g : Int).toNat default).f, AV.i 0, AV.i
   100000] (AV.i (sWithin (r.ts.getD (↑g : Int).toNat default).f (0 : Int) (100000 : Int))) ∧ PCall Tryz.prog G0 24 [AV.sl 1 [[AV.i (sWhen (!sName (r.ts.getD (↑g : Int).toNat default).n) (8 : Int))], [AV.i (sWhen (decide (fiI (pRn
   (List.take ((↑g : Int) - 0).toNat (List.drop (Int.toNat (0 : Int)) (List.map encTp r.ts))) (r.ts.getD (↑g : Int).toNat default).n) (List.take ((↑g : Int) - 0).toNat (List.drop (Int.toNat (0 : Int)) (List.map encTp r.ts))).length ≥
   0)) (9 : Int))], [AV.i (sWithin (r.ts.getD (↑g : Int).toNat default).c (0 : Int) (64 : Int))], [AV.i (sWithin (r.ts.getD (↑g : Int).toNat default).f (0 : Int) (100000 : Int))]]] (AV.i (sFirst [hdI [AV.i (sWhen (!sName (r.ts.getD
   (↑g : Int).toNat default).n) (8 : Int))], hdI [AV.i (sWhen (decide (fiI (pRn (List.take ((↑g : Int) - 0).toNat (List.drop (Int.toNat (0 : Int)) (List.map encTp r.ts))) (r.ts.getD (↑g : Int).toNat default).n) (List.take ((↑g : Int)
   - 0).toNat (List.drop (Int.toNat (0 : Int)) (List.map encTp r.ts))).length ≥ 0)) (9 : Int))], hdI [AV.i (sWithin (r.ts.getD (↑g : Int).toNat default).c (0 : Int) (64 : Int))], hdI [AV.i (sWithin (r.ts.getD (↑g : Int).toNat
   default).f (0 : Int) (100000 : Int))]])) ∧ ((sFirst [hdI [AV.i (sWhen (!sName (r.ts.getD (↑g : Int).toNat default).n) (8 : Int))], hdI [AV.i (sWhen (decide (fiI (pRn (List.take ((↑g : Int) - 0).toNat (List.drop (Int.toNat (0 :
   Int)) (List.map encTp r.ts))) (r.ts.getD (↑g : Int).toNat default).n) (List.take ((↑g : Int) - 0).toNat (List.drop (Int.toNat (0 : Int)) (List.map encTp r.ts))).length ≥ 0)) (9 : Int))], hdI [AV.i (sWithin (r.ts.getD (↑g :
   Int).toNat default).c (0 : Int) (64 : Int))], hdI [AV.i (sWithin (r.ts.getD (↑g : Int).toNat default).f (0 : Int) (100000 : Int))]] != 0) = true → AV.i (sFirst [hdI [AV.i (sWhen (!sName (r.ts.getD (↑g : Int).toNat default).n) (8 :
   Int))], hdI [AV.i (sWhen (decide (fiI (pRn (List.take ((↑g : Int) - 0).toNat (List.drop (Int.toNat (0 : Int)) (List.map encTp r.ts))) (r.ts.getD (↑g : Int).toNat default).n) (List.take ((↑g : Int) - 0).toNat (List.drop (Int.toNat
   (0 : Int)) (List.map encTp r.ts))).length ≥ 0)) (9 : Int))], hdI [AV.i (sWithin (r.ts.getD (↑g : Int).toNat default).c (0 : Int) (64 : Int))], hdI [AV.i (sWithin (r.ts.getD (↑g : Int).toNat default).f (0 : Int) (100000 : Int))]]) =
   AV.i (chkR r)) ∧ ((sFirst [hdI [AV.i (sWhen (!sName (r.ts.getD (↑g : Int).toNat default).n) (8 : Int))], hdI [AV.i (sWhen (decide (fiI (pRn (List.take ((↑g : Int) - 0).toNat (List.drop (Int.toNat (0 : Int)) (List.map encTp r.ts)))
   (r.ts.getD (↑g : Int).toNat default).n) (List.take ((↑g : Int) - 0).toNat (List.drop (Int.toNat (0 : Int)) (List.map encTp r.ts))).length ≥ 0)) (9 : Int))], hdI [AV.i (sWithin (r.ts.getD (↑g : Int).toNat default).c (0 : Int) (64 :
   Int))], hdI [AV.i (sWithin (r.ts.getD (↑g : Int).toNat default).f (0 : Int) (100000 : Int))]] != 0) = false → In64 ((↑g : Int) + 1) ∧ ∃ (g' : Nat), (g' ≤ r.ts.length ∧ ∀ (j : Nat), j < g' → fT r j = (0 : Int)) ∧ r.ts.length - g' <
   r.ts.length - g ∧ AS.mk [(1, AV.elt 18 [(encRu r)] 0 0), (5, AV.i ((↑g : Int) + 1))] [] 1 = AS.mk [(1, AV.elt 18 [(encRu r)] 0 0), (5, AV.i (↑g' : Int))] [] 1)) ∧ (decide ((↑g : Int) < (↑(List.map encTp r.ts).length : Int)) = false
   → PCall Tryz.prog G0 23 [AV.i r.q, AV.i 0, AV.i 100000] (AV.i (sWithin r.q (0 : Int) (100000 : Int))) ∧ PCall Tryz.prog G0 37 [AV.bool (decide ((↑(List.map encS r.rs).length : Int) > 8)), AV.i 5] (AV.i (sWhen (decide ((↑(List.map
   encS r.rs).length : Int) > 8)) (5 : Int))) ∧ PCall Tryz.prog G0 24 [AV.sl 1 [[AV.i (sWithin r.q (0 : Int) (100000 : Int))], [AV.i (sWhen (decide ((↑(List.map encS r.rs).length : Int) > 8)) (5 : Int))]]] (AV.i (sFirst [hdI [AV.i
   (sWithin r.q (0 : Int) (100000 : Int))], hdI [AV.i (sWhen (decide ((↑(List.map encS r.rs).length : Int) > 8)) (5 : Int))]])) ∧ ((sFirst [hdI [AV.i (sWithin r.q (0 : Int) (100000 : Int))], hdI [AV.i (sWhen (decide ((↑(List.map encS
   r.rs).length : Int) > 8)) (5 : Int))]] != 0) = true → AV.i (sFirst [hdI [AV.i (sWithin r.q (0 : Int) (100000 : Int))], hdI [AV.i (sWhen (decide ((↑(List.map encS r.rs).length : Int) > 8)) (5 : Int))]]) = AV.i (chkR r)) ∧ ((sFirst
   [hdI [AV.i (sWithin r.q (0 : Int) (100000 : Int))], hdI [AV.i (sWhen (decide ((↑(List.map encS r.rs).length : Int) > 8)) (5 : Int))]] != 0) = false → (∃ (g : Nat), (g ≤ r.rs.length ∧ ∀ (j : Nat), j < g → fS r j = (0 : Int)) ∧ AS.mk
   [(1, AV.elt 18 [(encRu r)] 0 0), (9, AV.i 0)] [] 1 = AS.mk [(1, AV.elt 18 [(encRu r)] 0 0), (9, AV.i (↑g : Int))] [] 1) ∧ ∀ (g : Nat), (g ≤ r.rs.length ∧ ∀ (j : Nat), j < g → fS r j = (0 : Int)) → (decide ((↑g : Int) < (↑(List.map
   encS r.rs).length : Int)) = true → (0 : Int) ≤ (↑g : Int) ∧ (↑g : Int) < (↑(List.map encS r.rs).length : Int) ∧ (0 : Int) ≤ 0 ∧ (0 : Int) ≤ (↑g : Int) ∧ (↑g : Int) ≤ (↑(List.map encS r.rs).length : Int) ∧ (0 : Int) ≤ (↑g : Int) ∧
   (↑g : Int) < (↑(List.map encS r.rs).length : Int) ∧ nth (nthR (List.map encS r.rs) (↑g : Int).toNat) 0 = AV.str (r.rs.getD (↑g : Int).toNat []) ∧ PCall Tryz.prog G0 51 [AV.str (r.rs.getD (↑g : Int).toNat [])] (AV.i (sWhen (!sName
   (r.rs.getD (↑g : Int).toNat [])) (8 : Int))) ∧ nth (nthR (List.map encS r.rs) (↑g : Int).toNat) 0 = AV.str (r.rs.getD (↑g : Int).toNat []) ∧ PCall Tryz.prog G0 72 [AV.sl 1 (List.take ((↑g : Int) - 0).toNat (List.drop 0 (List.map
   encS r.rs))), AV.str (r.rs.getD (↑g : Int).toNat [])] (AV.bool (decide (fiN (pRn (List.take ((↑g : Int) - 0).toNat (List.drop (Int.toNat (0 : Int)) (List.map encS r.rs))) (r.rs.getD (↑g : Int).toNat default)) (List.take ((↑g : Int)
   - 0).toNat (List.drop (Int.toNat (0 : Int)) (List.map encS r.rs))).length < (List.take ((↑g : Int) - 0).toNat (List.drop (Int.toNat (0 : Int)) (List.map encS r.rs))).length))) ∧ PCall Tryz.prog G0 37 [AV.bool (decide (fiN (pRn
   (List.take ((↑g : Int) - 0).toNat (List.drop (Int.toNat (0 : Int)) (List.map encS r.rs))) (r.rs.getD (↑g : Int).toNat default)) (List.take ((↑g : Int) - 0).toNat (List.drop (Int.toNat (0 : Int)) (List.map encS r.rs))).length <
   (List.take ((↑g : Int) - 0).toNat (List.drop (Int.toNat (0 : Int)) (List.map encS r.rs))).length)), AV.i 9] (AV.i (sWhen (decide (fiN (pRn (List.take ((↑g : Int) - 0).toNat (List.drop (Int.toNat (0 : Int)) (List.map encS r.rs)))
   (r.rs.getD (↑g : Int).toNat default)) (List.take ((↑g : Int) - 0).toNat (List.drop (Int.toNat (0 : Int)) (List.map encS r.rs))).length < (List.take ((↑g : Int) - 0).toNat (List.drop (Int.toNat (0 : Int)) (List.map encS
   r.rs))).length)) (9 : Int))) ∧ PCall Tryz.prog G0 24 [AV.sl 1 [[AV.i (sWhen (!sName (r.rs.getD (↑g : Int).toNat [])) (8 : Int))], [AV.i (sWhen (decide (fiN (pRn (List.take ((↑g : Int) - 0).toNat (List.drop (Int.toNat (0 : Int))
   (List.map encS r.rs))) (r.rs.getD (↑g : Int).toNat default)) (List.take ((↑g : Int) - 0).toNat (List.drop (Int.toNat (0 : Int)) (List.map encS r.rs))).length < (List.take ((↑g : Int) - 0).toNat (List.drop (Int.toNat (0 : Int))
   (List.map encS r.rs))).length)) (9 : Int))]]] (AV.i (sFirst [hdI [AV.i (sWhen (!sName (r.rs.getD (↑g : Int).toNat [])) (8 : Int))], hdI [AV.i (sWhen (decide (fiN (pRn (List.take ((↑g : Int) - 0).toNat (List.drop (Int.toNat (0 :
   Int)) (List.map encS r.rs))) (r.rs.getD (↑g : Int).toNat default)) (List.take ((↑g : Int) - 0).toNat (List.drop (Int.toNat (0 : Int)) (List.map encS r.rs))).length < (List.take ((↑g : Int) - 0).toNat (List.drop (Int.toNat (0 :
   Int)) (List.map encS r.rs))).length)) (9 : Int))]])) ∧ ((sFirst [hdI [AV.i (sWhen (!sName (r.rs.getD (↑g : Int).toNat [])) (8 : Int))], hdI [AV.i (sWhen (decide (fiN (pRn (List.take ((↑g : Int) - 0).toNat (List.drop (Int.toNat (0 :
   Int)) (List.map encS r.rs))) (r.rs.getD (↑g : Int).toNat default)) (List.take ((↑g : Int) - 0).toNat (List.drop (Int.toNat (0 : Int)) (List.map encS r.rs))).length < (List.take ((↑g : Int) - 0).toNat (List.drop (Int.toNat (0 :
   Int)) (List.map encS r.rs))).length)) (9 : Int))]] != 0) = true → AV.i (sFirst [hdI [AV.i (sWhen (!sName (r.rs.getD (↑g : Int).toNat [])) (8 : Int))], hdI [AV.i (sWhen (decide (fiN (pRn (List.take ((↑g : Int) - 0).toNat (List.drop
   (Int.toNat (0 : Int)) (List.map encS r.rs))) (r.rs.getD (↑g : Int).toNat default)) (List.take ((↑g : Int) - 0).toNat (List.drop (Int.toNat (0 : Int)) (List.map encS r.rs))).length < (List.take ((↑g : Int) - 0).toNat (List.drop
   (Int.toNat (0 : Int)) (List.map encS r.rs))).length)) (9 : Int))]]) = AV.i (chkR r)) ∧ ((sFirst [hdI [AV.i (sWhen (!sName (r.rs.getD (↑g : Int).toNat [])) (8 : Int))], hdI [AV.i (sWhen (decide (fiN (pRn (List.take ((↑g : Int) -
   0).toNat (List.drop (Int.toNat (0 : Int)) (List.map encS r.rs))) (r.rs.getD (↑g : Int).toNat default)) (List.take ((↑g : Int) - 0).toNat (List.drop (Int.toNat (0 : Int)) (List.map encS r.rs))).length < (List.take ((↑g : Int) -
   0).toNat (List.drop (Int.toNat (0 : Int)) (List.map encS r.rs))).length)) (9 : Int))]] != 0) = false → In64 ((↑g : Int) + 1) ∧ ∃ (g' : Nat), (g' ≤ r.rs.length ∧ ∀ (j : Nat), j < g' → fS r j = (0 : Int)) ∧ r.rs.length - g' <
   r.rs.length - g ∧ AS.mk [(1, AV.elt 18 [(encRu r)] 0 0), (9, AV.i ((↑g : Int) + 1))] [] 1 = AS.mk [(1, AV.elt 18 [(encRu r)] 0 0), (9, AV.i (↑g' : Int))] [] 1)) ∧ (decide ((↑g : Int) < (↑(List.map encS r.rs).length : Int)) = false
   → PCall Tryz.prog G0 23 [AV.i r.dl, AV.i 0, AV.i 60] (AV.i (sWithin r.dl (0 : Int) (60 : Int))) ∧ PCall Tryz.prog G0 23 [AV.i r.fi, AV.i 0, AV.i 100000] (AV.i (sWithin r.fi (0 : Int) (100000 : Int))) ∧ PCall Tryz.prog G0 23 [AV.i
   r.ra, AV.i 1, AV.i 60] (AV.i (sWithin r.ra (1 : Int) (60 : Int))) ∧ PCall Tryz.prog G0 24 [AV.sl 1 [[AV.i (sWithin r.dl (0 : Int) (60 : Int))], [AV.i (sWithin r.fi (0 : Int) (100000 : Int))], [AV.i (sWithin r.ra (1 : Int) (60 :
   Int))]]] (AV.i (sFirst [hdI [AV.i (sWithin r.dl (0 : Int) (60 : Int))], hdI [AV.i (sWithin r.fi (0 : Int) (100000 : Int))], hdI [AV.i (sWithin r.ra (1 : Int) (60 : Int))]])) ∧ AV.i (sFirst [hdI [AV.i (sWithin r.dl (0 : Int) (60 :
   Int))], hdI [AV.i (sWithin r.fi (0 : Int) (100000 : Int))], hdI [AV.i (sWithin r.ra (1 : Int) (60 : Int))]]) = AV.i (chkR r))))))) := by
    have hlm : (List.map encTp r.ts).length = r.ts.length := List.length_map _
    have hsm : (List.map encS r.rs).length = r.rs.length := List.length_map _
    simp only [Int.sub_zero, Int.toNat_natCast, Int.toNat_zero, List.drop_zero, ← List.map_take]
    rw [hlm, hsm]
    refine ⟨c22 _ _, c22 _ _, c24 [_, _] (by simp), fun h => ?_, fun h => ⟨⟨0, ⟨by omega, by intros; omega⟩, rfl⟩, fun g ⟨hg, ha⟩ => ⟨fun hd => ?_, fun hd => ?_⟩⟩⟩
    · have h : (e1 r != 0) = true := h
      rw [chkR, if_pos h]
      rfl
    · have h : (e1 r != 0) = false := h
      have n1 : ¬ (e1 r != 0) = true := by rw [h]; decide
      have hlt : g < 1440 := by have := of_decide_eq_true hd; omega
      refine ⟨fun h => h, fun h => h, fun h => h, fun h => h, fun h => h, c26 _ _ _, impB_iff.2 fun _ => c26 _ _ _, fun hx => ?_, fun hx => ⟨by unfold In64; omega, g + 1, ⟨hlt, fun j hj => ?_⟩, by omega, rfl⟩⟩
      · have e : fM r g = 21 := if_pos hx
        rw [chkR, if_neg n1, scan_hit hlt ha (by rw [e]; decide), e]
      · by_cases e : j = g
        · rw [e]; exact if_neg (by rw [hx]; decide)
        · exact ha j (by omega)
    · have h : (e1 r != 0) = false := h
      have n1 : ¬ (e1 r != 0) = true := by rw [h]; decide
      have e : g = 1440 := by have := of_decide_eq_false hd; omega
      subst e
      have hR : chkR r = if decide ((r.ts.length : Int) > 16) then 5 else sScan (fT r) r.ts.length (if e4 r != 0 then e4 r else sScan (fS r) r.rs.length (e6 r)) := by
        rw [chkR, if_neg n1, scan_end ha]
      rw [hR]
      refine ⟨fun h2 => ?_, fun h2 => ⟨⟨0, ⟨by omega, by intros; omega⟩, rfl⟩, fun g ⟨hg, ha⟩ => ⟨fun hd => ?_, fun hd => ?_⟩⟩⟩
      · rw [if_pos h2]
      · have hlt := lt_of_dec hd
        have n2 : ¬ decide ((r.ts.length : Int) > 16) = true := by rw [h2]; decide
        rw [fiP (Nat.le_of_lt hlt)]
        have hrow : nthR (List.map encTp r.ts) g = encTp (r.ts.getD g default) := row_at encTp hlt
        refine ⟨by omega, by omega, congrArg AV.agg hrow, by omega, by omega, by omega, c51 _ (by have := hn _ (getD_mem hlt); omega), c94t _ hl (Nat.le_of_lt hlt), c37 _ _, c23 _ _ _, c23 _ _ _, c24 [_, _, _, _] (by simp), fun hx => ?_, fun hx => ⟨by unfold In64; omega, g + 1, ⟨hlt, fun j hj => ?_⟩, by omega, rfl⟩⟩
        · have hne : fT r g ≠ 0 := bne_t hx
          refine av_int ?_
          rw [if_neg n2, scan_hit hlt ha hne]
          rfl
        · have hz : fT r g = 0 := bne_f hx
          by_cases e : j = g
          · rw [e]; exact hz
          · exact ha j (by omega)
      · have n2 : ¬ decide ((r.ts.length : Int) > 16) = true := by rw [h2]; decide
        have e := ge_of_dec hd hg
        subst e
        rw [if_neg n2, scan_end ha]
        refine ⟨c23 _ _ _, c37 _ _, c24 [_, _] (by simp), fun h3 => ?_, fun h3 => ⟨⟨0, ⟨by omega, by intros; omega⟩, rfl⟩, fun g ⟨hg, ha⟩ => ⟨fun hd => ?_, fun hd => ?_⟩⟩⟩
        · have h3 : (e4 r != 0) = true := h3
          rw [if_pos h3]
          rfl
        · have h3 : (e4 r != 0) = false := h3
          have n3 : ¬ (e4 r != 0) = true := by rw [h3]; decide
          have hlt := lt_of_dec hd
          have hrow : nthR (List.map encS r.rs) g = encS (r.rs.getD g default) := row_at encS hlt
          rw [show r.rs.getD g [] = r.rs.getD g default from rfl, fiQ (Nat.le_of_lt hlt)]
          refine ⟨by omega, by omega, by omega, by omega, by omega, by omega, by omega, by rw [hrow]; rfl, c51 _ (by have := hs _ (getD_mem hlt); omega), by rw [hrow]; rfl, c72t _ hm (Nat.le_of_lt hlt), c37 _ _, c24 [_, _] (by simp), fun hx => ?_, fun hx => ⟨by unfold In64; omega, g + 1, ⟨hlt, fun j hj => ?_⟩, by omega, rfl⟩⟩
          · have hne : fS r g ≠ 0 := bne_t hx
            refine av_int ?_
            rw [if_neg n3, scan_hit hlt ha hne]
            rfl
          · have hz : fS r g = 0 := bne_f hx
            by_cases e : j = g
            · rw [e]; exact hz
            · exact ha j (by omega)
        · have h3 : (e4 r != 0) = false := h3
          have n3 : ¬ (e4 r != 0) = true := by rw [h3]; decide
          have e := ge_of_dec hd hg
          subst e
          rw [if_neg n3, scan_end ha]
          exact ⟨c23 _ _ _, c23 _ _ _, c23 _ _ _, c24 [_, _, _] (by simp), rfl⟩
  exact c_of Tryz.f25 (fzB (mkB sp25 25 [(14, 4, rdL 3 encTp r.ts 3 true), (24, 4, rdL 1 encS r.rs 1 false), (24, 14, rdL 1 encS r.rs 1 false)] (la25 r))) (by kernel_rfl) (by kernel_rfl) (by kernel_rfl) (by kernel_rfl) key (by kernel_rfl)
theorem off_eq {a m : Int} (ha : 0 ≤ a ∧ a < 1440) (hm : 0 ≤ m ∧ m < 1440) : (m ≥ a → offM a m = m - a) ∧ (m < a → offM a m = m - a + 1440) := by
  unfold offM
  rw [Int.tmod_eq_emod_of_nonneg (by omega)]
  exact ⟨fun h => by omega, fun h => by omega⟩
theorem has_wi {a b m : Int} (ha : 0 ≤ a ∧ a < 1440) (hb : 0 ≤ b ∧ b < 1440) (hab : a ≠ b) (hm : 0 ≤ m ∧ m < 1440) : hasS a b m = wiR a b m := by
  have h1 := off_eq ha hm
  have h2 := off_eq ha hb
  unfold hasS wiR
  by_cases c1 : a < b <;> by_cases c2 : m ≥ a <;> by_cases c3 : m < b
  all_goals
    simp only [c1, c2, c3, decide_true, decide_false, if_true, if_false, Bool.false_eq_true]
    first
      | (refine decide_eq_true ?_; omega)
      | (refine decide_eq_false ?_; omega)
theorem cnt_wi {a b : Int} (ha : 0 ≤ a ∧ a < 1440) (hb : 0 ≤ b ∧ b < 1440) (hab : a ≠ b) : ∀ n : Nat, (cntN (fun m => wiR a b m) n : Int) = if a < b then (if (n : Int) < b then (n : Int) else b) - (if (n : Int) < a then (n : Int) else a) else (if (n : Int) < b then (n : Int) else b) + ((n : Int) - (if (n : Int) < a then (n : Int) else a))
  | 0 => by
    simp only [cntN]
    repeat' split
    all_goals omega
  | n + 1 => by
    have ih := cnt_wi ha hb hab n
    simp only [cntN]
    by_cases c1 : a < b <;> by_cases c2 : (n : Int) ≥ a <;> by_cases c3 : (n : Int) < b
    all_goals
      have e : wiR a b (n : Int) = if decide (a < b) then (if decide ((n : Int) ≥ a) then decide ((n : Int) < b) else false) else if decide ((n : Int) ≥ a) then true else decide ((n : Int) < b) := rfl
      simp only [c1, c2, c3, decide_true, decide_false, if_true, if_false, Bool.false_eq_true] at e ih
      simp only [e, c1, if_true, if_false, Bool.false_eq_true]
      revert ih
      repeat' split
      all_goals omega
theorem len_eq {a b : Int} (ha : 0 ≤ a ∧ a < 1440) (hb : 0 ≤ b ∧ b < 1440) (hab : a ≠ b) : offM a b = cntN (fun m => wiR a b m) 1440 := by
  have h := cnt_wi ha hb hab 1440
  have h2 := off_eq ha hb
  rw [h]
  repeat' split
  all_goals omega
theorem fi_min {p : Nat → Bool} : ∀ {n j : Nat}, j < fiN p n → p j = false
  | 0, j, h => absurd h (Nat.not_lt_zero j)
  | n + 1, j, h => by
    simp only [fiN] at h
    split at h
    · exact fi_min h
    · rename_i h1
      split at h
      · exact fi_all h1 j h
      · rename_i h2
        by_cases e : j = n
        · rw [e]; simpa using h2
        · exact fi_all h1 j (by omega)
theorem first_app (fin : Int) : ∀ l : List Int, sFirst (l ++ [fin]) = if sFirst l != 0 then sFirst l else fin
  | [] => by
    simp [sFirst]
    intro h
    exact h.symm
  | x :: l => by
    have ih := first_app fin l
    simp only [List.cons_append, sFirst]
    by_cases h : x = 0
    · subst h
      simpa using ih
    · simp [h]
theorem scan_fin (f : Nat → Int) (n : Nat) (fin : Int) : sScan f n fin = if sScan f n 0 != 0 then sScan f n 0 else fin := by
  unfold sScan
  rw [first_app0, first_app]
theorem ins_true {c d a b : Int} (hc : 0 ≤ c ∧ c < 1440) (hd : 0 ≤ d ∧ d < 1440) (hcd : c ≠ d) (ha : 0 ≤ a ∧ a < 1440) (hb : 0 ≤ b ∧ b < 1440) (hab : a ≠ b) (h : insS c d a b = true) (m : Nat) (hm : m < 1440) (hw : wiR c d m = true) : wiR a b m = true := by
  unfold insS at h
  split at h
  · rename_i h1
    simp only [Bool.and_eq_true, beq_iff_eq] at h1
    rw [← h1.1, ← h1.2]
    exact hw
  · have hmm : (0 : Int) ≤ m ∧ (m : Int) < 1440 := by omega
    rw [← has_wi hc hd hcd hmm] at hw
    have hlt : offM c m < offM c d := of_decide_eq_true hw
    have h2 := off_eq hc hmm
    have h0 : 0 ≤ offM c m := by
      by_cases c1 : (m : Int) ≥ c
      · rw [h2.1 c1]; omega
      · rw [h2.2 (by omega)]; omega
    have := List.all_eq_true.1 h (offM c m).toNat (List.mem_range.2 (by omega))
    have e : (c + ((offM c m).toNat : Int)).tmod 1440 = m := by
      rw [Int.tmod_eq_emod_of_nonneg (by omega)]
      by_cases c1 : (m : Int) ≥ c
      · have := h2.1 c1; omega
      · have := h2.2 (by omega); omega
    rw [e, has_wi ha hb hab hmm] at this
    exact this
theorem ins_false {c d a b : Int} (hc : 0 ≤ c ∧ c < 1440) (hd : 0 ≤ d ∧ d < 1440) (hcd : c ≠ d) (ha : 0 ≤ a ∧ a < 1440) (hb : 0 ≤ b ∧ b < 1440) (hab : a ≠ b) (h : insS c d a b = false) : ∃ m : Nat, m < 1440 ∧ wiR c d m = true ∧ wiR a b m = false := by
  unfold insS at h
  split at h
  · cases h
  · obtain ⟨i, hi, hx⟩ := List.all_eq_false.1 h
    have hi := List.mem_range.1 hi
    have hm := mod_b (n := c + (i : Int)) (by omega)
    have hx : hasS a b ((c + (i : Int)).tmod 1440) = false := by simpa using hx
    rw [has_wi ha hb hab hm] at hx
    have e : (((c + (i : Int)).tmod 1440).toNat : Int) = (c + (i : Int)).tmod 1440 := by omega
    refine ⟨((c + (i : Int)).tmod 1440).toNat, by omega, ?_, by rw [e]; exact hx⟩
    rw [e, ← has_wi hc hd hcd hm]
    refine decide_eq_true ?_
    have h2 := off_eq hc hm
    have h3 := off_eq hc hd
    have hlt : offM c d ≤ 1440 := by
      by_cases c1 : d ≥ c
      · rw [h3.1 c1]; omega
      · rw [h3.2 (by omega)]; omega
    rw [Int.tmod_eq_emod_of_nonneg (by omega)] at h2 ⊢
    by_cases c1 : (c + (i : Int)) % 1440 ≥ c
    · rw [h2.1 c1]; omega
    · rw [h2.2 (by omega)]; omega
theorem has_s {l : List (List UInt8)} {s : List UInt8} {i : Nat} (hi : i ≤ l.length) : hasK (knS (l.take i)) (.str s) = decide (fiN (pS l s) i < i) := by
  unfold knS
  rw [has_map (fun s => s), any_take hi]
  rfl
theorem ts_name {ts : List Tp} {i : Nat} (h : i < ts.length) : (ts.map Tp.n).getD i default = (ts.getD i default).n := by
  rw [List.getD_eq_getElem?_getD, List.getD_eq_getElem?_getD, List.getElem?_map, List.getElem?_eq_getElem h]
  rfl
theorem first3 (a b x y : Int) : sFirst [a, b, sFirst [x, y]] = sFirst [a, b, x, y] := by
  simp only [sFirst]
  by_cases h : x = 0 <;> by_cases h2 : y = 0 <;> simp [h, h2]
theorem first2 (a b : Int) : sFirst [a, b, 0] = sFirst [a, b] := by
  simp [sFirst]
theorem chkN_ts (r : Ru) : chkN (r.ts.map Tp.n) (fur r) = sScan (fT r) r.ts.length 0 := by
  unfold chkN
  rw [List.length_map]
  refine scan_same fun k hk => ?_
  unfold fNm fT fur
  rw [ts_name hk, has_s (by rw [List.length_map]; omega), fi_congr (p := pS (r.ts.map Tp.n) _) (q := pN r.ts _) (fun j hj => by unfold pS pN; rw [ts_name (by omega)]), ← fiI_dec, first3]
theorem chkN_rs (r : Ru) : (chkN r.rs fun _ => 0) = sScan (fS r) r.rs.length 0 := by
  unfold chkN
  refine scan_same fun k hk => ?_
  unfold fNm fS
  rw [has_s (by omega), first2]
theorem chk_eq (r : Ru) : chkS r = chkR r := by
  unfold chkS chkR
  by_cases n1 : (e1 r != 0) = true
  · rw [if_pos n1, if_pos n1]
  · rw [if_neg n1, if_neg n1]
    have hz : e1 r = 0 := by simpa using n1
    unfold e1 at hz
    rw [first_zero, first_zero] at hz
    have p := sp_ok hz.1
    have q := sp_ok hz.2.1
    cases hi : insS r.c r.d r.a r.b with
    | false =>
      obtain ⟨m, hm, h1, h2⟩ := ins_false q.1 q.2.1 q.2.2 p.1 p.2.1 p.2.2 hi
      have e2' : e2 r = 21 := by unfold e2; rw [hi]; rfl
      rw [e2', if_pos (by decide)]
      have hx : (fM r m != 0) = true := by unfold fM; rw [h1, h2]; rfl
      have hlt := fi_ex (p := fun m => fM r m != 0) hm hx
      have hh : (fM r (fiN (fun m => fM r m != 0) 1440) != 0) = true := fi_hit (p := fun m => fM r m != 0) hlt
      rw [scan_hit hlt (fun j hj => bne_f (fi_min (p := fun m => fM r m != 0) hj)) (bne_t hh)]
      have hne := bne_t hh
      generalize fiN (fun m => fM r m != 0) 1440 = i at hne
      unfold fM at hne ⊢
      generalize (if wiR r.c r.d (i : Int) = true then !wiR r.a r.b (i : Int) else false) = q at hne ⊢
      cases q with
      | false => exact absurd rfl hne
      | true => rfl
    | true =>
      have hM : ∀ j, j < 1440 → fM r j = 0 := fun j hj => by
        unfold fM
        cases hw : wiR r.c r.d j with
        | false => rfl
        | true => rw [ins_true q.1 q.2.1 q.2.2 p.1 p.2.1 p.2.2 hi j hj hw]; rfl
      rw [scan_end hM]
      have e2' : e2 r = sWhen (decide ((r.ts.length : Int) > 16)) 5 := by
        unfold e2
        rw [hi]
        cases decide ((r.ts.length : Int) > 16) <;> rfl
      rw [e2', chkN_ts]
      cases decide ((r.ts.length : Int) > 16) with
      | true => rfl
      | false =>
        rw [if_neg (show ¬ (sWhen false 5 != 0) = true by decide), if_neg (show ¬ (false = true) by decide), scan_fin (fT r) r.ts.length (if (e4 r != 0) = true then e4 r else sScan (fS r) r.rs.length (e6 r))]
        by_cases n2 : (sScan (fT r) r.ts.length 0 != 0) = true
        · rw [if_pos n2, if_pos n2]
        · rw [if_neg n2, if_neg n2]
          by_cases n3 : (e4 r != 0) = true
          · rw [if_pos n3, if_pos n3]
          · rw [if_neg n3, if_neg n3, scan_fin (fS r) r.rs.length (e6 r), ← chkN_rs]
            unfold e5 e6
            generalize (chkN r.rs fun _ => 0) = x
            by_cases hx : x = 0
            · subst hx; simp [sFirst]
            · simp [sFirst, hx]
end Go.Proofs.YtimgfogakgakhaaGreatDoor
namespace Go.Proofs.YtimgfogakgakhaaGreatDoor
open Go Go.Av Go.RowKit
def o1 (a b m : Int) : Int := sFirst [sSp a b, sWithin m 0 1439]
def th (r : Ru) (day m : Int) : Int := sFirst [chkR r, sWithin day 1 100000, sWithin m 0 1439]
def sp3 (r : Ru) (a b n0 n1 : Int) : Nat → List AV → Option AV
  | 16, _ => some (.bool true)
  | 17, _ => some (.bool (shR r))
  | 18, _ => some (.tup [.bool (rWi a b n1), .i (o1 a b n1)])
  | 19, _ => some (.tup [.i (rLe a b), .i (sSp a b)])
  | 20, _ => some (.tup [.i (rNi r n0 n1), .i (xNi r n0 n1)])
  | 21, _ => some (.agg (encRu r))
  | 25, _ => some (.i (chkR r))
  | 27, _ => some (.i (cntN (fun m => wiR a b m) 1440))
  | 28, _ => some (.i (niI r.a r.b n0 n1))
  | 29, _ => some (.i (chkS r))
  | n, w => spS n w
def b3 (r : Ru) (a b n0 n1 : Int) : List (Nat × AV) := [(3, .elt 18 [encRu r] 0 0), (4, .elt 2 [[.i a, .i b]] 0 0), (5, .elt 2 [[.i n0, .i n1]] 0 0), (6, .bool false)]
def w3 (r : Ru) (a b n0 n1 : Int) : List (Nat × AV) := [(7, .bool (rWi a b n1)), (8, .i (o1 a b n1)), (9, .i (rLe a b)), (10, .i (sSp a b)), (11, .i (rNi r n0 n1)), (12, .i (xNi r n0 n1)), (13, .i (sSp a b)), (14, .i (sWithin n1 0 1439)), (15, .i (o1 a b n1))]
def c76 (r : Ru) (n0 n1 : Int) : Bool := if th r n0 n1 == 0 then !wiR r.a r.b n1 else false
def m3 (r : Ru) (a b n0 n1 : Int) : List (Option (List GS × AS)) :=
  let B := b3 r a b n0 n1
  let W := w3 r a b n0 n1
  let t := th r n0 n1
  let x := xNi r n0 n1
  let V := B ++ W ++ [(16, .i x)]
  [md [] B, md [] (B ++ [(26, .bool false)]), md [] B, md [] (B ++ W.take 2), md [] (B ++ W.take 4), md [] (B ++ W.take 6), md [] (B ++ W.take 8), md [] (B ++ W ++ [(16, .i t)]),
   md [] (B ++ W ++ [(16, .i t), (76, .bool (c76 r n0 n1))]), md [] V, md [] (V ++ [(17, .bool false), (18, .i 0), (19, .i 0)]),
   md [] (V ++ [(17, .bool false), (18, .i 0), (19, .i 0), (78, .bool (o1 a b n1 == 0))]),
   md [] (V ++ [(17, .bool (rWi a b n1)), (18, .i 0), (19, .i 0)]),
   md [] (V ++ [(17, .bool (rWi a b n1)), (18, .i 0), (19, .i 0), (84, .bool (sSp a b == 0))]),
   md [] (V ++ [(17, .bool (rWi a b n1)), (18, .i (rLe a b)), (19, .i 0)]),
   md [] (V ++ [(17, .bool (rWi a b n1)), (18, .i (rLe a b)), (19, .i 0), (88, .bool (x == 0))]),
   md [] (V ++ [(17, .bool (rWi a b n1)), (18, .i (rLe a b)), (19, .i (rNi r n0 n1))])]
def f3 (r : Ru) (a b n0 n1 : Int) : List (Option (List GS × AS)) := [md [] (b3 r a b n0 n1), md [] (b3 r a b n0 n1 ++ [(26, .bool true)])]
def cl3 : Operand → Bool
  | .tmp t => t.beq 26
  | _ => false
def rds3 : List (Nat × Nat × (List AV → Option AV)) := [(17, 5, rdT), (17, 9, rdT), (17, 14, rdT), (17, 19, rdT), (17, 24, rdT), (17, 29, rdT), (17, 34, rdT)]
def B3 (r : Ru) (a b n0 n1 : Int) (l : List (Nat × Nat × (List AV → Option AV))) : BA := { noSym 1 (noSym 17 (fzB (mkB (sp3 r a b n0 n1) 3 (l ++ rds3) noLa))) with cl := cl3 }
theorem sh_of {r : Ru} (h : shR r = true) : r.ts.length ≤ 17 ∧ r.rs.length ≤ 9 ∧ (∀ t, t ∈ r.ts → t.n.length ≤ 1000) ∧ ∀ s, s ∈ r.rs → s.length ≤ 1000 := by
  unfold shR at h
  simp only [Bool.and_eq_true, List.all_eq_true, decide_eq_true_eq] at h
  obtain ⟨h1, h2, h3⟩ := h
  refine ⟨?_, ?_, fun t ht => by have := h1 t ht; omega, fun s hs => by have := h2 s hs; omega⟩
  · by_cases c : (r.ts.length : Int) ≤ 17
    · omega
    · rw [if_neg c] at h3
      cases h3
  · by_cases c : (r.ts.length : Int) ≤ 17
    · rw [if_pos c] at h3
      have := of_decide_eq_true h3
      omega
    · rw [if_neg c] at h3
      cases h3
theorem bne_beq {a : Int} (h : (a == 0) = false) : (a != 0) = true := by
  rw [bne, h]
  rfl
theorem nbne_beq {a : Int} (h : (a == 0) = true) : ¬ (a != 0) = true := by
  rw [bne, h]
  exact Bool.false_ne_true
theorem ni_sp {r : Ru} {n0 n1 : Int} (h : eNi r n0 n1 = 0) : hasS r.a r.b n1 = wiR r.a r.b n1 ∧ (1 ≤ n0 ∧ n0 ≤ 100000) := by
  unfold eNi at h
  rw [first_zero, first_zero, first_zero, within_zero, within_zero] at h
  have p := sp_ok (chkS_sp h.1)
  exact ⟨has_wi p.1 p.2.1 p.2.2 (by omega), h.2.1⟩
theorem x_seven {r : Ru} {n0 n1 : Int} (eT : th r n0 n1 = eNi r n0 n1) (h : c76 r n0 n1 = true) : xNi r n0 n1 = 7 := by
  unfold c76 at h
  rw [eT] at h
  by_cases c : (eNi r n0 n1 == 0) = true
  · rw [if_pos c] at h
    have hz : eNi r n0 n1 = 0 := by simpa using c
    rw [xNi, if_neg (nbne_beq c), (ni_sp hz).1, if_pos h]
  · rw [if_neg c] at h
    cases h
theorem x_th {r : Ru} {n0 n1 : Int} (eT : th r n0 n1 = eNi r n0 n1) (h : c76 r n0 n1 = false) : xNi r n0 n1 = th r n0 n1 := by
  unfold c76 at h
  rw [eT] at h ⊢
  by_cases c : (eNi r n0 n1 == 0) = true
  · rw [if_pos c] at h
    have hz : eNi r n0 n1 = 0 := by simpa using c
    rw [xNi, if_neg (nbne_beq c), (ni_sp hz).1, if_neg (by rw [h]; decide), hz]
  · rw [xNi, if_pos (bne_beq (Bool.eq_false_iff.2 c))]
theorem wi_good {a b m : Int} (h : (o1 a b m == 0) = true) : rWi a b m = wiR a b m := by
  have hz : o1 a b m = 0 := by simpa using h
  unfold o1 at hz h
  rw [rWi, if_neg (nbne_beq h)]
  rw [first_zero, first_zero, within_zero] at hz
  have p := sp_ok hz.1
  exact has_wi p.1 p.2.1 p.2.2 (by omega)
theorem wi_bad {a b m : Int} (h : (o1 a b m == 0) = false) : rWi a b m = false := if_pos (bne_beq h)
theorem le_good {a b : Int} (h : (sSp a b == 0) = true) : rLe a b = cntN (fun m => wiR a b m) 1440 := by
  have hz : sSp a b = 0 := by simpa using h
  have p := sp_ok hz
  rw [rLe, if_neg (nbne_beq h)]
  exact len_eq p.1 p.2.1 p.2.2
theorem le_bad {a b : Int} (h : (sSp a b == 0) = false) : rLe a b = 0 := if_pos (bne_beq h)
theorem ni_good {r : Ru} {n0 n1 : Int} (h : (xNi r n0 n1 == 0) = true) : In64 (n0 - 1) ∧ rNi r n0 n1 = niI r.a r.b n0 n1 := by
  have hz : xNi r n0 n1 = 0 := by simpa using h
  unfold xNi at hz
  unfold rNi
  by_cases c : (eNi r n0 n1 != 0) = true
  · rw [if_pos c] at hz
    rw [hz] at c
    cases c
  · have he : eNi r n0 n1 = 0 := by simpa using c
    rw [if_neg c] at hz ⊢
    by_cases d : (!hasS r.a r.b n1) = true
    · rw [if_pos d] at hz
      cases hz
    · rw [if_neg d]
      have := (ni_sp he).2
      exact ⟨by unfold In64; omega, rfl⟩
theorem ni_bad {r : Ru} {n0 n1 : Int} (h : (xNi r n0 n1 == 0) = false) : rNi r n0 n1 = 0 := by
  unfold xNi at h
  unfold rNi
  by_cases c : (eNi r n0 n1 != 0) = true
  · exact if_pos c
  · rw [if_neg c] at h ⊢
    by_cases d : (!hasS r.a r.b n1) = true
    · exact if_pos d
    · rw [if_neg d] at h
      cases h
theorem c3_0 (r : Ru) (a b n0 n1 : Int) (hA : PCall Tryz.prog G0 16 [] (.bool true)) (hl : r.ts.length ≤ maxLen) (hm : r.rs.length ≤ maxLen) (h0 : (!shR r) = true) : PCall Tryz.prog G0 3 [.agg (encRu r), .agg [.i a, .i b], .agg [.i n0, .i n1]] (.bool true) := by
  have key :
   AS.mk [(3, AV.elt 18 [(encRu r)] 0 0), (4, AV.elt 2 [[AV.i a, AV.i b]] 0 0), (5, AV.elt 2 [[AV.i n0, AV.i n1]] 0 0), (6, AV.bool false)] [] 1 = AS.mk [(3, AV.elt 18 [(encRu r)] 0 0), (4, AV.elt 2 [[AV.i a, AV.i b]] 0 0), (5, AV.elt
   2 [[AV.i n0, AV.i n1]] 0 0), (6, AV.bool false)] [] 1 ∧ (PCall Tryz.prog G0 16 [] (AV.bool true) ∧ PCall Tryz.prog G0 17 [AV.agg (encRu r)] (AV.bool (shR r)) ∧ (AV.bool !shR r) = AV.bool true ∧ AS.mk [(3, AV.elt 18 [(encRu r)] 0
   0), (4, AV.elt 2 [[AV.i a, AV.i b]] 0 0), (5, AV.elt 2 [[AV.i n0, AV.i n1]] 0 0), (6, AV.bool false), (26, AV.bool true)] [] 1 = AS.mk [(3, AV.elt 18 [(encRu r)] 0 0), (4, AV.elt 2 [[AV.i a, AV.i b]] 0 0), (5, AV.elt 2 [[AV.i n0,
   AV.i n1]] 0 0), (6, AV.bool false), (26, AV.bool true)] [] 1) ∧ PCall Tryz.prog G0 16 [] (AV.bool true) ∧ AV.bool true = AV.bool true := by
    exact ⟨rfl, ⟨hA, c17 r hl hm, congrArg AV.bool h0, rfl⟩, hA, rfl⟩
  exact c_ofG Tryz.f3 (B3 r a b n0 n1 [(1, 5, rdT)]) (f3 r a b n0 n1) (by kernel_rfl) (by kernel_rfl) (by kernel_rfl) (by kernel_rfl) key (by kernel_rfl)
theorem c3_ok (r : Ru) (a b n0 n1 : Int) (hA : PCall Tryz.prog G0 16 [] (.bool true)) (hl : r.ts.length ≤ maxLen) (hm : r.rs.length ≤ maxLen) (h0 : (!shR r) = false) : PCall Tryz.prog G0 3 [.agg (encRu r), .agg [.i a, .i b], .agg [.i n0, .i n1]] (.bool true) := by
  have key :
   AS.mk [(3, AV.elt 18 [(encRu r)] 0 0), (4, AV.elt 2 [[AV.i a, AV.i b]] 0 0), (5, AV.elt 2 [[AV.i n0, AV.i n1]] 0 0), (6, AV.bool false)] [] 1 = AS.mk [(3, AV.elt 18 [(encRu r)] 0 0), (4, AV.elt 2 [[AV.i a, AV.i b]] 0 0), (5, AV.elt
   2 [[AV.i n0, AV.i n1]] 0 0), (6, AV.bool false)] [] 1 ∧ (PCall Tryz.prog G0 16 [] (AV.bool true) ∧ PCall Tryz.prog G0 17 [AV.agg (encRu r)] (AV.bool (shR r)) ∧ (AV.bool !shR r) = AV.bool false ∧ AS.mk [(3, AV.elt 18 [(encRu r)] 0
   0), (4, AV.elt 2 [[AV.i a, AV.i b]] 0 0), (5, AV.elt 2 [[AV.i n0, AV.i n1]] 0 0), (6, AV.bool false), (26, AV.bool false)] [] 1 = AS.mk [(3, AV.elt 18 [(encRu r)] 0 0), (4, AV.elt 2 [[AV.i a, AV.i b]] 0 0), (5, AV.elt 2 [[AV.i n0,
   AV.i n1]] 0 0), (6, AV.bool false), (26, AV.bool false)] [] 1) ∧ AS.mk [(3, AV.elt 18 [(encRu r)] 0 0), (4, AV.elt 2 [[AV.i a, AV.i b]] 0 0), (5, AV.elt 2 [[AV.i n0, AV.i n1]] 0 0), (6, AV.bool false)] [] 1 = AS.mk [(3, AV.elt 18
   [(encRu r)] 0 0), (4, AV.elt 2 [[AV.i a, AV.i b]] 0 0), (5, AV.elt 2 [[AV.i n0, AV.i n1]] 0 0), (6, AV.bool false)] [] 1 ∧ ((0 : Int) ≤ 1 ∧ (1 : Int) < (↑2 : Int) ∧ PCall Tryz.prog G0 18 [AV.agg [AV.i a, AV.i b], AV.i n1] (AV.tup
   [AV.bool (rWi a b n1), AV.i (o1 a b n1)]) ∧ AS.mk [(3, AV.elt 18 [(encRu r)] 0 0), (4, AV.elt 2 [[AV.i a, AV.i b]] 0 0), (5, AV.elt 2 [[AV.i n0, AV.i n1]] 0 0), (6, AV.bool false), (7, AV.bool (rWi a b n1)), (8, AV.i (o1 a b n1))]
   [] 1 = AS.mk [(3, AV.elt 18 [(encRu r)] 0 0), (4, AV.elt 2 [[AV.i a, AV.i b]] 0 0), (5, AV.elt 2 [[AV.i n0, AV.i n1]] 0 0), (6, AV.bool false), (7, AV.bool (rWi a b n1)), (8, AV.i (o1 a b n1))] [] 1) ∧ (PCall Tryz.prog G0 19
   [AV.agg [AV.i a, AV.i b]] (AV.tup [AV.i (rLe a b), AV.i (sSp a b)]) ∧ AS.mk [(3, AV.elt 18 [(encRu r)] 0 0), (4, AV.elt 2 [[AV.i a, AV.i b]] 0 0), (5, AV.elt 2 [[AV.i n0, AV.i n1]] 0 0), (6, AV.bool false), (7, AV.bool (rWi a b
   n1)), (8, AV.i (o1 a b n1)), (9, AV.i (rLe a b)), (10, AV.i (sSp a b))] [] 1 = AS.mk [(3, AV.elt 18 [(encRu r)] 0 0), (4, AV.elt 2 [[AV.i a, AV.i b]] 0 0), (5, AV.elt 2 [[AV.i n0, AV.i n1]] 0 0), (6, AV.bool false), (7, AV.bool
   (rWi a b n1)), (8, AV.i (o1 a b n1)), (9, AV.i (rLe a b)), (10, AV.i (sSp a b))] [] 1) ∧ ((0 : Int) ≤ 0 ∧ (0 : Int) < (↑2 : Int) ∧ (0 : Int) ≤ 1 ∧ (1 : Int) < (↑2 : Int) ∧ PCall Tryz.prog G0 21 [AV.agg (encRu r)] (AV.agg (encRu r))
   ∧ PCall Tryz.prog G0 20 [AV.agg (encRu r), AV.i n0, AV.i n1] (AV.tup [AV.i (rNi r n0 n1), AV.i (xNi r n0 n1)]) ∧ AS.mk [(3, AV.elt 18 [(encRu r)] 0 0), (4, AV.elt 2 [[AV.i a, AV.i b]] 0 0), (5, AV.elt 2 [[AV.i n0, AV.i n1]] 0 0),
   (6, AV.bool false), (7, AV.bool (rWi a b n1)), (8, AV.i (o1 a b n1)), (9, AV.i (rLe a b)), (10, AV.i (sSp a b)), (11, AV.i (rNi r n0 n1)), (12, AV.i (xNi r n0 n1))] [] 1 = AS.mk [(3, AV.elt 18 [(encRu r)] 0 0), (4, AV.elt 2 [[AV.i
   a, AV.i b]] 0 0), (5, AV.elt 2 [[AV.i n0, AV.i n1]] 0 0), (6, AV.bool false), (7, AV.bool (rWi a b n1)), (8, AV.i (o1 a b n1)), (9, AV.i (rLe a b)), (10, AV.i (sSp a b)), (11, AV.i (rNi r n0 n1)), (12, AV.i (xNi r n0 n1))] [] 1) ∧
   ((0 : Int) ≤ 1 ∧ (1 : Int) < (↑2 : Int) ∧ PCall Tryz.prog G0 22 [AV.agg [AV.i a, AV.i b]] (AV.i (sSp a b)) ∧ PCall Tryz.prog G0 23 [AV.i n1, AV.i 0, AV.i 1439] (AV.i (sWithin n1 (0 : Int) (1439 : Int))) ∧ AS.mk [(3, AV.elt 18
   [(encRu r)] 0 0), (4, AV.elt 2 [[AV.i a, AV.i b]] 0 0), (5, AV.elt 2 [[AV.i n0, AV.i n1]] 0 0), (6, AV.bool false), (7, AV.bool (rWi a b n1)), (8, AV.i (o1 a b n1)), (9, AV.i (rLe a b)), (10, AV.i (sSp a b)), (11, AV.i (rNi r n0
   n1)), (12, AV.i (xNi r n0 n1)), (13, AV.i (sSp a b)), (14, AV.i (sWithin n1 (0 : Int) (1439 : Int)))] [] 1 = AS.mk [(3, AV.elt 18 [(encRu r)] 0 0), (4, AV.elt 2 [[AV.i a, AV.i b]] 0 0), (5, AV.elt 2 [[AV.i n0, AV.i n1]] 0 0), (6,
   AV.bool false), (7, AV.bool (rWi a b n1)), (8, AV.i (o1 a b n1)), (9, AV.i (rLe a b)), (10, AV.i (sSp a b)), (11, AV.i (rNi r n0 n1)), (12, AV.i (xNi r n0 n1)), (13, AV.i (sSp a b)), (14, AV.i (sWithin n1 (0 : Int) (1439 : Int)))]
   [] 1) ∧ ((0 : Int) ≤ 0 ∧ (0 : Int) < (↑2 : Int) ∧ PCall Tryz.prog G0 24 [AV.sl 1 [[AV.i (sSp a b)], [AV.i (sWithin n1 (0 : Int) (1439 : Int))]]] (AV.i (sFirst [hdI [AV.i (sSp a b)], hdI [AV.i (sWithin n1 (0 : Int) (1439 : Int))]]))
   ∧ PCall Tryz.prog G0 25 [AV.agg (encRu r)] (AV.i (chkR r)) ∧ PCall Tryz.prog G0 23 [AV.i n0, AV.i 1, AV.i 100000] (AV.i (sWithin n0 (1 : Int) (100000 : Int))) ∧ PCall Tryz.prog G0 24 [AV.sl 1 [[AV.i (chkR r)], [AV.i (sWithin n0 (1
   : Int) (100000 : Int))], [AV.i (sWithin n1 (0 : Int) (1439 : Int))]]] (AV.i (sFirst [hdI [AV.i (chkR r)], hdI [AV.i (sWithin n0 (1 : Int) (100000 : Int))], hdI [AV.i (sWithin n1 (0 : Int) (1439 : Int))]])) ∧ AS.mk [(3, AV.elt 18
   [(encRu r)] 0 0), (4, AV.elt 2 [[AV.i a, AV.i b]] 0 0), (5, AV.elt 2 [[AV.i n0, AV.i n1]] 0 0), (6, AV.bool false), (7, AV.bool (rWi a b n1)), (8, AV.i (o1 a b n1)), (9, AV.i (rLe a b)), (10, AV.i (sSp a b)), (11, AV.i (rNi r n0
   n1)), (12, AV.i (xNi r n0 n1)), (13, AV.i (sSp a b)), (14, AV.i (sWithin n1 (0 : Int) (1439 : Int))), (15, AV.i (sFirst [hdI [AV.i (sSp a b)], hdI [AV.i (sWithin n1 (0 : Int) (1439 : Int))]])), (16, AV.i (sFirst [hdI [AV.i (chkR
   r)], hdI [AV.i (sWithin n0 (1 : Int) (100000 : Int))], hdI [AV.i (sWithin n1 (0 : Int) (1439 : Int))]]))] [] 1 = AS.mk [(3, AV.elt 18 [(encRu r)] 0 0), (4, AV.elt 2 [[AV.i a, AV.i b]] 0 0), (5, AV.elt 2 [[AV.i n0, AV.i n1]] 0 0),
   (6, AV.bool false), (7, AV.bool (rWi a b n1)), (8, AV.i (o1 a b n1)), (9, AV.i (rLe a b)), (10, AV.i (sSp a b)), (11, AV.i (rNi r n0 n1)), (12, AV.i (xNi r n0 n1)), (13, AV.i (sSp a b)), (14, AV.i (sWithin n1 (0 : Int) (1439 :
   Int))), (15, AV.i (o1 a b n1)), (16, AV.i (th r n0 n1))] [] 1) ∧ (((th r n0 n1 == 0) = true → (th r n0 n1 == 0) = true) ∧ ((th r n0 n1 == 0) = true → (0 : Int) ≤ 1) ∧ ((th r n0 n1 == 0) = true → (1 : Int) < (↑2 : Int)) ∧ ((th r n0
   n1 == 0) = true → (th r n0 n1 == 0) = true) ∧ ((th r n0 n1 == 0) = true → (th r n0 n1 == 0) = true) ∧ ((th r n0 n1 == 0) = true → (th r n0 n1 == 0) = true) ∧ ((th r n0 n1 == 0) = true → (th r n0 n1 == 0) = true) ∧ ((th r n0 n1 ==
   0) = true → (th r n0 n1 == 0) = true) ∧ impB (th r n0 n1 == 0) (PCall Tryz.prog G0 26 [AV.agg [AV.i r.a, AV.i r.b], AV.i n1] (AV.bool (wiR r.a r.b n1))) ∧ AS.mk [(3, AV.elt 18 [(encRu r)] 0 0), (4, AV.elt 2 [[AV.i a, AV.i b]] 0 0),
   (5, AV.elt 2 [[AV.i n0, AV.i n1]] 0 0), (6, AV.bool false), (7, AV.bool (rWi a b n1)), (8, AV.i (o1 a b n1)), (9, AV.i (rLe a b)), (10, AV.i (sSp a b)), (11, AV.i (rNi r n0 n1)), (12, AV.i (xNi r n0 n1)), (13, AV.i (sSp a b)), (14,
   AV.i (sWithin n1 (0 : Int) (1439 : Int))), (15, AV.i (o1 a b n1)), (16, AV.i (th r n0 n1)), (76, AV.bool (if (th r n0 n1 == 0) = true then !wiR r.a r.b n1 else false))] [] 1 = AS.mk [(3, AV.elt 18 [(encRu r)] 0 0), (4, AV.elt 2
   [[AV.i a, AV.i b]] 0 0), (5, AV.elt 2 [[AV.i n0, AV.i n1]] 0 0), (6, AV.bool false), (7, AV.bool (rWi a b n1)), (8, AV.i (o1 a b n1)), (9, AV.i (rLe a b)), (10, AV.i (sSp a b)), (11, AV.i (rNi r n0 n1)), (12, AV.i (xNi r n0 n1)),
   (13, AV.i (sSp a b)), (14, AV.i (sWithin n1 (0 : Int) (1439 : Int))), (15, AV.i (o1 a b n1)), (16, AV.i (th r n0 n1)), (76, AV.bool (c76 r n0 n1))] [] 1) ∧ ((c76 r n0 n1 = true → AS.mk [(3, AV.elt 18 [(encRu r)] 0 0), (4, AV.elt 2
   [[AV.i a, AV.i b]] 0 0), (5, AV.elt 2 [[AV.i n0, AV.i n1]] 0 0), (6, AV.bool false), (7, AV.bool (rWi a b n1)), (8, AV.i (o1 a b n1)), (9, AV.i (rLe a b)), (10, AV.i (sSp a b)), (11, AV.i (rNi r n0 n1)), (12, AV.i (xNi r n0 n1)),
   (13, AV.i (sSp a b)), (14, AV.i (sWithin n1 (0 : Int) (1439 : Int))), (15, AV.i (o1 a b n1)), (16, AV.i 7)] [] 1 = AS.mk [(3, AV.elt 18 [(encRu r)] 0 0), (4, AV.elt 2 [[AV.i a, AV.i b]] 0 0), (5, AV.elt 2 [[AV.i n0, AV.i n1]] 0 0),
   (6, AV.bool false), (7, AV.bool (rWi a b n1)), (8, AV.i (o1 a b n1)), (9, AV.i (rLe a b)), (10, AV.i (sSp a b)), (11, AV.i (rNi r n0 n1)), (12, AV.i (xNi r n0 n1)), (13, AV.i (sSp a b)), (14, AV.i (sWithin n1 (0 : Int) (1439 :
   Int))), (15, AV.i (o1 a b n1)), (16, AV.i (xNi r n0 n1))] [] 1) ∧ (c76 r n0 n1 = false → AS.mk [(3, AV.elt 18 [(encRu r)] 0 0), (4, AV.elt 2 [[AV.i a, AV.i b]] 0 0), (5, AV.elt 2 [[AV.i n0, AV.i n1]] 0 0), (6, AV.bool false), (7,
   AV.bool (rWi a b n1)), (8, AV.i (o1 a b n1)), (9, AV.i (rLe a b)), (10, AV.i (sSp a b)), (11, AV.i (rNi r n0 n1)), (12, AV.i (xNi r n0 n1)), (13, AV.i (sSp a b)), (14, AV.i (sWithin n1 (0 : Int) (1439 : Int))), (15, AV.i (o1 a b
   n1)), (16, AV.i (th r n0 n1))] [] 1 = AS.mk [(3, AV.elt 18 [(encRu r)] 0 0), (4, AV.elt 2 [[AV.i a, AV.i b]] 0 0), (5, AV.elt 2 [[AV.i n0, AV.i n1]] 0 0), (6, AV.bool false), (7, AV.bool (rWi a b n1)), (8, AV.i (o1 a b n1)), (9,
   AV.i (rLe a b)), (10, AV.i (sSp a b)), (11, AV.i (rNi r n0 n1)), (12, AV.i (xNi r n0 n1)), (13, AV.i (sSp a b)), (14, AV.i (sWithin n1 (0 : Int) (1439 : Int))), (15, AV.i (o1 a b n1)), (16, AV.i (xNi r n0 n1))] [] 1)) ∧ AS.mk [(3,
   AV.elt 18 [(encRu r)] 0 0), (4, AV.elt 2 [[AV.i a, AV.i b]] 0 0), (5, AV.elt 2 [[AV.i n0, AV.i n1]] 0 0), (6, AV.bool false), (7, AV.bool (rWi a b n1)), (8, AV.i (o1 a b n1)), (9, AV.i (rLe a b)), (10, AV.i (sSp a b)), (11, AV.i
   (rNi r n0 n1)), (12, AV.i (xNi r n0 n1)), (13, AV.i (sSp a b)), (14, AV.i (sWithin n1 (0 : Int) (1439 : Int))), (15, AV.i (o1 a b n1)), (16, AV.i (xNi r n0 n1)), (17, AV.bool false), (18, AV.i 0), (19, AV.i 0)] [] 1 = AS.mk [(3,
   AV.elt 18 [(encRu r)] 0 0), (4, AV.elt 2 [[AV.i a, AV.i b]] 0 0), (5, AV.elt 2 [[AV.i n0, AV.i n1]] 0 0), (6, AV.bool false), (7, AV.bool (rWi a b n1)), (8, AV.i (o1 a b n1)), (9, AV.i (rLe a b)), (10, AV.i (sSp a b)), (11, AV.i
   (rNi r n0 n1)), (12, AV.i (xNi r n0 n1)), (13, AV.i (sSp a b)), (14, AV.i (sWithin n1 (0 : Int) (1439 : Int))), (15, AV.i (o1 a b n1)), (16, AV.i (xNi r n0 n1)), (17, AV.bool false), (18, AV.i 0), (19, AV.i 0)] [] 1 ∧ AS.mk [(3,
   AV.elt 18 [(encRu r)] 0 0), (4, AV.elt 2 [[AV.i a, AV.i b]] 0 0), (5, AV.elt 2 [[AV.i n0, AV.i n1]] 0 0), (6, AV.bool false), (7, AV.bool (rWi a b n1)), (8, AV.i (o1 a b n1)), (9, AV.i (rLe a b)), (10, AV.i (sSp a b)), (11, AV.i
   (rNi r n0 n1)), (12, AV.i (xNi r n0 n1)), (13, AV.i (sSp a b)), (14, AV.i (sWithin n1 (0 : Int) (1439 : Int))), (15, AV.i (o1 a b n1)), (16, AV.i (xNi r n0 n1)), (17, AV.bool false), (18, AV.i 0), (19, AV.i 0), (78, AV.bool (o1 a b
   n1 == 0))] [] 1 = AS.mk [(3, AV.elt 18 [(encRu r)] 0 0), (4, AV.elt 2 [[AV.i a, AV.i b]] 0 0), (5, AV.elt 2 [[AV.i n0, AV.i n1]] 0 0), (6, AV.bool false), (7, AV.bool (rWi a b n1)), (8, AV.i (o1 a b n1)), (9, AV.i (rLe a b)), (10,
   AV.i (sSp a b)), (11, AV.i (rNi r n0 n1)), (12, AV.i (xNi r n0 n1)), (13, AV.i (sSp a b)), (14, AV.i (sWithin n1 (0 : Int) (1439 : Int))), (15, AV.i (o1 a b n1)), (16, AV.i (xNi r n0 n1)), (17, AV.bool false), (18, AV.i 0), (19,
   AV.i 0), (78, AV.bool (o1 a b n1 == 0))] [] 1 ∧ (((o1 a b n1 == 0) = true → (0 : Int) ≤ 1 ∧ (1 : Int) < (↑2 : Int) ∧ PCall Tryz.prog G0 26 [AV.agg [AV.i a, AV.i b], AV.i n1] (AV.bool (wiR a b n1)) ∧ AS.mk [(3, AV.elt 18 [(encRu r)]
   0 0), (4, AV.elt 2 [[AV.i a, AV.i b]] 0 0), (5, AV.elt 2 [[AV.i n0, AV.i n1]] 0 0), (6, AV.bool false), (7, AV.bool (rWi a b n1)), (8, AV.i (o1 a b n1)), (9, AV.i (rLe a b)), (10, AV.i (sSp a b)), (11, AV.i (rNi r n0 n1)), (12,
   AV.i (xNi r n0 n1)), (13, AV.i (sSp a b)), (14, AV.i (sWithin n1 (0 : Int) (1439 : Int))), (15, AV.i (o1 a b n1)), (16, AV.i (xNi r n0 n1)), (17, AV.bool (wiR a b n1)), (18, AV.i 0), (19, AV.i 0)] [] 1 = AS.mk [(3, AV.elt 18
   [(encRu r)] 0 0), (4, AV.elt 2 [[AV.i a, AV.i b]] 0 0), (5, AV.elt 2 [[AV.i n0, AV.i n1]] 0 0), (6, AV.bool false), (7, AV.bool (rWi a b n1)), (8, AV.i (o1 a b n1)), (9, AV.i (rLe a b)), (10, AV.i (sSp a b)), (11, AV.i (rNi r n0
   n1)), (12, AV.i (xNi r n0 n1)), (13, AV.i (sSp a b)), (14, AV.i (sWithin n1 (0 : Int) (1439 : Int))), (15, AV.i (o1 a b n1)), (16, AV.i (xNi r n0 n1)), (17, AV.bool (rWi a b n1)), (18, AV.i 0), (19, AV.i 0)] [] 1) ∧ ((o1 a b n1 ==
   0) = false → AS.mk [(3, AV.elt 18 [(encRu r)] 0 0), (4, AV.elt 2 [[AV.i a, AV.i b]] 0 0), (5, AV.elt 2 [[AV.i n0, AV.i n1]] 0 0), (6, AV.bool false), (7, AV.bool (rWi a b n1)), (8, AV.i (o1 a b n1)), (9, AV.i (rLe a b)), (10, AV.i
   (sSp a b)), (11, AV.i (rNi r n0 n1)), (12, AV.i (xNi r n0 n1)), (13, AV.i (sSp a b)), (14, AV.i (sWithin n1 (0 : Int) (1439 : Int))), (15, AV.i (o1 a b n1)), (16, AV.i (xNi r n0 n1)), (17, AV.bool false), (18, AV.i 0), (19, AV.i
   0)] [] 1 = AS.mk [(3, AV.elt 18 [(encRu r)] 0 0), (4, AV.elt 2 [[AV.i a, AV.i b]] 0 0), (5, AV.elt 2 [[AV.i n0, AV.i n1]] 0 0), (6, AV.bool false), (7, AV.bool (rWi a b n1)), (8, AV.i (o1 a b n1)), (9, AV.i (rLe a b)), (10, AV.i
   (sSp a b)), (11, AV.i (rNi r n0 n1)), (12, AV.i (xNi r n0 n1)), (13, AV.i (sSp a b)), (14, AV.i (sWithin n1 (0 : Int) (1439 : Int))), (15, AV.i (o1 a b n1)), (16, AV.i (xNi r n0 n1)), (17, AV.bool (rWi a b n1)), (18, AV.i 0), (19,
   AV.i 0)] [] 1)) ∧ AS.mk [(3, AV.elt 18 [(encRu r)] 0 0), (4, AV.elt 2 [[AV.i a, AV.i b]] 0 0), (5, AV.elt 2 [[AV.i n0, AV.i n1]] 0 0), (6, AV.bool false), (7, AV.bool (rWi a b n1)), (8, AV.i (o1 a b n1)), (9, AV.i (rLe a b)), (10,
   AV.i (sSp a b)), (11, AV.i (rNi r n0 n1)), (12, AV.i (xNi r n0 n1)), (13, AV.i (sSp a b)), (14, AV.i (sWithin n1 (0 : Int) (1439 : Int))), (15, AV.i (o1 a b n1)), (16, AV.i (xNi r n0 n1)), (17, AV.bool (rWi a b n1)), (18, AV.i 0),
   (19, AV.i 0), (84, AV.bool (sSp a b == 0))] [] 1 = AS.mk [(3, AV.elt 18 [(encRu r)] 0 0), (4, AV.elt 2 [[AV.i a, AV.i b]] 0 0), (5, AV.elt 2 [[AV.i n0, AV.i n1]] 0 0), (6, AV.bool false), (7, AV.bool (rWi a b n1)), (8, AV.i (o1 a b
   n1)), (9, AV.i (rLe a b)), (10, AV.i (sSp a b)), (11, AV.i (rNi r n0 n1)), (12, AV.i (xNi r n0 n1)), (13, AV.i (sSp a b)), (14, AV.i (sWithin n1 (0 : Int) (1439 : Int))), (15, AV.i (o1 a b n1)), (16, AV.i (xNi r n0 n1)), (17,
   AV.bool (rWi a b n1)), (18, AV.i 0), (19, AV.i 0), (84, AV.bool (sSp a b == 0))] [] 1 ∧ (((sSp a b == 0) = true → PCall Tryz.prog G0 27 [AV.agg [AV.i a, AV.i b]] (AV.i (↑(cntN (fun (m : Nat) => wiR a b (↑m : Int)) 1440) : Int)) ∧
   AS.mk [(3, AV.elt 18 [(encRu r)] 0 0), (4, AV.elt 2 [[AV.i a, AV.i b]] 0 0), (5, AV.elt 2 [[AV.i n0, AV.i n1]] 0 0), (6, AV.bool false), (7, AV.bool (rWi a b n1)), (8, AV.i (o1 a b n1)), (9, AV.i (rLe a b)), (10, AV.i (sSp a b)),
   (11, AV.i (rNi r n0 n1)), (12, AV.i (xNi r n0 n1)), (13, AV.i (sSp a b)), (14, AV.i (sWithin n1 (0 : Int) (1439 : Int))), (15, AV.i (o1 a b n1)), (16, AV.i (xNi r n0 n1)), (17, AV.bool (rWi a b n1)), (18, AV.i (↑(cntN (fun (m :
   Nat) => wiR a b (↑m : Int)) 1440) : Int)), (19, AV.i 0)] [] 1 = AS.mk [(3, AV.elt 18 [(encRu r)] 0 0), (4, AV.elt 2 [[AV.i a, AV.i b]] 0 0), (5, AV.elt 2 [[AV.i n0, AV.i n1]] 0 0), (6, AV.bool false), (7, AV.bool (rWi a b n1)), (8,
   AV.i (o1 a b n1)), (9, AV.i (rLe a b)), (10, AV.i (sSp a b)), (11, AV.i (rNi r n0 n1)), (12, AV.i (xNi r n0 n1)), (13, AV.i (sSp a b)), (14, AV.i (sWithin n1 (0 : Int) (1439 : Int))), (15, AV.i (o1 a b n1)), (16, AV.i (xNi r n0
   n1)), (17, AV.bool (rWi a b n1)), (18, AV.i (rLe a b)), (19, AV.i 0)] [] 1) ∧ ((sSp a b == 0) = false → AS.mk [(3, AV.elt 18 [(encRu r)] 0 0), (4, AV.elt 2 [[AV.i a, AV.i b]] 0 0), (5, AV.elt 2 [[AV.i n0, AV.i n1]] 0 0), (6,
   AV.bool false), (7, AV.bool (rWi a b n1)), (8, AV.i (o1 a b n1)), (9, AV.i (rLe a b)), (10, AV.i (sSp a b)), (11, AV.i (rNi r n0 n1)), (12, AV.i (xNi r n0 n1)), (13, AV.i (sSp a b)), (14, AV.i (sWithin n1 (0 : Int) (1439 : Int))),
   (15, AV.i (o1 a b n1)), (16, AV.i (xNi r n0 n1)), (17, AV.bool (rWi a b n1)), (18, AV.i 0), (19, AV.i 0)] [] 1 = AS.mk [(3, AV.elt 18 [(encRu r)] 0 0), (4, AV.elt 2 [[AV.i a, AV.i b]] 0 0), (5, AV.elt 2 [[AV.i n0, AV.i n1]] 0 0),
   (6, AV.bool false), (7, AV.bool (rWi a b n1)), (8, AV.i (o1 a b n1)), (9, AV.i (rLe a b)), (10, AV.i (sSp a b)), (11, AV.i (rNi r n0 n1)), (12, AV.i (xNi r n0 n1)), (13, AV.i (sSp a b)), (14, AV.i (sWithin n1 (0 : Int) (1439 :
   Int))), (15, AV.i (o1 a b n1)), (16, AV.i (xNi r n0 n1)), (17, AV.bool (rWi a b n1)), (18, AV.i (rLe a b)), (19, AV.i 0)] [] 1)) ∧ AS.mk [(3, AV.elt 18 [(encRu r)] 0 0), (4, AV.elt 2 [[AV.i a, AV.i b]] 0 0), (5, AV.elt 2 [[AV.i n0,
   AV.i n1]] 0 0), (6, AV.bool false), (7, AV.bool (rWi a b n1)), (8, AV.i (o1 a b n1)), (9, AV.i (rLe a b)), (10, AV.i (sSp a b)), (11, AV.i (rNi r n0 n1)), (12, AV.i (xNi r n0 n1)), (13, AV.i (sSp a b)), (14, AV.i (sWithin n1 (0 :
   Int) (1439 : Int))), (15, AV.i (o1 a b n1)), (16, AV.i (xNi r n0 n1)), (17, AV.bool (rWi a b n1)), (18, AV.i (rLe a b)), (19, AV.i 0), (88, AV.bool (xNi r n0 n1 == 0))] [] 1 = AS.mk [(3, AV.elt 18 [(encRu r)] 0 0), (4, AV.elt 2
   [[AV.i a, AV.i b]] 0 0), (5, AV.elt 2 [[AV.i n0, AV.i n1]] 0 0), (6, AV.bool false), (7, AV.bool (rWi a b n1)), (8, AV.i (o1 a b n1)), (9, AV.i (rLe a b)), (10, AV.i (sSp a b)), (11, AV.i (rNi r n0 n1)), (12, AV.i (xNi r n0 n1)),
   (13, AV.i (sSp a b)), (14, AV.i (sWithin n1 (0 : Int) (1439 : Int))), (15, AV.i (o1 a b n1)), (16, AV.i (xNi r n0 n1)), (17, AV.bool (rWi a b n1)), (18, AV.i (rLe a b)), (19, AV.i 0), (88, AV.bool (xNi r n0 n1 == 0))] [] 1 ∧ (((xNi
   r n0 n1 == 0) = true → (0 : Int) ≤ 0 ∧ (0 : Int) < (↑2 : Int) ∧ (0 : Int) ≤ 1 ∧ (1 : Int) < (↑2 : Int) ∧ PCall Tryz.prog G0 28 [AV.agg (encRu r), AV.i n0, AV.i n1] (AV.i (niI r.a r.b n0 n1)) ∧ AS.mk [(3, AV.elt 18 [(encRu r)] 0 0),
   (4, AV.elt 2 [[AV.i a, AV.i b]] 0 0), (5, AV.elt 2 [[AV.i n0, AV.i n1]] 0 0), (6, AV.bool false), (7, AV.bool (rWi a b n1)), (8, AV.i (o1 a b n1)), (9, AV.i (rLe a b)), (10, AV.i (sSp a b)), (11, AV.i (rNi r n0 n1)), (12, AV.i (xNi
   r n0 n1)), (13, AV.i (sSp a b)), (14, AV.i (sWithin n1 (0 : Int) (1439 : Int))), (15, AV.i (o1 a b n1)), (16, AV.i (xNi r n0 n1)), (17, AV.bool (rWi a b n1)), (18, AV.i (rLe a b)), (19, AV.i (niI r.a r.b n0 n1))] [] 1 = AS.mk [(3,
   AV.elt 18 [(encRu r)] 0 0), (4, AV.elt 2 [[AV.i a, AV.i b]] 0 0), (5, AV.elt 2 [[AV.i n0, AV.i n1]] 0 0), (6, AV.bool false), (7, AV.bool (rWi a b n1)), (8, AV.i (o1 a b n1)), (9, AV.i (rLe a b)), (10, AV.i (sSp a b)), (11, AV.i
   (rNi r n0 n1)), (12, AV.i (xNi r n0 n1)), (13, AV.i (sSp a b)), (14, AV.i (sWithin n1 (0 : Int) (1439 : Int))), (15, AV.i (o1 a b n1)), (16, AV.i (xNi r n0 n1)), (17, AV.bool (rWi a b n1)), (18, AV.i (rLe a b)), (19, AV.i (rNi r n0
   n1))] [] 1) ∧ ((xNi r n0 n1 == 0) = false → AS.mk [(3, AV.elt 18 [(encRu r)] 0 0), (4, AV.elt 2 [[AV.i a, AV.i b]] 0 0), (5, AV.elt 2 [[AV.i n0, AV.i n1]] 0 0), (6, AV.bool false), (7, AV.bool (rWi a b n1)), (8, AV.i (o1 a b n1)),
   (9, AV.i (rLe a b)), (10, AV.i (sSp a b)), (11, AV.i (rNi r n0 n1)), (12, AV.i (xNi r n0 n1)), (13, AV.i (sSp a b)), (14, AV.i (sWithin n1 (0 : Int) (1439 : Int))), (15, AV.i (o1 a b n1)), (16, AV.i (xNi r n0 n1)), (17, AV.bool
   (rWi a b n1)), (18, AV.i (rLe a b)), (19, AV.i 0)] [] 1 = AS.mk [(3, AV.elt 18 [(encRu r)] 0 0), (4, AV.elt 2 [[AV.i a, AV.i b]] 0 0), (5, AV.elt 2 [[AV.i n0, AV.i n1]] 0 0), (6, AV.bool false), (7, AV.bool (rWi a b n1)), (8, AV.i
   (o1 a b n1)), (9, AV.i (rLe a b)), (10, AV.i (sSp a b)), (11, AV.i (rNi r n0 n1)), (12, AV.i (xNi r n0 n1)), (13, AV.i (sSp a b)), (14, AV.i (sWithin n1 (0 : Int) (1439 : Int))), (15, AV.i (o1 a b n1)), (16, AV.i (xNi r n0 n1)),
   (17, AV.bool (rWi a b n1)), (18, AV.i (rLe a b)), (19, AV.i (rNi r n0 n1))] [] 1)) ∧ PCall Tryz.prog G0 21 [AV.agg (encRu r)] (AV.agg (encRu r)) ∧ PCall Tryz.prog G0 29 [AV.agg (encRu r)] (AV.i (chkS r)) ∧ PCall Tryz.prog G0 25
   [AV.agg (encRu r)] (AV.i (chkR r)) ∧ AV.bool (chkS r == chkR r) = AV.bool true ∧ AV.bool (rWi a b n1 == rWi a b n1) = AV.bool true ∧ AV.bool (o1 a b n1 == o1 a b n1) = AV.bool true ∧ AV.bool (rLe a b == rLe a b) = AV.bool true ∧
   AV.bool (sSp a b == sSp a b) = AV.bool true ∧ AV.bool (rNi r n0 n1 == rNi r n0 n1) = AV.bool true ∧ AV.bool (xNi r n0 n1 == xNi r n0 n1) = AV.bool true ∧ AV.bool true = AV.bool true := by
    have hs : shR r = true := by simpa using h0
    obtain ⟨n1', n2', hn, hs'⟩ := sh_of hs
    have k21 := c21 r (by omega) (by omega)
    have k20 := c20 r n0 n1 (by omega) (by omega) hn hs'
    have k25 := c25 r (by omega) (by omega) hn hs'
    have k29 := c29 r (by omega) (by omega) hn hs'
    have eT : th r n0 n1 = eNi r n0 n1 := by unfold th eNi; rw [chk_eq]
    have two1 : (0 : Int) ≤ 1 ∧ (1 : Int) < ((2 : Nat) : Int) := by omega
    have two0 : (0 : Int) ≤ 0 ∧ (0 : Int) < ((2 : Nat) : Int) := by omega
    refine ⟨rfl, ⟨hA, c17 r hl hm, congrArg AV.bool h0, rfl⟩, rfl, ⟨two1.1, two1.2, c18 a b n1, rfl⟩, ⟨c19 a b, rfl⟩, ⟨two0.1, two0.2, two1.1, two1.2, k21, k20, rfl⟩, ⟨two1.1, two1.2, c22 _ _, c23 _ _ _, rfl⟩,
      ⟨two0.1, two0.2, c24 [_, _] (by simp), k25, c23 _ _ _, c24 [_, _, _] (by simp), rfl⟩,
      ⟨fun h => h, fun _ => two1.1, fun _ => two1.2, fun h => h, fun h => h, fun h => h, fun h => h, fun h => h, impB_iff.2 fun _ => c26 _ _ _, rfl⟩, ⟨fun h => ?_, fun h => ?_⟩, rfl, rfl,
      ⟨fun h => ⟨two1.1, two1.2, c26 _ _ _, ?_⟩, fun h => ?_⟩, rfl, ⟨fun h => ⟨c27 a b, ?_⟩, fun h => ?_⟩, rfl, ⟨fun h => ⟨two0.1, two0.2, two1.1, two1.2, c28 r n0 n1 ?_, ?_⟩, fun h => ?_⟩, k21, k29, k25, by rw [chk_eq, beq_self_eq_true], by rw [beq_self_eq_true], by rw [beq_self_eq_true], by rw [beq_self_eq_true], by rw [beq_self_eq_true], by rw [beq_self_eq_true], by rw [beq_self_eq_true], rfl⟩
    · rw [x_seven eT h]
    · rw [x_th eT h]
    · rw [wi_good h]
    · rw [wi_bad h]
    · rw [le_good h]
    · rw [le_bad h]
    · exact (ni_good h).1
    · rw [(ni_good h).2]
    · rw [ni_bad h]
  exact c_ofG Tryz.f3 (B3 r a b n0 n1 [(1, 5, rdF)]) (m3 r a b n0 n1) (by kernel_rfl) (by kernel_rfl) (by kernel_rfl) (by kernel_rfl) key (by kernel_rfl)
theorem c3 (r : Ru) (a b n0 n1 : Int) (hA : PCall Tryz.prog G0 16 [] (.bool true)) (hl : r.ts.length ≤ maxLen) (hm : r.rs.length ≤ maxLen) : PCall Tryz.prog G0 3 [.agg (encRu r), .agg [.i a, .i b], .agg [.i n0, .i n1]] (.bool true) := by
  cases h0 : (!shR r) with
  | true => exact c3_0 r a b n0 n1 hA hl hm h0
  | false => exact c3_ok r a b n0 n1 hA hl hm h0
end Go.Proofs.YtimgfogakgakhaaGreatDoor
namespace Go.Proofs.YtimgfogakgakhaaGreatDoor
open Go Go.Av Go.RowKit Go.ChangeShapes Go.WideShapes
theorem hA : PCall Tryz.prog G0 16 [] (.bool true) := awsc24
theorem laidOut : laidOutB Tryz.prog = true := by kernel_rfl
theorem own : ownKnob Tryz.prog.godebug = none := by kernel_rfl
def laid5 : List (String × DataW Unit) := Rows.nightSpansRow.laid
theorem globs {W : World} (h : laidMetH Tryz.prog laid5 W) : ∀ g cells, lk g G0 = some cells → GlobOK NoX W g cells := by
  rw [MakeChecks.laidMetH_plain _ _ _ (by kernel_rfl)] at h
  obtain ⟨ps, hl, _⟩ := h
  have m0 := laid_glob (T := T0) tok (n := 8) (name := "flyover/night.wrongs") (d := Rows.laid_flyover_night_wrongs) (g := 0) (t := 269) (cells := nthR (G0.map (·.2)) 0) (by kernel_rfl) (by kernel_rfl) (by kernel_rfl) (by kernel_rfl) (by kernel_rfl) (by simp [nthR, G0]) (laid := laid5) (ps := ps) (by simp [laid5, Rows.nightSpansRow]) hl
  have m2 := laid_glob (T := T0) tok (n := 8) (name := "internal/strconv.uint64pow10") (d := Rows.laid_internal_strconv_uint64pow10) (g := 2) (t := 298) (cells := nthR (G0.map (·.2)) 1) (by kernel_rfl) (by kernel_rfl) (by kernel_rfl) (by kernel_rfl) (by kernel_rfl) (by simp [nthR, G0]) (laid := laid5) (ps := ps) (by simp [laid5, Rows.nightSpansRow]) hl
  intro g cells hg
  obtain ⟨u, hu, e1⟩ := lk_mem hg
  subst e1
  simp only [G0, List.mem_cons, List.not_mem_nil, or_false, Prod.mk.injEq] at hu
  rcases hu with ⟨rfl, rfl⟩ | ⟨rfl, rfl⟩
  · exact m0
  · exact m2
theorem tp_of {n : Nat} {r : List AV} (hn : shapeT T0 n 151 = [.str, .int .i64, .int .i64]) (hp : plainT T0 n 151 = true) (h : ASh T0 n 151 r) : ∃ x : Tp, r = encTp x ∧ True := by
  have := ash_shape n 151 r hp h
  rw [hn] at this
  obtain ⟨_, _, rfl, ⟨s, rfl, _⟩, _, _, rfl, ⟨c, rfl, _⟩, _, _, rfl, ⟨f, rfl, _⟩, rfl⟩ := this
  exact ⟨⟨s, c, f⟩, rfl, trivial⟩
theorem str_of {n : Nat} {r : List AV} (hn : shapeT T0 n 9 = [.str]) (hp : plainT T0 n 9 = true) (h : ASh T0 n 9 r) : ∃ x : List UInt8, r = encS x ∧ True := by
  have := ash_shape n 9 r hp h
  rw [hn] at this
  obtain ⟨_, _, rfl, ⟨s, rfl, _⟩, rfl⟩ := this
  exact ⟨s, rfl, trivial⟩
theorem ru_arg {a : AV} (h : ASh1 T0 8 29 a) : ∃ r : Ru, a = .agg (encRu r) ∧ r.ts.length ≤ maxLen ∧ r.rs.length ≤ maxLen := by
  obtain ⟨l, rfl, h2⟩ := ash1_agg (cs := [.int .i64, .int .i64, .int .i64, .int .i64, .sl 6 151 3, .int .i64, .sl 6 9 1, .int .i64, .int .i64, .int .i64, .int .u8, .int .u8, .int .u8, .int .u8, .int .u8, .int .u8, .int .u8, .int .u8])
    (ti := ⟨(.struct [(0, 23, 2), (2, 23, 2), (4, 24, 1), (5, 3, 1), (6, 25, 1), (7, 3, 1), (8, 3, 1), (9, 3, 1), (10, 27, 8)]), 18, 120, true, [.int .i64 0, .int .i64 0, .int .i64 0, .int .i64 0, .ex (.slice none 0 0), .int .i64 0, .ex (.slice none 0 0), .int .i64 0, .int .i64 0, .int .i64 0, .int .u8 0, .int .u8 0, .int .u8 0, .int .u8 0, .int .u8 0, .int .u8 0, .int .u8 0, .int .u8 0], true⟩)
    (by kernel_rfl) rfl (by kernel_rfl) (by kernel_rfl) h
  obtain ⟨_, _, rfl, ⟨a, rfl, _⟩, _, _, rfl, ⟨b, rfl, _⟩, _, _, rfl, ⟨c, rfl, _⟩, _, _, rfl, ⟨d, rfl, _⟩, _, _, rfl, ⟨rt, rfl, hlt, hrt⟩, _, _, rfl, ⟨q, rfl, _⟩, _, _, rfl, ⟨rs, rfl, hls, hrs⟩, _, _, rfl, ⟨dl, rfl, _⟩, _, _, rfl, ⟨fi, rfl, _⟩, _, _, rfl, ⟨ra, rfl, _⟩, _, _, rfl, ⟨k0, rfl, _⟩, _, _, rfl, ⟨k1, rfl, _⟩, _, _, rfl, ⟨k2, rfl, _⟩, _, _, rfl, ⟨k3, rfl, _⟩, _, _, rfl, ⟨k4, rfl, _⟩, _, _, rfl, ⟨k5, rfl, _⟩, _, _, rfl, ⟨k6, rfl, _⟩, _, _, rfl, ⟨k7, rfl, _⟩, rfl⟩ := h2
  obtain ⟨ts, rfl, _⟩ := rows_enc (enc := encTp) (Q := fun _ => True) (fun r hm => tp_of (by kernel_rfl) (by kernel_rfl) (hrt r hm))
  obtain ⟨ws, rfl, _⟩ := rows_enc (enc := encS) (Q := fun _ => True) (fun r hm => str_of (by kernel_rfl) (by kernel_rfl) (hrs r hm))
  exact ⟨⟨a, b, c, d, ts, q, ws, dl, fi, ra, k0, k1, k2, k3, k4, k5, k6, k7⟩, rfl, by simpa using hlt, by simpa using hls⟩
end Go.Proofs.YtimgfogakgakhaaGreatDoor
namespace Go.Proofs.YtimgfogakgakhaaGreatDoor
open Go Go.Av Go.RowKit
structure Mv where
  fl : List UInt8
  al : List UInt8
  ty : List UInt8
  day : Int
  mi : Int
  deriving Inhabited
def encMv (m : Mv) : List AV := [.str m.fl, .str m.al, .str m.ty, .i m.day, .i m.mi]
structure Dt where
  m : Mv
  k : Tp
  dk : Bool
  ni : Int
  deriving Inhabited
def tpAt (ts : List Tp) (s : List UInt8) : Tp := if fiN (pN ts s) ts.length < ts.length then ts.getD (fiN (pN ts s) ts.length) default else ⟨[], 0, 0⟩
theorem c162 (t : Tp) (s : List UInt8)  : PCall Tryz.prog G0 162 [.agg (encTp t), .elt 1 [[.str s]] 0 0] (.bool (t.n == s)) := by
  have key :
   AV.bool (t.n == s) = AV.bool (t.n == s) := by
    rfl
  exact c_of Tryz.f162 (mkB spS 162 [] noLa) (by kernel_rfl) (by kernel_rfl) (by kernel_rfl) (by kernel_rfl) key (by kernel_rfl)
def sp161 : Nat → List AV → Option AV
  | 162, [.agg (.str n :: _), .elt _ [[.str s]] _ _] => some (.bool (n == s))
  | n, x => spS n x
def la161 (ts : List Tp) (s : List UInt8) : LA := {
  pre := [.keep [0, 1, 7, 8] [], .bound 1], post := [.keep [0, 1, 7, 8] [], .bound 1]
  Gh := Nat
  st := fun i => ⟨[(0, .sl 3 (ts.map encTp)), (1, .fn (.func 162) [] [.elt 1 [[.str s]] 0 0]), (7, .i ts.length), (8, .i i)], [], 1⟩
  ok := fun i => i ≤ ts.length ∧ ∀ j, j < i → pN ts s j = false
  ms := fun i => ts.length - i }
theorem c161 (ts : List Tp) (s : List UInt8) (hl : ts.length ≤ 1000) : PCall Tryz.prog G0 161 [.sl 3 (ts.map encTp), .fn (.func 162) [] [.elt 1 [[.str s]] 0 0]] (.i (fiI (pN ts s) ts.length)) := by
  have key :
   (∃ (g : Nat), (g ≤ ts.length ∧ ∀ (j : Nat), j < g → pN ts s j = false) ∧ AS.mk [(0, AV.sl 3 (List.map encTp ts)), (1, AV.fn (Fn.func 162) [] [AV.elt 1 [[AV.str s]] 0 0]), (7, AV.i (↑(List.map encTp ts).length : Int)), (8, AV.i 0)]
   [] 1 = AS.mk [(0, AV.sl 3 (List.map encTp ts)), (1, AV.fn (Fn.func 162) [] [AV.elt 1 [[AV.str s]] 0 0]), (7, AV.i (↑ts.length : Int)), (8, AV.i (↑g : Int))] [] 1) ∧ ∀ (g : Nat), (g ≤ ts.length ∧ ∀ (j : Nat), j < g → pN ts s j =
   false) → (decide ((↑g : Int) < (↑ts.length : Int)) = true → (0 : Int) ≤ (↑g : Int) ∧ (↑g : Int) < (↑(List.map encTp ts).length : Int) ∧ AV.agg (nthR (List.map encTp ts) (↑g : Int).toNat) = AV.agg [AV.str (ts.getD (↑g : Int).toNat
   default).n, AV.i (ts.getD (↑g : Int).toNat default).c, AV.i (ts.getD (↑g : Int).toNat default).f] ∧ PCall Tryz.prog G0 162 [AV.agg [AV.str (ts.getD (↑g : Int).toNat default).n, AV.i (ts.getD (↑g : Int).toNat default).c, AV.i
   (ts.getD (↑g : Int).toNat default).f], AV.elt 1 [[AV.str s]] 0 0] (AV.bool ((ts.getD (↑g : Int).toNat default).n == s)) ∧ (((ts.getD (↑g : Int).toNat default).n == s) = true → AV.i (↑g : Int) = AV.i (fiI (pN ts s) ts.length)) ∧
   (((ts.getD (↑g : Int).toNat default).n == s) = false → In64 ((↑g : Int) + 1) ∧ ∃ (g' : Nat), (g' ≤ ts.length ∧ ∀ (j : Nat), j < g' → pN ts s j = false) ∧ ts.length - g' < ts.length - g ∧ AS.mk [(0, AV.sl 3 (List.map encTp ts)), (1,
   AV.fn (Fn.func 162) [] [AV.elt 1 [[AV.str s]] 0 0]), (7, AV.i (↑ts.length : Int)), (8, AV.i ((↑g : Int) + 1))] [] 1 = AS.mk [(0, AV.sl 3 (List.map encTp ts)), (1, AV.fn (Fn.func 162) [] [AV.elt 1 [[AV.str s]] 0 0]), (7, AV.i
   (↑ts.length : Int)), (8, AV.i (↑g' : Int))] [] 1)) ∧ (decide ((↑g : Int) < (↑ts.length : Int)) = false → AV.i (-1) = AV.i (fiI (pN ts s) ts.length)) := by
    have hlm : (List.map encTp ts).length = ts.length := List.length_map _
    refine ⟨⟨0, ⟨by omega, by intros; omega⟩, by rw [hlm]; rfl⟩, fun g ⟨hg, ha⟩ => ⟨fun hd => ?_, fun hd => ?_⟩⟩
    · have hlt := lt_of_dec hd
      refine ⟨by omega, by omega, congrArg AV.agg (row_at encTp hlt), c162 (ts.getD g default) s, fun hx => ?_, fun hx => ⟨by unfold In64; omega, g + 1, ⟨hlt, fun j hj => ?_⟩, by omega, rfl⟩⟩
      · rw [fiI, fi_some ha (show pN ts s g = true from hx) hlt, if_neg (by omega)]
      · by_cases e : j = g
        · rw [e]; exact hx
        · exact ha j (by omega)
    · have e := ge_of_dec hd hg
      subst e
      rw [fiI, fi_none ha, if_pos rfl]
  exact c_of Tryz.f161 (mkB sp161 161 [(4, 4, rdL 3 encTp ts 3 true)] (fun j => if j.beq 0 then some (la161 ts s) else none)) (by kernel_rfl) (by kernel_rfl) (by kernel_rfl) (by kernel_rfl) key (by kernel_rfl)
def sp135 (ts : List Tp) : Nat → List AV → Option AV
  | 161, [_, .fn _ _ [.elt _ [[.str s]] _ _]] => some (.i (fiI (pN ts s) ts.length))
  | 135, [_, .str s] => some (.tup [.agg (encTp (tpAt ts s)), .bool (decide (fiN (pN ts s) ts.length < ts.length))])
  | n, x => spS n x
theorem c135 (r : Ru) (s : List UInt8) (hl : r.ts.length ≤ 1000) : PCall Tryz.prog G0 135 [.agg (encRu r), .str s] (.tup [.agg (encTp (tpAt r.ts s)), .bool (decide (fiN (pN r.ts s) r.ts.length < r.ts.length))]) := by
  have key :
   PCall Tryz.prog G0 161 [AV.sl 3 (List.map encTp r.ts), AV.fn (Fn.func 162) [] [AV.elt 1 [[AV.str s]] 0 0]] (AV.i (fiI (pN r.ts s) r.ts.length)) ∧ (decide (fiI (pN r.ts s) r.ts.length < 0) = true → AV.tup [AV.agg [AV.str [], AV.i 0,
   AV.i 0], AV.bool false] = AV.tup [AV.agg [AV.str (tpAt r.ts s).n, AV.i (tpAt r.ts s).c, AV.i (tpAt r.ts s).f], AV.bool (decide (fiN (pN r.ts s) r.ts.length < r.ts.length))]) ∧ (decide (fiI (pN r.ts s) r.ts.length < 0) = false → (0
   : Int) ≤ fiI (pN r.ts s) r.ts.length ∧ fiI (pN r.ts s) r.ts.length < (↑(List.map encTp r.ts).length : Int) ∧ AV.agg (nthR (List.map encTp r.ts) (fiI (pN r.ts s) r.ts.length).toNat) = AV.agg [AV.str (tpAt r.ts s).n, AV.i (tpAt r.ts
   s).c, AV.i (tpAt r.ts s).f] ∧ AV.tup [AV.agg [AV.str (tpAt r.ts s).n, AV.i (tpAt r.ts s).c, AV.i (tpAt r.ts s).f], AV.bool true] = AV.tup [AV.agg [AV.str (tpAt r.ts s).n, AV.i (tpAt r.ts s).c, AV.i (tpAt r.ts s).f], AV.bool (decide
   (fiN (pN r.ts s) r.ts.length < r.ts.length))]) := by
    have hlm : (List.map encTp r.ts).length = r.ts.length := List.length_map _
    have hle := fi_le (p := pN r.ts s) r.ts.length
    refine ⟨c161 r.ts s hl, fun h => ?_, fun h => ?_⟩
    · have h1 := of_decide_eq_true h
      have hn : ¬ fiN (pN r.ts s) r.ts.length < r.ts.length := fun hlt => by
        unfold fiI at h1
        rw [if_neg (by omega)] at h1
        omega
      rw [show tpAt r.ts s = ⟨[], 0, 0⟩ from if_neg hn, decide_eq_false hn]
    · have h1 := of_decide_eq_false h
      have hlt : fiN (pN r.ts s) r.ts.length < r.ts.length := by
        refine Classical.byContradiction fun hn => ?_
        unfold fiI at h1
        rw [if_pos (by omega)] at h1
        omega
      have hI : fiI (pN r.ts s) r.ts.length = (fiN (pN r.ts s) r.ts.length : Nat) := if_neg (by omega)
      rw [hI, show tpAt r.ts s = r.ts.getD (fiN (pN r.ts s) r.ts.length) default from if_pos hlt, decide_eq_true hlt]
      exact ⟨by omega, by omega, congrArg AV.agg (row_at encTp hlt), rfl⟩
  exact c_of Tryz.f135 (fzB (mkB (sp135 r.ts) 135 [(4, 4, fun _ => some (.agg (encTp (tpAt r.ts s))))] noLa)) (by kernel_rfl) (by kernel_rfl) (by kernel_rfl) (by kernel_rfl) key (by kernel_rfl)
theorem c114 (r : Ru) (s : List UInt8) (hl : r.ts.length ≤ 1000) : PCall Tryz.prog G0 114 [.agg (encRu r), .str s] (.i (sWhen (!decide (fiN (pN r.ts s) r.ts.length < r.ts.length)) 10)) := by
  have key :
   PCall Tryz.prog G0 135 [AV.agg (encRu r), AV.str s] (AV.tup [AV.agg [AV.str (tpAt r.ts s).n, AV.i (tpAt r.ts s).c, AV.i (tpAt r.ts s).f], AV.bool (decide (fiN (pN r.ts s) r.ts.length < r.ts.length))]) ∧ PCall Tryz.prog G0 95
   [AV.bool !decide (fiN (pN r.ts s) r.ts.length < r.ts.length), AV.i 10] (AV.i (sWhen (!decide (fiN (pN r.ts s) r.ts.length < r.ts.length)) (10 : Int))) ∧ AV.i (sWhen (!decide (fiN (pN r.ts s) r.ts.length < r.ts.length)) (10 : Int))
   = AV.i (sWhen (!decide (fiN (pN r.ts s) r.ts.length < r.ts.length)) (10 : Int)) := by
    exact ⟨c135 r s hl, c95 _ _, rfl⟩
  exact c_of Tryz.f114 (mkB (sp135 r.ts) 114 [] noLa) (by kernel_rfl) (by kernel_rfl) (by kernel_rfl) (by kernel_rfl) key (by kernel_rfl)
theorem c111 (m : Mv)  : PCall Tryz.prog G0 111 [.agg (encMv m)] (.str m.fl) := by
  have key :
   AV.str m.fl = AV.str m.fl := by
    rfl
  exact c_of Tryz.f111 (mkB spS 111 [] noLa) (by kernel_rfl) (by kernel_rfl) (by kernel_rfl) (by kernel_rfl) key (by kernel_rfl)
end Go.Proofs.YtimgfogakgakhaaGreatDoor
namespace Go.Proofs.YtimgfogakgakhaaGreatDoor
open Go Go.Av Go.RowKit Go.ChangeShapes Go.WideShapes
theorem mv_of {n : Nat} {r : List AV} (hn : shapeT T0 n 64 = [.str, .str, .str, .int .i64, .int .i64]) (hp : plainT T0 n 64 = true) (h : ASh T0 n 64 r) : ∃ x : Mv, r = encMv x ∧ True := by
  have := ash_shape n 64 r hp h
  rw [hn] at this
  obtain ⟨_, _, rfl, ⟨a, rfl, _⟩, _, _, rfl, ⟨b, rfl, _⟩, _, _, rfl, ⟨c, rfl, _⟩, _, _, rfl, ⟨d, rfl, _⟩, _, _, rfl, ⟨e, rfl, _⟩, rfl⟩ := this
  exact ⟨⟨a, b, c, d, e⟩, rfl, trivial⟩
theorem mvs_arg {a : AV} (h : ASh1 T0 8 52 a) : ∃ l : List Mv, a = .sl 5 (l.map encMv) ∧ l.length ≤ maxLen := by
  obtain ⟨rows, rfl, hl, hr⟩ := ash1_one (c := .sl 7 64 5) (ti := ⟨(.slice 64 5 64), 1, 24, false, [.ex (.slice none 0 0)], false⟩) (by kernel_rfl) rfl (by kernel_rfl) (by kernel_rfl) h
  obtain ⟨l, rfl, _⟩ := rows_enc (enc := encMv) (Q := fun _ => True) (fun r hm => mv_of (by kernel_rfl) (by kernel_rfl) (hr r hm))
  exact ⟨l, rfl, by simpa using hl⟩
end Go.Proofs.YtimgfogakgakhaaGreatDoor
namespace Go.Proofs.YtimgfogakgakhaaGreatDoor
open Go Go.Av Go.RowKit
def pM (l : List Mv) (s : List UInt8) (i : Nat) : Bool := (l.getD i default).fl == s
def la109 (l : List Mv) (s : List UInt8) : LA := {
  pre := [.keep [0, 1, 5] [], .bound 1], post := [.keep [0, 1, 5] [], .bound 1]
  Gh := Nat
  st := fun i => ⟨[(0, .sl 5 (l.map encMv)), (1, .str s), (5, .i i)], [], 1⟩
  ok := fun i => i ≤ l.length ∧ ∀ j, j < i → pM l s j = false
  ms := fun i => l.length - i }
theorem c109 (l : List Mv) (s : List UInt8) (hl : l.length ≤ 1000) : PCall Tryz.prog G0 109 [.sl 5 (l.map encMv), .str s] (.i (fiI (pM l s) l.length)) := by
  have key :
   (∃ (g : Nat), (g ≤ l.length ∧ ∀ (j : Nat), j < g → pM l s j = false) ∧ AS.mk [(0, AV.sl 5 (List.map encMv l)), (1, AV.str s), (5, AV.i 0)] [] 1 = AS.mk [(0, AV.sl 5 (List.map encMv l)), (1, AV.str s), (5, AV.i (↑g : Int))] [] 1) ∧
   ∀ (g : Nat), (g ≤ l.length ∧ ∀ (j : Nat), j < g → pM l s j = false) → (decide ((↑g : Int) < (↑(List.map encMv l).length : Int)) = true → (0 : Int) ≤ (↑g : Int) ∧ (↑g : Int) < (↑(List.map encMv l).length : Int) ∧ nth (nthR (List.map
   encMv l) (↑g : Int).toNat) 0 = AV.str (l.getD (↑g : Int).toNat default).fl ∧ (((l.getD (↑g : Int).toNat default).fl == s) = true → AV.i (↑g : Int) = AV.i (fiI (pM l s) l.length)) ∧ (((l.getD (↑g : Int).toNat default).fl == s) =
   false → In64 ((↑g : Int) + 1) ∧ ∃ (g' : Nat), (g' ≤ l.length ∧ ∀ (j : Nat), j < g' → pM l s j = false) ∧ l.length - g' < l.length - g ∧ AS.mk [(0, AV.sl 5 (List.map encMv l)), (1, AV.str s), (5, AV.i ((↑g : Int) + 1))] [] 1 = AS.mk
   [(0, AV.sl 5 (List.map encMv l)), (1, AV.str s), (5, AV.i (↑g' : Int))] [] 1)) ∧ (decide ((↑g : Int) < (↑(List.map encMv l).length : Int)) = false → AV.i (-1) = AV.i (fiI (pM l s) l.length)) := by
    have hlm : (List.map encMv l).length = l.length := List.length_map _
    refine ⟨⟨0, ⟨by omega, by intros; omega⟩, rfl⟩, fun g ⟨hg, ha⟩ => ⟨fun hd => ?_, fun hd => ?_⟩⟩
    · rw [hlm] at hd
      have hlt := lt_of_dec hd
      refine ⟨by omega, by omega, by rw [show nthR (List.map encMv l) ((g : Int)).toNat = encMv (l.getD g default) from row_at encMv hlt]; rfl, fun hx => ?_, fun hx => ⟨by unfold In64; omega, g + 1, ⟨hlt, fun j hj => ?_⟩, by omega, rfl⟩⟩
      · rw [fiI, fi_some ha (show pM l s g = true from hx) hlt, if_neg (by omega)]
      · by_cases e : j = g
        · rw [e]; exact hx
        · exact ha j (by omega)
    · rw [hlm] at hd
      have e := ge_of_dec hd hg
      subst e
      rw [fiI, fi_none ha, if_pos rfl]
  exact c_of Tryz.f109 (mkB spS 109 [(4, 4, rdN fun i => (l.getD i default).fl)] (fun j => if j.beq 0 then some (la109 l s) else none)) (by kernel_rfl) (by kernel_rfl) (by kernel_rfl) (by kernel_rfl) key (by kernel_rfl)
def sp110 : Nat → List AV → Option AV
  | 111, [.agg (.str n :: _)] => some (.str n)
  | n, x => spS n x
def la110 (l : List Mv) : LA := {
  pre := [.own 5 9 1, .reno 5 1, .keep [1, 5, 8, 9, 10] [1], .bound 2], post := [.reno 5 1, .keep [1, 5, 8, 9, 10] [1], .bound 2]
  Gh := Nat
  st := fun i => ⟨[(1, .fn (.func 111) [] []), (5, .own 1 (((l.take i).map Mv.fl).map encS).length), (8, .sl 5 (l.map encMv)), (9, .i (l.map encMv).length), (10, .i i)], [(1, .buf 9 1 (((l.take i).map Mv.fl).map encS))], 2⟩
  ok := fun i => i ≤ (l.map encMv).length
  ms := fun i => (l.map encMv).length - i }
theorem c110 (l : List Mv) (hl : l.length ≤ 1000) : PCall Tryz.prog G0 110 [.sl 5 (l.map encMv), .fn (.func 111) [] []] (.fresh 9 1 ((l.map Mv.fl).map encS)) := by
  have key :
   (∃ (g : Nat), g ≤ (List.map encMv l).length ∧ AS.mk [(1, AV.fn (Fn.func 111) [] []), (5, AV.own 1 0), (8, AV.sl 5 (List.map encMv l)), (9, AV.i (↑(List.map encMv l).length : Int)), (10, AV.i 0)] [(1, ABlk.buf 9 1 [])] 2 = AS.mk
   [(1, AV.fn (Fn.func 111) [] []), (5, AV.own 1 (List.map encS (List.map Mv.fl (List.take g l))).length), (8, AV.sl 5 (List.map encMv l)), (9, AV.i (↑(List.map encMv l).length : Int)), (10, AV.i (↑g : Int))] [(1, ABlk.buf 9 1
   (List.map encS (List.map Mv.fl (List.take g l))))] 2) ∧ ∀ (g : Nat), g ≤ (List.map encMv l).length → (decide ((↑g : Int) < (↑(List.map encMv l).length : Int)) = true → (0 : Int) ≤ (↑g : Int) ∧ (↑g : Int) < (↑(List.map encMv
   l).length : Int) ∧ AV.agg (nthR (List.map encMv l) (↑g : Int).toNat) = AV.agg (encMv (l.getD (↑g : Int).toNat default)) ∧ (List.map encS (List.map Mv.fl (List.take g l))).length + 1 ≤ 9223372036854775807 ∧ ((List.map encS (List.map
   Mv.fl (List.take g l))).length + 1) * 16 ≤ 140737488355328 ∧ PCall Tryz.prog G0 111 [AV.agg (encMv (l.getD (↑g : Int).toNat default))] (AV.str (l.getD (↑g : Int).toNat default).fl) ∧ In64 ((↑g : Int) + 1) ∧ ∃ (g' : Nat), g' ≤
   (List.map encMv l).length ∧ (List.map encMv l).length - g' < (List.map encMv l).length - g ∧ AS.mk [(1, AV.fn (Fn.func 111) [] []), (5, AV.own 1 ((List.map encS (List.map Mv.fl (List.take g l))).length + 1)), (8, AV.sl 5 (List.map
   encMv l)), (9, AV.i (↑(List.map encMv l).length : Int)), (10, AV.i ((↑g : Int) + 1))] [(1, ABlk.buf 9 1 (List.map encS (List.map Mv.fl (List.take g l)) ++ [[AV.str (l.getD (↑g : Int).toNat default).fl]]))] 2 = AS.mk [(1, AV.fn
   (Fn.func 111) [] []), (5, AV.own 1 (List.map encS (List.map Mv.fl (List.take g' l))).length), (8, AV.sl 5 (List.map encMv l)), (9, AV.i (↑(List.map encMv l).length : Int)), (10, AV.i (↑g' : Int))] [(1, ABlk.buf 9 1 (List.map encS
   (List.map Mv.fl (List.take g' l))))] 2) ∧ (decide ((↑g : Int) < (↑(List.map encMv l).length : Int)) = false → AV.fresh 9 1 (List.map encS (List.map Mv.fl (List.take g l))) = AV.fresh 9 1 (List.map encS (List.map Mv.fl l))) := by
    have hlm : (List.map encMv l).length = l.length := List.length_map _
    refine ⟨⟨0, by omega, rfl⟩, fun g hg => ⟨fun hd => ?_, fun hd => ?_⟩⟩
    · rw [hlm] at hd
      have hlt := lt_of_dec hd
      have h2 := take_succ_map encS Mv.fl hlt
      have h7 : (List.map encS (List.map Mv.fl (List.take g l))).length = g := by rw [List.length_map, List.length_map, List.length_take]; omega
      have h8 : (List.map encS (List.map Mv.fl (List.take (g + 1) l))).length = g + 1 := by rw [List.length_map, List.length_map, List.length_take]; omega
      refine ⟨by omega, by omega, congrArg AV.agg (row_at encMv hlt), by omega, by omega, c111 (l.getD g default), by unfold In64; omega, g + 1, by omega, by omega, ?_⟩
      rw [h8, ← h2, h7]
      rfl
    · rw [ge_of_dec hd hg, hlm, List.take_length]
  exact c_of Tryz.f110 (fzB (mkB sp110 110 [(4, 1, rdL 5 encMv l 5 true)] (fun i => if i.beq 0 then some (la110 l) else none))) (by kernel_rfl) (by kernel_rfl) (by kernel_rfl) (by kernel_rfl) key (by kernel_rfl)
def fuM (r : Ru) (l : List Mv) (i : Nat) : Int := sFirst [sWhen (!sName (l.getD i default).al) 8, sWhen (!decide (fiN (pN r.ts (l.getD i default).ty) r.ts.length < r.ts.length)) 10, sWithin (l.getD i default).day 1 100000, sWithin (l.getD i default).mi 0 1439]
def sp112 (ts : List Tp) : Nat → List AV → Option AV
  | 114, [_, .str s] => some (.i (sWhen (!decide (fiN (pN ts s) ts.length < ts.length)) 10))
  | n, x => spS n x
theorem c112 (r : Ru) (l : List Mv) (i : Nat) (hl : r.ts.length ≤ 1000) (hi : i < l.length) (hA : (l.getD i default).al.length ≤ 1000) : PCall Tryz.prog G0 112 [.i i, .elt 1 [[.sl 5 (l.map encMv)]] 0 0, .elt 18 [encRu r] 0 0] (.i (fuM r l i)) := by
  have key :
   (0 : Int) ≤ (↑i : Int) ∧ (↑i : Int) < (↑(List.map encMv l).length : Int) ∧ AV.agg (nthR (List.map encMv l) (↑i : Int).toNat) = AV.agg (encMv (l.getD (↑i : Int).toNat default)) ∧ PCall Tryz.prog G0 113 [AV.str (l.getD (↑i :
   Int).toNat default).al] (AV.i (sWhen (!sName (l.getD (↑i : Int).toNat default).al) (8 : Int))) ∧ PCall Tryz.prog G0 114 [AV.agg (encRu r), AV.str (l.getD (↑i : Int).toNat default).ty] (AV.i (sWhen (!decide (fiN (pN r.ts (l.getD (↑i
   : Int).toNat default).ty) r.ts.length < r.ts.length)) (10 : Int))) ∧ PCall Tryz.prog G0 92 [AV.i (l.getD (↑i : Int).toNat default).day, AV.i 1, AV.i 100000] (AV.i (sWithin (l.getD (↑i : Int).toNat default).day (1 : Int) (100000 :
   Int))) ∧ PCall Tryz.prog G0 89 [AV.i (l.getD (↑i : Int).toNat default).mi] (AV.i (sWithin (l.getD (↑i : Int).toNat default).mi (0 : Int) (1439 : Int))) ∧ PCall Tryz.prog G0 87 [AV.sl 1 [[AV.i (sWhen (!sName (l.getD (↑i : Int).toNat
   default).al) (8 : Int))], [AV.i (sWhen (!decide (fiN (pN r.ts (l.getD (↑i : Int).toNat default).ty) r.ts.length < r.ts.length)) (10 : Int))], [AV.i (sWithin (l.getD (↑i : Int).toNat default).day (1 : Int) (100000 : Int))], [AV.i
   (sWithin (l.getD (↑i : Int).toNat default).mi (0 : Int) (1439 : Int))]]] (AV.i (sFirst [hdI [AV.i (sWhen (!sName (l.getD (↑i : Int).toNat default).al) (8 : Int))], hdI [AV.i (sWhen (!decide (fiN (pN r.ts (l.getD (↑i : Int).toNat
   default).ty) r.ts.length < r.ts.length)) (10 : Int))], hdI [AV.i (sWithin (l.getD (↑i : Int).toNat default).day (1 : Int) (100000 : Int))], hdI [AV.i (sWithin (l.getD (↑i : Int).toNat default).mi (0 : Int) (1439 : Int))]])) ∧ AV.i
   (sFirst [hdI [AV.i (sWhen (!sName (l.getD (↑i : Int).toNat default).al) (8 : Int))], hdI [AV.i (sWhen (!decide (fiN (pN r.ts (l.getD (↑i : Int).toNat default).ty) r.ts.length < r.ts.length)) (10 : Int))], hdI [AV.i (sWithin (l.getD
   (↑i : Int).toNat default).day (1 : Int) (100000 : Int))], hdI [AV.i (sWithin (l.getD (↑i : Int).toNat default).mi (0 : Int) (1439 : Int))]]) = AV.i (fuM r l i) := by
    have hlm : (List.map encMv l).length = l.length := List.length_map _
    simp only [Int.toNat_natCast]
    exact ⟨by omega, by omega, congrArg AV.agg (row_at encMv hi), c113 _ (by omega), c114 r _ hl, c92 _ _ _, c89 _, c87 [_, _, _, _] (by simp), rfl⟩
  exact c_of Tryz.f112 (fzB (mkB (sp112 r.ts) 112 [(1, 3, rdL 5 encMv l 5 true)] noLa)) (by kernel_rfl) (by kernel_rfl) (by kernel_rfl) (by kernel_rfl) key (by kernel_rfl)
def F112 (r : Ru) (l : List Mv) : AV := .fn (.func 112) [] [.elt 1 [[.sl 5 (l.map encMv)]] 0 0, .elt 18 [encRu r] 0 0]
def sp99c (g : Nat → Int) : Nat → List AV → Option AV
  | 112, (.int _ i :: _) => some (.i (g i.toNat))
  | n, x => spS n x
theorem c99c (r : Ru) (l : List Mv) (hr : r.ts.length ≤ 1000) (hl : l.length ≤ 1000) (hn : ∀ m, m ∈ l → m.fl.length ≤ 1000 ∧ m.al.length ≤ 1000) : PCall Tryz.prog G0 99 [.sl 1 ((l.map Mv.fl).map encS), F112 r l] (.i (chkN (l.map Mv.fl) (fuM r l))) := by
  have key :
   (∃ (g : Nat), (g ≤ (List.map Mv.fl l).length ∧ ∀ (j : Nat), j < g → fNm (List.map Mv.fl l) (fuM r l) j = (0 : Int)) ∧ AS.mk [(1, AV.fn (Fn.func 112) [] [AV.elt 1 [[AV.sl 5 (List.map encMv l)]] 0 0, AV.elt 18 [(encRu r)] 0 0]), (5,
   AV.ref 2), (10, AV.sl 1 (List.map encS (List.map Mv.fl l))), (11, AV.i (↑(List.map encS (List.map Mv.fl l)).length : Int)), (12, AV.i 0)] [(2, ABlk.map [])] 3 = AS.mk [(1, AV.fn (Fn.func 112) [] [AV.elt 1 [[AV.sl 5 (List.map encMv
   l)]] 0 0, AV.elt 18 [(encRu r)] 0 0]), (5, AV.ref 2), (10, AV.sl 1 (List.map encS (List.map Mv.fl l))), (11, AV.i (↑(List.map encS (List.map Mv.fl l)).length : Int)), (12, AV.i (↑g : Int))] [(2, ABlk.map (knS (List.take g (List.map
   Mv.fl l))))] 3) ∧ ∀ (g : Nat), (g ≤ (List.map Mv.fl l).length ∧ ∀ (j : Nat), j < g → fNm (List.map Mv.fl l) (fuM r l) j = (0 : Int)) → (decide ((↑g : Int) < (↑(List.map encS (List.map Mv.fl l)).length : Int)) = true → (0 : Int) ≤
   (↑g : Int) ∧ (↑g : Int) < (↑(List.map encS (List.map Mv.fl l)).length : Int) ∧ nth (nthR (List.map encS (List.map Mv.fl l)) (↑g : Int).toNat) 0 = AV.str ((List.map Mv.fl l).getD (↑g : Int).toNat []) ∧ (mlook (AV.str ((List.map
   Mv.fl l).getD (↑g : Int).toNat [])) (knS (List.take g (List.map Mv.fl l)))).isSome = true ∧ PCall Tryz.prog G0 113 [AV.str ((List.map Mv.fl l).getD (↑g : Int).toNat [])] (AV.i (sWhen (!sName ((List.map Mv.fl l).getD (↑g :
   Int).toNat [])) (8 : Int))) ∧ lookV false (AV.bool false) (mlook (AV.str ((List.map Mv.fl l).getD (↑g : Int).toNat [])) (knS (List.take g (List.map Mv.fl l)))) = AV.bool (hasK (knS (List.take g (List.map Mv.fl l))) (AV.str
   ((List.map Mv.fl l).getD (↑g : Int).toNat []))) ∧ PCall Tryz.prog G0 95 [AV.bool (hasK (knS (List.take g (List.map Mv.fl l))) (AV.str ((List.map Mv.fl l).getD (↑g : Int).toNat []))), AV.i 9] (AV.i (sWhen (hasK (knS (List.take g
   (List.map Mv.fl l))) (AV.str ((List.map Mv.fl l).getD (↑g : Int).toNat []))) (9 : Int))) ∧ PCall Tryz.prog G0 112 [AV.i (↑g : Int), AV.elt 1 [[AV.sl 5 (List.map encMv l)]] 0 0, AV.elt 18 [(encRu r)] 0 0] (AV.i (fuM r l (↑g :
   Int).toNat)) ∧ PCall Tryz.prog G0 87 [AV.sl 1 [[AV.i (sWhen (!sName ((List.map Mv.fl l).getD (↑g : Int).toNat [])) (8 : Int))], [AV.i (sWhen (hasK (knS (List.take g (List.map Mv.fl l))) (AV.str ((List.map Mv.fl l).getD (↑g :
   Int).toNat []))) (9 : Int))], [AV.i (fuM r l (↑g : Int).toNat)]]] (AV.i (sFirst [hdI [AV.i (sWhen (!sName ((List.map Mv.fl l).getD (↑g : Int).toNat [])) (8 : Int))], hdI [AV.i (sWhen (hasK (knS (List.take g (List.map Mv.fl l)))
   (AV.str ((List.map Mv.fl l).getD (↑g : Int).toNat []))) (9 : Int))], hdI [AV.i (fuM r l (↑g : Int).toNat)]])) ∧ ((sFirst [hdI [AV.i (sWhen (!sName ((List.map Mv.fl l).getD (↑g : Int).toNat [])) (8 : Int))], hdI [AV.i (sWhen (hasK
   (knS (List.take g (List.map Mv.fl l))) (AV.str ((List.map Mv.fl l).getD (↑g : Int).toNat []))) (9 : Int))], hdI [AV.i (fuM r l (↑g : Int).toNat)]] != 0) = true → AV.i (sFirst [hdI [AV.i (sWhen (!sName ((List.map Mv.fl l).getD (↑g :
   Int).toNat [])) (8 : Int))], hdI [AV.i (sWhen (hasK (knS (List.take g (List.map Mv.fl l))) (AV.str ((List.map Mv.fl l).getD (↑g : Int).toNat []))) (9 : Int))], hdI [AV.i (fuM r l (↑g : Int).toNat)]]) = AV.i (chkN (List.map Mv.fl l)
   (fuM r l))) ∧ ((sFirst [hdI [AV.i (sWhen (!sName ((List.map Mv.fl l).getD (↑g : Int).toNat [])) (8 : Int))], hdI [AV.i (sWhen (hasK (knS (List.take g (List.map Mv.fl l))) (AV.str ((List.map Mv.fl l).getD (↑g : Int).toNat []))) (9 :
   Int))], hdI [AV.i (fuM r l (↑g : Int).toNat)]] != 0) = false → (mput (AV.str ((List.map Mv.fl l).getD (↑g : Int).toNat [])) (AV.bool true) (knS (List.take g (List.map Mv.fl l)))).isSome = true ∧ In64 ((↑g : Int) + 1) ∧ ∃ (g' :
   Nat), (g' ≤ (List.map Mv.fl l).length ∧ ∀ (j : Nat), j < g' → fNm (List.map Mv.fl l) (fuM r l) j = (0 : Int)) ∧ (List.map Mv.fl l).length - g' < (List.map Mv.fl l).length - g ∧ AS.mk [(1, AV.fn (Fn.func 112) [] [AV.elt 1 [[AV.sl 5
   (List.map encMv l)]] 0 0, AV.elt 18 [(encRu r)] 0 0]), (5, AV.ref 2), (10, AV.sl 1 (List.map encS (List.map Mv.fl l))), (11, AV.i (↑(List.map encS (List.map Mv.fl l)).length : Int)), (12, AV.i ((↑g : Int) + 1))] [(2, ABlk.map
   ((mput (AV.str ((List.map Mv.fl l).getD (↑g : Int).toNat [])) (AV.bool true) (knS (List.take g (List.map Mv.fl l)))).getD []))] 3 = AS.mk [(1, AV.fn (Fn.func 112) [] [AV.elt 1 [[AV.sl 5 (List.map encMv l)]] 0 0, AV.elt 18 [(encRu
   r)] 0 0]), (5, AV.ref 2), (10, AV.sl 1 (List.map encS (List.map Mv.fl l))), (11, AV.i (↑(List.map encS (List.map Mv.fl l)).length : Int)), (12, AV.i (↑g' : Int))] [(2, ABlk.map (knS (List.take g' (List.map Mv.fl l))))] 3)) ∧
   (decide ((↑g : Int) < (↑(List.map encS (List.map Mv.fl l)).length : Int)) = false → AV.i 0 = AV.i (chkN (List.map Mv.fl l) (fuM r l))) := by
    have hlm : (List.map encS (List.map Mv.fl l)).length = (List.map Mv.fl l).length := List.length_map _
    have hlr : (List.map Mv.fl l).length ≤ 1000 := by rw [List.length_map]; exact hl
    have hnr : ∀ s, s ∈ (List.map Mv.fl l) → s.length ≤ 1000 := fun s hs => by obtain ⟨m, hm, rfl⟩ := List.mem_map.1 hs; exact (hn m hm).1
    refine ⟨⟨0, ⟨by omega, by intros; omega⟩, rfl⟩, fun g ⟨hg, ha⟩ => ⟨fun hd => ?_, fun hd => ?_⟩⟩
    · rw [hlm] at hd
      have hlt := lt_of_dec hd
      have hput : fNm (List.map Mv.fl l) (fuM r l) g = 0 → mput (.str ((List.map Mv.fl l).getD g default)) (.bool true) (knS ((List.map Mv.fl l).take g)) = some (knS ((List.map Mv.fl l).take (g + 1))) := fun hz => by
        unfold fNm at hz
        rw [first_zero, first_zero] at hz
        exact put_nm hlt (when_z (by decide) hz.2.1)
      refine ⟨by omega, by omega, by rw [show nthR (List.map encS (List.map Mv.fl l)) ((g : Int)).toNat = encS ((List.map Mv.fl l).getD g default) from row_at encS hlt]; rfl, look_some (fun s => s) _ _, c113 ((List.map Mv.fl l).getD g default) (by have := hnr _ (getD_mem hlt); omega), look_key (fun s => s) _ _, c95 _ _, (by rw [List.length_map] at hlt; exact c112 r l g hr hlt (hn _ (getD_mem hlt)).2), c87 [_, _, _] (by simp), fun hx => ?_, fun hx => ?_⟩
      · have hne : fNm (List.map Mv.fl l) (fuM r l) g ≠ 0 := bne_t hx
        refine av_int ?_
        unfold chkN
        rw [scan_hit hlt ha hne]
        rfl
      · have hz : fNm (List.map Mv.fl l) (fuM r l) g = 0 := bne_f hx
        have hp := hput hz
        refine ⟨by rw [show mput (AV.str ((List.map Mv.fl l).getD ((g : Int)).toNat [])) (AV.bool true) (knS (List.take g (List.map Mv.fl l))) = _ from hp]; rfl, by unfold In64; omega, g + 1, ⟨hlt, fun j hj => ?_⟩, by omega, ?_⟩
        · by_cases e : j = g
          · rw [e]; exact hz
          · exact ha j (by omega)
        · rw [show mput (AV.str ((List.map Mv.fl l).getD ((g : Int)).toNat [])) (AV.bool true) (knS (List.take g (List.map Mv.fl l))) = _ from hp]
          rfl
    · rw [hlm] at hd
      have e := ge_of_dec hd hg
      subst e
      unfold chkN
      rw [scan_end ha]
  exact c_of Tryz.f99 (atK (mkB (sp99c (fuM r l)) 99 [(4, 2, rdL 1 encS (l.map Mv.fl) 1 false)] (fun i => if i.beq 0 then some (la99 (l.map Mv.fl) (fuM r l) (F112 r l)) else none))) (by kernel_rfl) (by kernel_rfl) (by kernel_rfl) (by kernel_rfl) key (by kernel_rfl)
def chkMS (r : Ru) (l : List Mv) : Int := if sFirst [chkS r, sWhen (decide ((l.length : Int) > 256)) 5] != 0 then sFirst [chkS r, sWhen (decide ((l.length : Int) > 256)) 5] else chkN (l.map Mv.fl) (fuM r l)
def sp42 (r : Ru) (l : List Mv) : Nat → List AV → Option AV
  | 29, _ => some (.i (chkS r))
  | 110, _ => some (.sl 1 ((l.map Mv.fl).map encS))
  | 99, _ => some (.i (chkN (l.map Mv.fl) (fuM r l)))
  | n, x => spS n x
theorem c42 (r : Ru) (l : List Mv) (hr : r.ts.length ≤ 1000) (hm : r.rs.length ≤ 1000) (hn : ∀ t, t ∈ r.ts → t.n.length ≤ 1000) (hs : ∀ s, s ∈ r.rs → s.length ≤ 1000) (hl : l.length ≤ 1000) (hv : ∀ m, m ∈ l → m.fl.length ≤ 1000 ∧ m.al.length ≤ 1000) : PCall Tryz.prog G0 42 [.agg (encRu r), .sl 5 (l.map encMv)] (.i (chkMS r l)) := by
  have key :
   PCall Tryz.prog G0 29 [AV.agg (encRu r)] (AV.i (chkS r)) ∧ PCall Tryz.prog G0 95 [AV.bool (decide ((↑(List.map encMv l).length : Int) > 256)), AV.i 5] (AV.i (sWhen (decide ((↑(List.map encMv l).length : Int) > 256)) (5 : Int))) ∧
   PCall Tryz.prog G0 87 [AV.sl 1 [[AV.i (chkS r)], [AV.i (sWhen (decide ((↑(List.map encMv l).length : Int) > 256)) (5 : Int))]]] (AV.i (sFirst [hdI [AV.i (chkS r)], hdI [AV.i (sWhen (decide ((↑(List.map encMv l).length : Int) >
   256)) (5 : Int))]])) ∧ ((sFirst [hdI [AV.i (chkS r)], hdI [AV.i (sWhen (decide ((↑(List.map encMv l).length : Int) > 256)) (5 : Int))]] != 0) = true → AV.i (sFirst [hdI [AV.i (chkS r)], hdI [AV.i (sWhen (decide ((↑(List.map encMv
   l).length : Int) > 256)) (5 : Int))]]) = AV.i (chkMS r l)) ∧ ((sFirst [hdI [AV.i (chkS r)], hdI [AV.i (sWhen (decide ((↑(List.map encMv l).length : Int) > 256)) (5 : Int))]] != 0) = false → PCall Tryz.prog G0 110 [AV.sl 5 (List.map
   encMv l), AV.fn (Fn.func 111) [] []] (AV.sl 1 (List.map encS (List.map Mv.fl l))) ∧ PCall Tryz.prog G0 99 [AV.sl 1 (List.map encS (List.map Mv.fl l)), AV.fn (Fn.func 112) [] [AV.elt 1 [[AV.sl 5 (List.map encMv l)]] 0 0, AV.elt 18
   [(encRu r)] 0 0]] (AV.i (chkN (List.map Mv.fl l) (fuM r l))) ∧ AV.i (chkN (List.map Mv.fl l) (fuM r l)) = AV.i (chkMS r l)) := by
    have hlm : (List.map encMv l).length = l.length := List.length_map _
    rw [hlm]
    refine ⟨c29 r hr hm hn hs, c95 _ _, c87 [_, _] (by simp), fun h => ?_, fun h => ⟨(c110 l hl).un, c99c r l hr hl hv, ?_⟩⟩
    · have h : (sFirst [chkS r, sWhen (decide ((l.length : Int) > 256)) 5] != 0) = true := h
      rw [chkMS, if_pos h]
      rfl
    · have h : (sFirst [chkS r, sWhen (decide ((l.length : Int) > 256)) 5] != 0) = false := h
      rw [chkMS, if_neg (by rw [h]; decide)]
  exact c_of Tryz.f42 (fzB (mkB (sp42 r l) 42 [] noLa)) (by kernel_rfl) (by kernel_rfl) (by kernel_rfl) (by kernel_rfl) key (by kernel_rfl)
def fMv (r : Ru) (l : List Mv) (i : Nat) : Int := sFirst [sWhen (!sName (l.getD i default).fl) 8, sWhen (decide (fiI (pM l (l.getD i default).fl) i ≥ 0)) 9, sWhen (!sName (l.getD i default).al) 8, sWhen (decide (fiI (pN r.ts (l.getD i default).ty) r.ts.length < 0)) 10, sWithin (l.getD i default).day 1 100000, sWithin (l.getD i default).mi 0 1439]
def chkMR (r : Ru) (l : List Mv) : Int := if sFirst [chkR r, sWhen (decide ((l.length : Int) > 256)) 5] != 0 then sFirst [chkR r, sWhen (decide ((l.length : Int) > 256)) 5] else sScan (fMv r l) l.length 0
def sp36 (r : Ru) : Nat → List AV → Option AV
  | 25, _ => some (.i (chkR r))
  | 109, [.sl _ rows, .str s] => some (.i (fiI (pRn rows s) rows.length))
  | 94, [.sl _ rows, .str s] => some (.i (fiI (pRn rows s) rows.length))
  | n, x => spS n x
def la36 (r : Ru) (l : List Mv) : LA := {
  pre := [.keep [1, 2, 6] [], .bound 1], post := [.keep [1, 2, 6] [], .bound 1]
  Gh := Nat
  st := fun i => ⟨[(1, .sl 5 (l.map encMv)), (2, .elt 18 [encRu r] 0 0), (6, .i i)], [], 1⟩
  ok := fun i => i ≤ l.length ∧ ∀ j, j < i → fMv r l j = 0
  ms := fun i => l.length - i }
theorem pM_take {l : List Mv} {s : List UInt8} {g j : Nat} (hj : j < g) : pM (l.take g) s j = pM l s j := by
  unfold pM
  rw [List.getD_eq_getElem?_getD, List.getD_eq_getElem?_getD, List.getElem?_take, if_pos hj]
theorem pRn_mv {l : List Mv} {s : List UInt8} {i : Nat} (h : i < l.length) : pRn (l.map encMv) s i = pM l s i := by
  unfold pRn
  rw [row_at encMv h]
  rfl
theorem fiMv {l : List Mv} {s : List UInt8} {g : Nat} (hg : g ≤ l.length) : fiI (pRn ((l.take g).map encMv) s) ((l.take g).map encMv).length = fiI (pM l s) g := by
  have e : ((l.take g).map encMv).length = g := by rw [List.length_map, List.length_take]; omega
  rw [e]
  exact fiI_congr fun j hj => (pRn_mv (by rw [List.length_take]; omega)).trans (pM_take hj)
theorem c109t {l : List Mv} {g : Nat} (s : List UInt8) (hl : l.length ≤ 1000) (hg : g ≤ l.length) : PCall Tryz.prog G0 109 [.sl 5 ((l.take g).map encMv), .str s] (.i (fiI (pM l s) g)) := by
  have h := c109 (l.take g) s (by rw [List.length_take]; omega)
  rw [show (l.take g).length = g by rw [List.length_take]; omega, fiI_congr (fun j hj => pM_take hj)] at h
  exact h
theorem c36 (r : Ru) (l : List Mv) (hr : r.ts.length ≤ 1000) (hm : r.rs.length ≤ 1000) (hn : ∀ t, t ∈ r.ts → t.n.length ≤ 1000) (hs : ∀ s, s ∈ r.rs → s.length ≤ 1000) (hl : l.length ≤ 1000) (hv : ∀ m, m ∈ l → m.fl.length ≤ 1000 ∧ m.al.length ≤ 1000) : PCall Tryz.prog G0 36 [.agg (encRu r), .sl 5 (l.map encMv)] (.i (chkMR r l)) := by
  have key :
   PCall Tryz.prog G0 25 [AV.agg (encRu r)] (AV.i (chkR r)) ∧ PCall Tryz.prog G0 37 [AV.bool (decide ((↑(List.map encMv l).length : Int) > 256)), AV.i 5] (AV.i (sWhen (decide ((↑(List.map encMv l).length : Int) > 256)) (5 : Int))) ∧
   PCall Tryz.prog G0 24 [AV.sl 1 [[AV.i (chkR r)], [AV.i (sWhen (decide ((↑(List.map encMv l).length : Int) > 256)) (5 : Int))]]] (AV.i (sFirst [hdI [AV.i (chkR r)], hdI [AV.i (sWhen (decide ((↑(List.map encMv l).length : Int) >
   256)) (5 : Int))]])) ∧ ((sFirst [hdI [AV.i (chkR r)], hdI [AV.i (sWhen (decide ((↑(List.map encMv l).length : Int) > 256)) (5 : Int))]] != 0) = true → AV.i (sFirst [hdI [AV.i (chkR r)], hdI [AV.i (sWhen (decide ((↑(List.map encMv
   l).length : Int) > 256)) (5 : Int))]]) = AV.i (chkMR r l)) ∧ ((sFirst [hdI [AV.i (chkR r)], hdI [AV.i (sWhen (decide ((↑(List.map encMv l).length : Int) > 256)) (5 : Int))]] != 0) = false → (∃ (g : Nat), (g ≤ l.length ∧ ∀ (j :
   Nat), j < g → fMv r l j = (0 : Int)) ∧ AS.mk [(1, AV.sl 5 (List.map encMv l)), (2, AV.elt 18 [(encRu r)] 0 0), (6, AV.i 0)] [] 1 = AS.mk [(1, AV.sl 5 (List.map encMv l)), (2, AV.elt 18 [(encRu r)] 0 0), (6, AV.i (↑g : Int))] [] 1)
   ∧ ∀ (g : Nat), (g ≤ l.length ∧ ∀ (j : Nat), j < g → fMv r l j = (0 : Int)) → (decide ((↑g : Int) < (↑(List.map encMv l).length : Int)) = true → (0 : Int) ≤ (↑g : Int) ∧ (↑g : Int) < (↑(List.map encMv l).length : Int) ∧ AV.agg (nthR
   (List.map encMv l) (↑g : Int).toNat) = AV.agg (encMv (l.getD (↑g : Int).toNat default)) ∧ (0 : Int) ≤ 0 ∧ (0 : Int) ≤ (↑g : Int) ∧ (↑g : Int) ≤ (↑(List.map encMv l).length : Int) ∧ PCall Tryz.prog G0 51 [AV.str (l.getD (↑g :
   Int).toNat default).fl] (AV.i (sWhen (!sName (l.getD (↑g : Int).toNat default).fl) (8 : Int))) ∧ PCall Tryz.prog G0 109 [AV.sl 5 (List.take ((↑g : Int) - 0).toNat (List.drop 0 (List.map encMv l))), AV.str (l.getD (↑g : Int).toNat
   default).fl] (AV.i (fiI (pRn (List.take ((↑g : Int) - 0).toNat (List.drop (Int.toNat (0 : Int)) (List.map encMv l))) (l.getD (↑g : Int).toNat default).fl) (List.take ((↑g : Int) - 0).toNat (List.drop 0 (List.map encMv l))).length))
   ∧ PCall Tryz.prog G0 37 [AV.bool (decide (fiI (pRn (List.take ((↑g : Int) - 0).toNat (List.drop (Int.toNat (0 : Int)) (List.map encMv l))) (l.getD (↑g : Int).toNat default).fl) (List.take ((↑g : Int) - 0).toNat (List.drop
   (Int.toNat (0 : Int)) (List.map encMv l))).length ≥ 0)), AV.i 9] (AV.i (sWhen (decide (fiI (pRn (List.take ((↑g : Int) - 0).toNat (List.drop (Int.toNat (0 : Int)) (List.map encMv l))) (l.getD (↑g : Int).toNat default).fl)
   (List.take ((↑g : Int) - 0).toNat (List.drop (Int.toNat (0 : Int)) (List.map encMv l))).length ≥ 0)) (9 : Int))) ∧ PCall Tryz.prog G0 51 [AV.str (l.getD (↑g : Int).toNat default).al] (AV.i (sWhen (!sName (l.getD (↑g : Int).toNat
   default).al) (8 : Int))) ∧ PCall Tryz.prog G0 94 [AV.sl 3 (List.map encTp r.ts), AV.str (l.getD (↑g : Int).toNat default).ty] (AV.i (fiI (pRn (List.map encTp r.ts) (l.getD (↑g : Int).toNat default).ty) (List.map encTp
   r.ts).length)) ∧ PCall Tryz.prog G0 37 [AV.bool (decide (fiI (pRn (List.map encTp r.ts) (l.getD (↑g : Int).toNat default).ty) (List.map encTp r.ts).length < 0)), AV.i 10] (AV.i (sWhen (decide (fiI (pRn (List.map encTp r.ts) (l.getD
   (↑g : Int).toNat default).ty) (List.map encTp r.ts).length < 0)) (10 : Int))) ∧ PCall Tryz.prog G0 23 [AV.i (l.getD (↑g : Int).toNat default).day, AV.i 1, AV.i 100000] (AV.i (sWithin (l.getD (↑g : Int).toNat default).day (1 : Int)
   (100000 : Int))) ∧ PCall Tryz.prog G0 23 [AV.i (l.getD (↑g : Int).toNat default).mi, AV.i 0, AV.i 1439] (AV.i (sWithin (l.getD (↑g : Int).toNat default).mi (0 : Int) (1439 : Int))) ∧ PCall Tryz.prog G0 24 [AV.sl 1 [[AV.i (sWhen
   (!sName (l.getD (↑g : Int).toNat default).fl) (8 : Int))], [AV.i (sWhen (decide (fiI (pRn (List.take ((↑g : Int) - 0).toNat (List.drop (Int.toNat (0 : Int)) (List.map encMv l))) (l.getD (↑g : Int).toNat default).fl) (List.take ((↑g
   : Int) - 0).toNat (List.drop (Int.toNat (0 : Int)) (List.map encMv l))).length ≥ 0)) (9 : Int))], [AV.i (sWhen (!sName (l.getD (↑g : Int).toNat default).al) (8 : Int))], [AV.i (sWhen (decide (fiI (pRn (List.map encTp r.ts) (l.getD
   (↑g : Int).toNat default).ty) (List.map encTp r.ts).length < 0)) (10 : Int))], [AV.i (sWithin (l.getD (↑g : Int).toNat default).day (1 : Int) (100000 : Int))], [AV.i (sWithin (l.getD (↑g : Int).toNat default).mi (0 : Int) (1439 :
   Int))]]] (AV.i (sFirst [hdI [AV.i (sWhen (!sName (l.getD (↑g : Int).toNat default).fl) (8 : Int))], hdI [AV.i (sWhen (decide (fiI (pRn (List.take ((↑g : Int) - 0).toNat (List.drop (Int.toNat (0 : Int)) (List.map encMv l))) (l.getD
   (↑g : Int).toNat default).fl) (List.take ((↑g : Int) - 0).toNat (List.drop (Int.toNat (0 : Int)) (List.map encMv l))).length ≥ 0)) (9 : Int))], hdI [AV.i (sWhen (!sName (l.getD (↑g : Int).toNat default).al) (8 : Int))], hdI [AV.i
   (sWhen (decide (fiI (pRn (List.map encTp r.ts) (l.getD (↑g : Int).toNat default).ty) (List.map encTp r.ts).length < 0)) (10 : Int))], hdI [AV.i (sWithin (l.getD (↑g : Int).toNat default).day (1 : Int) (100000 : Int))], hdI [AV.i
   (sWithin (l.getD (↑g : Int).toNat default).mi (0 : Int) (1439 : Int))]])) ∧ ((sFirst [hdI [AV.i (sWhen (!sName (l.getD (↑g : Int).toNat default).fl) (8 : Int))], hdI [AV.i (sWhen (decide (fiI (pRn (List.take ((↑g : Int) - 0).toNat
   (List.drop (Int.toNat (0 : Int)) (List.map encMv l))) (l.getD (↑g : Int).toNat default).fl) (List.take ((↑g : Int) - 0).toNat (List.drop (Int.toNat (0 : Int)) (List.map encMv l))).length ≥ 0)) (9 : Int))], hdI [AV.i (sWhen (!sName
   (l.getD (↑g : Int).toNat default).al) (8 : Int))], hdI [AV.i (sWhen (decide (fiI (pRn (List.map encTp r.ts) (l.getD (↑g : Int).toNat default).ty) (List.map encTp r.ts).length < 0)) (10 : Int))], hdI [AV.i (sWithin (l.getD (↑g :
   Int).toNat default).day (1 : Int) (100000 : Int))], hdI [AV.i (sWithin (l.getD (↑g : Int).toNat default).mi (0 : Int) (1439 : Int))]] != 0) = true → AV.i (sFirst [hdI [AV.i (sWhen (!sName (l.getD (↑g : Int).toNat default).fl) (8 :
   Int))], hdI [AV.i (sWhen (decide (fiI (pRn (List.take ((↑g : Int) - 0).toNat (List.drop (Int.toNat (0 : Int)) (List.map encMv l))) (l.getD (↑g : Int).toNat default).fl) (List.take ((↑g : Int) - 0).toNat (List.drop (Int.toNat (0 :
   Int)) (List.map encMv l))).length ≥ 0)) (9 : Int))], hdI [AV.i (sWhen (!sName (l.getD (↑g : Int).toNat default).al) (8 : Int))], hdI [AV.i (sWhen (decide (fiI (pRn (List.map encTp r.ts) (l.getD (↑g : Int).toNat default).ty)
   (List.map encTp r.ts).length < 0)) (10 : Int))], hdI [AV.i (sWithin (l.getD (↑g : Int).toNat default).day (1 : Int) (100000 : Int))], hdI [AV.i (sWithin (l.getD (↑g : Int).toNat default).mi (0 : Int) (1439 : Int))]]) = AV.i (chkMR
   r l)) ∧ ((sFirst [hdI [AV.i (sWhen (!sName (l.getD (↑g : Int).toNat default).fl) (8 : Int))], hdI [AV.i (sWhen (decide (fiI (pRn (List.take ((↑g : Int) - 0).toNat (List.drop (Int.toNat (0 : Int)) (List.map encMv l))) (l.getD (↑g :
   Int).toNat default).fl) (List.take ((↑g : Int) - 0).toNat (List.drop (Int.toNat (0 : Int)) (List.map encMv l))).length ≥ 0)) (9 : Int))], hdI [AV.i (sWhen (!sName (l.getD (↑g : Int).toNat default).al) (8 : Int))], hdI [AV.i (sWhen
   (decide (fiI (pRn (List.map encTp r.ts) (l.getD (↑g : Int).toNat default).ty) (List.map encTp r.ts).length < 0)) (10 : Int))], hdI [AV.i (sWithin (l.getD (↑g : Int).toNat default).day (1 : Int) (100000 : Int))], hdI [AV.i (sWithin
   (l.getD (↑g : Int).toNat default).mi (0 : Int) (1439 : Int))]] != 0) = false → In64 ((↑g : Int) + 1) ∧ ∃ (g' : Nat), (g' ≤ l.length ∧ ∀ (j : Nat), j < g' → fMv r l j = (0 : Int)) ∧ l.length - g' < l.length - g ∧ AS.mk [(1, AV.sl 5
   (List.map encMv l)), (2, AV.elt 18 [(encRu r)] 0 0), (6, AV.i ((↑g : Int) + 1))] [] 1 = AS.mk [(1, AV.sl 5 (List.map encMv l)), (2, AV.elt 18 [(encRu r)] 0 0), (6, AV.i (↑g' : Int))] [] 1)) ∧ (decide ((↑g : Int) < (↑(List.map encMv
   l).length : Int)) = false → AV.i 0 = AV.i (chkMR r l))) := by
    have hlm : (List.map encMv l).length = l.length := List.length_map _
    have htm : (List.map encTp r.ts).length = r.ts.length := List.length_map _
    simp only [Int.sub_zero, Int.toNat_natCast, Int.toNat_zero, List.drop_zero, ← List.map_take]
    have hfi : ∀ s, fiI (pRn (List.map encTp r.ts) s) (List.map encTp r.ts).length = fiI (pN r.ts s) r.ts.length := fun s => by
      rw [htm]
      exact fiI_congr fun j hj => pRn_tp hj
    simp only [hfi]
    rw [hlm]
    refine ⟨c25 r hr hm hn hs, c37 _ _, c24 [_, _] (by simp), fun h => ?_, fun h => ⟨⟨0, ⟨by omega, by intros; omega⟩, rfl⟩, fun g ⟨hg, ha⟩ => ⟨fun hd => ?_, fun hd => ?_⟩⟩⟩
    · have h : (sFirst [chkR r, sWhen (decide ((l.length : Int) > 256)) 5] != 0) = true := h
      rw [chkMR, if_pos h]
      rfl
    · have h : (sFirst [chkR r, sWhen (decide ((l.length : Int) > 256)) 5] != 0) = false := h
      have n1 : ¬ (sFirst [chkR r, sWhen (decide ((l.length : Int) > 256)) 5] != 0) = true := by rw [h]; decide
      have hlt := lt_of_dec hd
      have hrow : nthR (List.map encMv l) g = encMv (l.getD g default) := row_at encMv hlt
      have hq := hv _ (getD_mem hlt)
      rw [fiMv (Nat.le_of_lt hlt)]
      refine ⟨by omega, by omega, congrArg AV.agg hrow, by omega, by omega, by omega, c51 _ (by omega), c109t _ hl (Nat.le_of_lt hlt), c37 _ _, c51 _ (by omega), c94 r.ts _ hr, c37 _ _, c23 _ _ _, c23 _ _ _, c24 [_, _, _, _, _, _] (by simp), fun hx => ?_, fun hx => ⟨by unfold In64; omega, g + 1, ⟨hlt, fun j hj => ?_⟩, by omega, rfl⟩⟩
      · have hne : fMv r l g ≠ 0 := bne_t hx
        refine av_int ?_
        rw [chkMR, if_neg n1, scan_hit hlt ha hne]
        rfl
      · have hz : fMv r l g = 0 := bne_f hx
        by_cases e : j = g
        · rw [e]; exact hz
        · exact ha j (by omega)
    · have h : (sFirst [chkR r, sWhen (decide ((l.length : Int) > 256)) 5] != 0) = false := h
      have n1 : ¬ (sFirst [chkR r, sWhen (decide ((l.length : Int) > 256)) 5] != 0) = true := by rw [h]; decide
      have e := ge_of_dec hd hg
      subst e
      rw [chkMR, if_neg n1, scan_end ha]
  exact c_of Tryz.f36 (fzB (mkB (sp36 r) 36 [(7, 3, rdL 5 encMv l 5 true)] (fun i => if i.beq 0 then some (la36 r l) else none))) (by kernel_rfl) (by kernel_rfl) (by kernel_rfl) (by kernel_rfl) key (by kernel_rfl)
theorem mv_name {l : List Mv} {i : Nat} (h : i < l.length) : (l.map Mv.fl).getD i default = (l.getD i default).fl := by
  rw [List.getD_eq_getElem?_getD, List.getD_eq_getElem?_getD, List.getElem?_map, List.getElem?_eq_getElem h]
  rfl
theorem first3b (a b c d x y : Int) : sFirst [a, b, sFirst [c, d, x, y]] = sFirst [a, b, c, d, x, y] := by
  simp only [sFirst]
  by_cases h1 : c = 0 <;> by_cases h2 : d = 0 <;> by_cases h3 : x = 0 <;> by_cases h4 : y = 0 <;> simp [h1, h2, h3, h4]
theorem not_found {p : Nat → Bool} {n : Nat} : (!decide (fiN p n < n)) = decide (fiI p n < 0) := by
  have := fi_le (p := p) n
  unfold fiI
  by_cases h : fiN p n = n
  · rw [if_pos h, decide_eq_false (by omega), decide_eq_true (by omega)]
    rfl
  · rw [if_neg h, decide_eq_true (by omega), decide_eq_false (by omega)]
    rfl
theorem chkM_eq (r : Ru) (l : List Mv) : chkMS r l = chkMR r l := by
  unfold chkMS chkMR
  rw [chk_eq]
  congr 1
  unfold chkN
  rw [List.length_map]
  refine scan_same fun k hk => ?_
  unfold fNm fMv fuM
  rw [mv_name hk, has_s (by rw [List.length_map]; omega), fi_congr (p := pS (l.map Mv.fl) _) (q := pM l _) (fun j hj => by unfold pS pM; rw [mv_name (by omega)]), ← fiI_dec, first3b, not_found]
end Go.Proofs.YtimgfogakgakhaaGreatDoor
namespace Go.Proofs.YtimgfogakgakhaaGreatDoor
open Go Go.Av Go.RowKit
structure MvOK (r : Ru) (m : Mv) : Prop where
  t : fiN (pN r.ts m.ty) r.ts.length < r.ts.length
  d : 1 ≤ m.day ∧ m.day ≤ 100000
  m : 0 ≤ m.mi ∧ m.mi ≤ 1439
structure RuOK (r : Ru) : Prop where
  a : 0 ≤ r.a ∧ r.a < 1440
  b : 0 ≤ r.b ∧ r.b < 1440
  n : r.a ≠ r.b
  l : r.ts.length ≤ 16
  k : ∀ t, t ∈ r.ts → (0 ≤ t.c ∧ t.c ≤ 64) ∧ (0 ≤ t.f ∧ t.f ≤ 100000)
  q : 0 ≤ r.q ∧ r.q ≤ 100000
def rCo (r : Ru) (m : Mv) : Int := if (!wiR r.a r.b m.mi) then 0 else (tpAt r.ts m.ty).c
def rFe (r : Ru) (m : Mv) : Int := if wiR r.a r.b m.mi then 2 * (tpAt r.ts m.ty).f else (tpAt r.ts m.ty).f
end Go.Proofs.YtimgfogakgakhaaGreatDoor
