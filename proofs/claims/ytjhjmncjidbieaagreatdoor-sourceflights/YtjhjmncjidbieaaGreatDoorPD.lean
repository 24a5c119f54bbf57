/-
  What chapter 2's reference emission returns, on a type that passes its checks. No condition but the theorems' own. What chapter 2's sectors return. No condition but the theorems' own. What chapter 2's reference sector returns. No condition but the theorems' own. What chapter 2's checks of a state return, and what is heard of one. No condition but the theorems' own. What chapter 2's heard of a state returns. No condition but the theorems' own. What chapter 2's Sector of the source returns. No condition but the theorems' own. What a type that passes the source's checks has. No condition but the theorems' own. What chapter 2's Emission and Heard of the source return. No condition but the theorems' own. What chapter 2's SameInts returns. No condition but the theorems' own. What chapter 2's bands return. No condition but the theorems' own. The plain law of types: the program's and the reference's checks of a type are the same, and so are the bands of an energy.
    No condition but the theorems' own. What chapter 2's reference bands return. No condition but the theorems' own. What the source's bands return. No condition but the theorems' own. Plain laws of types: sectors of turned directions, what lies between two settings, emissions that grow and fall, bands that add up. No condition but the theorems' own. What chapter 2's given and told return: the type itself. No condition but the theorems' own. What is asked of a type; what the source returns of it. No condition but the theorems' own. Contracts from the parts of a body. No condition but the theorems' own. What chapter 2's lists of points return: copies, ticks, the state at a tick. No condition but the theorems' own.
-/
import Derived.Test.YtjhjmncjidbieaaGreatDoorPC
import Derived.Test.YtjhjmncjidbieaaGreatDoorAvD
namespace Go.Proofs.YtjhjmncjidbieaaGreatDoor
open Go Go.Av Go.RowKit
theorem up_lt {t : Ty} (h : OKTy t) : ∀ (i j : Nat), j < i → i < t.st.length → (t.sg j).p < (t.sg i).p
  | 0, _, h1, _ => absurd h1 (by omega)
  | i + 1, j, h1, h2 => by
    have h3 := h.up i h2
    by_cases e : j = i
    · rw [e]; exact h3
    · have := up_lt h i j (by omega) (by omega)
      omega
theorem emi_top {t : Ty} {p d : Int} (h : OKTy t) (hx : (t.sg (t.st.length - 1)).p ≤ p) : cI (List.map encI (t.sg (t.st.length - 1)).e) (bandN t.sq d t.sq.length) = emi t p d := by
  have hn := h.n1
  have hb : ∀ j, j < t.st.length - 1 → (t.sg j).p < p := fun j hj => by
    have := up_lt h _ _ hj (by omega)
    omega
  by_cases e : (t.sg (t.st.length - 1)).p = p
  · have e2 := geN_some hb (by omega) (m := t.st.length) (by omega)
    have := emi_at (t := t) (p := p) (d := d) (by rw [e2]; omega) (Or.inr (by rw [e2]; exact e))
    rw [e2] at this
    exact this
  · refine emi_last (geN_none fun j hj => ?_)
    by_cases e3 : j = t.st.length - 1
    · rw [e3]; omega
    · exact hb j (by omega)
def la49a (t : Ty) (p d : Int) : LA := {
  pre := [.keep [1, 2, 3, 7, 8] [], .bound 1], post := [.keep [1, 2, 3, 7, 8] [], .bound 1]
  Gh := Nat
  st := fun i => ⟨[(1, .i p), (2, .i d), (3, .elt 13 [encTy t] 0 0), (7, .i (bandN t.sq d i)), (8, .i i)], [], 1⟩
  ok := fun i => i ≤ t.sq.length
  ms := fun i => t.sq.length - i }
def la49b (t : Ty) (p d : Int) : LA := {
  pre := [.keep [1, 3, 7, 10] [], .bound 1], post := [.keep [1, 3, 7, 10] [], .bound 1]
  Gh := Nat
  st := fun i => ⟨[(1, .i p), (3, .elt 13 [encTy t] 0 0), (7, .i (bandN t.sq d t.sq.length)), (10, .i i)], [], 1⟩
  ok := fun i => i ≤ t.st.length ∧ ∀ j, j < i → (t.sg j).p < p
  ms := fun i => t.st.length - i }
theorem c49 (t : Ty) (p d : Int) (h : OKTy t) (hp : 1 ≤ p) (hp2 : p ≤ 100) : PCall Tryz.prog G0 49 [.agg (encTy t), .i p, .i d] (.i (emi t p d)) := by
  have key :
   (∃ (g : Nat), g ≤ t.sq.length ∧ AS.mk [(1, AV.i p), (2, AV.i d), (3, AV.elt 13 [(encTy t)] 0 0), (7, AV.i 0), (8, AV.i 0)] [] 1 = AS.mk [(1, AV.i p), (2, AV.i d), (3, AV.elt 13 [(encTy t)] 0 0), (7, AV.i (↑(bandN t.sq d g) : Int)),
   (8, AV.i (↑g : Int))] [] 1) ∧ ∀ (g : Nat), g ≤ t.sq.length → (decide ((↑g : Int) < (↑(List.map encI t.sq).length : Int)) = true → (0 : Int) ≤ (↑g : Int) ∧ (↑g : Int) < (↑(List.map encI t.sq).length : Int) ∧ nth (nthR (List.map encI
   t.sq) (↑g : Int).toNat) 0 = AV.i (cI (List.map encI t.sq) (↑g : Int).toNat) ∧ (decide (cI (List.map encI t.sq) (↑g : Int).toNat ≤ d) = true → In64 ((↑g : Int) + 1) ∧ ∃ (g' : Nat), g' ≤ t.sq.length ∧ t.sq.length - g' < t.sq.length -
   g ∧ AS.mk [(1, AV.i p), (2, AV.i d), (3, AV.elt 13 [(encTy t)] 0 0), (7, AV.i (↑g : Int)), (8, AV.i ((↑g : Int) + 1))] [] 1 = AS.mk [(1, AV.i p), (2, AV.i d), (3, AV.elt 13 [(encTy t)] 0 0), (7, AV.i (↑(bandN t.sq d g') : Int)),
   (8, AV.i (↑g' : Int))] [] 1) ∧ (decide (cI (List.map encI t.sq) (↑g : Int).toNat ≤ d) = false → In64 ((↑g : Int) + 1) ∧ ∃ (g' : Nat), g' ≤ t.sq.length ∧ t.sq.length - g' < t.sq.length - g ∧ AS.mk [(1, AV.i p), (2, AV.i d), (3,
   AV.elt 13 [(encTy t)] 0 0), (7, AV.i (↑(bandN t.sq d g) : Int)), (8, AV.i ((↑g : Int) + 1))] [] 1 = AS.mk [(1, AV.i p), (2, AV.i d), (3, AV.elt 13 [(encTy t)] 0 0), (7, AV.i (↑(bandN t.sq d g') : Int)), (8, AV.i (↑g' : Int))] []
   1)) ∧ (decide ((↑g : Int) < (↑(List.map encI t.sq).length : Int)) = false → In64 ((↑(List.map encSg t.st).length : Int) - 1) ∧ (0 : Int) ≤ (↑(List.map encSg t.st).length : Int) - 1 ∧ (↑(List.map encSg t.st).length : Int) - 1 <
   (↑(List.map encSg t.st).length : Int) ∧ AV.agg (nthR (List.map encSg t.st) ((↑(List.map encSg t.st).length : Int) - 1).toNat) = AV.agg [AV.i (t.st.getD ((↑(List.map encSg t.st).length : Int) - 1).toNat default).p, AV.sl 1 (List.map
   encI (t.st.getD ((↑(List.map encSg t.st).length : Int) - 1).toNat default).e)] ∧ (decide (p ≥ (t.st.getD ((↑(List.map encSg t.st).length : Int) - 1).toNat default).p) = true → (0 : Int) ≤ (↑(bandN t.sq d g) : Int) ∧ (↑(bandN t.sq d
   g) : Int) < (↑(List.map encI (t.st.getD ((↑(List.map encSg t.st).length : Int) - 1).toNat default).e).length : Int) ∧ nth (nthR (List.map encI (t.st.getD ((↑(List.map encSg t.st).length : Int) - 1).toNat default).e) (↑(bandN t.sq d
   g) : Int).toNat) 0 = AV.i (cI (List.map encI (t.st.getD ((↑(List.map encSg t.st).length : Int) - 1).toNat default).e) (↑(bandN t.sq d g) : Int).toNat) ∧ AV.i (cI (List.map encI (t.st.getD ((↑(List.map encSg t.st).length : Int) -
   1).toNat default).e) (↑(bandN t.sq d g) : Int).toNat) = AV.i (emi t p d)) ∧ (decide (p ≥ (t.st.getD ((↑(List.map encSg t.st).length : Int) - 1).toNat default).p) = false → (∃ (g_1 : Nat), (g_1 ≤ t.st.length ∧ ∀ (j : Nat), j < g_1 →
   (t.sg j).p < p) ∧ AS.mk [(1, AV.i p), (3, AV.elt 13 [(encTy t)] 0 0), (7, AV.i (↑(bandN t.sq d g) : Int)), (10, AV.i 0)] [] 1 = AS.mk [(1, AV.i p), (3, AV.elt 13 [(encTy t)] 0 0), (7, AV.i (↑(bandN t.sq d t.sq.length) : Int)), (10,
   AV.i (↑g_1 : Int))] [] 1) ∧ ∀ (g : Nat), (g ≤ t.st.length ∧ ∀ (j : Nat), j < g → (t.sg j).p < p) → (decide ((↑g : Int) < (↑(List.map encSg t.st).length : Int)) = true → (0 : Int) ≤ (↑g : Int) ∧ (↑g : Int) < (↑(List.map encSg
   t.st).length : Int) ∧ AV.agg (nthR (List.map encSg t.st) (↑g : Int).toNat) = AV.agg [AV.i (t.st.getD (↑g : Int).toNat default).p, AV.sl 1 (List.map encI (t.st.getD (↑g : Int).toNat default).e)] ∧ (decide (p > (t.st.getD (↑g :
   Int).toNat default).p) = true → In64 ((↑g : Int) + 1) ∧ ∃ (g' : Nat), (g' ≤ t.st.length ∧ ∀ (j : Nat), j < g' → (t.sg j).p < p) ∧ t.st.length - g' < t.st.length - g ∧ AS.mk [(1, AV.i p), (3, AV.elt 13 [(encTy t)] 0 0), (7, AV.i
   (↑(bandN t.sq d t.sq.length) : Int)), (10, AV.i ((↑g : Int) + 1))] [] 1 = AS.mk [(1, AV.i p), (3, AV.elt 13 [(encTy t)] 0 0), (7, AV.i (↑(bandN t.sq d t.sq.length) : Int)), (10, AV.i (↑g' : Int))] [] 1) ∧ (decide (p > (t.st.getD
   (↑g : Int).toNat default).p) = false → (((↑g : Int) == 0) = true → (true = false → false = true) ∧ AV.bool ((↑g : Int) == 0) = AV.bool true ∧ (true = true → (0 : Int) ≤ (↑(bandN t.sq d t.sq.length) : Int) ∧ (↑(bandN t.sq d
   t.sq.length) : Int) < (↑(List.map encI (t.st.getD (↑g : Int).toNat default).e).length : Int) ∧ nth (nthR (List.map encI (t.st.getD (↑g : Int).toNat default).e) (↑(bandN t.sq d t.sq.length) : Int).toNat) 0 = AV.i (cI (List.map encI
   (t.st.getD (↑g : Int).toNat default).e) (↑(bandN t.sq d t.sq.length) : Int).toNat) ∧ AV.i (cI (List.map encI (t.st.getD (↑g : Int).toNat default).e) (↑(bandN t.sq d t.sq.length) : Int).toNat) = AV.i (emi t p d)) ∧ (true = false →
   In64 ((↑g : Int) - 1) ∧ (0 : Int) ≤ (↑g : Int) - 1 ∧ (↑g : Int) - 1 < (↑(List.map encSg t.st).length : Int) ∧ AV.agg (nthR (List.map encSg t.st) ((↑g : Int) - 1).toNat) = AV.agg [AV.i (t.st.getD ((↑g : Int) - 1).toNat default).p,
   AV.sl 1 (List.map encI (t.st.getD ((↑g : Int) - 1).toNat default).e)] ∧ (0 : Int) ≤ (↑(bandN t.sq d t.sq.length) : Int) ∧ (↑(bandN t.sq d t.sq.length) : Int) < (↑(List.map encI (t.st.getD ((↑g : Int) - 1).toNat default).e).length :
   Int) ∧ (0 : Int) ≤ (↑(bandN t.sq d t.sq.length) : Int) ∧ (↑(bandN t.sq d t.sq.length) : Int) < (↑(List.map encI (t.st.getD (↑g : Int).toNat default).e).length : Int) ∧ In64 (p - (t.st.getD ((↑g : Int) - 1).toNat default).p) ∧ In64
   ((t.st.getD (↑g : Int).toNat default).p - (t.st.getD ((↑g : Int) - 1).toNat default).p) ∧ nth (nthR (List.map encI (t.st.getD ((↑g : Int) - 1).toNat default).e) (↑(bandN t.sq d t.sq.length) : Int).toNat) 0 = AV.i (cI (List.map encI
   (t.st.getD ((↑g : Int) - 1).toNat default).e) (↑(bandN t.sq d t.sq.length) : Int).toNat) ∧ nth (nthR (List.map encI (t.st.getD (↑g : Int).toNat default).e) (↑(bandN t.sq d t.sq.length) : Int).toNat) 0 = AV.i (cI (List.map encI
   (t.st.getD (↑g : Int).toNat default).e) (↑(bandN t.sq d t.sq.length) : Int).toNat) ∧ PCall Tryz.prog G0 97 [AV.i (cI (List.map encI (t.st.getD ((↑g : Int) - 1).toNat default).e) (↑(bandN t.sq d t.sq.length) : Int).toNat), AV.i (cI
   (List.map encI (t.st.getD (↑g : Int).toNat default).e) (↑(bandN t.sq d t.sq.length) : Int).toNat), AV.i (p - (t.st.getD ((↑g : Int) - 1).toNat default).p), AV.i ((t.st.getD (↑g : Int).toNat default).p - (t.st.getD ((↑g : Int) -
   1).toNat default).p)] (AV.i (sBetween (cI (List.map encI (t.st.getD ((↑g : Int) - 1).toNat default).e) (↑(bandN t.sq d t.sq.length) : Int).toNat) (cI (List.map encI (t.st.getD (↑g : Int).toNat default).e) (↑(bandN t.sq d
   t.sq.length) : Int).toNat) (p - (t.st.getD ((↑g : Int) - 1).toNat default).p) ((t.st.getD (↑g : Int).toNat default).p - (t.st.getD ((↑g : Int) - 1).toNat default).p))) ∧ AV.i (sBetween (cI (List.map encI (t.st.getD ((↑g : Int) -
   1).toNat default).e) (↑(bandN t.sq d t.sq.length) : Int).toNat) (cI (List.map encI (t.st.getD (↑g : Int).toNat default).e) (↑(bandN t.sq d t.sq.length) : Int).toNat) (p - (t.st.getD ((↑g : Int) - 1).toNat default).p) ((t.st.getD
   (↑g : Int).toNat default).p - (t.st.getD ((↑g : Int) - 1).toNat default).p)) = AV.i (emi t p d))) ∧ (((↑g : Int) == 0) = false → AV.bool ((↑g : Int) == 0) = AV.bool false ∧ ((p == (t.st.getD (↑g : Int).toNat default).p) = true → (0
   : Int) ≤ (↑(bandN t.sq d t.sq.length) : Int) ∧ (↑(bandN t.sq d t.sq.length) : Int) < (↑(List.map encI (t.st.getD (↑g : Int).toNat default).e).length : Int) ∧ nth (nthR (List.map encI (t.st.getD (↑g : Int).toNat default).e) (↑(bandN
   t.sq d t.sq.length) : Int).toNat) 0 = AV.i (cI (List.map encI (t.st.getD (↑g : Int).toNat default).e) (↑(bandN t.sq d t.sq.length) : Int).toNat) ∧ AV.i (cI (List.map encI (t.st.getD (↑g : Int).toNat default).e) (↑(bandN t.sq d
   t.sq.length) : Int).toNat) = AV.i (emi t p d)) ∧ ((p == (t.st.getD (↑g : Int).toNat default).p) = false → In64 ((↑g : Int) - 1) ∧ (0 : Int) ≤ (↑g : Int) - 1 ∧ (↑g : Int) - 1 < (↑(List.map encSg t.st).length : Int) ∧ AV.agg (nthR
   (List.map encSg t.st) ((↑g : Int) - 1).toNat) = AV.agg [AV.i (t.st.getD ((↑g : Int) - 1).toNat default).p, AV.sl 1 (List.map encI (t.st.getD ((↑g : Int) - 1).toNat default).e)] ∧ (0 : Int) ≤ (↑(bandN t.sq d t.sq.length) : Int) ∧
   (↑(bandN t.sq d t.sq.length) : Int) < (↑(List.map encI (t.st.getD ((↑g : Int) - 1).toNat default).e).length : Int) ∧ (0 : Int) ≤ (↑(bandN t.sq d t.sq.length) : Int) ∧ (↑(bandN t.sq d t.sq.length) : Int) < (↑(List.map encI
   (t.st.getD (↑g : Int).toNat default).e).length : Int) ∧ In64 (p - (t.st.getD ((↑g : Int) - 1).toNat default).p) ∧ In64 ((t.st.getD (↑g : Int).toNat default).p - (t.st.getD ((↑g : Int) - 1).toNat default).p) ∧ nth (nthR (List.map
   encI (t.st.getD ((↑g : Int) - 1).toNat default).e) (↑(bandN t.sq d t.sq.length) : Int).toNat) 0 = AV.i (cI (List.map encI (t.st.getD ((↑g : Int) - 1).toNat default).e) (↑(bandN t.sq d t.sq.length) : Int).toNat) ∧ nth (nthR
   (List.map encI (t.st.getD (↑g : Int).toNat default).e) (↑(bandN t.sq d t.sq.length) : Int).toNat) 0 = AV.i (cI (List.map encI (t.st.getD (↑g : Int).toNat default).e) (↑(bandN t.sq d t.sq.length) : Int).toNat) ∧ PCall Tryz.prog G0
   97 [AV.i (cI (List.map encI (t.st.getD ((↑g : Int) - 1).toNat default).e) (↑(bandN t.sq d t.sq.length) : Int).toNat), AV.i (cI (List.map encI (t.st.getD (↑g : Int).toNat default).e) (↑(bandN t.sq d t.sq.length) : Int).toNat), AV.i
   (p - (t.st.getD ((↑g : Int) - 1).toNat default).p), AV.i ((t.st.getD (↑g : Int).toNat default).p - (t.st.getD ((↑g : Int) - 1).toNat default).p)] (AV.i (sBetween (cI (List.map encI (t.st.getD ((↑g : Int) - 1).toNat default).e)
   (↑(bandN t.sq d t.sq.length) : Int).toNat) (cI (List.map encI (t.st.getD (↑g : Int).toNat default).e) (↑(bandN t.sq d t.sq.length) : Int).toNat) (p - (t.st.getD ((↑g : Int) - 1).toNat default).p) ((t.st.getD (↑g : Int).toNat
   default).p - (t.st.getD ((↑g : Int) - 1).toNat default).p))) ∧ AV.i (sBetween (cI (List.map encI (t.st.getD ((↑g : Int) - 1).toNat default).e) (↑(bandN t.sq d t.sq.length) : Int).toNat) (cI (List.map encI (t.st.getD (↑g :
   Int).toNat default).e) (↑(bandN t.sq d t.sq.length) : Int).toNat) (p - (t.st.getD ((↑g : Int) - 1).toNat default).p) ((t.st.getD (↑g : Int).toNat default).p - (t.st.getD ((↑g : Int) - 1).toNat default).p)) = AV.i (emi t p d))))) ∧
   (decide ((↑g : Int) < (↑(List.map encSg t.st).length : Int)) = false → AV.i 0 = AV.i (emi t p d)))) := by
    have hlm : (List.map encSg t.st).length = t.st.length := List.length_map _
    have hlq : (List.map encI t.sq).length = t.sq.length := List.length_map _
    have hn1 := h.n1
    have hn2 := h.n2
    have hq1 := h.q1
    have hq2 := h.q2
    refine ⟨⟨0, by omega, rfl⟩, fun g hg => ⟨fun hd => ?_, fun hd => ?_⟩⟩
    · rw [hlq] at hd
      have hlt := lt_of_dec hd
      have hc := cI_map t.sq g
      refine ⟨by omega, by omega, cI_at hlt, fun hx => ⟨by unfold In64; omega, g + 1, hlt, by omega, ?_⟩, fun hx => ⟨by unfold In64; omega, g + 1, hlt, by omega, ?_⟩⟩
      · have hx : decide (cI (List.map encI t.sq) g ≤ d) = true := hx
        rw [hc] at hx
        simp only [bandN]
        rw [if_pos hx]
        rfl
      · have hx : decide (cI (List.map encI t.sq) g ≤ d) = false := hx
        rw [hc] at hx
        simp only [bandN]
        rw [if_neg (by rw [hx]; decide)]
        rfl
    · rw [hlq] at hd
      have e := ge_of_dec hd hg
      subst e
      have hK := bandN_lt (l := t.sq) (d := d) hq1
      have hKL : ∀ j, j < t.st.length → bandN t.sq d t.sq.length < (List.map encI (t.sg j).e).length := fun j hj => by
        rw [List.length_map, h.el j hj]
        exact hK
      have hat : ∀ j, j < t.st.length → nth (nthR (List.map encI (t.sg j).e) (bandN t.sq d t.sq.length)) 0 = AV.i (cI (List.map encI (t.sg j).e) (bandN t.sq d t.sq.length)) := fun j hj => cI_at (by rw [h.el j hj]; exact hK)
      rw [hlm, show ((t.st.length : Int) - 1).toNat = t.st.length - 1 by omega]
      have hkl := hKL (t.st.length - 1) (by omega)
      refine ⟨by unfold In64; omega, by omega, by omega, congrArg AV.agg (row_at encSg (by omega)), fun hx => ⟨by omega, Int.ofNat_lt.2 hkl, hat _ (by omega), congrArg AV.i (emi_top h (of_decide_eq_true hx))⟩, fun hx => ⟨⟨0, ⟨by omega, by intros; omega⟩, rfl⟩, fun g ⟨hg2, ha⟩ => ⟨fun hy => ?_, fun hy => ?_⟩⟩⟩
      · have hlt := lt_of_dec hy
        have hk := hKL g hlt
        refine ⟨by omega, by omega, congrArg AV.agg (row_at encSg hlt), fun h1 => ⟨by unfold In64; omega, g + 1, ⟨hlt, fun j hj => ?_⟩, by omega, rfl⟩, fun h1 => ?_⟩
        · have h1 : p > (t.sg g).p := of_decide_eq_true h1
          by_cases e : j = g
          · rw [e]; omega
          · exact ha j (by omega)
        · have h1 : ¬ p > (t.sg g).p := of_decide_eq_false h1
          have e2 := geN_some ha (by omega) (m := t.st.length) hlt
          have hi2 : geN t p t.st.length < t.st.length := by rw [e2]; exact hlt
          refine ⟨fun h0 => ⟨fun hx => absurd hx (by decide), congrArg AV.bool h0, fun _ => ?_, fun hx => absurd hx (by decide)⟩, fun h0 => ⟨congrArg AV.bool h0, fun h3 => ?_, fun h3 => ?_⟩⟩
          · have h0' : g = 0 := by have := beq_iff_eq.1 h0; omega
            have hE := emi_at (d := d) hi2 (Or.inl (by rw [e2]; exact h0'))
            rw [e2] at hE
            exact ⟨by omega, Int.ofNat_lt.2 hk, hat _ hlt, congrArg AV.i hE⟩
          · have hE := emi_at (d := d) hi2 (Or.inr (by rw [e2]; exact (beq_iff_eq.1 h3).symm))
            rw [e2] at hE
            exact ⟨by omega, Int.ofNat_lt.2 hk, hat _ hlt, congrArg AV.i hE⟩
          · have h0' : g ≠ 0 := by
              intro hz
              subst hz
              exact absurd h0 (by decide)
            have h1' : p ≠ (t.sg g).p := ne_of_beq_false h3
            rw [show ((g : Int) - 1).toNat = g - 1 by omega]
            have hk2 := hKL (g - 1) (by omega)
            have hB := emi_bet h hp hp2 hi2 (by rw [e2]; exact h0') hK
            have hE := emi_btw (d := d) hi2 (fun hx => hx.elim (by rw [e2]; exact h0') (by rw [e2]; exact fun hz => h1' hz.symm))
            rw [e2] at hB hE
            obtain ⟨x1, x2⟩ := h.pb (g - 1) (by omega)
            obtain ⟨y1, y2⟩ := h.pb _ hlt
            have x1 : 1 ≤ (t.st.getD (g - 1) default).p := x1
            have x2 : (t.st.getD (g - 1) default).p ≤ 100 := x2
            have y1 : 1 ≤ (t.st.getD ((g : Int)).toNat default).p := y1
            have y2 : (t.st.getD ((g : Int)).toNat default).p ≤ 100 := y2
            refine ⟨by unfold In64; omega, by omega, by omega, congrArg AV.agg (row_at encSg (by omega)), by omega, Int.ofNat_lt.2 hk2, by omega, Int.ofNat_lt.2 hk, ?_, ?_, hat _ (by omega), hat _ hlt, c97 _ _ _ _ hB, congrArg AV.i hE⟩
            · unfold In64
              omega
            · unfold In64
              omega
      · have e := ge_of_dec hy hg2
        have hx : ¬ p ≥ (t.sg (t.st.length - 1)).p := of_decide_eq_false hx
        have := ha (t.st.length - 1) (by omega)
        exact absurd (by omega) hx
  exact c_of Tryz.f49 ({ fzB (mkB (sp114 t) 49 [(5, 4, rdJ), (7, 7, rdL 2 encSg t.st 2 true), (9, 4, rdJ), (13, 4, rdL 2 encSg t.st 2 true), (16, 4, rdJ), (17, 5, rdL 2 encSg t.st 2 true), (18, 4, rdJ), (18, 9, rdJ)] (fun j => if j.beq 0 then some (la49a t p d) else if j.beq 2 then some (la49b t p d) else none)) with split := fun j => if j.beq 15 then 1 else 0 }) (by kernel_rfl) (by kernel_rfl) (by kernel_rfl) (by kernel_rfl) key (by kernel_rfl)
end Go.Proofs.YtjhjmncjidbieaaGreatDoor
namespace Go.Proofs.YtjhjmncjidbieaaGreatDoor
open Go Go.Av Go.RowKit
def sec : Nat → Int → Int → Int → Int
  | 0, _, _, _ => 0
  | n + 1, i, x, y => if (decide (x > y) && decide (y ≥ 0)) || (x == 0 && y == 0) then i else if decide (y ≥ x) && decide (x > 0) then i + 1 else sec n (i + 2) y (-x)
def rX : Nat → Int → Int → Int
  | 0, x, _ => x
  | 1, _, y => y
  | 2, x, _ => -x
  | 3, _, y => -y
  | _, x, _ => x
def rY : Nat → Int → Int → Int
  | 0, _, y => y
  | 1, x, _ => -x
  | 2, _, y => -y
  | 3, x, _ => x
  | _, _, y => y
def secX (a b c d : Int) : Int := a * c + b * d
def secY (a b c d : Int) : Int := a * d - b * c
theorem rX_b {B x y : Int} (hx : -B ≤ x ∧ x ≤ B) (hy : -B ≤ y ∧ y ≤ B) : ∀ k, -B ≤ rX k x y ∧ rX k x y ≤ B
  | 0 => hx
  | 1 => hy
  | 2 => by simp only [rX]; omega
  | 3 => by simp only [rX]; omega
  | _ + 4 => hx
theorem r_step {x y : Int} : ∀ {k : Nat}, k < 4 → rX (k + 1) x y = rY k x y ∧ rY (k + 1) x y = 0 - rX k x y
  | 0, _ => ⟨rfl, by simp only [rX, rY]; omega⟩
  | 1, _ => ⟨rfl, by simp only [rX, rY]; omega⟩
  | 2, _ => ⟨rfl, by simp only [rX, rY]; omega⟩
  | 3, _ => ⟨rfl, by simp only [rX, rY]; omega⟩
  | _ + 4, h => absurd h (by omega)
theorem sec_in {a b c d : Int} (ha : -200000 ≤ a ∧ a ≤ 200000) (hb : -200000 ≤ b ∧ b ≤ 200000) (hc : -200000 ≤ c ∧ c ≤ 200000) (hd : -200000 ≤ d ∧ d ≤ 200000) :
    In64 (a * c) ∧ In64 (b * d) ∧ In64 (a * c + b * d) ∧ In64 (a * d) ∧ In64 (b * c) ∧ In64 (a * d - b * c) ∧ (-100000000000 ≤ secX a b c d ∧ secX a b c d ≤ 100000000000) ∧ (-100000000000 ≤ secY a b c d ∧ secY a b c d ≤ 100000000000) := by
  have h1 := mul_bound ha.1 ha.2 hc.1 hc.2
  have h2 := mul_bound hb.1 hb.2 hd.1 hd.2
  have h3 := mul_bound ha.1 ha.2 hd.1 hd.2
  have h4 := mul_bound hb.1 hb.2 hc.1 hc.2
  unfold secX secY In64
  generalize a * c = w1 at *
  generalize b * d = w2 at *
  generalize a * d = w3 at *
  generalize b * c = w4 at *
  omega
theorem sec_step {g : Nat} {x y S : Int} (hg : g < 4) (hs : sec (4 - g) (2 * g : Nat) (rX g x y) (rY g x y) = S) :
    ((((decide (rX g x y > rY g x y) && decide (rY g x y ≥ 0)) || (rX g x y == 0 && rY g x y == 0)) = true → AV.i (2 * g : Nat) = AV.i S) ∧
    (((decide (rX g x y > rY g x y) && decide (rY g x y ≥ 0)) || (rX g x y == 0 && rY g x y == 0)) = false → (decide (rY g x y ≥ rX g x y) && decide (rX g x y > 0)) = true → AV.i ((2 * g : Nat) + 1) = AV.i S) ∧
    (((decide (rX g x y > rY g x y) && decide (rY g x y ≥ 0)) || (rX g x y == 0 && rY g x y == 0)) = false → (decide (rY g x y ≥ rX g x y) && decide (rX g x y > 0)) = false →
      ∃ g' : Nat, (g' ≤ 4 ∧ sec (4 - g') (2 * g' : Nat) (rX g' x y) (rY g' x y) = S) ∧ 4 - g' < 4 - g ∧ rY g x y = rX g' x y ∧ 0 - rX g x y = rY g' x y ∧ ((2 * g : Nat) : Int) + 2 = (2 * g' : Nat))) := by
  rw [show 4 - g = (3 - g) + 1 by omega] at hs
  simp only [sec] at hs
  refine ⟨fun h => ?_, fun h h2 => ?_, fun h h2 => ⟨g + 1, ⟨hg, ?_⟩, by omega, (r_step hg).1.symm, (r_step hg).2.symm, by omega⟩⟩
  · rw [if_pos h] at hs
    rw [hs]
  · rw [if_neg (by rw [h]; decide), if_pos h2] at hs
    rw [hs]
  · rw [if_neg (by rw [h]; decide), if_neg (by rw [h2]; decide)] at hs
    rw [show 4 - (g + 1) = 3 - g by omega, (r_step hg).1, (r_step hg).2, show ((2 * (g + 1) : Nat) : Int) = ((2 * g : Nat) : Int) + 2 by omega, show 0 - rX g x y = - rX g x y by omega]
    exact hs
def la116 (a b c d : Int) : LA := {
  pre := [.keep [5, 6, 7] [], .bound 1], post := [.keep [5, 6, 7] [], .bound 1]
  Gh := Nat
  st := fun k => ⟨[(5, .i (rX k (secX a b c d) (secY a b c d))), (6, .i (rY k (secX a b c d) (secY a b c d))), (7, .i (2 * k : Nat))], [], 1⟩
  ok := fun k => k ≤ 4 ∧ sec (4 - k) (2 * k : Nat) (rX k (secX a b c d) (secY a b c d)) (rY k (secX a b c d) (secY a b c d)) = sec 4 0 (secX a b c d) (secY a b c d)
  ms := fun k => 4 - k }
theorem c116 (a b c d : Int) (ha : -200000 ≤ a ∧ a ≤ 200000) (hb : -200000 ≤ b ∧ b ≤ 200000) (hc : -200000 ≤ c ∧ c ≤ 200000) (hd : -200000 ≤ d ∧ d ≤ 200000) : PCall Tryz.prog G0 116 [.agg [.i a, .i b], .agg [.i c, .i d]] (.i (sec 4 0 (secX a b c d) (secY a b c d))) := by
  have key :
   In64 (a * c) ∧ In64 (b * d) ∧ In64 (a * c + b * d) ∧ In64 (a * d) ∧ In64 (b * c) ∧ In64 (a * d - b * c) ∧ (∃ (g : Nat), (g ≤ 4 ∧ sec (4 - g) (↑(2 * g) : Int) (rX g (secX a b c d) (secY a b c d)) (rY g (secX a b c d) (secY a b c d))
   = sec 4 (0 : Int) (secX a b c d) (secY a b c d)) ∧ AS.mk [(5, AV.i (a * c + b * d)), (6, AV.i (a * d - b * c)), (7, AV.i 0)] [] 1 = AS.mk [(5, AV.i (rX g (secX a b c d) (secY a b c d))), (6, AV.i (rY g (secX a b c d) (secY a b c
   d))), (7, AV.i (↑(2 * g) : Int))] [] 1) ∧ ∀ (g : Nat), g ≤ 4 ∧ sec (4 - g) (↑(2 * g) : Int) (rX g (secX a b c d) (secY a b c d)) (rY g (secX a b c d) (secY a b c d)) = sec 4 (0 : Int) (secX a b c d) (secY a b c d) → (decide ((↑(2 *
   g) : Int) < 8) = true → (decide (rX g (secX a b c d) (secY a b c d) > rY g (secX a b c d) (secY a b c d)) = true → (decide (rY g (secX a b c d) (secY a b c d) ≥ 0) = true → (true = false → false = true) ∧ AV.bool (decide (rX g
   (secX a b c d) (secY a b c d) > rY g (secX a b c d) (secY a b c d))) = AV.bool true ∧ AV.bool (decide (rY g (secX a b c d) (secY a b c d) ≥ 0)) = AV.bool true ∧ (true = true → AV.i (↑(2 * g) : Int) = AV.i (sec 4 (0 : Int) (secX a b
   c d) (secY a b c d))) ∧ (true = false → (decide (rY g (secX a b c d) (secY a b c d) ≥ rX g (secX a b c d) (secY a b c d)) = true → AV.bool (decide (rY g (secX a b c d) (secY a b c d) ≥ rX g (secX a b c d) (secY a b c d))) = AV.bool
   true ∧ (decide (rX g (secX a b c d) (secY a b c d) > 0) = true → In64 ((↑(2 * g) : Int) + 1) ∧ AV.i ((↑(2 * g) : Int) + 1) = AV.i (sec 4 (0 : Int) (secX a b c d) (secY a b c d))) ∧ (decide (rX g (secX a b c d) (secY a b c d) > 0) =
   false → In64 ((0 : Int) - rX g (secX a b c d) (secY a b c d)) ∧ In64 ((↑(2 * g) : Int) + 2) ∧ ∃ (g' : Nat), (g' ≤ 4 ∧ sec (4 - g') (↑(2 * g') : Int) (rX g' (secX a b c d) (secY a b c d)) (rY g' (secX a b c d) (secY a b c d)) = sec
   4 (0 : Int) (secX a b c d) (secY a b c d)) ∧ 4 - g' < 4 - g ∧ AS.mk [(5, AV.i (rY g (secX a b c d) (secY a b c d))), (6, AV.i ((0 : Int) - rX g (secX a b c d) (secY a b c d))), (7, AV.i ((↑(2 * g) : Int) + 2))] [] 1 = AS.mk [(5,
   AV.i (rX g' (secX a b c d) (secY a b c d))), (6, AV.i (rY g' (secX a b c d) (secY a b c d))), (7, AV.i (↑(2 * g') : Int))] [] 1)) ∧ (decide (rY g (secX a b c d) (secY a b c d) ≥ rX g (secX a b c d) (secY a b c d)) = false → (false
   = true → false = true) ∧ AV.bool (decide (rY g (secX a b c d) (secY a b c d) ≥ rX g (secX a b c d) (secY a b c d))) = AV.bool false ∧ (false = true → In64 ((↑(2 * g) : Int) + 1) ∧ AV.i ((↑(2 * g) : Int) + 1) = AV.i (sec 4 (0 : Int)
   (secX a b c d) (secY a b c d))) ∧ (false = false → In64 ((0 : Int) - rX g (secX a b c d) (secY a b c d)) ∧ In64 ((↑(2 * g) : Int) + 2) ∧ ∃ (g' : Nat), (g' ≤ 4 ∧ sec (4 - g') (↑(2 * g') : Int) (rX g' (secX a b c d) (secY a b c d))
   (rY g' (secX a b c d) (secY a b c d)) = sec 4 (0 : Int) (secX a b c d) (secY a b c d)) ∧ 4 - g' < 4 - g ∧ AS.mk [(5, AV.i (rY g (secX a b c d) (secY a b c d))), (6, AV.i ((0 : Int) - rX g (secX a b c d) (secY a b c d))), (7, AV.i
   ((↑(2 * g) : Int) + 2))] [] 1 = AS.mk [(5, AV.i (rX g' (secX a b c d) (secY a b c d))), (6, AV.i (rY g' (secX a b c d) (secY a b c d))), (7, AV.i (↑(2 * g') : Int))] [] 1)))) ∧ (decide (rY g (secX a b c d) (secY a b c d) ≥ 0) =
   false → ((rX g (secX a b c d) (secY a b c d) == 0) = true → AV.bool (decide (rX g (secX a b c d) (secY a b c d) > rY g (secX a b c d) (secY a b c d))) = AV.bool true ∧ AV.bool (decide (rY g (secX a b c d) (secY a b c d) ≥ 0)) =
   AV.bool false ∧ AV.bool (rX g (secX a b c d) (secY a b c d) == 0) = AV.bool true ∧ ((rY g (secX a b c d) (secY a b c d) == 0) = true → AV.i (↑(2 * g) : Int) = AV.i (sec 4 (0 : Int) (secX a b c d) (secY a b c d))) ∧ ((rY g (secX a b
   c d) (secY a b c d) == 0) = false → (decide (rY g (secX a b c d) (secY a b c d) ≥ rX g (secX a b c d) (secY a b c d)) = true → AV.bool (decide (rY g (secX a b c d) (secY a b c d) ≥ rX g (secX a b c d) (secY a b c d))) = AV.bool
   true ∧ (decide (rX g (secX a b c d) (secY a b c d) > 0) = true → In64 ((↑(2 * g) : Int) + 1) ∧ AV.i ((↑(2 * g) : Int) + 1) = AV.i (sec 4 (0 : Int) (secX a b c d) (secY a b c d))) ∧ (decide (rX g (secX a b c d) (secY a b c d) > 0) =
   false → In64 ((0 : Int) - rX g (secX a b c d) (secY a b c d)) ∧ In64 ((↑(2 * g) : Int) + 2) ∧ ∃ (g' : Nat), (g' ≤ 4 ∧ sec (4 - g') (↑(2 * g') : Int) (rX g' (secX a b c d) (secY a b c d)) (rY g' (secX a b c d) (secY a b c d)) = sec
   4 (0 : Int) (secX a b c d) (secY a b c d)) ∧ 4 - g' < 4 - g ∧ AS.mk [(5, AV.i (rY g (secX a b c d) (secY a b c d))), (6, AV.i ((0 : Int) - rX g (secX a b c d) (secY a b c d))), (7, AV.i ((↑(2 * g) : Int) + 2))] [] 1 = AS.mk [(5,
   AV.i (rX g' (secX a b c d) (secY a b c d))), (6, AV.i (rY g' (secX a b c d) (secY a b c d))), (7, AV.i (↑(2 * g') : Int))] [] 1)) ∧ (decide (rY g (secX a b c d) (secY a b c d) ≥ rX g (secX a b c d) (secY a b c d)) = false → (false
   = true → false = true) ∧ AV.bool (decide (rY g (secX a b c d) (secY a b c d) ≥ rX g (secX a b c d) (secY a b c d))) = AV.bool false ∧ (false = true → In64 ((↑(2 * g) : Int) + 1) ∧ AV.i ((↑(2 * g) : Int) + 1) = AV.i (sec 4 (0 : Int)
   (secX a b c d) (secY a b c d))) ∧ (false = false → In64 ((0 : Int) - rX g (secX a b c d) (secY a b c d)) ∧ In64 ((↑(2 * g) : Int) + 2) ∧ ∃ (g' : Nat), (g' ≤ 4 ∧ sec (4 - g') (↑(2 * g') : Int) (rX g' (secX a b c d) (secY a b c d))
   (rY g' (secX a b c d) (secY a b c d)) = sec 4 (0 : Int) (secX a b c d) (secY a b c d)) ∧ 4 - g' < 4 - g ∧ AS.mk [(5, AV.i (rY g (secX a b c d) (secY a b c d))), (6, AV.i ((0 : Int) - rX g (secX a b c d) (secY a b c d))), (7, AV.i
   ((↑(2 * g) : Int) + 2))] [] 1 = AS.mk [(5, AV.i (rX g' (secX a b c d) (secY a b c d))), (6, AV.i (rY g' (secX a b c d) (secY a b c d))), (7, AV.i (↑(2 * g') : Int))] [] 1)))) ∧ ((rX g (secX a b c d) (secY a b c d) == 0) = false →
   (false = true → false = true) ∧ AV.bool (decide (rX g (secX a b c d) (secY a b c d) > rY g (secX a b c d) (secY a b c d))) = AV.bool true ∧ AV.bool (decide (rY g (secX a b c d) (secY a b c d) ≥ 0)) = AV.bool false ∧ AV.bool (rX g
   (secX a b c d) (secY a b c d) == 0) = AV.bool false ∧ (false = true → AV.i (↑(2 * g) : Int) = AV.i (sec 4 (0 : Int) (secX a b c d) (secY a b c d))) ∧ (false = false → (decide (rY g (secX a b c d) (secY a b c d) ≥ rX g (secX a b c
   d) (secY a b c d)) = true → AV.bool (decide (rY g (secX a b c d) (secY a b c d) ≥ rX g (secX a b c d) (secY a b c d))) = AV.bool true ∧ (decide (rX g (secX a b c d) (secY a b c d) > 0) = true → In64 ((↑(2 * g) : Int) + 1) ∧ AV.i
   ((↑(2 * g) : Int) + 1) = AV.i (sec 4 (0 : Int) (secX a b c d) (secY a b c d))) ∧ (decide (rX g (secX a b c d) (secY a b c d) > 0) = false → In64 ((0 : Int) - rX g (secX a b c d) (secY a b c d)) ∧ In64 ((↑(2 * g) : Int) + 2) ∧ ∃ (g'
   : Nat), (g' ≤ 4 ∧ sec (4 - g') (↑(2 * g') : Int) (rX g' (secX a b c d) (secY a b c d)) (rY g' (secX a b c d) (secY a b c d)) = sec 4 (0 : Int) (secX a b c d) (secY a b c d)) ∧ 4 - g' < 4 - g ∧ AS.mk [(5, AV.i (rY g (secX a b c d)
   (secY a b c d))), (6, AV.i ((0 : Int) - rX g (secX a b c d) (secY a b c d))), (7, AV.i ((↑(2 * g) : Int) + 2))] [] 1 = AS.mk [(5, AV.i (rX g' (secX a b c d) (secY a b c d))), (6, AV.i (rY g' (secX a b c d) (secY a b c d))), (7,
   AV.i (↑(2 * g') : Int))] [] 1)) ∧ (decide (rY g (secX a b c d) (secY a b c d) ≥ rX g (secX a b c d) (secY a b c d)) = false → (false = true → false = true) ∧ AV.bool (decide (rY g (secX a b c d) (secY a b c d) ≥ rX g (secX a b c d)
   (secY a b c d))) = AV.bool false ∧ (false = true → In64 ((↑(2 * g) : Int) + 1) ∧ AV.i ((↑(2 * g) : Int) + 1) = AV.i (sec 4 (0 : Int) (secX a b c d) (secY a b c d))) ∧ (false = false → In64 ((0 : Int) - rX g (secX a b c d) (secY a b
   c d)) ∧ In64 ((↑(2 * g) : Int) + 2) ∧ ∃ (g' : Nat), (g' ≤ 4 ∧ sec (4 - g') (↑(2 * g') : Int) (rX g' (secX a b c d) (secY a b c d)) (rY g' (secX a b c d) (secY a b c d)) = sec 4 (0 : Int) (secX a b c d) (secY a b c d)) ∧ 4 - g' < 4
   - g ∧ AS.mk [(5, AV.i (rY g (secX a b c d) (secY a b c d))), (6, AV.i ((0 : Int) - rX g (secX a b c d) (secY a b c d))), (7, AV.i ((↑(2 * g) : Int) + 2))] [] 1 = AS.mk [(5, AV.i (rX g' (secX a b c d) (secY a b c d))), (6, AV.i (rY
   g' (secX a b c d) (secY a b c d))), (7, AV.i (↑(2 * g') : Int))] [] 1)))))) ∧ (decide (rX g (secX a b c d) (secY a b c d) > rY g (secX a b c d) (secY a b c d)) = false → (false = true → (false = true → false = true) ∧ (true = false
   → false = true) ∧ AV.bool (decide (rX g (secX a b c d) (secY a b c d) > rY g (secX a b c d) (secY a b c d))) = AV.bool false ∧ AV.bool false = AV.bool true ∧ (true = true → AV.i (↑(2 * g) : Int) = AV.i (sec 4 (0 : Int) (secX a b c
   d) (secY a b c d))) ∧ (true = false → (decide (rY g (secX a b c d) (secY a b c d) ≥ rX g (secX a b c d) (secY a b c d)) = true → AV.bool (decide (rY g (secX a b c d) (secY a b c d) ≥ rX g (secX a b c d) (secY a b c d))) = AV.bool
   true ∧ (decide (rX g (secX a b c d) (secY a b c d) > 0) = true → In64 ((↑(2 * g) : Int) + 1) ∧ AV.i ((↑(2 * g) : Int) + 1) = AV.i (sec 4 (0 : Int) (secX a b c d) (secY a b c d))) ∧ (decide (rX g (secX a b c d) (secY a b c d) > 0) =
   false → In64 ((0 : Int) - rX g (secX a b c d) (secY a b c d)) ∧ In64 ((↑(2 * g) : Int) + 2) ∧ ∃ (g' : Nat), (g' ≤ 4 ∧ sec (4 - g') (↑(2 * g') : Int) (rX g' (secX a b c d) (secY a b c d)) (rY g' (secX a b c d) (secY a b c d)) = sec
   4 (0 : Int) (secX a b c d) (secY a b c d)) ∧ 4 - g' < 4 - g ∧ AS.mk [(5, AV.i (rY g (secX a b c d) (secY a b c d))), (6, AV.i ((0 : Int) - rX g (secX a b c d) (secY a b c d))), (7, AV.i ((↑(2 * g) : Int) + 2))] [] 1 = AS.mk [(5,
   AV.i (rX g' (secX a b c d) (secY a b c d))), (6, AV.i (rY g' (secX a b c d) (secY a b c d))), (7, AV.i (↑(2 * g') : Int))] [] 1)) ∧ (decide (rY g (secX a b c d) (secY a b c d) ≥ rX g (secX a b c d) (secY a b c d)) = false → (false
   = true → false = true) ∧ AV.bool (decide (rY g (secX a b c d) (secY a b c d) ≥ rX g (secX a b c d) (secY a b c d))) = AV.bool false ∧ (false = true → In64 ((↑(2 * g) : Int) + 1) ∧ AV.i ((↑(2 * g) : Int) + 1) = AV.i (sec 4 (0 : Int)
   (secX a b c d) (secY a b c d))) ∧ (false = false → In64 ((0 : Int) - rX g (secX a b c d) (secY a b c d)) ∧ In64 ((↑(2 * g) : Int) + 2) ∧ ∃ (g' : Nat), (g' ≤ 4 ∧ sec (4 - g') (↑(2 * g') : Int) (rX g' (secX a b c d) (secY a b c d))
   (rY g' (secX a b c d) (secY a b c d)) = sec 4 (0 : Int) (secX a b c d) (secY a b c d)) ∧ 4 - g' < 4 - g ∧ AS.mk [(5, AV.i (rY g (secX a b c d) (secY a b c d))), (6, AV.i ((0 : Int) - rX g (secX a b c d) (secY a b c d))), (7, AV.i
   ((↑(2 * g) : Int) + 2))] [] 1 = AS.mk [(5, AV.i (rX g' (secX a b c d) (secY a b c d))), (6, AV.i (rY g' (secX a b c d) (secY a b c d))), (7, AV.i (↑(2 * g') : Int))] [] 1)))) ∧ (false = false → ((rX g (secX a b c d) (secY a b c d)
   == 0) = true → (false = true → false = true) ∧ AV.bool (decide (rX g (secX a b c d) (secY a b c d) > rY g (secX a b c d) (secY a b c d))) = AV.bool false ∧ AV.bool false = AV.bool false ∧ AV.bool (rX g (secX a b c d) (secY a b c d)
   == 0) = AV.bool true ∧ ((rY g (secX a b c d) (secY a b c d) == 0) = true → AV.i (↑(2 * g) : Int) = AV.i (sec 4 (0 : Int) (secX a b c d) (secY a b c d))) ∧ ((rY g (secX a b c d) (secY a b c d) == 0) = false → (decide (rY g (secX a b
   c d) (secY a b c d) ≥ rX g (secX a b c d) (secY a b c d)) = true → AV.bool (decide (rY g (secX a b c d) (secY a b c d) ≥ rX g (secX a b c d) (secY a b c d))) = AV.bool true ∧ (decide (rX g (secX a b c d) (secY a b c d) > 0) = true
   → In64 ((↑(2 * g) : Int) + 1) ∧ AV.i ((↑(2 * g) : Int) + 1) = AV.i (sec 4 (0 : Int) (secX a b c d) (secY a b c d))) ∧ (decide (rX g (secX a b c d) (secY a b c d) > 0) = false → In64 ((0 : Int) - rX g (secX a b c d) (secY a b c d))
   ∧ In64 ((↑(2 * g) : Int) + 2) ∧ ∃ (g' : Nat), (g' ≤ 4 ∧ sec (4 - g') (↑(2 * g') : Int) (rX g' (secX a b c d) (secY a b c d)) (rY g' (secX a b c d) (secY a b c d)) = sec 4 (0 : Int) (secX a b c d) (secY a b c d)) ∧ 4 - g' < 4 - g ∧
   AS.mk [(5, AV.i (rY g (secX a b c d) (secY a b c d))), (6, AV.i ((0 : Int) - rX g (secX a b c d) (secY a b c d))), (7, AV.i ((↑(2 * g) : Int) + 2))] [] 1 = AS.mk [(5, AV.i (rX g' (secX a b c d) (secY a b c d))), (6, AV.i (rY g'
   (secX a b c d) (secY a b c d))), (7, AV.i (↑(2 * g') : Int))] [] 1)) ∧ (decide (rY g (secX a b c d) (secY a b c d) ≥ rX g (secX a b c d) (secY a b c d)) = false → (false = true → false = true) ∧ AV.bool (decide (rY g (secX a b c d)
   (secY a b c d) ≥ rX g (secX a b c d) (secY a b c d))) = AV.bool false ∧ (false = true → In64 ((↑(2 * g) : Int) + 1) ∧ AV.i ((↑(2 * g) : Int) + 1) = AV.i (sec 4 (0 : Int) (secX a b c d) (secY a b c d))) ∧ (false = false → In64 ((0 :
   Int) - rX g (secX a b c d) (secY a b c d)) ∧ In64 ((↑(2 * g) : Int) + 2) ∧ ∃ (g' : Nat), (g' ≤ 4 ∧ sec (4 - g') (↑(2 * g') : Int) (rX g' (secX a b c d) (secY a b c d)) (rY g' (secX a b c d) (secY a b c d)) = sec 4 (0 : Int) (secX a
   b c d) (secY a b c d)) ∧ 4 - g' < 4 - g ∧ AS.mk [(5, AV.i (rY g (secX a b c d) (secY a b c d))), (6, AV.i ((0 : Int) - rX g (secX a b c d) (secY a b c d))), (7, AV.i ((↑(2 * g) : Int) + 2))] [] 1 = AS.mk [(5, AV.i (rX g' (secX a b
   c d) (secY a b c d))), (6, AV.i (rY g' (secX a b c d) (secY a b c d))), (7, AV.i (↑(2 * g') : Int))] [] 1)))) ∧ ((rX g (secX a b c d) (secY a b c d) == 0) = false → (false = true → false = true) ∧ (false = true → false = true) ∧
   AV.bool (decide (rX g (secX a b c d) (secY a b c d) > rY g (secX a b c d) (secY a b c d))) = AV.bool false ∧ AV.bool false = AV.bool false ∧ AV.bool (rX g (secX a b c d) (secY a b c d) == 0) = AV.bool false ∧ (false = true → AV.i
   (↑(2 * g) : Int) = AV.i (sec 4 (0 : Int) (secX a b c d) (secY a b c d))) ∧ (false = false → (decide (rY g (secX a b c d) (secY a b c d) ≥ rX g (secX a b c d) (secY a b c d)) = true → AV.bool (decide (rY g (secX a b c d) (secY a b c
   d) ≥ rX g (secX a b c d) (secY a b c d))) = AV.bool true ∧ (decide (rX g (secX a b c d) (secY a b c d) > 0) = true → In64 ((↑(2 * g) : Int) + 1) ∧ AV.i ((↑(2 * g) : Int) + 1) = AV.i (sec 4 (0 : Int) (secX a b c d) (secY a b c d)))
   ∧ (decide (rX g (secX a b c d) (secY a b c d) > 0) = false → In64 ((0 : Int) - rX g (secX a b c d) (secY a b c d)) ∧ In64 ((↑(2 * g) : Int) + 2) ∧ ∃ (g' : Nat), (g' ≤ 4 ∧ sec (4 - g') (↑(2 * g') : Int) (rX g' (secX a b c d) (secY a
   b c d)) (rY g' (secX a b c d) (secY a b c d)) = sec 4 (0 : Int) (secX a b c d) (secY a b c d)) ∧ 4 - g' < 4 - g ∧ AS.mk [(5, AV.i (rY g (secX a b c d) (secY a b c d))), (6, AV.i ((0 : Int) - rX g (secX a b c d) (secY a b c d))),
   (7, AV.i ((↑(2 * g) : Int) + 2))] [] 1 = AS.mk [(5, AV.i (rX g' (secX a b c d) (secY a b c d))), (6, AV.i (rY g' (secX a b c d) (secY a b c d))), (7, AV.i (↑(2 * g') : Int))] [] 1)) ∧ (decide (rY g (secX a b c d) (secY a b c d) ≥
   rX g (secX a b c d) (secY a b c d)) = false → (false = true → false = true) ∧ AV.bool (decide (rY g (secX a b c d) (secY a b c d) ≥ rX g (secX a b c d) (secY a b c d))) = AV.bool false ∧ (false = true → In64 ((↑(2 * g) : Int) + 1)
   ∧ AV.i ((↑(2 * g) : Int) + 1) = AV.i (sec 4 (0 : Int) (secX a b c d) (secY a b c d))) ∧ (false = false → In64 ((0 : Int) - rX g (secX a b c d) (secY a b c d)) ∧ In64 ((↑(2 * g) : Int) + 2) ∧ ∃ (g' : Nat), (g' ≤ 4 ∧ sec (4 - g')
   (↑(2 * g') : Int) (rX g' (secX a b c d) (secY a b c d)) (rY g' (secX a b c d) (secY a b c d)) = sec 4 (0 : Int) (secX a b c d) (secY a b c d)) ∧ 4 - g' < 4 - g ∧ AS.mk [(5, AV.i (rY g (secX a b c d) (secY a b c d))), (6, AV.i ((0 :
   Int) - rX g (secX a b c d) (secY a b c d))), (7, AV.i ((↑(2 * g) : Int) + 2))] [] 1 = AS.mk [(5, AV.i (rX g' (secX a b c d) (secY a b c d))), (6, AV.i (rY g' (secX a b c d) (secY a b c d))), (7, AV.i (↑(2 * g') : Int))] [] 1)))))))
   ∧ (decide ((↑(2 * g) : Int) < 8) = false → AV.i 0 = AV.i (sec 4 (0 : Int) (secX a b c d) (secY a b c d))) := by
    obtain ⟨i1, i2, i3, i4, i5, i6, bX, bY⟩ := sec_in ha hb hc hd
    refine ⟨i1, i2, i3, i4, i5, i6, ⟨0, ⟨by omega, rfl⟩, rfl⟩, fun g ⟨hg, hs⟩ => ⟨fun hy => ?_, fun hy => ?_⟩⟩
    · have hg4 : g < 4 := by have := of_decide_eq_true hy; omega
      obtain ⟨f1, f2, f3⟩ := sec_step hg4 hs
      have hbx := rX_b bX bY g
      have j1 : In64 ((2 * g : Nat) + 1) := by unfold In64; omega
      have j2 : In64 ((2 * g : Nat) + 2) := by unfold In64; omega
      have j3 : In64 (0 - rX g (secX a b c d) (secY a b c d)) := by unfold In64; omega
      clear hs hy bX bY hbx i1 i2 i3 i4 i5 i6 ha hb hc hd hg
      generalize sec 4 0 (secX a b c d) (secY a b c d) = S at *
      generalize decide (rX g (secX a b c d) (secY a b c d) > rY g (secX a b c d) (secY a b c d)) = p at *
      generalize decide (rY g (secX a b c d) (secY a b c d) ≥ 0) = q at *
      generalize (rX g (secX a b c d) (secY a b c d) == 0) = r at *
      generalize (rY g (secX a b c d) (secY a b c d) == 0) = s at *
      generalize decide (rY g (secX a b c d) (secY a b c d) ≥ rX g (secX a b c d) (secY a b c d)) = u at *
      generalize decide (rX g (secX a b c d) (secY a b c d) > 0) = w at *
      cases p <;> cases q <;> cases r <;> cases s <;> cases u <;> cases w
      all_goals repeat' (first | (intro h; cases h; done) | exact j1 | exact j2 | exact j3 | apply And.intro | intro _)
      all_goals first
        | rfl
        | exact f1 rfl
        | exact f2 rfl rfl
        | (obtain ⟨g', q1, q2, q3, q4, q5⟩ := f3 rfl rfl; exact ⟨g', q1, q2, by rw [q3, q4, q5]⟩)
    · have hg4 : g = 4 := by have := of_decide_eq_false hy; omega
      subst hg4
      exact congrArg AV.i hs
  exact c_of Tryz.f116 ({ fzB (mkB spR 116 [] (fun j => if j.beq 0 then some (la116 a b c d) else none)) with split := fun j => if j.beq 5 then 1 else if j.beq 7 then 1 else 0 }) (by kernel_rfl) (by kernel_rfl) (by kernel_rfl) (by kernel_rfl) key (by kernel_rfl)
end Go.Proofs.YtjhjmncjidbieaaGreatDoor
namespace Go.Proofs.YtjhjmncjidbieaaGreatDoor
open Go Go.Av Go.RowKit
theorem hit_iff {x y : Int} : ((decide (x > y) && decide (y ≥ 0)) || (x == 0 && y == 0)) = true ↔ (x > y ∧ y ≥ 0) ∨ (x = 0 ∧ y = 0) := by
  rw [Bool.or_eq_true, Bool.and_eq_true, Bool.and_eq_true, decide_eq_true_eq, decide_eq_true_eq, beq_iff_eq, beq_iff_eq]
theorem hit2_iff {x y : Int} : (decide (y ≥ x) && decide (x > 0)) = true ↔ y ≥ x ∧ x > 0 := by
  rw [Bool.and_eq_true, decide_eq_true_eq, decide_eq_true_eq]
theorem r_ne {x y : Int} (h : ¬ (x = 0 ∧ y = 0)) : ∀ k, ¬ (rX k x y = 0 ∧ rY k x y = 0)
  | 0 => h
  | 1 => by simp only [rX, rY]; omega
  | 2 => by simp only [rX, rY]; omega
  | 3 => by simp only [rX, rY]; omega
  | _ + 4 => h
theorem sec_stepR {g : Nat} {x y S : Int} (hne : ¬ (x = 0 ∧ y = 0)) (hg : g < 4) (hs : sec (4 - g) (2 * g : Nat) (rX g x y) (rY g x y) = S) (hq : ∀ j, j < g → ¬ (rX j x y > 0 ∧ rY j x y ≥ 0)) :
    (decide (rX g x y > 0) = true → decide (rY g x y ≥ 0) = true → decide (rY g x y ≥ rX g x y) = true → AV.i ((2 * g : Nat) + 1) = AV.i S) ∧
    (decide (rX g x y > 0) = true → decide (rY g x y ≥ 0) = true → decide (rY g x y ≥ rX g x y) = false → AV.i (2 * g : Nat) = AV.i S) ∧
    ((decide (rX g x y > 0) && decide (rY g x y ≥ 0)) = false →
      ∃ g' : Nat, (g' ≤ 4 ∧ sec (4 - g') (2 * g' : Nat) (rX g' x y) (rY g' x y) = S ∧ ∀ j, j < g' → ¬ (rX j x y > 0 ∧ rY j x y ≥ 0)) ∧ 4 - g' < 4 - g ∧ rY g x y = rX g' x y ∧ 0 - rX g x y = rY g' x y ∧ ((2 * g : Nat) : Int) + 2 = (2 * g' : Nat) ∧ (g : Int) + 1 = (g' : Int)) := by
  have hn := r_ne hne g
  rw [show 4 - g = (3 - g) + 1 by omega] at hs
  simp only [sec] at hs
  refine ⟨fun h1 h2 h3 => ?_, fun h1 h2 h3 => ?_, fun h => ?_⟩
  · have h1 := of_decide_eq_true h1
    have h2 := of_decide_eq_true h2
    have h3 := of_decide_eq_true h3
    rw [if_neg (by rw [hit_iff]; omega), if_pos (by rw [hit2_iff]; omega)] at hs
    rw [hs]
  · have h1 := of_decide_eq_true h1
    have h2 := of_decide_eq_true h2
    have h3 := of_decide_eq_false h3
    rw [if_pos (by rw [hit_iff]; omega)] at hs
    rw [hs]
  · have h : ¬ (rX g x y > 0 ∧ rY g x y ≥ 0) := fun hh => by
      rw [decide_eq_true hh.1, decide_eq_true hh.2] at h
      exact absurd h (by decide)
    rw [if_neg (by rw [hit_iff]; omega), if_neg (by rw [hit2_iff]; omega)] at hs
    refine ⟨g + 1, ⟨hg, ?_, fun j hj => ?_⟩, by omega, (r_step hg).1.symm, (r_step hg).2.symm, by omega, by omega⟩
    · rw [show 4 - (g + 1) = 3 - g by omega, (r_step hg).1, (r_step hg).2, show ((2 * (g + 1) : Nat) : Int) = ((2 * g : Nat) : Int) + 2 by omega, show 0 - rX g x y = - rX g x y by omega]
      exact hs
    · by_cases e : j = g
      · rw [e]; exact h
      · exact hq j (by omega)
theorem quad_all {x y : Int} (hne : ¬ (x = 0 ∧ y = 0)) (hq : ∀ j, j < 4 → ¬ (rX j x y > 0 ∧ rY j x y ≥ 0)) : False := by
  have h0 := hq 0 (by omega)
  have h1 := hq 1 (by omega)
  have h2 := hq 2 (by omega)
  have h3 := hq 3 (by omega)
  simp only [rX, rY] at h0 h1 h2 h3
  omega
def la50 (a b c d : Int) : LA := {
  pre := [.keep [5, 6, 7, 8] [], .bound 1], post := [.keep [5, 6, 7, 8] [], .bound 1]
  Gh := Nat
  st := fun k => ⟨[(5, .i (rX k (secX a b c d) (secY a b c d))), (6, .i (rY k (secX a b c d) (secY a b c d))), (7, .i (2 * k : Nat)), (8, .i k)], [], 1⟩
  ok := fun k => k ≤ 4 ∧ sec (4 - k) (2 * k : Nat) (rX k (secX a b c d) (secY a b c d)) (rY k (secX a b c d) (secY a b c d)) = sec 4 0 (secX a b c d) (secY a b c d) ∧ ∀ j, j < k → ¬ (rX j (secX a b c d) (secY a b c d) > 0 ∧ rY j (secX a b c d) (secY a b c d) ≥ 0)
  ms := fun k => 4 - k }
theorem c50 (a b c d : Int) (ha : -200000 ≤ a ∧ a ≤ 200000) (hb : -200000 ≤ b ∧ b ≤ 200000) (hc : -200000 ≤ c ∧ c ≤ 200000) (hd : -200000 ≤ d ∧ d ≤ 200000) : PCall Tryz.prog G0 50 [.agg [.i a, .i b], .agg [.i c, .i d]] (.i (sec 4 0 (secX a b c d) (secY a b c d))) := by
  have key :
   In64 (a * c) ∧ In64 (b * d) ∧ In64 (a * c + b * d) ∧ In64 (a * d) ∧ In64 (b * c) ∧ In64 (a * d - b * c) ∧ ((a * c + b * d == 0) = true → AV.bool (a * c + b * d == 0) = AV.bool true ∧ ((a * d - b * c == 0) = true → AV.i 0 = AV.i
   (sec 4 (0 : Int) (secX a b c d) (secY a b c d))) ∧ ((a * d - b * c == 0) = false → (∃ (g : Nat), (g ≤ 4 ∧ sec (4 - g) (↑(2 * g) : Int) (rX g (secX a b c d) (secY a b c d)) (rY g (secX a b c d) (secY a b c d)) = sec 4 (0 : Int)
   (secX a b c d) (secY a b c d) ∧ ∀ (j : Nat), j < g → ¬(rX j (secX a b c d) (secY a b c d) > 0 ∧ rY j (secX a b c d) (secY a b c d) ≥ 0)) ∧ AS.mk [(5, AV.i (a * c + b * d)), (6, AV.i (a * d - b * c)), (7, AV.i 0), (8, AV.i 0)] [] 1
   = AS.mk [(5, AV.i (rX g (secX a b c d) (secY a b c d))), (6, AV.i (rY g (secX a b c d) (secY a b c d))), (7, AV.i (↑(2 * g) : Int)), (8, AV.i (↑g : Int))] [] 1) ∧ ∀ (g : Nat), (g ≤ 4 ∧ sec (4 - g) (↑(2 * g) : Int) (rX g (secX a b c
   d) (secY a b c d)) (rY g (secX a b c d) (secY a b c d)) = sec 4 (0 : Int) (secX a b c d) (secY a b c d) ∧ ∀ (j : Nat), j < g → ¬(rX j (secX a b c d) (secY a b c d) > 0 ∧ rY j (secX a b c d) (secY a b c d) ≥ 0)) → (decide ((↑g :
   Int) < 4) = true → (decide (rX g (secX a b c d) (secY a b c d) > 0) = true → AV.bool (decide (rX g (secX a b c d) (secY a b c d) > 0)) = AV.bool true ∧ (decide (rY g (secX a b c d) (secY a b c d) ≥ 0) = true → (decide (rY g (secX a
   b c d) (secY a b c d) ≥ rX g (secX a b c d) (secY a b c d)) = true → In64 ((↑(2 * g) : Int) + 1) ∧ AV.i ((↑(2 * g) : Int) + 1) = AV.i (sec 4 (0 : Int) (secX a b c d) (secY a b c d))) ∧ (decide (rY g (secX a b c d) (secY a b c d) ≥
   rX g (secX a b c d) (secY a b c d)) = false → AV.i (↑(2 * g) : Int) = AV.i (sec 4 (0 : Int) (secX a b c d) (secY a b c d)))) ∧ (decide (rY g (secX a b c d) (secY a b c d) ≥ 0) = false → In64 ((0 : Int) - rX g (secX a b c d) (secY a
   b c d)) ∧ In64 ((↑(2 * g) : Int) + 2) ∧ In64 ((↑g : Int) + 1) ∧ ∃ (g' : Nat), (g' ≤ 4 ∧ sec (4 - g') (↑(2 * g') : Int) (rX g' (secX a b c d) (secY a b c d)) (rY g' (secX a b c d) (secY a b c d)) = sec 4 (0 : Int) (secX a b c d)
   (secY a b c d) ∧ ∀ (j : Nat), j < g' → ¬(rX j (secX a b c d) (secY a b c d) > 0 ∧ rY j (secX a b c d) (secY a b c d) ≥ 0)) ∧ 4 - g' < 4 - g ∧ AS.mk [(5, AV.i (rY g (secX a b c d) (secY a b c d))), (6, AV.i ((0 : Int) - rX g (secX a
   b c d) (secY a b c d))), (7, AV.i ((↑(2 * g) : Int) + 2)), (8, AV.i ((↑g : Int) + 1))] [] 1 = AS.mk [(5, AV.i (rX g' (secX a b c d) (secY a b c d))), (6, AV.i (rY g' (secX a b c d) (secY a b c d))), (7, AV.i (↑(2 * g') : Int)), (8,
   AV.i (↑g' : Int))] [] 1)) ∧ (decide (rX g (secX a b c d) (secY a b c d) > 0) = false → (false = true → false = true) ∧ AV.bool (decide (rX g (secX a b c d) (secY a b c d) > 0)) = AV.bool false ∧ (false = true → (decide (rY g (secX
   a b c d) (secY a b c d) ≥ rX g (secX a b c d) (secY a b c d)) = true → In64 ((↑(2 * g) : Int) + 1) ∧ AV.i ((↑(2 * g) : Int) + 1) = AV.i (sec 4 (0 : Int) (secX a b c d) (secY a b c d))) ∧ (decide (rY g (secX a b c d) (secY a b c d)
   ≥ rX g (secX a b c d) (secY a b c d)) = false → AV.i (↑(2 * g) : Int) = AV.i (sec 4 (0 : Int) (secX a b c d) (secY a b c d)))) ∧ (false = false → In64 ((0 : Int) - rX g (secX a b c d) (secY a b c d)) ∧ In64 ((↑(2 * g) : Int) + 2) ∧
   In64 ((↑g : Int) + 1) ∧ ∃ (g' : Nat), (g' ≤ 4 ∧ sec (4 - g') (↑(2 * g') : Int) (rX g' (secX a b c d) (secY a b c d)) (rY g' (secX a b c d) (secY a b c d)) = sec 4 (0 : Int) (secX a b c d) (secY a b c d) ∧ ∀ (j : Nat), j < g' → ¬(rX
   j (secX a b c d) (secY a b c d) > 0 ∧ rY j (secX a b c d) (secY a b c d) ≥ 0)) ∧ 4 - g' < 4 - g ∧ AS.mk [(5, AV.i (rY g (secX a b c d) (secY a b c d))), (6, AV.i ((0 : Int) - rX g (secX a b c d) (secY a b c d))), (7, AV.i ((↑(2 *
   g) : Int) + 2)), (8, AV.i ((↑g : Int) + 1))] [] 1 = AS.mk [(5, AV.i (rX g' (secX a b c d) (secY a b c d))), (6, AV.i (rY g' (secX a b c d) (secY a b c d))), (7, AV.i (↑(2 * g') : Int)), (8, AV.i (↑g' : Int))] [] 1))) ∧ (decide ((↑g
   : Int) < 4) = false → (decide (rY g (secX a b c d) (secY a b c d) ≥ rX g (secX a b c d) (secY a b c d)) = true → In64 ((↑(2 * g) : Int) + 1) ∧ AV.i ((↑(2 * g) : Int) + 1) = AV.i (sec 4 (0 : Int) (secX a b c d) (secY a b c d))) ∧
   (decide (rY g (secX a b c d) (secY a b c d) ≥ rX g (secX a b c d) (secY a b c d)) = false → AV.i (↑(2 * g) : Int) = AV.i (sec 4 (0 : Int) (secX a b c d) (secY a b c d)))))) ∧ ((a * c + b * d == 0) = false → (false = true → false =
   true) ∧ AV.bool (a * c + b * d == 0) = AV.bool false ∧ (false = true → AV.i 0 = AV.i (sec 4 (0 : Int) (secX a b c d) (secY a b c d))) ∧ (false = false → (∃ (g : Nat), (g ≤ 4 ∧ sec (4 - g) (↑(2 * g) : Int) (rX g (secX a b c d) (secY
   a b c d)) (rY g (secX a b c d) (secY a b c d)) = sec 4 (0 : Int) (secX a b c d) (secY a b c d) ∧ ∀ (j : Nat), j < g → ¬(rX j (secX a b c d) (secY a b c d) > 0 ∧ rY j (secX a b c d) (secY a b c d) ≥ 0)) ∧ AS.mk [(5, AV.i (a * c + b
   * d)), (6, AV.i (a * d - b * c)), (7, AV.i 0), (8, AV.i 0)] [] 1 = AS.mk [(5, AV.i (rX g (secX a b c d) (secY a b c d))), (6, AV.i (rY g (secX a b c d) (secY a b c d))), (7, AV.i (↑(2 * g) : Int)), (8, AV.i (↑g : Int))] [] 1) ∧ ∀
   (g : Nat), (g ≤ 4 ∧ sec (4 - g) (↑(2 * g) : Int) (rX g (secX a b c d) (secY a b c d)) (rY g (secX a b c d) (secY a b c d)) = sec 4 (0 : Int) (secX a b c d) (secY a b c d) ∧ ∀ (j : Nat), j < g → ¬(rX j (secX a b c d) (secY a b c d)
   > 0 ∧ rY j (secX a b c d) (secY a b c d) ≥ 0)) → (decide ((↑g : Int) < 4) = true → (decide (rX g (secX a b c d) (secY a b c d) > 0) = true → AV.bool (decide (rX g (secX a b c d) (secY a b c d) > 0)) = AV.bool true ∧ (decide (rY g
   (secX a b c d) (secY a b c d) ≥ 0) = true → (decide (rY g (secX a b c d) (secY a b c d) ≥ rX g (secX a b c d) (secY a b c d)) = true → In64 ((↑(2 * g) : Int) + 1) ∧ AV.i ((↑(2 * g) : Int) + 1) = AV.i (sec 4 (0 : Int) (secX a b c d)
   (secY a b c d))) ∧ (decide (rY g (secX a b c d) (secY a b c d) ≥ rX g (secX a b c d) (secY a b c d)) = false → AV.i (↑(2 * g) : Int) = AV.i (sec 4 (0 : Int) (secX a b c d) (secY a b c d)))) ∧ (decide (rY g (secX a b c d) (secY a b
   c d) ≥ 0) = false → In64 ((0 : Int) - rX g (secX a b c d) (secY a b c d)) ∧ In64 ((↑(2 * g) : Int) + 2) ∧ In64 ((↑g : Int) + 1) ∧ ∃ (g' : Nat), (g' ≤ 4 ∧ sec (4 - g') (↑(2 * g') : Int) (rX g' (secX a b c d) (secY a b c d)) (rY g'
   (secX a b c d) (secY a b c d)) = sec 4 (0 : Int) (secX a b c d) (secY a b c d) ∧ ∀ (j : Nat), j < g' → ¬(rX j (secX a b c d) (secY a b c d) > 0 ∧ rY j (secX a b c d) (secY a b c d) ≥ 0)) ∧ 4 - g' < 4 - g ∧ AS.mk [(5, AV.i (rY g
   (secX a b c d) (secY a b c d))), (6, AV.i ((0 : Int) - rX g (secX a b c d) (secY a b c d))), (7, AV.i ((↑(2 * g) : Int) + 2)), (8, AV.i ((↑g : Int) + 1))] [] 1 = AS.mk [(5, AV.i (rX g' (secX a b c d) (secY a b c d))), (6, AV.i (rY
   g' (secX a b c d) (secY a b c d))), (7, AV.i (↑(2 * g') : Int)), (8, AV.i (↑g' : Int))] [] 1)) ∧ (decide (rX g (secX a b c d) (secY a b c d) > 0) = false → (false = true → false = true) ∧ AV.bool (decide (rX g (secX a b c d) (secY
   a b c d) > 0)) = AV.bool false ∧ (false = true → (decide (rY g (secX a b c d) (secY a b c d) ≥ rX g (secX a b c d) (secY a b c d)) = true → In64 ((↑(2 * g) : Int) + 1) ∧ AV.i ((↑(2 * g) : Int) + 1) = AV.i (sec 4 (0 : Int) (secX a b
   c d) (secY a b c d))) ∧ (decide (rY g (secX a b c d) (secY a b c d) ≥ rX g (secX a b c d) (secY a b c d)) = false → AV.i (↑(2 * g) : Int) = AV.i (sec 4 (0 : Int) (secX a b c d) (secY a b c d)))) ∧ (false = false → In64 ((0 : Int) -
   rX g (secX a b c d) (secY a b c d)) ∧ In64 ((↑(2 * g) : Int) + 2) ∧ In64 ((↑g : Int) + 1) ∧ ∃ (g' : Nat), (g' ≤ 4 ∧ sec (4 - g') (↑(2 * g') : Int) (rX g' (secX a b c d) (secY a b c d)) (rY g' (secX a b c d) (secY a b c d)) = sec 4
   (0 : Int) (secX a b c d) (secY a b c d) ∧ ∀ (j : Nat), j < g' → ¬(rX j (secX a b c d) (secY a b c d) > 0 ∧ rY j (secX a b c d) (secY a b c d) ≥ 0)) ∧ 4 - g' < 4 - g ∧ AS.mk [(5, AV.i (rY g (secX a b c d) (secY a b c d))), (6, AV.i
   ((0 : Int) - rX g (secX a b c d) (secY a b c d))), (7, AV.i ((↑(2 * g) : Int) + 2)), (8, AV.i ((↑g : Int) + 1))] [] 1 = AS.mk [(5, AV.i (rX g' (secX a b c d) (secY a b c d))), (6, AV.i (rY g' (secX a b c d) (secY a b c d))), (7,
   AV.i (↑(2 * g') : Int)), (8, AV.i (↑g' : Int))] [] 1))) ∧ (decide ((↑g : Int) < 4) = false → (decide (rY g (secX a b c d) (secY a b c d) ≥ rX g (secX a b c d) (secY a b c d)) = true → In64 ((↑(2 * g) : Int) + 1) ∧ AV.i ((↑(2 * g) :
   Int) + 1) = AV.i (sec 4 (0 : Int) (secX a b c d) (secY a b c d))) ∧ (decide (rY g (secX a b c d) (secY a b c d) ≥ rX g (secX a b c d) (secY a b c d)) = false → AV.i (↑(2 * g) : Int) = AV.i (sec 4 (0 : Int) (secX a b c d) (secY a b
   c d)))))) := by
    obtain ⟨i1, i2, i3, i4, i5, i6, bX, bY⟩ := sec_in ha hb hc hd
    refine ⟨i1, i2, i3, i4, i5, i6, fun hx0 => ⟨congrArg AV.bool hx0, fun hy0 => ?_, fun hy0 => ?_⟩, fun hx0 => ⟨fun h => h, congrArg AV.bool hx0, fun hh => absurd hh (by decide), fun _ => ?_⟩⟩
    · have e1 : secX a b c d = 0 := beq_iff_eq.1 hx0
      have e2 : secY a b c d = 0 := beq_iff_eq.1 hy0
      rw [e1, e2]
      rfl
    all_goals
      have hne : ¬ (secX a b c d = 0 ∧ secY a b c d = 0) := by
        first
          | exact fun hh => ne_of_beq_false hx0 hh.1
          | exact fun hh => ne_of_beq_false hy0 hh.2
      refine ⟨⟨0, ⟨by omega, rfl, by intros; omega⟩, rfl⟩, fun g ⟨hg, hs, hq⟩ => ⟨fun hy => ?_, fun hy => ?_⟩⟩
      · have hg4 : g < 4 := by have := of_decide_eq_true hy; omega
        obtain ⟨f1, f2, f3⟩ := sec_stepR hne hg4 hs hq
        have hbx := rX_b bX bY g
        have j1 : In64 ((2 * g : Nat) + 1) := by unfold In64; omega
        have j2 : In64 ((2 * g : Nat) + 2) := by unfold In64; omega
        have j3 : In64 (0 - rX g (secX a b c d) (secY a b c d)) := by unfold In64; omega
        have j4 : In64 ((g : Int) + 1) := by unfold In64; omega
        clear hs hy bX bY hbx i1 i2 i3 i4 i5 i6 ha hb hc hd hg hq hne
        generalize sec 4 0 (secX a b c d) (secY a b c d) = S at *
        generalize decide (rY g (secX a b c d) (secY a b c d) ≥ 0) = q at *
        generalize decide (rY g (secX a b c d) (secY a b c d) ≥ rX g (secX a b c d) (secY a b c d)) = u at *
        generalize decide (rX g (secX a b c d) (secY a b c d) > 0) = w at *
        cases q <;> cases u <;> cases w
        all_goals repeat' (first | (intro h; cases h; done) | exact j1 | exact j2 | exact j3 | exact j4 | apply And.intro | intro _)
        all_goals first
          | rfl
          | exact f1 rfl rfl rfl
          | exact f2 rfl rfl rfl
          | (obtain ⟨g', q1, q2, q3, q4, q5, q6⟩ := f3 rfl; exact ⟨g', q1, q2, by rw [q3, q4, q5, q6]⟩)
      · have hg4 : g = 4 := by have := of_decide_eq_false hy; omega
        subst hg4
        exact (quad_all hne hq).elim
  exact c_of Tryz.f50 ({ fzB (mkB spR 50 [] (fun j => if j.beq 0 then some (la50 a b c d) else none)) with split := fun j => if j.beq 2 then 1 else if j.beq 8 then 1 else 0 }) (by kernel_rfl) (by kernel_rfl) (by kernel_rfl) (by kernel_rfl) key (by kernel_rfl)
end Go.Proofs.YtjhjmncjidbieaaGreatDoor
namespace Go.Proofs.YtjhjmncjidbieaaGreatDoor
open Go Go.Av Go.RowKit
end Go.Proofs.YtjhjmncjidbieaaGreatDoor
namespace Go.Proofs.YtjhjmncjidbieaaGreatDoor
open Go Go.Av Go.RowKit
def hrdV (t : Ty) (a b p u v w : Int) : Int := emi t p (u * u + v * v + w * w) * cI [[AV.i t.d0], [AV.i t.d1], [AV.i t.d2], [AV.i t.d3], [AV.i t.d4], [AV.i t.d5], [AV.i t.d6], [AV.i t.d7]] (sec 4 0 (secX a b u v) (secY a b u v)).toNat
def hrd (t : Ty) (a b p u v w : Int) : Int := if decide (4 * (w * w) < u * u + v * v) then (hrdV t a b p u v w * t.side).tdiv 1000000 else (hrdV t a b p u v w).tdiv 1000
def sp117 (t : Ty) : Nat → List AV → Option AV
  | 113, [.agg [.int _ x, .int _ y, .int _ z], .agg [.int _ x2, .int _ y2, .int _ z2]] => some (.agg [.i (x - x2), .i (y - y2), .i (z - z2)])
  | 112, [.agg [.int _ x, .int _ y, .int _ z]] => some (.agg [.i (x * x + y * y), .i (z * z)])
  | 116, [.agg [.int _ a, .int _ b], .agg [.int _ c, .int _ d]] => some (.i (sec 4 0 (secX a b c d) (secY a b c d)))
  | 50, [.agg [.int _ a, .int _ b], .agg [.int _ c, .int _ d]] => some (.i (sec 4 0 (secX a b c d) (secY a b c d)))
  | 114, [_, .int _ p, .int _ d] => some (.i (emi t p d))
  | 49, [_, .int _ p, .int _ d] => some (.i (emi t p d))
  | n, x => spR n x
theorem tdiv_abs {n d B : Int} (_hd : 0 < d) (h1 : -B ≤ n) (h2 : n ≤ B) : n.tdiv d ≤ B ∧ -B ≤ n.tdiv d := by
  have h : (n.tdiv d).natAbs = n.natAbs / d.natAbs := Int.natAbs_tdiv n d
  have h4 : n.natAbs / d.natAbs ≤ n.natAbs := Nat.div_le_self _ _
  omega
theorem floor_b {n d : Int} (hd : 0 < d) (h1 : -10000000000 ≤ n) (h2 : n ≤ 10000000000) : -10000000001 ≤ sFloor n d ∧ sFloor n d ≤ 10000000000 := by
  have h3 : n.tdiv d ≤ 10000000000 ∧ -10000000000 ≤ n.tdiv d := tdiv_abs hd h1 h2
  unfold sFloor
  split <;> omega
theorem sq_nn (u : Int) : 0 ≤ u * u := by
  rcases Int.le_total 0 u with h | h
  · exact Int.mul_nonneg h h
  · have := Int.mul_nonneg (a := -u) (b := -u) (by omega) (by omega)
    rw [Int.neg_mul_neg] at this
    exact this
theorem sq_zero {u v : Int} (h : u * u + v * v = 0) : u = 0 := by
  have h1 : 0 ≤ u * u := sq_nn u
  have h2 : 0 ≤ v * v := sq_nn v
  have h3 : u * u = 0 := by omega
  rcases Int.mul_eq_zero.1 h3 with h | h <;> exact h
theorem sec_b : ∀ (n : Nat) (i x y : Int), 0 ≤ i → 0 ≤ sec n i x y ∧ (sec n i x y < i + 2 * n ∨ sec n i x y = 0)
  | 0, _, _, _, _ => ⟨Int.le_refl _, .inr rfl⟩
  | n + 1, i, x, y, h => by
    simp only [sec]
    split
    · omega
    · split
      · omega
      · have := sec_b n (i + 2) y (-x) (by omega)
        omega
theorem sec_8 (x y : Int) : 0 ≤ sec 4 0 x y ∧ sec 4 0 x y < 8 := by
  have := sec_b 4 0 x y (by omega)
  omega
theorem emi_b {t : Ty} {p d : Int} (h : OKTy t) (hp : 1 ≤ p) (hp2 : p ≤ 100) : -20000000000 ≤ emi t p d ∧ emi t p d ≤ 20000000000 := by
  have hK := bandN_lt (l := t.sq) (d := d) h.q1
  have hle := geN_le (t := t) (p := p) t.st.length
  have hn := h.n1
  unfold emi
  split
  · have := h.eb (t.st.length - 1) _ (by omega) hK
    omega
  · rename_i h1
    split
    · have := h.eb (geN t p t.st.length) _ (by omega) hK
      omega
    · rename_i h2
      have h0 : geN t p t.st.length ≠ 0 := fun e => h2 (.inl e)
      have hB := emi_bet h hp hp2 (by omega) h0 hK
      rw [cI_map, cI_map] at hB
      obtain ⟨a1, a2⟩ := h.eb (geN t p t.st.length - 1) _ (by omega) hK
      obtain ⟨b1, b2⟩ := h.eb (geN t p t.st.length) _ (by omega) hK
      obtain ⟨c1, c2⟩ := h.pb (geN t p t.st.length - 1) (by omega)
      have hm := mul_bound (x := eAt (t.sg (geN t p t.st.length)).e (bandN t.sq d t.sq.length) - eAt (t.sg (geN t p t.st.length - 1)).e (bandN t.sq d t.sq.length)) (y := p - (t.sg (geN t p t.st.length - 1)).p) (A := 100000000) (B := 100) (by omega) (by omega) (by omega) (by omega)
      have hf := floor_b (n := (eAt (t.sg (geN t p t.st.length)).e (bandN t.sq d t.sq.length) - eAt (t.sg (geN t p t.st.length - 1)).e (bandN t.sq d t.sq.length)) * (p - (t.sg (geN t p t.st.length - 1)).p)) hB.w (by omega) (by omega)
      unfold sBetween
      omega
theorem hrd_in {t : Ty} {a b p u v w : Int} (h : OKTy t) (hp : 1 ≤ p ∧ p ≤ 100) (hD : ∀ i, i < 8 → 0 ≤ t.dir.getD i default ∧ t.dir.getD i default ≤ 2000) (hs : 0 ≤ t.side ∧ t.side ≤ 1000) :
    In64 (hrdV t a b p u v w) ∧ In64 (hrdV t a b p u v w * t.side) ∧ In64 ((hrdV t a b p u v w * t.side).tdiv 1000000) ∧ In64 ((hrdV t a b p u v w).tdiv 1000) := by
  have h8 := sec_8 (secX a b u v) (secY a b u v)
  have hd := hD (sec 4 0 (secX a b u v) (secY a b u v)).toNat (by omega)
  rw [← cI_map] at hd
  have he := emi_b (d := u * u + v * v + w * w) h hp.1 hp.2
  have h1 := mul_bound (A := 20000000000) (B := 2000) he.1 he.2 (by omega) hd.2
  have hv : -(20000000000 * 2000) ≤ hrdV t a b p u v w ∧ hrdV t a b p u v w ≤ 20000000000 * 2000 := h1
  have h2 := mul_bound (A := 40000000000000) (B := 1000) (x := hrdV t a b p u v w) (y := t.side) (by omega) (by omega) (by omega) hs.2
  generalize hrdV t a b p u v w * t.side = m at *
  generalize hrdV t a b p u v w = k at *
  refine ⟨by unfold In64; omega, by unfold In64; omega, ?_, ?_⟩
  · have := tdiv_abs (n := m) (d := 1000000) (B := 40000000000000000) (by omega) (by omega) (by omega)
    unfold In64; omega
  · have := tdiv_abs (n := k) (d := 1000) (B := 40000000000000) (by omega) (by omega) (by omega)
    unfold In64; omega
theorem quad_in {u v w : Int} (hu : -200000 ≤ u ∧ u ≤ 200000) (hv : -200000 ≤ v ∧ v ≤ 200000) (hw : -20000 ≤ w ∧ w ≤ 20000) :
    In64 (u * u) ∧ In64 (v * v) ∧ In64 (u * u + v * v) ∧ In64 (w * w) ∧ In64 (u * u + v * v + w * w) ∧ In64 (4 * (w * w)) ∧ In64 (4 * w) ∧ In64 (4 * w * w) := by
  have h1 := mul_bound hu.1 hu.2 hu.1 hu.2
  have h2 := mul_bound hv.1 hv.2 hv.1 hv.2
  have h3 := mul_bound hw.1 hw.2 hw.1 hw.2
  rw [Int.mul_assoc 4 w w]
  generalize u * u = q1 at *
  generalize v * v = q2 at *
  generalize w * w = q3 at *
  unfold In64
  omega
theorem c117 (t : Ty) (x y z a b p x2 y2 z2 : Int) (h : OKTy t) (hx : -100000 ≤ x ∧ x ≤ 100000) (hy : -100000 ≤ y ∧ y ≤ 100000) (hz : 0 ≤ z ∧ z ≤ 20000) (ha : -200000 ≤ a ∧ a ≤ 200000) (hb : -200000 ≤ b ∧ b ≤ 200000) (hp : 1 ≤ p ∧ p ≤ 100) (hx2 : -100000 ≤ x2 ∧ x2 ≤ 100000) (hy2 : -100000 ≤ y2 ∧ y2 ≤ 100000) (hz2 : 0 ≤ z2 ∧ z2 ≤ 20000) (hD : ∀ i, i < 8 → 0 ≤ t.dir.getD i default ∧ t.dir.getD i default ≤ 2000) (hs : 0 ≤ t.side ∧ t.side ≤ 1000) : PCall Tryz.prog G0 117 [.agg (encTy t), .agg [.i x, .i y, .i z, .i a, .i b, .i p], .agg [.i x2, .i y2, .i z2]] (.i (hrd t a b p (x2 - x) (y2 - y) (z2 - z))) := by
  have key :
   PCall Tryz.prog G0 113 [AV.agg [AV.i x2, AV.i y2, AV.i z2], AV.agg [AV.i x, AV.i y, AV.i z]] (AV.agg [AV.i (x2 - x), AV.i (y2 - y), AV.i (z2 - z)]) ∧ PCall Tryz.prog G0 112 [AV.agg [AV.i (x2 - x), AV.i (y2 - y), AV.i (z2 - z)]]
   (AV.agg [AV.i ((x2 - x) * (x2 - x) + (y2 - y) * (y2 - y)), AV.i ((z2 - z) * (z2 - z))]) ∧ ((!((x2 - x) * (x2 - x) + (y2 - y) * (y2 - y) == 0 && true && ((z2 - z) * (z2 - z) == 0 && true && true))) = true → PCall Tryz.prog G0 116
   [AV.agg [AV.i a, AV.i b], AV.agg [AV.i (x2 - x), AV.i (y2 - y)]] (AV.i (sec 4 (0 : Int) (secX a b (x2 - x) (y2 - y)) (secY a b (x2 - x) (y2 - y)))) ∧ (0 : Int) ≤ 0 ∧ (0 : Int) < (↑2 : Int) ∧ (0 : Int) ≤ 1 ∧ (1 : Int) < (↑2 : Int) ∧
   In64 ((x2 - x) * (x2 - x) + (y2 - y) * (y2 - y) + (z2 - z) * (z2 - z)) ∧ (0 : Int) ≤ sec 4 (0 : Int) (secX a b (x2 - x) (y2 - y)) (secY a b (x2 - x) (y2 - y)) ∧ sec 4 (0 : Int) (secX a b (x2 - x) (y2 - y)) (secY a b (x2 - x) (y2 -
   y)) < (↑8 : Int) ∧ In64 (emi t p ((x2 - x) * (x2 - x) + (y2 - y) * (y2 - y) + (z2 - z) * (z2 - z)) * cI [[AV.i t.d0], [AV.i t.d1], [AV.i t.d2], [AV.i t.d3], [AV.i t.d4], [AV.i t.d5], [AV.i t.d6], [AV.i t.d7]] (sec 4 (0 : Int) (secX
   a b (x2 - x) (y2 - y)) (secY a b (x2 - x) (y2 - y))).toNat) ∧ PCall Tryz.prog G0 114 [AV.agg (encTy t), AV.i p, AV.i ((x2 - x) * (x2 - x) + (y2 - y) * (y2 - y) + (z2 - z) * (z2 - z))] (AV.i (emi t p ((x2 - x) * (x2 - x) + (y2 - y)
   * (y2 - y) + (z2 - z) * (z2 - z)))) ∧ nth (nthR [[AV.i t.d0], [AV.i t.d1], [AV.i t.d2], [AV.i t.d3], [AV.i t.d4], [AV.i t.d5], [AV.i t.d6], [AV.i t.d7]] (sec 4 (0 : Int) (secX a b (x2 - x) (y2 - y)) (secY a b (x2 - x) (y2 -
   y))).toNat) 0 = AV.i (cI [[AV.i t.d0], [AV.i t.d1], [AV.i t.d2], [AV.i t.d3], [AV.i t.d4], [AV.i t.d5], [AV.i t.d6], [AV.i t.d7]] (sec 4 (0 : Int) (secX a b (x2 - x) (y2 - y)) (secY a b (x2 - x) (y2 - y))).toNat) ∧ (0 : Int) ≤ 1 ∧
   (1 : Int) < (↑2 : Int) ∧ In64 ((4 : Int) * ((z2 - z) * (z2 - z))) ∧ (0 : Int) ≤ 0 ∧ (0 : Int) < (↑2 : Int) ∧ (decide ((4 : Int) * ((z2 - z) * (z2 - z)) < (x2 - x) * (x2 - x) + (y2 - y) * (y2 - y)) = true → In64 (emi t p ((x2 - x) *
   (x2 - x) + (y2 - y) * (y2 - y) + (z2 - z) * (z2 - z)) * cI [[AV.i t.d0], [AV.i t.d1], [AV.i t.d2], [AV.i t.d3], [AV.i t.d4], [AV.i t.d5], [AV.i t.d6], [AV.i t.d7]] (sec 4 (0 : Int) (secX a b (x2 - x) (y2 - y)) (secY a b (x2 - x)
   (y2 - y))).toNat * t.side) ∧ ¬(1000000 : Int) = (0 : Int) ∧ In64 ((emi t p ((x2 - x) * (x2 - x) + (y2 - y) * (y2 - y) + (z2 - z) * (z2 - z)) * cI [[AV.i t.d0], [AV.i t.d1], [AV.i t.d2], [AV.i t.d3], [AV.i t.d4], [AV.i t.d5], [AV.i
   t.d6], [AV.i t.d7]] (sec 4 (0 : Int) (secX a b (x2 - x) (y2 - y)) (secY a b (x2 - x) (y2 - y))).toNat * t.side).tdiv 1000000) ∧ AV.i ((emi t p ((x2 - x) * (x2 - x) + (y2 - y) * (y2 - y) + (z2 - z) * (z2 - z)) * cI [[AV.i t.d0],
   [AV.i t.d1], [AV.i t.d2], [AV.i t.d3], [AV.i t.d4], [AV.i t.d5], [AV.i t.d6], [AV.i t.d7]] (sec 4 (0 : Int) (secX a b (x2 - x) (y2 - y)) (secY a b (x2 - x) (y2 - y))).toNat * t.side).tdiv 1000000) = AV.i (hrd t a b p (x2 - x) (y2 -
   y) (z2 - z))) ∧ (decide ((4 : Int) * ((z2 - z) * (z2 - z)) < (x2 - x) * (x2 - x) + (y2 - y) * (y2 - y)) = false → ¬(1000 : Int) = (0 : Int) ∧ In64 ((emi t p ((x2 - x) * (x2 - x) + (y2 - y) * (y2 - y) + (z2 - z) * (z2 - z)) * cI
   [[AV.i t.d0], [AV.i t.d1], [AV.i t.d2], [AV.i t.d3], [AV.i t.d4], [AV.i t.d5], [AV.i t.d6], [AV.i t.d7]] (sec 4 (0 : Int) (secX a b (x2 - x) (y2 - y)) (secY a b (x2 - x) (y2 - y))).toNat).tdiv 1000) ∧ AV.i ((emi t p ((x2 - x) * (x2
   - x) + (y2 - y) * (y2 - y) + (z2 - z) * (z2 - z)) * cI [[AV.i t.d0], [AV.i t.d1], [AV.i t.d2], [AV.i t.d3], [AV.i t.d4], [AV.i t.d5], [AV.i t.d6], [AV.i t.d7]] (sec 4 (0 : Int) (secX a b (x2 - x) (y2 - y)) (secY a b (x2 - x) (y2 -
   y))).toNat).tdiv 1000) = AV.i (hrd t a b p (x2 - x) (y2 - y) (z2 - z)))) ∧ ((!((x2 - x) * (x2 - x) + (y2 - y) * (y2 - y) == 0 && true && ((z2 - z) * (z2 - z) == 0 && true && true))) = false → (0 : Int) ≤ 0 ∧ (0 : Int) < (↑2 : Int)
   ∧ (0 : Int) ≤ 1 ∧ (1 : Int) < (↑2 : Int) ∧ In64 ((x2 - x) * (x2 - x) + (y2 - y) * (y2 - y) + (z2 - z) * (z2 - z)) ∧ (0 : Int) ≤ 0 ∧ (0 : Int) < (↑8 : Int) ∧ In64 (emi t p ((x2 - x) * (x2 - x) + (y2 - y) * (y2 - y) + (z2 - z) * (z2
   - z)) * cI [[AV.i t.d0], [AV.i t.d1], [AV.i t.d2], [AV.i t.d3], [AV.i t.d4], [AV.i t.d5], [AV.i t.d6], [AV.i t.d7]] 0) ∧ PCall Tryz.prog G0 114 [AV.agg (encTy t), AV.i p, AV.i ((x2 - x) * (x2 - x) + (y2 - y) * (y2 - y) + (z2 - z) *
   (z2 - z))] (AV.i (emi t p ((x2 - x) * (x2 - x) + (y2 - y) * (y2 - y) + (z2 - z) * (z2 - z)))) ∧ AV.i t.d0 = AV.i (cI [[AV.i t.d0], [AV.i t.d1], [AV.i t.d2], [AV.i t.d3], [AV.i t.d4], [AV.i t.d5], [AV.i t.d6], [AV.i t.d7]] 0) ∧ (0 :
   Int) ≤ 1 ∧ (1 : Int) < (↑2 : Int) ∧ In64 ((4 : Int) * ((z2 - z) * (z2 - z))) ∧ (0 : Int) ≤ 0 ∧ (0 : Int) < (↑2 : Int) ∧ (decide ((4 : Int) * ((z2 - z) * (z2 - z)) < (x2 - x) * (x2 - x) + (y2 - y) * (y2 - y)) = true → In64 (emi t p
   ((x2 - x) * (x2 - x) + (y2 - y) * (y2 - y) + (z2 - z) * (z2 - z)) * cI [[AV.i t.d0], [AV.i t.d1], [AV.i t.d2], [AV.i t.d3], [AV.i t.d4], [AV.i t.d5], [AV.i t.d6], [AV.i t.d7]] 0 * t.side) ∧ ¬(1000000 : Int) = (0 : Int) ∧ In64 ((emi
   t p ((x2 - x) * (x2 - x) + (y2 - y) * (y2 - y) + (z2 - z) * (z2 - z)) * cI [[AV.i t.d0], [AV.i t.d1], [AV.i t.d2], [AV.i t.d3], [AV.i t.d4], [AV.i t.d5], [AV.i t.d6], [AV.i t.d7]] 0 * t.side).tdiv 1000000) ∧ AV.i ((emi t p ((x2 -
   x) * (x2 - x) + (y2 - y) * (y2 - y) + (z2 - z) * (z2 - z)) * cI [[AV.i t.d0], [AV.i t.d1], [AV.i t.d2], [AV.i t.d3], [AV.i t.d4], [AV.i t.d5], [AV.i t.d6], [AV.i t.d7]] 0 * t.side).tdiv 1000000) = AV.i (hrd t a b p (x2 - x) (y2 -
   y) (z2 - z))) ∧ (decide ((4 : Int) * ((z2 - z) * (z2 - z)) < (x2 - x) * (x2 - x) + (y2 - y) * (y2 - y)) = false → ¬(1000 : Int) = (0 : Int) ∧ In64 ((emi t p ((x2 - x) * (x2 - x) + (y2 - y) * (y2 - y) + (z2 - z) * (z2 - z)) * cI
   [[AV.i t.d0], [AV.i t.d1], [AV.i t.d2], [AV.i t.d3], [AV.i t.d4], [AV.i t.d5], [AV.i t.d6], [AV.i t.d7]] 0).tdiv 1000) ∧ AV.i ((emi t p ((x2 - x) * (x2 - x) + (y2 - y) * (y2 - y) + (z2 - z) * (z2 - z)) * cI [[AV.i t.d0], [AV.i
   t.d1], [AV.i t.d2], [AV.i t.d3], [AV.i t.d4], [AV.i t.d5], [AV.i t.d6], [AV.i t.d7]] 0).tdiv 1000) = AV.i (hrd t a b p (x2 - x) (y2 - y) (z2 - z)))) := by
    obtain ⟨k1, k2, k3, k4, k5, k6, k7, k8⟩ := quad_in (u := x2 - x) (v := y2 - y) (w := z2 - z) (by omega) (by omega) (by omega)
    obtain ⟨m1, m2, m3, m4⟩ := hrd_in (a := a) (b := b) (u := x2 - x) (v := y2 - y) (w := z2 - z) h hp hD hs
    have h8 := sec_8 (secX a b (x2 - x) (y2 - y)) (secY a b (x2 - x) (y2 - y))
    refine ⟨c113 _ _ _ _ _ _ (by unfold In64; omega) (by unfold In64; omega) (by unfold In64; omega), c112 _ _ _ k1 k2 k3 k4, fun hn => ?_, fun hn => ?_⟩
    · refine ⟨c116 _ _ _ _ ha hb (by omega) (by omega), by omega, by omega, by omega, by omega, k5, h8.1, h8.2, m1, c114 t _ _ h hp.1 hp.2, cI_at (l := t.dir) (i := (sec 4 0 (secX a b (x2 - x) (y2 - y)) (secY a b (x2 - x) (y2 - y))).toNat) (show _ < (8 : Nat) by omega), by omega, by omega, k6, by omega, by omega, fun e => ⟨m2, by omega, m3, ?_⟩, fun e => ⟨by omega, m4, ?_⟩⟩
      · rw [hrd, if_pos e]
        rfl
      · rw [hrd, if_neg (by rw [e]; decide)]
        rfl
    · have hz0 : (x2 - x) * (x2 - x) + (y2 - y) * (y2 - y) = 0 := by
        simp only [Bool.not_eq_false', Bool.and_eq_true, beq_iff_eq] at hn
        exact hn.1.1
      have e1 : x2 - x = 0 := sq_zero hz0
      have e2 : y2 - y = 0 := sq_zero (by rw [Int.add_comm]; exact hz0)
      have es : sec 4 0 (secX a b (x2 - x) (y2 - y)) (secY a b (x2 - x) (y2 - y)) = 0 := by
        rw [e1, e2]
        simp only [secX, secY, Int.mul_zero, Int.add_zero, Int.sub_zero]
        rfl
      have ev : hrdV t a b p (x2 - x) (y2 - y) (z2 - z) = emi t p ((x2 - x) * (x2 - x) + (y2 - y) * (y2 - y) + (z2 - z) * (z2 - z)) * cI [[AV.i t.d0], [AV.i t.d1], [AV.i t.d2], [AV.i t.d3], [AV.i t.d4], [AV.i t.d5], [AV.i t.d6], [AV.i t.d7]] 0 := by
        unfold hrdV
        rw [es]
        rfl
      rw [ev] at m1 m2 m3 m4
      refine ⟨by omega, by omega, by omega, by omega, k5, by omega, by omega, m1, c114 t _ _ h hp.1 hp.2, rfl, by omega, by omega, k6, by omega, by omega, fun e => ⟨m2, by omega, m3, ?_⟩, fun e => ⟨by omega, m4, ?_⟩⟩
      · rw [hrd, if_pos e, ev]
      · rw [hrd, if_neg (by rw [e]; decide), ev]
  exact c_of Tryz.f117 (fzB (mkB (sp117 t) 117 [(6, 12, rdJ)] noLa)) (by kernel_rfl) (by kernel_rfl) (by kernel_rfl) (by kernel_rfl) key (by kernel_rfl)
theorem c51 (t : Ty) (x y z a b p x2 y2 z2 : Int) (h : OKTy t) (hx : -100000 ≤ x ∧ x ≤ 100000) (hy : -100000 ≤ y ∧ y ≤ 100000) (hz : 0 ≤ z ∧ z ≤ 20000) (ha : -200000 ≤ a ∧ a ≤ 200000) (hb : -200000 ≤ b ∧ b ≤ 200000) (hp : 1 ≤ p ∧ p ≤ 100) (hx2 : -100000 ≤ x2 ∧ x2 ≤ 100000) (hy2 : -100000 ≤ y2 ∧ y2 ≤ 100000) (hz2 : 0 ≤ z2 ∧ z2 ≤ 20000) (hD : ∀ i, i < 8 → 0 ≤ t.dir.getD i default ∧ t.dir.getD i default ≤ 2000) (hs : 0 ≤ t.side ∧ t.side ≤ 1000) : PCall Tryz.prog G0 51 [.agg (encTy t), .agg [.i x, .i y, .i z, .i a, .i b, .i p], .agg [.i x2, .i y2, .i z2]] (.i (hrd t a b p (x2 - x) (y2 - y) (z2 - z))) := by
  have key :
   In64 (x2 - x) ∧ In64 (y2 - y) ∧ In64 (z2 - z) ∧ In64 ((x2 - x) * (x2 - x)) ∧ In64 ((y2 - y) * (y2 - y)) ∧ In64 ((x2 - x) * (x2 - x) + (y2 - y) * (y2 - y)) ∧ In64 ((z2 - z) * (z2 - z)) ∧ In64 ((x2 - x) * (x2 - x) + (y2 - y) * (y2 -
   y) + (z2 - z) * (z2 - z)) ∧ (0 : Int) ≤ sec 4 (0 : Int) (secX a b (x2 - x) (y2 - y)) (secY a b (x2 - x) (y2 - y)) ∧ sec 4 (0 : Int) (secX a b (x2 - x) (y2 - y)) (secY a b (x2 - x) (y2 - y)) < (↑8 : Int) ∧ In64 (emi t p ((x2 - x) *
   (x2 - x) + (y2 - y) * (y2 - y) + (z2 - z) * (z2 - z)) * cI [[AV.i t.d0], [AV.i t.d1], [AV.i t.d2], [AV.i t.d3], [AV.i t.d4], [AV.i t.d5], [AV.i t.d6], [AV.i t.d7]] (sec 4 (0 : Int) (secX a b (x2 - x) (y2 - y)) (secY a b (x2 - x)
   (y2 - y))).toNat) ∧ PCall Tryz.prog G0 49 [AV.agg (encTy t), AV.i p, AV.i ((x2 - x) * (x2 - x) + (y2 - y) * (y2 - y) + (z2 - z) * (z2 - z))] (AV.i (emi t p ((x2 - x) * (x2 - x) + (y2 - y) * (y2 - y) + (z2 - z) * (z2 - z)))) ∧ PCall
   Tryz.prog G0 50 [AV.agg [AV.i a, AV.i b], AV.agg [AV.i (x2 - x), AV.i (y2 - y)]] (AV.i (sec 4 (0 : Int) (secX a b (x2 - x) (y2 - y)) (secY a b (x2 - x) (y2 - y)))) ∧ nth (nthR [[AV.i t.d0], [AV.i t.d1], [AV.i t.d2], [AV.i t.d3],
   [AV.i t.d4], [AV.i t.d5], [AV.i t.d6], [AV.i t.d7]] (sec 4 (0 : Int) (secX a b (x2 - x) (y2 - y)) (secY a b (x2 - x) (y2 - y))).toNat) 0 = AV.i (cI [[AV.i t.d0], [AV.i t.d1], [AV.i t.d2], [AV.i t.d3], [AV.i t.d4], [AV.i t.d5],
   [AV.i t.d6], [AV.i t.d7]] (sec 4 (0 : Int) (secX a b (x2 - x) (y2 - y)) (secY a b (x2 - x) (y2 - y))).toNat) ∧ In64 ((4 : Int) * (z2 - z)) ∧ In64 ((4 : Int) * (z2 - z) * (z2 - z)) ∧ In64 ((x2 - x) * (x2 - x)) ∧ In64 ((y2 - y) * (y2
   - y)) ∧ In64 ((x2 - x) * (x2 - x) + (y2 - y) * (y2 - y)) ∧ (decide ((4 : Int) * (z2 - z) * (z2 - z) < (x2 - x) * (x2 - x) + (y2 - y) * (y2 - y)) = true → In64 (emi t p ((x2 - x) * (x2 - x) + (y2 - y) * (y2 - y) + (z2 - z) * (z2 -
   z)) * cI [[AV.i t.d0], [AV.i t.d1], [AV.i t.d2], [AV.i t.d3], [AV.i t.d4], [AV.i t.d5], [AV.i t.d6], [AV.i t.d7]] (sec 4 (0 : Int) (secX a b (x2 - x) (y2 - y)) (secY a b (x2 - x) (y2 - y))).toNat * t.side) ∧ ¬(1000000 : Int) = (0 :
   Int) ∧ In64 ((emi t p ((x2 - x) * (x2 - x) + (y2 - y) * (y2 - y) + (z2 - z) * (z2 - z)) * cI [[AV.i t.d0], [AV.i t.d1], [AV.i t.d2], [AV.i t.d3], [AV.i t.d4], [AV.i t.d5], [AV.i t.d6], [AV.i t.d7]] (sec 4 (0 : Int) (secX a b (x2 -
   x) (y2 - y)) (secY a b (x2 - x) (y2 - y))).toNat * t.side).tdiv 1000000) ∧ AV.i ((emi t p ((x2 - x) * (x2 - x) + (y2 - y) * (y2 - y) + (z2 - z) * (z2 - z)) * cI [[AV.i t.d0], [AV.i t.d1], [AV.i t.d2], [AV.i t.d3], [AV.i t.d4],
   [AV.i t.d5], [AV.i t.d6], [AV.i t.d7]] (sec 4 (0 : Int) (secX a b (x2 - x) (y2 - y)) (secY a b (x2 - x) (y2 - y))).toNat * t.side).tdiv 1000000) = AV.i (hrd t a b p (x2 - x) (y2 - y) (z2 - z))) ∧ (decide ((4 : Int) * (z2 - z) * (z2
   - z) < (x2 - x) * (x2 - x) + (y2 - y) * (y2 - y)) = false → ¬(1000 : Int) = (0 : Int) ∧ In64 ((emi t p ((x2 - x) * (x2 - x) + (y2 - y) * (y2 - y) + (z2 - z) * (z2 - z)) * cI [[AV.i t.d0], [AV.i t.d1], [AV.i t.d2], [AV.i t.d3],
   [AV.i t.d4], [AV.i t.d5], [AV.i t.d6], [AV.i t.d7]] (sec 4 (0 : Int) (secX a b (x2 - x) (y2 - y)) (secY a b (x2 - x) (y2 - y))).toNat).tdiv 1000) ∧ AV.i ((emi t p ((x2 - x) * (x2 - x) + (y2 - y) * (y2 - y) + (z2 - z) * (z2 - z)) *
   cI [[AV.i t.d0], [AV.i t.d1], [AV.i t.d2], [AV.i t.d3], [AV.i t.d4], [AV.i t.d5], [AV.i t.d6], [AV.i t.d7]] (sec 4 (0 : Int) (secX a b (x2 - x) (y2 - y)) (secY a b (x2 - x) (y2 - y))).toNat).tdiv 1000) = AV.i (hrd t a b p (x2 - x)
   (y2 - y) (z2 - z))) := by
    obtain ⟨k1, k2, k3, k4, k5, k6, k7, k8⟩ := quad_in (u := x2 - x) (v := y2 - y) (w := z2 - z) (by omega) (by omega) (by omega)
    obtain ⟨m1, m2, m3, m4⟩ := hrd_in (a := a) (b := b) (u := x2 - x) (v := y2 - y) (w := z2 - z) h hp hD hs
    have h8 := sec_8 (secX a b (x2 - x) (y2 - y)) (secY a b (x2 - x) (y2 - y))
    refine ⟨by unfold In64; omega, by unfold In64; omega, by unfold In64; omega, k1, k2, k3, k4, k5, h8.1, h8.2, m1, c49 t _ _ h hp.1 hp.2, c50 _ _ _ _ ha hb (by omega) (by omega), cI_at (l := t.dir) (i := (sec 4 0 (secX a b (x2 - x) (y2 - y)) (secY a b (x2 - x) (y2 - y))).toNat) (show _ < (8 : Nat) by omega), k7, k8, k1, k2, k3, fun e => ⟨m2, by omega, m3, ?_⟩, fun e => ⟨by omega, m4, ?_⟩⟩
    · rw [Int.mul_assoc] at e
      rw [hrd, if_pos e]
      rfl
    · rw [Int.mul_assoc] at e
      rw [hrd, if_neg (by rw [e]; decide)]
      rfl
  exact c_of Tryz.f51 (fzB (mkB (sp117 t) 51 [(2, 23, rdJ)] noLa)) (by kernel_rfl) (by kernel_rfl) (by kernel_rfl) (by kernel_rfl) key (by kernel_rfl)
end Go.Proofs.YtjhjmncjidbieaaGreatDoor
namespace Go.Proofs.YtjhjmncjidbieaaGreatDoor
open Go Go.Av Go.RowKit
end Go.Proofs.YtjhjmncjidbieaaGreatDoor
namespace Go.Proofs.YtjhjmncjidbieaaGreatDoor
open Go Go.Av Go.RowKit
theorem scan_zero {f : Nat → Int} {n : Nat} {fin : Int} (h : sScan f n fin = 0) : (∀ k, k < n → f k = 0) ∧ fin = 0 := by
  have h1 : ∀ l : List Int, sFirst (l ++ [fin]) = 0 → (∀ x, x ∈ l → x = 0) ∧ fin = 0 := by
    intro l
    induction l with
    | nil => intro h; rw [List.nil_append, first_zero] at h; exact ⟨by simp, h.1⟩
    | cons x l ih =>
      intro h
      rw [List.cons_append, first_zero] at h
      obtain ⟨h2, h3⟩ := h
      have := ih h3
      exact ⟨fun y hy => by rcases List.mem_cons.1 hy with e | e; (· rw [e]; exact h2); (· exact this.1 y e), this.2⟩
  have := h1 _ h
  exact ⟨fun k hk => this.1 _ (List.mem_map.2 ⟨k, List.mem_range.2 hk, rfl⟩), this.2⟩
theorem ls_zero' {c : Int} {f : Nat → Int} {n : Nat} {fin : Int} (h : sLS c f n fin = 0) : c = 0 ∧ (∀ k, k < n → f k = 0) ∧ fin = 0 := by
  unfold sLS at h
  split at h
  · rename_i hc; rw [h] at hc; exact absurd hc (by decide)
  · rename_i hc
    exact ⟨by simpa using hc, scan_zero h⟩
theorem when_z {b : Bool} {e : Int} (he : e ≠ 0) (h : sWhen b e = 0) : b = false := by
  cases b
  · rfl
  · exact absurd h (by simpa [sWhen] using he)
theorem counted_zero {n m : Int} (h : sCounted n m = 0) : n ≠ 0 ∧ n ≤ m := by
  unfold sCounted at h
  rw [first_zero, first_zero] at h
  have h1 := when_z (by decide) h.1
  have h2 := when_z (by decide) h.2.1
  have := of_decide_eq_false h2
  exact ⟨ne_of_beq_false h1, by omega⟩
theorem ok_of {t : Ty} (h : sTyS t = 0) : OKTy t := by
  unfold sTyS at h
  split at h
  · rename_i h1; rw [h] at h1; exact absurd h1 (by decide)
  · obtain ⟨h2, h3, h4⟩ := ls_zero' h
    unfold cTyS2 at h2
    rw [first_zero, first_zero, first_zero, first_zero] at h2
    obtain ⟨_, _, hq, _⟩ := h2
    have hq := counted_zero hq
    obtain ⟨hn, hS, _⟩ := ls_zero' h4
    have hn := counted_zero hn
    have hc : ∀ i, i < t.st.length → sFirst [sWithin (t.sg i).p 1 100, sWhen (decide ((t.sg i).p ≤ lastP t i)) 11, sWhen (((t.sg i).e.length : Int) != (t.sq.length : Int)) 2, sRanged (t.sg i).e 100000000] = 0 := fun i hi => (ls_zero' (hS i hi)).1
    have hel : ∀ i, i < t.st.length → (t.sg i).e.length = t.sq.length := fun i hi => first4_3 (hc i hi)
    refine ⟨by omega, by omega, by omega, by omega, hel, fun i hi => ?_, fun i hi => ?_, fun i k hi hk => ?_⟩
    · have := hc i hi
      rw [first_zero, within_zero] at this
      exact this.1
    · have := hc (i + 1) hi
      rw [first_zero, first_zero] at this
      have h5 := of_decide_eq_false (when_z (by decide) this.2.1)
      have e : lastP t (i + 1) = (t.sg i).p := rfl
      rw [e] at h5
      omega
    · have := hc i hi
      rw [first_zero, first_zero, first_zero, first_zero] at this
      exact ranged_of this.2.2.2.1 k (by rw [hel i hi]; exact hk)
end Go.Proofs.YtjhjmncjidbieaaGreatDoor
namespace Go.Proofs.YtjhjmncjidbieaaGreatDoor
open Go Go.Av Go.RowKit
theorem side_of {t : Ty} (h : sTyS t = 0) : (∀ i, i < 8 → 0 ≤ t.dir.getD i default ∧ t.dir.getD i default ≤ 2000) ∧ 0 ≤ t.side ∧ t.side ≤ 1000 := by
  unfold sTyS at h
  split at h
  · rename_i h1; rw [h] at h1; exact absurd h1 (by decide)
  · obtain ⟨h2, _, _⟩ := ls_zero' h
    unfold cTyS2 at h2
    rw [first_zero, first_zero, within_zero] at h2
    exact ⟨fun i hi => ranged_of h2.1 i hi, h2.2.1⟩
theorem place_ok {x y z : Int} (h : sPlace x y z = 0) : (-100000 ≤ x ∧ x ≤ 100000) ∧ (-100000 ≤ y ∧ y ≤ 100000) ∧ (0 ≤ z ∧ z ≤ 20000) := by
  unfold sPlace at h
  rw [first_zero, first_zero, first_zero, within_zero, within_zero, within_zero] at h
  exact ⟨h.1, h.2.1, h.2.2.1⟩
end Go.Proofs.YtjhjmncjidbieaaGreatDoor
namespace Go.Proofs.YtjhjmncjidbieaaGreatDoor
open Go Go.Av Go.RowKit
def la54 (l m : List Int) : LA := {
  pre := [.keep [0, 1, 5] [], .bound 1], post := [.keep [0, 1, 5] [], .bound 1]
  Gh := Nat
  st := fun i => ⟨[(0, .sl 1 (l.map encI)), (1, .sl 1 (m.map encI)), (5, .i i)], [], 1⟩
  ok := fun i => i ≤ l.length ∧ ∀ j, j < i → l.getD j default = m.getD j default
  ms := fun i => l.length - i }
theorem c54 (l m : List Int) (hl : l.length ≤ 1000) : PCall Tryz.prog G0 54 [.sl 1 (l.map encI), .sl 1 (m.map encI)] (.bool (l == m)) := by
  have key :
   (((↑(List.map encI l).length : Int) != (↑(List.map encI m).length : Int)) = true → AV.bool false = AV.bool (l == m)) ∧ (((↑(List.map encI l).length : Int) != (↑(List.map encI m).length : Int)) = false → (∃ (g : Nat), (g ≤ l.length
   ∧ ∀ (j : Nat), j < g → l.getD j default = m.getD j default) ∧ AS.mk [(0, AV.sl 1 (List.map encI l)), (1, AV.sl 1 (List.map encI m)), (5, AV.i 0)] [] 1 = AS.mk [(0, AV.sl 1 (List.map encI l)), (1, AV.sl 1 (List.map encI m)), (5,
   AV.i (↑g : Int))] [] 1) ∧ ∀ (g : Nat), (g ≤ l.length ∧ ∀ (j : Nat), j < g → l.getD j default = m.getD j default) → (decide ((↑g : Int) < (↑(List.map encI l).length : Int)) = true → (0 : Int) ≤ (↑g : Int) ∧ (↑g : Int) < (↑(List.map
   encI l).length : Int) ∧ (0 : Int) ≤ (↑g : Int) ∧ (↑g : Int) < (↑(List.map encI m).length : Int) ∧ nth (nthR (List.map encI l) (↑g : Int).toNat) 0 = AV.i (cI (List.map encI l) (↑g : Int).toNat) ∧ nth (nthR (List.map encI m) (↑g :
   Int).toNat) 0 = AV.i (cI (List.map encI m) (↑g : Int).toNat) ∧ ((cI (List.map encI l) (↑g : Int).toNat != cI (List.map encI m) (↑g : Int).toNat) = true → AV.bool false = AV.bool (l == m)) ∧ ((cI (List.map encI l) (↑g : Int).toNat
   != cI (List.map encI m) (↑g : Int).toNat) = false → In64 ((↑g : Int) + 1) ∧ ∃ (g' : Nat), (g' ≤ l.length ∧ ∀ (j : Nat), j < g' → l.getD j default = m.getD j default) ∧ l.length - g' < l.length - g ∧ AS.mk [(0, AV.sl 1 (List.map
   encI l)), (1, AV.sl 1 (List.map encI m)), (5, AV.i ((↑g : Int) + 1))] [] 1 = AS.mk [(0, AV.sl 1 (List.map encI l)), (1, AV.sl 1 (List.map encI m)), (5, AV.i (↑g' : Int))] [] 1)) ∧ (decide ((↑g : Int) < (↑(List.map encI l).length :
   Int)) = false → AV.bool true = AV.bool (l == m))) := by
    have hle : (List.map encI l).length = l.length := List.length_map _
    have hme : (List.map encI m).length = m.length := List.length_map _
    rw [hle, hme]
    refine ⟨fun h => ?_, fun h => ⟨⟨0, ⟨by omega, by intros; omega⟩, rfl⟩, fun g ⟨hg, ha⟩ => ⟨fun hd => ?_, fun hd => ?_⟩⟩⟩
    · have h1 : l ≠ m := fun e => by rw [e] at h; exact absurd h (by simp)
      rw [beq_false_of_ne h1]
    · have h1 : l.length = m.length := by have h2 : (l.length : Int) = (m.length : Int) := (by simpa using h); omega
      have hlt := lt_of_dec hd
      have c1 := cI_map l g
      have c2 := cI_map m g
      refine ⟨by omega, by omega, by omega, by omega, cI_at hlt, cI_at (by omega), fun e => ?_, fun e => ⟨by unfold In64; omega, g + 1, ⟨hlt, fun j hj => ?_⟩, by omega, rfl⟩⟩
      · have e : (cI (List.map encI l) g != cI (List.map encI m) g) = true := e
        rw [c1, c2] at e
        have h2 : l ≠ m := fun q => by rw [q] at e; exact absurd e (by simp)
        rw [beq_false_of_ne h2]
      · have e : (cI (List.map encI l) g != cI (List.map encI m) g) = false := e
        rw [c1, c2] at e
        by_cases q : j = g
        · rw [q]; simpa using e
        · exact ha j (by omega)
    · have h1 : l.length = m.length := by have h2 : (l.length : Int) = (m.length : Int) := (by simpa using h); omega
      have e := ge_of_dec hd hg
      subst e
      have : l = m := List.ext_getElem h1 fun i h2 h3 => by
        have := ha i h2
        rw [List.getD_eq_getElem?_getD, List.getD_eq_getElem?_getD, List.getElem?_eq_getElem h2, List.getElem?_eq_getElem h3] at this
        exact this
      rw [this, beq_self_eq_true]
  exact c_of Tryz.f54 (mkB spR 54 [(6, 3, rdJ), (6, 7, rdJ)] (fun j => if j.beq 0 then some (la54 l m) else none)) (by kernel_rfl) (by kernel_rfl) (by kernel_rfl) (by kernel_rfl) key (by kernel_rfl)
end Go.Proofs.YtjhjmncjidbieaaGreatDoor
namespace Go.Proofs.YtjhjmncjidbieaaGreatDoor
open Go Go.Av Go.RowKit
end Go.Proofs.YtjhjmncjidbieaaGreatDoor
namespace Go.Proofs.YtjhjmncjidbieaaGreatDoor
open Go Go.Av Go.RowKit
def orE (a b : Int) : Int := if a ≠ 0 then a else b
theorem first_c (x : Int) (l : List Int) : sFirst (x :: l) = orE x (sFirst l) := rfl
theorem first_n : sFirst [] = 0 := rfl
theorem orE_0 (a : Int) : orE a 0 = a := by
  unfold orE
  split <;> omega
theorem orE_as (a b c : Int) : orE (orE a b) c = orE a (orE b c) := by
  unfold orE
  by_cases h : a = 0
  · simp [h]
  · simp [h]
theorem orE_c {a b c : Int} (h : a = 0 → b = c) : orE a b = orE a c := by
  unfold orE
  by_cases e : a = 0
  · rw [h e]
  · rw [if_pos e, if_pos e]
theorem ite_or (c x : Int) : (if (c != 0) = true then c else x) = orE c x := by
  unfold orE
  by_cases h : c = 0
  · simp [h]
  · simp [h]
theorem ls_or (c : Int) (f : Nat → Int) (n : Nat) (fin : Int) : sLS c f n fin = orE c (sScan f n fin) := ite_or _ _
theorem first_app (m : List Int) : ∀ l, sFirst (l ++ m) = orE (sFirst l) (sFirst m)
  | [] => by
    rw [List.nil_append, first_n]
    rfl
  | x :: l => by rw [List.cons_append, first_c, first_c, first_app m l, orE_as]
theorem scan_or (f : Nat → Int) (n : Nat) (fin : Int) : sScan f n fin = orE (sScan f n 0) fin := by
  unfold sScan
  rw [first_app, first_app, first_c, first_n, orE_0, first_c, first_n, orE_0, orE_0]
theorem scan_same {f g : Nat → Int} {n : Nat} {fin : Int} (h : ∀ k, k < n → f k = g k) : sScan f n fin = sScan g n fin := by
  unfold sScan
  rw [List.map_congr_left (fun k hk => h k (List.mem_range.1 hk))]
theorem eAt_rep (n k : Nat) : eAt (List.replicate n 0) k = 0 := by
  unfold eAt
  rw [List.getD_eq_getElem?_getD, List.getElem?_replicate]
  split <;> rfl
theorem cSet_eq (t : Ty) (i : Nat) : cSetS t i = cSetR t i := by
  unfold cSetS cSetR
  rw [first_c, first_c (sPower _)]
  show orE (sWithin (t.sg i).p 1 100) _ = orE (sWithin (t.sg i).p 1 100) _
  refine orE_c fun h => ?_
  have hp := within_zero.1 h
  have e : decide ((t.sg i).p ≤ lastP t i) = if i = 0 then false else decide ((t.sg i).p ≤ (t.sg (i - 1)).p) := by
    unfold lastP
    by_cases e0 : i = 0
    · rw [if_pos e0, if_pos e0]
      exact decide_eq_false (by omega)
    · rw [if_neg e0, if_neg e0]
  rw [e]
  rfl
theorem fSet_eq (t : Ty) (i : Nat) : fSetS t i = fSetR t i := by
  unfold fSetS fSetR
  rw [ls_or, ls_or, cSet_eq]
  refine orE_c fun h => scan_same fun k hk => ?_
  have e : badS t i k = badR t i k := by
    unfold badS badR
    congr 1
    by_cases e0 : i = 0
    · rw [if_pos e0, lastE, if_pos e0, eAt_rep]
      unfold cSetR at h
      simp only [first_zero] at h
      have := ranged_of h.2.2.2.1 k hk
      exact decide_eq_false (by unfold eAt; omega)
    · rw [if_neg e0, lastE, if_neg e0]
  rw [e]
theorem shares_or (l : List Int) : sShares l = orE (sCounted l.length 8) (orE (sRanged l 1000) (sWhen (sumI l l.length != 1000) 1)) := by
  unfold sShares sCounted sRanged
  rw [ite_or]
  simp only [first_c, first_n, orE_0, orE_as]
theorem squares_or (l : List Int) : sSquares l = orE (sCounted l.length 8) (orE (sRanged l 100000000000) (sScan (fSq l) l.length 0)) := by
  unfold sSquares sCounted sRanged
  rw [ls_or]
  simp only [first_c, first_n, orE_0, orE_as]
theorem sumW_eq {l : List Int} (h : ∀ k, k < l.length → 0 ≤ l.getD k default ∧ l.getD k default ≤ 1000) (hl : l.length ≤ 1000) : ∀ i, i ≤ l.length → sumW l i = sumI l i
  | 0, _ => rfl
  | i + 1, hi => by
    have h1 := sumI_bound h (i + 1) hi
    have h2 := sumW_eq h hl i (by omega)
    show IntKind.i64.wrap (sumW l i + l.getD i default) = sumI l i + l.getD i default
    rw [h2]
    have h3 : sumI l (i + 1) = sumI l i + l.getD i default := rfl
    rw [← h3]
    have : (0 : Int) ≤ 1000 * ((i + 1 : Nat) : Int) ∧ 1000 * ((i + 1 : Nat) : Int) ≤ 1000000 := by omega
    exact in64_wrap (by unfold In64; omega)
theorem ty_eq (t : Ty) : sTyS t = sTyR t := by
  have e1 : cTyS1 t = orE (sWhen (!sName t.name) 8) (sShares t.sh) := by
    unfold cTyS1
    rw [shares_or, first_c, first_c, first_c, first_c, first_n, orE_0]
    refine congrArg _ (orE_c fun h1 => orE_c fun h2 => ?_)
    have h3 : t.sh.length ≤ 8 := by
      have := (counted_zero h1).2
      omega
    rw [sumW_eq (ranged_of h2) (by omega) _ (by omega)]
  have e2 : sSets t = orE (sWhen ((t.st.length : Int) == 0) 12) (orE (sWhen (decide ((t.st.length : Int) > 6)) 5) (sScan (fSetR t) t.st.length 0)) := by
    unfold sSets
    rw [ls_or, scan_same fun k _ => fSet_eq t k]
    unfold sCounted
    simp only [first_c, first_n, orE_0, orE_as]
  unfold sTyS sTyR cTyS2 cTyR
  rw [ite_or, ls_or, ls_or, scan_or (fSq t.sq), e1, e2]
  simp only [first_c, first_n, orE_0, orE_as, squares_or]
  rfl
end Go.Proofs.YtjhjmncjidbieaaGreatDoor
namespace Go.Proofs.YtjhjmncjidbieaaGreatDoor
open Go Go.Av Go.RowKit
end Go.Proofs.YtjhjmncjidbieaaGreatDoor
namespace Go.Proofs.YtjhjmncjidbieaaGreatDoor
open Go Go.Av Go.RowKit
def gsB (g : Nat → List GS) (B : BA) : BA := { B with gs := fun i => B.gs i ++ g i }
end Go.Proofs.YtjhjmncjidbieaaGreatDoor
namespace Go.Proofs.YtjhjmncjidbieaaGreatDoor
open Go Go.Av Go.RowKit
theorem floor_eq {n d : Int} (hd : 0 < d) : sFloor n d = n / d := by
  have e1 := Int.mul_tdiv_add_tmod n d
  have e2 := Int.tmod_lt_of_pos n hd
  have e3 : -d < n.tmod d := by
    have := Int.lt_tmod_of_pos n hd
    omega
  have key : ∀ q : Int, q * d ≤ n → n < (q + 1) * d → q = n / d := fun q h1 h2 => by
    have h3 := (Int.le_ediv_iff_mul_le hd).2 h1
    have h4 := (Int.ediv_lt_iff_lt_mul hd).2 h2
    omega
  have e4 : d * n.tdiv d = n.tdiv d * d := Int.mul_comm _ _
  unfold sFloor
  split
  · rename_i h
    refine key _ ?_ ?_
    · rw [Int.sub_mul, Int.one_mul]
      omega
    · rw [Int.sub_add_cancel]
      exact h
  · rename_i h
    have h5 : 0 ≤ n.tmod d := by omega
    refine key _ (by omega) ?_
    rw [Int.add_mul, Int.one_mul]
    omega
theorem bet_eq {a b p w : Int} (hw : 0 < w) : sBetween a b p w = (a * (w - p) + b * p) / w := by
  unfold sBetween
  rw [floor_eq hw]
  have e : a * (w - p) + b * p = (b - a) * p + a * w := by
    rw [Int.mul_sub, Int.sub_mul]
    omega
  rw [e, Int.add_mul_ediv_right _ _ (by omega)]
  omega
theorem bet_mono {a b a' b' p w : Int} (hw : 0 < w) (h0 : 0 ≤ p) (h1 : p ≤ w) (ha : a ≤ a') (hb : b ≤ b') : sBetween a b p w ≤ sBetween a' b' p w := by
  rw [bet_eq hw, bet_eq hw]
  refine Int.ediv_le_ediv hw ?_
  have e1 := Int.mul_le_mul_of_nonneg_right ha (show 0 ≤ w - p by omega)
  have e2 := Int.mul_le_mul_of_nonneg_right hb h0
  omega
theorem bet_same {a p w : Int} (hw : 0 < w) : sBetween a a p w = a := by
  unfold sBetween
  rw [floor_eq hw, Int.sub_self, Int.zero_mul, Int.zero_ediv]
  omega
theorem bet_lo {a b x p w : Int} (hw : 0 < w) (h0 : 0 ≤ p) (h1 : p ≤ w) (ha : x ≤ a) (hb : x ≤ b) : x ≤ sBetween a b p w := by
  have := bet_mono hw h0 h1 ha hb
  rwa [bet_same hw] at this
theorem bet_hi {a b x p w : Int} (hw : 0 < w) (h0 : 0 ≤ p) (h1 : p ≤ w) (ha : a ≤ x) (hb : b ≤ x) : sBetween a b p w ≤ x := by
  have := bet_mono hw h0 h1 ha hb
  rwa [bet_same hw] at this
def val (E P : Nat → Int) (n g : Nat) (p : Int) : Int :=
  if g = n then E (n - 1) else if g = 0 ∨ P g = p then E g else sBetween (E (g - 1)) (E g) (p - P (g - 1)) (P g - P (g - 1))
structure Gat (P : Nat → Int) (n g : Nat) (p : Int) : Prop where
  le : g ≤ n
  below : ∀ j, j < g → P j < p
  at_ : g < n → p ≤ P g
theorem gat_seg {P : Nat → Int} {n g : Nat} {p : Int} (h : Gat P n g p) (h1 : ¬ g = n) (h2 : ¬ (g = 0 ∨ P g = p)) : 0 < P g - P (g - 1) ∧ 0 ≤ p - P (g - 1) ∧ p - P (g - 1) ≤ P g - P (g - 1) := by
  have a1 := h.at_ (by have := h.le; omega)
  have a2 := h.below (g - 1) (by omega)
  omega
theorem val_nn {E P : Nat → Int} {n g : Nat} {p x : Int} (hn : 1 ≤ n) (h : Gat P n g p) (hE : ∀ i, i < n → x ≤ E i) : x ≤ val E P n g p := by
  unfold val
  split
  · exact hE _ (by omega)
  · rename_i h1
    have := h.le
    split
    · exact hE _ (by omega)
    · rename_i h2
      have := gat_seg h h1 h2
      exact bet_lo (by omega) (by omega) (by omega) (hE _ (by omega)) (hE _ (by omega))
structure UpTy (t : Ty) : Prop where
  u : ∀ i k, i + 1 < t.st.length → k < t.sq.length → eAt (t.sg i).e k ≤ eAt (t.sg (i + 1)).e k
  d : ∀ i k, i < t.st.length → k + 1 < t.sq.length → eAt (t.sg i).e (k + 1) ≤ eAt (t.sg i).e k
def enF (t : Ty) (d : Int) (i : Nat) : Int := eAt (t.sg i).e (bandN t.sq d t.sq.length)
def pwF (t : Ty) (i : Nat) : Int := (t.sg i).p
theorem emi_val (t : Ty) (p d : Int) : emi t p d = val (enF t d) (pwF t) t.st.length (geN t p t.st.length) p := rfl
theorem gat (t : Ty) (p : Int) : Gat (pwF t) t.st.length (geN t p t.st.length) p := ⟨geN_le _, geN_below _, geN_at _⟩
theorem emi_nn {t : Ty} {p d : Int} (h : sTyS t = 0) : 0 ≤ emi t p d := by
  have hO := ok_of h
  rw [emi_val]
  exact val_nn hO.n1 (gat t p) fun i hi => (hO.eb i _ hi (bandN_lt hO.q1)).1
end Go.Proofs.YtjhjmncjidbieaaGreatDoor
namespace Go.Proofs.YtjhjmncjidbieaaGreatDoor
open Go Go.Av Go.RowKit
def sp28 : Nat → List AV → Option AV
  | 58, [.agg c] => some (.agg c)
  | n, x => spR n x
def zeroTy : List AV := [.str [], .ex (.slice none 0 0), .i 0, .i 0, .i 0, .i 0, .i 0, .i 0, .i 0, .i 0, .i 0, .ex (.slice none 0 0), .ex (.slice none 0 0)]
def la28 (t : Ty) : LA := {
  pre := [.reno 3 1, .reno 2 3, .ownb 1 12 182 2, .renc 1 12 2, .keep [2, 3, 20, 21, 22] [1, 2, 3], .bound 4], post := [.renc 1 12 2, .keep [2, 3, 20, 21, 22] [1, 2, 3], .bound 4]
  Gh := Nat
  st := fun i => ⟨[(2, .ptr 3 0), (3, .ptr 1 0), (20, .sl 2 (t.st.map encSg)), (21, .i t.st.length), (22, .i i)], [(1, .box [.str t.name, .sl 1 (t.sh.map encI), .i t.d0, .i t.d1, .i t.d2, .i t.d3, .i t.d4, .i t.d5, .i t.d6, .i t.d7, .i t.side, .sl 1 (t.sq.map encI), .own 2 ((t.st.take i).map encSg).length]), (2, .buf 182 2 ((t.st.take i).map encSg)), (3, .box zeroTy)], 4⟩
  ok := fun i => i ≤ t.st.length
  ms := fun i => t.st.length - i }
theorem c28 (t : Ty) (hl : t.st.length ≤ 1000) (h2 : t.sh.length ≤ 1000) (h3 : t.sq.length ≤ 1000) (h4 : ∀ s, s ∈ t.st → s.e.length ≤ 1000) : PCall Tryz.prog G0 28 [.agg (encTy t)] (.agg (encTy t)) := by
  have key :
   PCall Tryz.prog G0 58 [AV.agg [AV.str t.name, AV.sl 1 (List.map encI t.sh), AV.i t.d0, AV.i t.d1, AV.i t.d2, AV.i t.d3, AV.i t.d4, AV.i t.d5, AV.i t.d6, AV.i t.d7, AV.i t.side, AV.sl 1 (List.map encI t.sq), AV.sl 2 (List.map encSg
   t.st)]] (AV.agg [AV.str t.name, AV.sl 1 (List.map encI t.sh), AV.i t.d0, AV.i t.d1, AV.i t.d2, AV.i t.d3, AV.i t.d4, AV.i t.d5, AV.i t.d6, AV.i t.d7, AV.i t.side, AV.sl 1 (List.map encI t.sq), AV.sl 2 (List.map encSg t.st)]) ∧ (∃
   (g : Nat), g ≤ t.st.length ∧ AS.mk [(2, AV.ptr 3 0), (3, AV.ptr 1 0), (20, AV.sl 2 (List.map encSg t.st)), (21, AV.i (↑(List.map encSg t.st).length : Int)), (22, AV.i 0)] [(1, ABlk.box [AV.str t.name, AV.sl 1 (List.map encI t.sh),
   AV.i t.d0, AV.i t.d1, AV.i t.d2, AV.i t.d3, AV.i t.d4, AV.i t.d5, AV.i t.d6, AV.i t.d7, AV.i t.side, AV.sl 1 (List.map encI t.sq), AV.own 2 0]), (2, ABlk.buf 182 2 []), (3, ABlk.box [AV.str [], AV.ex (Value.slice none 0 0), AV.i 0,
   AV.i 0, AV.i 0, AV.i 0, AV.i 0, AV.i 0, AV.i 0, AV.i 0, AV.i 0, AV.ex (Value.slice none 0 0), AV.ex (Value.slice none 0 0)])] 4 = AS.mk [(2, AV.ptr 3 0), (3, AV.ptr 1 0), (20, AV.sl 2 (List.map encSg t.st)), (21, AV.i (↑t.st.length
   : Int)), (22, AV.i (↑g : Int))] [(1, ABlk.box [AV.str t.name, AV.sl 1 (List.map encI t.sh), AV.i t.d0, AV.i t.d1, AV.i t.d2, AV.i t.d3, AV.i t.d4, AV.i t.d5, AV.i t.d6, AV.i t.d7, AV.i t.side, AV.sl 1 (List.map encI t.sq), AV.own 2
   (List.map encSg (List.take g t.st)).length]), (2, ABlk.buf 182 2 (List.map encSg (List.take g t.st))), (3, ABlk.box [AV.str [], AV.ex (Value.slice none 0 0), AV.i 0, AV.i 0, AV.i 0, AV.i 0, AV.i 0, AV.i 0, AV.i 0, AV.i 0, AV.i 0,
   AV.ex (Value.slice none 0 0), AV.ex (Value.slice none 0 0)])] 4) ∧ ∀ (g : Nat), g ≤ t.st.length → (decide ((↑g : Int) < (↑t.st.length : Int)) = true → (0 : Int) ≤ (↑g : Int) ∧ (↑g : Int) < (↑(List.map encSg t.st).length : Int) ∧
   AV.agg (nthR (List.map encSg t.st) (↑g : Int).toNat) = AV.agg [AV.i (t.st.getD (↑g : Int).toNat default).p, AV.sl 1 (List.map encI (t.st.getD (↑g : Int).toNat default).e)] ∧ (List.map encSg (List.take g t.st)).length + 1 ≤
   9223372036854775807 ∧ ((List.map encSg (List.take g t.st)).length + 1) * 32 ≤ 140737488355328 ∧ In64 ((↑g : Int) + 1) ∧ ∃ (g' : Nat), g' ≤ t.st.length ∧ t.st.length - g' < t.st.length - g ∧ AS.mk [(2, AV.ptr 3 0), (3, AV.ptr 1 0),
   (20, AV.sl 2 (List.map encSg t.st)), (21, AV.i (↑t.st.length : Int)), (22, AV.i ((↑g : Int) + 1))] [(1, ABlk.box [AV.str t.name, AV.sl 1 (List.map encI t.sh), AV.i t.d0, AV.i t.d1, AV.i t.d2, AV.i t.d3, AV.i t.d4, AV.i t.d5, AV.i
   t.d6, AV.i t.d7, AV.i t.side, AV.sl 1 (List.map encI t.sq), AV.own 2 ((List.map encSg (List.take g t.st)).length + 1)]), (2, ABlk.buf 182 2 (List.map encSg (List.take g t.st) ++ [[AV.i (t.st.getD (↑g : Int).toNat default).p, AV.sl
   1 (List.map encI (t.st.getD (↑g : Int).toNat default).e)]])), (3, ABlk.box [AV.str [], AV.ex (Value.slice none 0 0), AV.i 0, AV.i 0, AV.i 0, AV.i 0, AV.i 0, AV.i 0, AV.i 0, AV.i 0, AV.i 0, AV.ex (Value.slice none 0 0), AV.ex
   (Value.slice none 0 0)])] 4 = AS.mk [(2, AV.ptr 3 0), (3, AV.ptr 1 0), (20, AV.sl 2 (List.map encSg t.st)), (21, AV.i (↑t.st.length : Int)), (22, AV.i (↑g' : Int))] [(1, ABlk.box [AV.str t.name, AV.sl 1 (List.map encI t.sh), AV.i
   t.d0, AV.i t.d1, AV.i t.d2, AV.i t.d3, AV.i t.d4, AV.i t.d5, AV.i t.d6, AV.i t.d7, AV.i t.side, AV.sl 1 (List.map encI t.sq), AV.own 2 (List.map encSg (List.take g' t.st)).length]), (2, ABlk.buf 182 2 (List.map encSg (List.take g'
   t.st))), (3, ABlk.box [AV.str [], AV.ex (Value.slice none 0 0), AV.i 0, AV.i 0, AV.i 0, AV.i 0, AV.i 0, AV.i 0, AV.i 0, AV.i 0, AV.i 0, AV.ex (Value.slice none 0 0), AV.ex (Value.slice none 0 0)])] 4) ∧ (decide ((↑g : Int) <
   (↑t.st.length : Int)) = false → AV.agg [AV.str t.name, AV.sl 1 (List.map encI t.sh), AV.i t.d0, AV.i t.d1, AV.i t.d2, AV.i t.d3, AV.i t.d4, AV.i t.d5, AV.i t.d6, AV.i t.d7, AV.i t.side, AV.sl 1 (List.map encI t.sq), AV.sl 2
   (List.map encSg (List.take g t.st))] = AV.agg [AV.str t.name, AV.sl 1 (List.map encI t.sh), AV.i t.d0, AV.i t.d1, AV.i t.d2, AV.i t.d3, AV.i t.d4, AV.i t.d5, AV.i t.d6, AV.i t.d7, AV.i t.side, AV.sl 1 (List.map encI t.sq), AV.sl 2
   (List.map encSg t.st)]) := by
    have hlm : (List.map encSg t.st).length = t.st.length := List.length_map _
    refine ⟨c58 t hl h2 h3 h4, ⟨0, by omega, by rw [hlm]; rfl⟩, fun g hg => ⟨fun hd => ?_, fun hd => ?_⟩⟩
    · have hlt := lt_of_dec hd
      have h6 := take_succ encSg hlt
      have h7 : (List.map encSg (List.take g t.st)).length = g := by rw [List.length_map, List.length_take]; omega
      have h8 : (List.map encSg (List.take (g + 1) t.st)).length = g + 1 := by rw [List.length_map, List.length_take]; omega
      refine ⟨by omega, by omega, congrArg AV.agg (row_at encSg hlt), by omega, by omega, by unfold In64; omega, g + 1, hlt, by omega, ?_⟩
      rw [h8, ← h6, h7]
      rfl
    · rw [ge_of_dec hd hg, List.take_length]
  exact c_of Tryz.f28 ({ modA 6 4 (fun a => { a with fz := false }) (mkB sp28 28 [(5, 1, rdL 2 encSg t.st 2 true)] (fun i => if i.beq 0 then some (la28 t) else none)) with bx := fun i => if i.beq 0 then [.frzc 1 12] else [], gs := fun i => if i.beq 1 then [.frzo 1] else [] }) (by kernel_rfl) (by kernel_rfl) (by kernel_rfl) (by kernel_rfl) key (by kernel_rfl)
end Go.Proofs.YtjhjmncjidbieaaGreatDoor
namespace Go.Proofs.YtjhjmncjidbieaaGreatDoor
open Go Go.Av Go.RowKit
structure Ask where
  p : Int
  d : Int
  x : Int
  y : Int
  z : Int
  a : Int
  b : Int
  q : Int
  x2 : Int
  y2 : Int
  z2 : Int
  u : Int
  v : Int
  e : Int
def encAsk (k : Ask) : List AV := [.i k.p, .i k.d, .i k.x, .i k.y, .i k.z, .i k.a, .i k.b, .i k.q, .i k.x2, .i k.y2, .i k.z2, .i k.u, .i k.v, .i k.e]
structure ShortTy (t : Ty) : Prop where
  n : t.name.length ≤ 40
  s : t.sh.length ≤ 9
  q : t.sq.length ≤ 9
  st : t.st.length ≤ 7
  e : ∀ x, x ∈ t.st → x.e.length ≤ 9
theorem short_of {t : Ty} (h : sShort t = true) : ShortTy t := by
  unfold sShort at h
  simp only [Bool.and_eq_true, List.all_eq_true, decide_eq_true_eq] at h
  exact ⟨h.2.1, h.2.2.1, h.2.2.2.1, h.2.2.2.2, h.1⟩
def rdT : List AV → Option AV := fun _ => some (.bool true)
def noSym (r : Nat) (B : BA) : BA := { B with ra := fun i => if i.beq r then { B.ra i with ans := (B.ra i).ans.map fun a => { a with sym := false } } else B.ra i }
def b6 (t : Ty) (k : Ask) : List (Nat × AV) := [(2, .elt 13 [encTy t] 0 0), (3, .elt 14 [encAsk k] 0 0), (4, .bool false)]
end Go.Proofs.YtjhjmncjidbieaaGreatDoor
namespace Go.Proofs.YtjhjmncjidbieaaGreatDoor
open Go Go.Av Go.RowKit
theorem c32t {t : Ty} (h : ShortTy t) : PCall Tryz.prog G0 32 [.agg (encTy t)] (.i (sTyR t)) := c32 t (by have := h.st; omega) (by have := h.s; omega) (by have := h.q; omega) (fun x hx => by have := h.e x hx; omega) (by have := h.n; omega)
def rdF : List AV → Option AV := fun _ => some (.bool false)
def md (g : List GS) (l : List (Nat × AV)) : Option (List GS × AS) := some (g ++ [.keep (l.map (·.1)) [], .bound 1], ⟨l, [], 1⟩)
theorem c_ofG {f : Nat} {args : List AV} {r : AV} (fn : Func) (B : BA) (ms : List (Option (List GS × AS))) (hf : Tryz.prog.funcs[f]? = some fn) (hb : fn.body = some (bodyOf fn)) (hn : (fn.name == "runtime.NumGoroutine") = false) (hlen : Nat.ble args.length fn.ntmps = true)
    {q : Prop} (hq : q) (h : partsG (bodyE Tryz.prog T0 G0 fn.ntmps []) B (retQ T0 fn fun v => v = r) (flatSeq (bodyOf fn)) ms (startS args) = q) : PCall Tryz.prog G0 f args r :=
  call_of_partsG tok mix hf hb hn (Nat.le_of_ble_eq_true hlen) B ms (vc_of hq h)
end Go.Proofs.YtjhjmncjidbieaaGreatDoor
namespace Go.Proofs.YtjhjmncjidbieaaGreatDoor
open Go Go.Av Go.RowKit
def cJ (rows : List (List AV)) (i j : Nat) : Int := match nth (nthR rows i) j with
  | .int _ n => n
  | _ => 0
def rdC : List AV → Option AV
  | [.elt _ rows i j] => some (.i (cJ rows i j))
  | _ => none
theorem c26 (l : List Fx)  : PCall Tryz.prog G0 26 [.sl 5 (l.map encFx)] (.bool (decide (l.length ≤ 17))) := by
  have key :
   AV.bool (decide ((↑(List.map encFx l).length : Int) ≤ 17)) = AV.bool (decide (l.length ≤ 17)) := by
    rw [List.length_map]
    exact congrArg AV.bool (decide_eq_decide.2 (by omega))
  exact c_of Tryz.f26 (mkB spR 26 [] noLa) (by kernel_rfl) (by kernel_rfl) (by kernel_rfl) (by kernel_rfl) key (by kernel_rfl)
def la29 (l : List Fx) : LA := {
  pre := [.own 3 83 5, .reno 3 1, .keep [0, 3, 6, 7, 8] [1], .bound 2], post := [.reno 3 1, .keep [0, 3, 6, 7, 8] [1], .bound 2]
  Gh := Nat
  st := fun i => ⟨[(0, .sl 5 (l.map encFx)), (3, .own 1 ((l.take i).map encFx).length), (6, .sl 5 (l.map encFx)), (7, .i (l.map encFx).length), (8, .i i)], [(1, .buf 83 5 ((l.take i).map encFx))], 2⟩
  ok := fun i => i ≤ (l.map encFx).length
  ms := fun i => (l.map encFx).length - i }
theorem c29 (l : List Fx) (hl : l.length ≤ 1000) : PCall Tryz.prog G0 29 [.sl 5 (l.map encFx)] (.fresh 83 5 (l.map encFx)) := by
  have key :
   (∃ (g : Nat), g ≤ (List.map encFx l).length ∧ AS.mk [(0, AV.sl 5 (List.map encFx l)), (3, AV.own 1 0), (6, AV.sl 5 (List.map encFx l)), (7, AV.i (↑(List.map encFx l).length : Int)), (8, AV.i 0)] [(1, ABlk.buf 83 5 [])] 2 = AS.mk
   [(0, AV.sl 5 (List.map encFx l)), (3, AV.own 1 (List.map encFx (List.take g l)).length), (6, AV.sl 5 (List.map encFx l)), (7, AV.i (↑(List.map encFx l).length : Int)), (8, AV.i (↑g : Int))] [(1, ABlk.buf 83 5 (List.map encFx
   (List.take g l)))] 2) ∧ ∀ (g : Nat), g ≤ (List.map encFx l).length → (decide ((↑g : Int) < (↑(List.map encFx l).length : Int)) = true → (0 : Int) ≤ (↑g : Int) ∧ (↑g : Int) < (↑(List.map encFx l).length : Int) ∧ AV.agg (nthR
   (List.map encFx l) (↑g : Int).toNat) = AV.agg [AV.i (l.getD (↑g : Int).toNat default).t, AV.i (l.getD (↑g : Int).toNat default).x, AV.i (l.getD (↑g : Int).toNat default).y, AV.i (l.getD (↑g : Int).toNat default).z, AV.i (l.getD (↑g
   : Int).toNat default).p] ∧ (List.map encFx (List.take g l)).length + 1 ≤ 9223372036854775807 ∧ ((List.map encFx (List.take g l)).length + 1) * 40 ≤ 140737488355328 ∧ In64 ((↑g : Int) + 1) ∧ ∃ (g' : Nat), g' ≤ (List.map encFx
   l).length ∧ (List.map encFx l).length - g' < (List.map encFx l).length - g ∧ AS.mk [(0, AV.sl 5 (List.map encFx l)), (3, AV.own 1 ((List.map encFx (List.take g l)).length + 1)), (6, AV.sl 5 (List.map encFx l)), (7, AV.i (↑(List.map
   encFx l).length : Int)), (8, AV.i ((↑g : Int) + 1))] [(1, ABlk.buf 83 5 (List.map encFx (List.take g l) ++ [[AV.i (l.getD (↑g : Int).toNat default).t, AV.i (l.getD (↑g : Int).toNat default).x, AV.i (l.getD (↑g : Int).toNat
   default).y, AV.i (l.getD (↑g : Int).toNat default).z, AV.i (l.getD (↑g : Int).toNat default).p]]))] 2 = AS.mk [(0, AV.sl 5 (List.map encFx l)), (3, AV.own 1 (List.map encFx (List.take g' l)).length), (6, AV.sl 5 (List.map encFx
   l)), (7, AV.i (↑(List.map encFx l).length : Int)), (8, AV.i (↑g' : Int))] [(1, ABlk.buf 83 5 (List.map encFx (List.take g' l)))] 2) ∧ (decide ((↑g : Int) < (↑(List.map encFx l).length : Int)) = false → AV.fresh 83 5 (List.map encFx
   (List.take g l)) = AV.fresh 83 5 (List.map encFx l)) := by
    simp only [List.length_map]
    refine ⟨⟨0, by omega, rfl⟩, fun g hg => ⟨fun hd => ?_, fun hd => ?_⟩⟩
    · have hlt := lt_of_dec hd
      simp only [Int.toNat_natCast]
      refine ⟨by omega, by omega, by rw [row_at _ hlt]; rfl, by rw [List.length_take]; omega, by rw [List.length_take]; omega, by unfold In64; omega, g + 1, hlt, by omega, ?_⟩
      have h2 := take_succ encFx hlt
      simp only [encFx] at h2
      rw [show (l.take g).length + 1 = (l.take (g + 1)).length by simp only [List.length_take]; omega, h2]
      rfl
    · rw [ge_of_dec hd hg, List.take_length]
  exact c_of Tryz.f29 (fzB (mkB spR 29 [(4, 1, rdL 5 encFx l 5 true)] (fun i => if i.beq 0 then some (la29 l) else none))) (by kernel_rfl) (by kernel_rfl) (by kernel_rfl) (by kernel_rfl) key (by kernel_rfl)
theorem c102 (l : List Fx) (h : 1 ≤ l.length) (hl : l.length ≤ 1000) : PCall Tryz.prog G0 102 [.sl 5 (l.map encFx)] (.agg [.i (l.getD 0 default).t, .i (l.getD (l.length - 1) default).t]) := by
  have key :
   (0 : Int) ≤ 0 ∧ (0 : Int) < (↑(List.map encFx l).length : Int) ∧ In64 ((↑(List.map encFx l).length : Int) - 1) ∧ (0 : Int) ≤ (↑(List.map encFx l).length : Int) - 1 ∧ (↑(List.map encFx l).length : Int) - 1 < (↑(List.map encFx
   l).length : Int) ∧ nth (nthR (List.map encFx l) 0) 0 = AV.i (cJ (List.map encFx l) 0 0) ∧ nth (nthR (List.map encFx l) ((↑(List.map encFx l).length : Int) - 1).toNat) 0 = AV.i (cJ (List.map encFx l) ((↑(List.map encFx l).length :
   Int) - 1).toNat 0) ∧ AV.agg [AV.i (cJ (List.map encFx l) 0 0), AV.i (cJ (List.map encFx l) ((↑(List.map encFx l).length : Int) - 1).toNat 0)] = AV.agg [AV.i (l.getD 0 default).t, AV.i (l.getD (l.length - 1) default).t] := by
    have hlm : (List.map encFx l).length = l.length := List.length_map _
    have e1 : ((↑(List.map encFx l).length : Int) - 1).toNat = l.length - 1 := by omega
    have e2 : nthR (List.map encFx l) 0 = encFx (l.getD 0 default) := row_at encFx (by omega)
    have e3 : nthR (List.map encFx l) (l.length - 1) = encFx (l.getD (l.length - 1) default) := row_at encFx (by omega)
    rw [e1]
    unfold cJ
    rw [e2, e3]
    exact ⟨by omega, by omega, by unfold In64; omega, by omega, by omega, rfl, rfl, rfl⟩
  exact c_of Tryz.f102 (mkB spR 102 [(1, 3, rdC), (1, 10, rdC)] noLa) (by kernel_rfl) (by kernel_rfl) (by kernel_rfl) (by kernel_rfl) key (by kernel_rfl)
def atI (l : List Fx) (tk : Int) : Nat → Nat
  | 0 => 0
  | m + 1 => if (l.getD m default).t ≤ tk then m else atI l tk m
theorem atI_lt {l : List Fx} {tk : Int} : ∀ {m : Nat}, 1 ≤ m → atI l tk m < m
  | 0, h => absurd h (by omega)
  | m + 1, _ => by
    simp only [atI]
    split
    · omega
    · by_cases e : m = 0
      · subst e; exact Nat.zero_lt_one
      · have := atI_lt (l := l) (tk := tk) (m := m) (by omega)
        omega
structure TrackOK (l : List Fx) : Prop where
  n1 : 2 ≤ l.length
  n2 : l.length ≤ 16
  b : ∀ i, i < l.length → (0 ≤ (l.getD i default).t ∧ (l.getD i default).t ≤ 100000000) ∧ (-100000 ≤ (l.getD i default).x ∧ (l.getD i default).x ≤ 100000) ∧ (-100000 ≤ (l.getD i default).y ∧ (l.getD i default).y ≤ 100000) ∧ (0 ≤ (l.getD i default).z ∧ (l.getD i default).z ≤ 20000) ∧ 1 ≤ (l.getD i default).p ∧ (l.getD i default).p ≤ 100
  up : ∀ i, i + 1 < l.length → (l.getD i default).t < (l.getD (i + 1) default).t
def atA (l : List Fx) (tk : Int) : Fx := l.getD (atI l tk (l.length - 1)) default
def atB (l : List Fx) (tk : Int) : Fx := l.getD (atI l tk (l.length - 1) + 1) default
def atV (a b : Fx) (tk : Int) : List AV := [.i (sBetween a.x b.x (tk - a.t) (b.t - a.t)), .i (sBetween a.y b.y (tk - a.t) (b.t - a.t)), .i (sBetween a.z b.z (tk - a.t) (b.t - a.t)), .i (b.x - a.x), .i (b.y - a.y), .i (sBetween a.p b.p (tk - a.t) (b.t - a.t))]
def sp126 : Nat → List AV → Option AV
  | 142, [.int _ a, .int _ b, .int _ p, .int _ w] => some (.i (sBetween a b p w))
  | 97, [.int _ a, .int _ b, .int _ p, .int _ w] => some (.i (sBetween a b p w))
  | n, x => spR n x
def la126 (l : List Fx) (tk : Int) : LA := {
  pre := [.keep [0, 1, 4, 5, 17, 18, 19] [1], .bound 2], post := [.keep [0, 1, 4, 5, 17, 18, 19] [1], .bound 2]
  Gh := Nat
  st := fun i => ⟨[(0, .sl 5 (l.map encFx)), (1, .i tk), (4, .ptr 1 0), (5, .i (atI l tk i)), (17, .sl 5 ((l.map encFx).take (l.length - 1))), (18, .i ((l.length : Int) - 1)), (19, .i i)], [(1, .box [.i 0, .i 0, .i 0, .i 0, .i 0, .i 0])], 2⟩
  ok := fun i => i + 1 ≤ l.length
  ms := fun i => l.length - i }
theorem c126 (l : List Fx) (tk : Int) (h : TrackOK l) (htk : -1000 ≤ tk ∧ tk ≤ 200000000) : PCall Tryz.prog G0 126 [.sl 5 (l.map encFx), .i tk] (.agg (atV (atA l tk) (atB l tk) tk)) := by
  have key :
   In64 ((↑(List.map encFx l).length : Int) - 1) ∧ (0 : Int) ≤ 0 ∧ (0 : Int) ≤ (↑(List.map encFx l).length : Int) - 1 ∧ (↑(List.map encFx l).length : Int) - 1 ≤ (↑(List.map encFx l).length : Int) ∧ (∃ (g : Nat), g + 1 ≤ l.length ∧
   AS.mk [(0, AV.sl 5 (List.map encFx l)), (1, AV.i tk), (4, AV.ptr 1 0), (5, AV.i 0), (17, AV.sl 5 (List.take ((↑(List.map encFx l).length : Int) - 1 - 0).toNat (List.drop 0 (List.map encFx l)))), (18, AV.i (↑(List.take ((↑(List.map
   encFx l).length : Int) - 1 - 0).toNat (List.drop 0 (List.map encFx l))).length : Int)), (19, AV.i 0)] [(1, ABlk.box [AV.i 0, AV.i 0, AV.i 0, AV.i 0, AV.i 0, AV.i 0])] 2 = AS.mk [(0, AV.sl 5 (List.map encFx l)), (1, AV.i tk), (4,
   AV.ptr 1 0), (5, AV.i (↑(atI l tk g) : Int)), (17, AV.sl 5 (List.take (l.length - 1) (List.map encFx l))), (18, AV.i ((↑l.length : Int) - 1)), (19, AV.i (↑g : Int))] [(1, ABlk.box [AV.i 0, AV.i 0, AV.i 0, AV.i 0, AV.i 0, AV.i 0])]
   2) ∧ ∀ (g : Nat), g + 1 ≤ l.length → (decide ((↑g : Int) < (↑l.length : Int) - 1) = true → (0 : Int) ≤ (↑g : Int) ∧ (↑g : Int) < (↑(List.take (l.length - 1) (List.map encFx l)).length : Int) ∧ AV.agg (nthR (List.take (l.length - 1)
   (List.map encFx l)) (↑g : Int).toNat) = AV.agg [AV.i (l.getD (↑g : Int).toNat default).t, AV.i (l.getD (↑g : Int).toNat default).x, AV.i (l.getD (↑g : Int).toNat default).y, AV.i (l.getD (↑g : Int).toNat default).z, AV.i (l.getD
   (↑g : Int).toNat default).p] ∧ (decide ((l.getD (↑g : Int).toNat default).t ≤ tk) = true → In64 ((↑g : Int) + 1) ∧ ∃ (g' : Nat), g' + 1 ≤ l.length ∧ l.length - g' < l.length - g ∧ AS.mk [(0, AV.sl 5 (List.map encFx l)), (1, AV.i
   tk), (4, AV.ptr 1 0), (5, AV.i (↑g : Int)), (17, AV.sl 5 (List.take (l.length - 1) (List.map encFx l))), (18, AV.i ((↑l.length : Int) - 1)), (19, AV.i ((↑g : Int) + 1))] [(1, ABlk.box [AV.i 0, AV.i 0, AV.i 0, AV.i 0, AV.i 0, AV.i
   0])] 2 = AS.mk [(0, AV.sl 5 (List.map encFx l)), (1, AV.i tk), (4, AV.ptr 1 0), (5, AV.i (↑(atI l tk g') : Int)), (17, AV.sl 5 (List.take (l.length - 1) (List.map encFx l))), (18, AV.i ((↑l.length : Int) - 1)), (19, AV.i (↑g' :
   Int))] [(1, ABlk.box [AV.i 0, AV.i 0, AV.i 0, AV.i 0, AV.i 0, AV.i 0])] 2) ∧ (decide ((l.getD (↑g : Int).toNat default).t ≤ tk) = false → In64 ((↑g : Int) + 1) ∧ ∃ (g' : Nat), g' + 1 ≤ l.length ∧ l.length - g' < l.length - g ∧
   AS.mk [(0, AV.sl 5 (List.map encFx l)), (1, AV.i tk), (4, AV.ptr 1 0), (5, AV.i (↑(atI l tk g) : Int)), (17, AV.sl 5 (List.take (l.length - 1) (List.map encFx l))), (18, AV.i ((↑l.length : Int) - 1)), (19, AV.i ((↑g : Int) + 1))]
   [(1, ABlk.box [AV.i 0, AV.i 0, AV.i 0, AV.i 0, AV.i 0, AV.i 0])] 2 = AS.mk [(0, AV.sl 5 (List.map encFx l)), (1, AV.i tk), (4, AV.ptr 1 0), (5, AV.i (↑(atI l tk g') : Int)), (17, AV.sl 5 (List.take (l.length - 1) (List.map encFx
   l))), (18, AV.i ((↑l.length : Int) - 1)), (19, AV.i (↑g' : Int))] [(1, ABlk.box [AV.i 0, AV.i 0, AV.i 0, AV.i 0, AV.i 0, AV.i 0])] 2)) ∧ (decide ((↑g : Int) < (↑l.length : Int) - 1) = false → (0 : Int) ≤ (↑(atI l tk g) : Int) ∧
   (↑(atI l tk g) : Int) < (↑(List.map encFx l).length : Int) ∧ In64 ((↑(atI l tk g) : Int) + 1) ∧ (0 : Int) ≤ (↑(atI l tk g) : Int) + 1 ∧ (↑(atI l tk g) : Int) + 1 < (↑(List.map encFx l).length : Int) ∧ AV.agg (nthR (List.map encFx
   l) (↑(atI l tk g) : Int).toNat) = AV.agg [AV.i (l.getD (↑(atI l tk g) : Int).toNat default).t, AV.i (l.getD (↑(atI l tk g) : Int).toNat default).x, AV.i (l.getD (↑(atI l tk g) : Int).toNat default).y, AV.i (l.getD (↑(atI l tk g) :
   Int).toNat default).z, AV.i (l.getD (↑(atI l tk g) : Int).toNat default).p] ∧ AV.agg (nthR (List.map encFx l) ((↑(atI l tk g) : Int) + 1).toNat) = AV.agg [AV.i (l.getD ((↑(atI l tk g) : Int) + 1).toNat default).t, AV.i (l.getD
   ((↑(atI l tk g) : Int) + 1).toNat default).x, AV.i (l.getD ((↑(atI l tk g) : Int) + 1).toNat default).y, AV.i (l.getD ((↑(atI l tk g) : Int) + 1).toNat default).z, AV.i (l.getD ((↑(atI l tk g) : Int) + 1).toNat default).p] ∧ In64
   (tk - (l.getD (↑(atI l tk g) : Int).toNat default).t) ∧ In64 ((l.getD ((↑(atI l tk g) : Int) + 1).toNat default).t - (l.getD (↑(atI l tk g) : Int).toNat default).t) ∧ PCall Tryz.prog G0 142 [AV.i (l.getD (↑(atI l tk g) : Int).toNat
   default).x, AV.i (l.getD ((↑(atI l tk g) : Int) + 1).toNat default).x, AV.i (tk - (l.getD (↑(atI l tk g) : Int).toNat default).t), AV.i ((l.getD ((↑(atI l tk g) : Int) + 1).toNat default).t - (l.getD (↑(atI l tk g) : Int).toNat
   default).t)] (AV.i (sBetween (l.getD (↑(atI l tk g) : Int).toNat default).x (l.getD ((↑(atI l tk g) : Int) + 1).toNat default).x (tk - (l.getD (↑(atI l tk g) : Int).toNat default).t) ((l.getD ((↑(atI l tk g) : Int) + 1).toNat
   default).t - (l.getD (↑(atI l tk g) : Int).toNat default).t))) ∧ PCall Tryz.prog G0 142 [AV.i (l.getD (↑(atI l tk g) : Int).toNat default).y, AV.i (l.getD ((↑(atI l tk g) : Int) + 1).toNat default).y, AV.i (tk - (l.getD (↑(atI l tk
   g) : Int).toNat default).t), AV.i ((l.getD ((↑(atI l tk g) : Int) + 1).toNat default).t - (l.getD (↑(atI l tk g) : Int).toNat default).t)] (AV.i (sBetween (l.getD (↑(atI l tk g) : Int).toNat default).y (l.getD ((↑(atI l tk g) :
   Int) + 1).toNat default).y (tk - (l.getD (↑(atI l tk g) : Int).toNat default).t) ((l.getD ((↑(atI l tk g) : Int) + 1).toNat default).t - (l.getD (↑(atI l tk g) : Int).toNat default).t))) ∧ PCall Tryz.prog G0 142 [AV.i (l.getD
   (↑(atI l tk g) : Int).toNat default).z, AV.i (l.getD ((↑(atI l tk g) : Int) + 1).toNat default).z, AV.i (tk - (l.getD (↑(atI l tk g) : Int).toNat default).t), AV.i ((l.getD ((↑(atI l tk g) : Int) + 1).toNat default).t - (l.getD
   (↑(atI l tk g) : Int).toNat default).t)] (AV.i (sBetween (l.getD (↑(atI l tk g) : Int).toNat default).z (l.getD ((↑(atI l tk g) : Int) + 1).toNat default).z (tk - (l.getD (↑(atI l tk g) : Int).toNat default).t) ((l.getD ((↑(atI l
   tk g) : Int) + 1).toNat default).t - (l.getD (↑(atI l tk g) : Int).toNat default).t))) ∧ In64 ((l.getD ((↑(atI l tk g) : Int) + 1).toNat default).x - (l.getD (↑(atI l tk g) : Int).toNat default).x) ∧ In64 ((l.getD ((↑(atI l tk g) :
   Int) + 1).toNat default).y - (l.getD (↑(atI l tk g) : Int).toNat default).y) ∧ PCall Tryz.prog G0 142 [AV.i (l.getD (↑(atI l tk g) : Int).toNat default).p, AV.i (l.getD ((↑(atI l tk g) : Int) + 1).toNat default).p, AV.i (tk -
   (l.getD (↑(atI l tk g) : Int).toNat default).t), AV.i ((l.getD ((↑(atI l tk g) : Int) + 1).toNat default).t - (l.getD (↑(atI l tk g) : Int).toNat default).t)] (AV.i (sBetween (l.getD (↑(atI l tk g) : Int).toNat default).p (l.getD
   ((↑(atI l tk g) : Int) + 1).toNat default).p (tk - (l.getD (↑(atI l tk g) : Int).toNat default).t) ((l.getD ((↑(atI l tk g) : Int) + 1).toNat default).t - (l.getD (↑(atI l tk g) : Int).toNat default).t))) ∧ AV.agg [AV.i (sBetween
   (l.getD (↑(atI l tk g) : Int).toNat default).x (l.getD ((↑(atI l tk g) : Int) + 1).toNat default).x (tk - (l.getD (↑(atI l tk g) : Int).toNat default).t) ((l.getD ((↑(atI l tk g) : Int) + 1).toNat default).t - (l.getD (↑(atI l tk
   g) : Int).toNat default).t)), AV.i (sBetween (l.getD (↑(atI l tk g) : Int).toNat default).y (l.getD ((↑(atI l tk g) : Int) + 1).toNat default).y (tk - (l.getD (↑(atI l tk g) : Int).toNat default).t) ((l.getD ((↑(atI l tk g) : Int)
   + 1).toNat default).t - (l.getD (↑(atI l tk g) : Int).toNat default).t)), AV.i (sBetween (l.getD (↑(atI l tk g) : Int).toNat default).z (l.getD ((↑(atI l tk g) : Int) + 1).toNat default).z (tk - (l.getD (↑(atI l tk g) : Int).toNat
   default).t) ((l.getD ((↑(atI l tk g) : Int) + 1).toNat default).t - (l.getD (↑(atI l tk g) : Int).toNat default).t)), AV.i ((l.getD ((↑(atI l tk g) : Int) + 1).toNat default).x - (l.getD (↑(atI l tk g) : Int).toNat default).x),
   AV.i ((l.getD ((↑(atI l tk g) : Int) + 1).toNat default).y - (l.getD (↑(atI l tk g) : Int).toNat default).y), AV.i (sBetween (l.getD (↑(atI l tk g) : Int).toNat default).p (l.getD ((↑(atI l tk g) : Int) + 1).toNat default).p (tk -
   (l.getD (↑(atI l tk g) : Int).toNat default).t) ((l.getD ((↑(atI l tk g) : Int) + 1).toNat default).t - (l.getD (↑(atI l tk g) : Int).toNat default).t))] = AV.agg [AV.i (sBetween (atA l tk).x (atB l tk).x (tk - (atA l tk).t) ((atB
   l tk).t - (atA l tk).t)), AV.i (sBetween (atA l tk).y (atB l tk).y (tk - (atA l tk).t) ((atB l tk).t - (atA l tk).t)), AV.i (sBetween (atA l tk).z (atB l tk).z (tk - (atA l tk).t) ((atB l tk).t - (atA l tk).t)), AV.i ((atB l tk).x
   - (atA l tk).x), AV.i ((atB l tk).y - (atA l tk).y), AV.i (sBetween (atA l tk).p (atB l tk).p (tk - (atA l tk).t) ((atB l tk).t - (atA l tk).t))]) := by
    have hlm : (List.map encFx l).length = l.length := List.length_map _
    have hn := h.n1
    have e1 : List.take ((↑(List.map encFx l).length : Int) - 1 - 0).toNat (List.drop 0 (List.map encFx l)) = List.take (l.length - 1) (List.map encFx l) := by
      rw [hlm, List.drop_zero]
      congr 1
      omega
    have e2 : ((List.take (l.length - 1) (List.map encFx l)).length : Int) = (l.length : Int) - 1 := by
      rw [List.length_take, hlm]
      omega
    have hl := h.n2
    refine ⟨by unfold In64; omega, by omega, by omega, by omega, ⟨0, by omega, ?_⟩, fun g hg => ⟨fun hd => ?_, fun hd => ?_⟩⟩
    · rw [e1, e2]
      rfl
    · have hlt := of_decide_eq_true hd
      simp only [Int.toNat_natCast]
      refine ⟨by omega, by rw [e2]; omega, ?_, fun hx => ⟨by unfold In64; omega, g + 1, by omega, by omega, ?_⟩, fun hx => ⟨by unfold In64; omega, g + 1, by omega, by omega, ?_⟩⟩
      · have : nthR (List.take (l.length - 1) (List.map encFx l)) g = nthR (List.map encFx l) g := by
          unfold nthR
          rw [List.getD_eq_getElem?_getD, List.getD_eq_getElem?_getD, List.getElem?_take_of_lt (by omega)]
        rw [this, row_at encFx (by omega)]
        rfl
      · rw [show atI l tk (g + 1) = g from if_pos (of_decide_eq_true hx)]
        rfl
      · rw [show atI l tk (g + 1) = atI l tk g from if_neg (of_decide_eq_false hx)]
        rfl
    · have hge : g = l.length - 1 := by
        have := of_decide_eq_false hd
        omega
      subst hge
      have hi := atI_lt (l := l) (tk := tk) (m := l.length - 1) (by omega)
      have e3 : ((↑(atI l tk (l.length - 1)) : Int) + 1).toNat = atI l tk (l.length - 1) + 1 := by omega
      have r1 : nthR (List.map encFx l) (atI l tk (l.length - 1)) = encFx (atA l tk) := row_at encFx (by omega)
      have r2 : nthR (List.map encFx l) (atI l tk (l.length - 1) + 1) = encFx (atB l tk) := row_at encFx (by omega)
      have bA := h.b (atI l tk (l.length - 1)) (by omega)
      have bB := h.b (atI l tk (l.length - 1) + 1) (by omega)
      have up := h.up (atI l tk (l.length - 1)) (by omega)
      rw [e3, Int.toNat_natCast, r1, r2]
      rw [show l.getD (atI l tk (l.length - 1)) default = atA l tk from rfl] at bA up ⊢
      rw [show l.getD (atI l tk (l.length - 1) + 1) default = atB l tk from rfl] at bB up ⊢
      generalize atA l tk = A at *
      generalize atB l tk = B at *
      exact ⟨by omega, by omega, by unfold In64; omega, by omega, by omega, rfl, rfl, by unfold In64; omega, by unfold In64; omega, c142 _ _ _ _ ⟨by omega, by omega, by omega, by omega, by omega, by omega, by omega⟩, c142 _ _ _ _ ⟨by omega, by omega, by omega, by omega, by omega, by omega, by omega⟩, c142 _ _ _ _ ⟨by omega, by omega, by omega, by omega, by omega, by omega, by omega⟩, by unfold In64; omega, by unfold In64; omega, c142 _ _ _ _ ⟨by omega, by omega, by omega, by omega, by omega, by omega, by omega⟩, rfl⟩
  exact c_of Tryz.f126 (fzB (mkB sp126 126 [(4, 2, rdL 5 encFx l 5 true), (8, 3, rdL 5 encFx l 5 true), (8, 8, rdL 5 encFx l 5 true)] (fun i => if i.beq 0 then some (la126 l tk) else none))) (by kernel_rfl) (by kernel_rfl) (by kernel_rfl) (by kernel_rfl) key (by kernel_rfl)
end Go.Proofs.YtjhjmncjidbieaaGreatDoor
