/-
  Parsing a home, the source's: a contract. Parsing a home, the reference's: a contract. The zone of an energy, and whether a home is eligible: both sides. A home after a set of measures: both sides. No condition but the theorems' own.
-/
import Derived.Test.YtfoeefaamjknpaaGreatDoorPD
import Derived.Test.YtfoeefaamjknpaaGreatDoorAvD
import Derived.Test.YtfoeefaamjknpaaGreatDoorPC
import Derived.Test.YtfoeefaamjknpaaGreatDoorPB
namespace Go.Proofs.YtfoeefaamjknpaaGreatDoor
open Go Go.Av Go.RowKit
theorem k86_e {s x : List UInt8} {pre post : List (List UInt8)} (hL : lns s = pre ++ x :: post) (hb : ∀ j, j < pre.length → badJ j (pre.getD j []) = false) (hx : badJ pre.length x = true) : k86 s = pre.length ∧ pre.length < (lns s).length := by
  have hgn : pre.length < (lns s).length := by rw [hL]; simp
  refine ⟨fi_some (fun j hj => ?_) ?_ hgn, hgn⟩
  · have := hb j hj
    rw [hL, List.getD_eq_getElem?_getD, List.getElem?_append_left hj, ← List.getD_eq_getElem?_getD]
    exact this
  · show badJ pre.length ((lns s).getD pre.length []) = true
    rw [hL, List.getD_eq_getElem?_getD, List.getElem?_append_right (Nat.le_refl _), Nat.sub_self]
    exact hx
theorem ok_next {x : List UInt8} {pre : List (List UInt8)} (hb : ∀ j, j < pre.length → badJ j (pre.getD j []) = false) (hx : badJ pre.length x = false) : ∀ j, j < (pre ++ [x]).length → badJ j ((pre ++ [x]).getD j []) = false := fun j hj => by
  by_cases e : j < pre.length
  · rw [List.getD_eq_getElem?_getD, List.getElem?_append_left e, ← List.getD_eq_getElem?_getD]
    exact hb j e
  · rw [List.length_append, List.length_singleton] at hj
    have e2 : j = pre.length := by omega
    rw [e2, List.getD_eq_getElem?_getD, List.getElem?_append_right (Nat.le_refl _), Nat.sub_self]
    exact hx
theorem k86_n {s : List UInt8} (hb : ∀ j, j < (lns s).length → badJ j ((lns s).getD j []) = false) : k86 s = (lns s).length := fi_none hb
theorem hmP_next {x : List UInt8} {pre : List (List UInt8)} (h : pre ≠ []) : hmP (pre ++ [x]) = ⟨(hmP pre).nm, (hmP pre).pe, (hmP pre).ws ++ [wnL x]⟩ := by
  cases pre with
  | nil => exact absurd rfl h
  | cons y t => exact hmP_app t
theorem headD_le {ws : List (List UInt8)} {b : Nat} (h : ∀ y, y ∈ ws → y.length ≤ b) : (ws.headD []).length ≤ b := by
  cases ws with
  | nil => exact Nat.zero_le _
  | cons y t => exact h y (List.mem_cons_self ..)
theorem hmP_bd (s : List UInt8) : (hmP (lns s)).nm.length ≤ s.length ∧ (hmP (lns s)).ws.length ≤ s.length := by
  obtain ⟨l1, l2⟩ := ln_len (lns_is s)
  cases h : lns s with
  | nil => exact ⟨Nat.zero_le _, Nat.zero_le _⟩
  | cons x t =>
    rw [h] at l1 l2
    rw [List.length_cons] at l1
    refine ⟨?_, ?_⟩
    · show (hdR (rwN 1 (roL x))).length ≤ _
      unfold roL
      rw [hd_k]
      refine headD_le fun y hy => ?_
      have h1 := (spl_len 32 (bodyL x)).2 y ((wdN_sub _ 1).subset hy)
      have h2 := body_len x
      have h3 := l2 x (List.mem_cons_self ..)
      omega
    · show (t.map wnL).length ≤ _
      rw [List.length_map]
      omega
theorem c86 (s : List UInt8) (hl : s.length ≤ 400 ∨ s.length = 4097) : PCall Tryz.prog G0 86 [.str s] (psH (e86 s) (k86 s) (lns s).length (hmP (lns s))) := by
  have key :
   PCall Tryz.prog G0 116 [AV.bool (decide ((↑s.length : Int) > 4096)), AV.i 26] (AV.i (sWhen (decide ((↑s.length : Int) > 4096)) (26 : Int))) ∧ PCall Tryz.prog G0 116 [AV.bool (s == []), AV.i 25] (AV.i (sWhen (s == []) (25 : Int))) ∧
   PCall Tryz.prog G0 104 [AV.sl 1 [[AV.i (sWhen (decide ((↑s.length : Int) > 4096)) (26 : Int))], [AV.i (sWhen (s == []) (25 : Int))]]] (AV.i (sFirst [hdI [AV.i (sWhen (decide ((↑s.length : Int) > 4096)) (26 : Int))], hdI [AV.i
   (sWhen (s == []) (25 : Int))]])) ∧ ((sFirst [hdI [AV.i (sWhen (decide ((↑s.length : Int) > 4096)) (26 : Int))], hdI [AV.i (sWhen (s == []) (25 : Int))]] != 0) = true → AV.tup [AV.agg [AV.str [], AV.i 0, AV.sl 25 []], AV.i 0, AV.i
   (sFirst [hdI [AV.i (sWhen (decide ((↑s.length : Int) > 4096)) (26 : Int))], hdI [AV.i (sWhen (s == []) (25 : Int))]])] = psH (e86 s) (k86 s) (lns s).length (hmP (lns s))) ∧ ((sFirst [hdI [AV.i (sWhen (decide ((↑s.length : Int) >
   4096)) (26 : Int))], hdI [AV.i (sWhen (s == []) (25 : Int))]] != 0) = false → PCall Tryz.prog G0 155 [AV.str s] (AV.fbox 185 [AV.str s]) ∧ PSeqB (bodyE Tryz.prog T0 G0 Tryz.f86.ntmps []).P (bodyE Tryz.prog T0 G0 Tryz.f86.ntmps
   []).G 185 [AV.str s] (List.map (fa86 s).enc (fa86 s).xs) ∧ (∀ (x : List UInt8), 1 = 1) ∧ (∃ (g : List (List UInt8)), (g = [] ∧ ∀ (j : Nat), j < 0 → badJ j [] = false) ∧ AS.mk [(2, AV.ptr 1 0), (3, AV.ptr 2 0), (4, AV.ptr 3 0), (6,
   AV.ptr 4 0), (7, AV.ptr 5 0)] [(1, ABlk.box [AV.str [], AV.i 0, AV.ex (Value.slice none 0 0)]), (2, ABlk.box [AV.i 0]), (3, ABlk.box [AV.i 0]), (4, ABlk.box [AV.str [], AV.i 0, AV.own 6 0]), (5, ABlk.box [AV.i 0]), (6, ABlk.buf 189
   25 [])] 9 = AS.mk [(2, AV.ptr 1 0), (3, AV.ptr 2 0), (4, AV.ptr 3 0), (6, AV.ptr 4 0), (7, AV.ptr 5 0)] [(1, ABlk.box [AV.str [], AV.i 0, AV.ex (Value.slice none 0 0)]), (2, ABlk.box [AV.i 0]), (3, ABlk.box [AV.i 0]), (4, ABlk.box
   [AV.str (hmP g).nm, AV.i (hmP g).pe, AV.own 6 (List.map encWn (hmP g).ws).length]), (5, ABlk.box [AV.i (↑g.length : Int)]), (6, ABlk.buf 189 25 (List.map encWn (hmP g).ws))] 9) ∧ (∀ (pre : List (List UInt8)) (x : List UInt8) (post
   : List (List UInt8)) (g : List (List UInt8)), lns s = pre ++ x :: post → (g = pre ∧ ∀ (j : Nat), j < pre.length → badJ j (pre.getD j []) = false) → Exit.normal = Exit.normal ∧ false = false ∧ PCall Tryz.prog G0 156 [AV.str x,
   AV.str [(10 : UInt8)]] (AV.tup [AV.str (bodyL x), AV.bool (cutS x [(10 : UInt8)])]) ∧ PCall Tryz.prog G0 157 [AV.str (bodyL x), AV.str [(32 : UInt8)]] (AV.sl 1 (roL x)) ∧ WCall Tryz.prog G0 159 [AV.ptr 1 0] [ABlk.box [AV.sl 1 (roL
   x), AV.bool false]] (AV.str (hdR (roL x))) [ABlk.box [AV.sl 1 (rwN 1 (roL x)), AV.bool (nbK 0 (roL x))]] ∧ (((↑g.length : Int) == 0) = true → WCall Tryz.prog G0 159 [AV.ptr 1 0] [ABlk.box [AV.sl 1 (rwN 1 (roL x)), AV.bool (nbK 0
   (roL x))]] (AV.str (hdR (rwN 1 (roL x)))) [ABlk.box [AV.sl 1 (rwN 2 (roL x)), AV.bool (bdW (rwN 1 (roL x)) (nbK 0 (roL x)))]] ∧ WCall Tryz.prog G0 158 [AV.ptr 1 0] [ABlk.box [AV.sl 1 (rwN 2 (roL x)), AV.bool (bdW (rwN 1 (roL x))
   (nbK 0 (roL x)))]] (AV.i (dgI (hdR (rwN 2 (roL x))))) [ABlk.box [AV.sl 1 (rwN 3 (roL x)), AV.bool (nbW (rwN 2 (roL x)) (bdW (rwN 1 (roL x)) (nbK 0 (roL x))))]] ∧ ((!!cutS x [(10 : UInt8)]) = true → (!!cutS x [(10 : UInt8)]) = true)
   ∧ ((!!cutS x [(10 : UInt8)]) = true → (!!cutS x [(10 : UInt8)]) = true) ∧ ((!cutS x [(10 : UInt8)]) = false → (!!cutS x [(10 : UInt8)]) = true) ∧ ((!if (!cutS x [(10 : UInt8)]) = true then true else !hdR (roL x) == [(104 : UInt8),
   (111 : UInt8), (109 : UInt8), (101 : UInt8)]) = true → (!if (!cutS x [(10 : UInt8)]) = true then true else !hdR (roL x) == [(104 : UInt8), (111 : UInt8), (109 : UInt8), (101 : UInt8)]) = true) ∧ ((!if (!cutS x [(10 : UInt8)]) =
   true then true else !hdR (roL x) == [(104 : UInt8), (111 : UInt8), (109 : UInt8), (101 : UInt8)]) = true → (!if (!cutS x [(10 : UInt8)]) = true then true else !hdR (roL x) == [(104 : UInt8), (111 : UInt8), (109 : UInt8), (101 :
   UInt8)]) = true) ∧ ((!if (!cutS x [(10 : UInt8)]) = true then true else !hdR (roL x) == [(104 : UInt8), (111 : UInt8), (109 : UInt8), (101 : UInt8)]) = true → (!if (!cutS x [(10 : UInt8)]) = true then true else !hdR (roL x) ==
   [(104 : UInt8), (111 : UInt8), (109 : UInt8), (101 : UInt8)]) = true) ∧ ((if (!cutS x [(10 : UInt8)]) = true then true else !hdR (roL x) == [(104 : UInt8), (111 : UInt8), (109 : UInt8), (101 : UInt8)]) = false → (!if (!cutS x [(10
   : UInt8)]) = true then true else !hdR (roL x) == [(104 : UInt8), (111 : UInt8), (109 : UInt8), (101 : UInt8)]) = true) ∧ ((!if (if (!cutS x [(10 : UInt8)]) = true then true else !hdR (roL x) == [(104 : UInt8), (111 : UInt8), (109 :
   UInt8), (101 : UInt8)]) = true then true else nbW (rwN 2 (roL x)) (bdW (rwN 1 (roL x)) (nbK 0 (roL x)))) = true → (!if (if (!cutS x [(10 : UInt8)]) = true then true else !hdR (roL x) == [(104 : UInt8), (111 : UInt8), (109 : UInt8),
   (101 : UInt8)]) = true then true else nbW (rwN 2 (roL x)) (bdW (rwN 1 (roL x)) (nbK 0 (roL x)))) = true) ∧ ((!if (if (!cutS x [(10 : UInt8)]) = true then true else !hdR (roL x) == [(104 : UInt8), (111 : UInt8), (109 : UInt8), (101
   : UInt8)]) = true then true else nbW (rwN 2 (roL x)) (bdW (rwN 1 (roL x)) (nbK 0 (roL x)))) = true → (!if (if (!cutS x [(10 : UInt8)]) = true then true else !hdR (roL x) == [(104 : UInt8), (111 : UInt8), (109 : UInt8), (101 :
   UInt8)]) = true then true else nbW (rwN 2 (roL x)) (bdW (rwN 1 (roL x)) (nbK 0 (roL x)))) = true) ∧ ((!if (if (!cutS x [(10 : UInt8)]) = true then true else !hdR (roL x) == [(104 : UInt8), (111 : UInt8), (109 : UInt8), (101 :
   UInt8)]) = true then true else nbW (rwN 2 (roL x)) (bdW (rwN 1 (roL x)) (nbK 0 (roL x)))) = true → (!if (if (!cutS x [(10 : UInt8)]) = true then true else !hdR (roL x) == [(104 : UInt8), (111 : UInt8), (109 : UInt8), (101 :
   UInt8)]) = true then true else nbW (rwN 2 (roL x)) (bdW (rwN 1 (roL x)) (nbK 0 (roL x)))) = true) ∧ ((!if (if (!cutS x [(10 : UInt8)]) = true then true else !hdR (roL x) == [(104 : UInt8), (111 : UInt8), (109 : UInt8), (101 :
   UInt8)]) = true then true else nbW (rwN 2 (roL x)) (bdW (rwN 1 (roL x)) (nbK 0 (roL x)))) = true → (!if (if (!cutS x [(10 : UInt8)]) = true then true else !hdR (roL x) == [(104 : UInt8), (111 : UInt8), (109 : UInt8), (101 :
   UInt8)]) = true then true else nbW (rwN 2 (roL x)) (bdW (rwN 1 (roL x)) (nbK 0 (roL x)))) = true) ∧ ((!if (if (!cutS x [(10 : UInt8)]) = true then true else !hdR (roL x) == [(104 : UInt8), (111 : UInt8), (109 : UInt8), (101 :
   UInt8)]) = true then true else nbW (rwN 2 (roL x)) (bdW (rwN 1 (roL x)) (nbK 0 (roL x)))) = true → (!if (if (!cutS x [(10 : UInt8)]) = true then true else !hdR (roL x) == [(104 : UInt8), (111 : UInt8), (109 : UInt8), (101 :
   UInt8)]) = true then true else nbW (rwN 2 (roL x)) (bdW (rwN 1 (roL x)) (nbK 0 (roL x)))) = true) ∧ ((if (if (!cutS x [(10 : UInt8)]) = true then true else !hdR (roL x) == [(104 : UInt8), (111 : UInt8), (109 : UInt8), (101 :
   UInt8)]) = true then true else nbW (rwN 2 (roL x)) (bdW (rwN 1 (roL x)) (nbK 0 (roL x)))) = false → (!if (if (!cutS x [(10 : UInt8)]) = true then true else !hdR (roL x) == [(104 : UInt8), (111 : UInt8), (109 : UInt8), (101 :
   UInt8)]) = true then true else nbW (rwN 2 (roL x)) (bdW (rwN 1 (roL x)) (nbK 0 (roL x)))) = true) ∧ ((if (if (if (!cutS x [(10 : UInt8)]) = true then true else !hdR (roL x) == [(104 : UInt8), (111 : UInt8), (109 : UInt8), (101 :
   UInt8)]) = true then true else nbW (rwN 2 (roL x)) (bdW (rwN 1 (roL x)) (nbK 0 (roL x)))) = true then true else decide ((↑(rwN 3 (roL x)).length : Int) > 0)) = true → false = false ∧ AV.tup [AV.agg [AV.str [], AV.i 0, AV.sl 25 []],
   AV.i (↑g.length : Int), AV.i 25] = psH (e86 s) (k86 s) (lns s).length (hmP (lns s))) ∧ ((if (if (if (!cutS x [(10 : UInt8)]) = true then true else !hdR (roL x) == [(104 : UInt8), (111 : UInt8), (109 : UInt8), (101 : UInt8)]) = true
   then true else nbW (rwN 2 (roL x)) (bdW (rwN 1 (roL x)) (nbK 0 (roL x)))) = true then true else decide ((↑(rwN 3 (roL x)).length : Int) > 0)) = false → In64 ((↑g.length : Int) + 1) ∧ false = false ∧ ∃ (g' : List (List UInt8)), (g'
   = pre ++ [x] ∧ ∀ (j : Nat), j < (pre ++ [x]).length → badJ j ((pre ++ [x]).getD j []) = false) ∧ AS.mk [(2, AV.ptr 1 0), (3, AV.ptr 2 0), (4, AV.ptr 3 0), (6, AV.ptr 4 0), (7, AV.ptr 5 0)] [(1, ABlk.box [AV.str [], AV.i 0, AV.ex
   (Value.slice none 0 0)]), (2, ABlk.box [AV.i 0]), (3, ABlk.box [AV.i 0]), (4, ABlk.box [AV.str (hdR (rwN 1 (roL x))), AV.i (dgI (hdR (rwN 2 (roL x)))), AV.own 6 (List.map encWn (hmP g).ws).length]), (5, ABlk.box [AV.i ((↑g.length :
   Int) + 1)]), (6, ABlk.buf 189 25 (List.map encWn (hmP g).ws))] 9 = AS.mk [(2, AV.ptr 1 0), (3, AV.ptr 2 0), (4, AV.ptr 3 0), (6, AV.ptr 4 0), (7, AV.ptr 5 0)] [(1, ABlk.box [AV.str [], AV.i 0, AV.ex (Value.slice none 0 0)]), (2,
   ABlk.box [AV.i 0]), (3, ABlk.box [AV.i 0]), (4, ABlk.box [AV.str (hmP g').nm, AV.i (hmP g').pe, AV.own 6 (List.map encWn (hmP g').ws).length]), (5, ABlk.box [AV.i (↑g'.length : Int)]), (6, ABlk.buf 189 25 (List.map encWn (hmP
   g').ws))] 9)) ∧ (((↑g.length : Int) == 0) = false → WCall Tryz.prog G0 158 [AV.ptr 1 0] [ABlk.box [AV.sl 1 (rwN 1 (roL x)), AV.bool (nbK 0 (roL x))]] (AV.i (dgI (hdR (rwN 1 (roL x))))) [ABlk.box [AV.sl 1 (rwN 2 (roL x)), AV.bool
   (nbK 1 (roL x))]] ∧ (0 : Int) ≤ 0 ∧ (0 : Int) < (↑8 : Int) ∧ WCall Tryz.prog G0 158 [AV.ptr 1 0] [ABlk.box [AV.sl 1 (rwN 2 (roL x)), AV.bool (nbK 1 (roL x))]] (AV.i (dgI (hdR (rwN 2 (roL x))))) [ABlk.box [AV.sl 1 (rwN 3 (roL x)),
   AV.bool (nbK 2 (roL x))]] ∧ In64 ((0 : Int) + 1) ∧ (0 : Int) ≤ 0 + 1 ∧ (0 : Int) + 1 < (↑8 : Int) ∧ WCall Tryz.prog G0 158 [AV.ptr 1 0] [ABlk.box [AV.sl 1 (rwN 3 (roL x)), AV.bool (nbK 2 (roL x))]] (AV.i (dgI (hdR (rwN 3 (roL
   x))))) [ABlk.box [AV.sl 1 (rwN 4 (roL x)), AV.bool (nbK 3 (roL x))]] ∧ In64 ((0 : Int) + 1 + 1) ∧ (0 : Int) ≤ 0 + 1 + 1 ∧ (0 : Int) + 1 + 1 < (↑8 : Int) ∧ WCall Tryz.prog G0 158 [AV.ptr 1 0] [ABlk.box [AV.sl 1 (rwN 4 (roL x)),
   AV.bool (nbK 3 (roL x))]] (AV.i (dgI (hdR (rwN 4 (roL x))))) [ABlk.box [AV.sl 1 (rwN 5 (roL x)), AV.bool (nbK 4 (roL x))]] ∧ In64 ((0 : Int) + 1 + 1 + 1) ∧ (0 : Int) ≤ 0 + 1 + 1 + 1 ∧ (0 : Int) + 1 + 1 + 1 < (↑8 : Int) ∧ WCall
   Tryz.prog G0 158 [AV.ptr 1 0] [ABlk.box [AV.sl 1 (rwN 5 (roL x)), AV.bool (nbK 4 (roL x))]] (AV.i (dgI (hdR (rwN 5 (roL x))))) [ABlk.box [AV.sl 1 (rwN 6 (roL x)), AV.bool (nbK 5 (roL x))]] ∧ In64 ((0 : Int) + 1 + 1 + 1 + 1) ∧ (0 :
   Int) ≤ 0 + 1 + 1 + 1 + 1 ∧ (0 : Int) + 1 + 1 + 1 + 1 < (↑8 : Int) ∧ WCall Tryz.prog G0 158 [AV.ptr 1 0] [ABlk.box [AV.sl 1 (rwN 6 (roL x)), AV.bool (nbK 5 (roL x))]] (AV.i (dgI (hdR (rwN 6 (roL x))))) [ABlk.box [AV.sl 1 (rwN 7 (roL
   x)), AV.bool (nbK 6 (roL x))]] ∧ In64 ((0 : Int) + 1 + 1 + 1 + 1 + 1) ∧ (0 : Int) ≤ 0 + 1 + 1 + 1 + 1 + 1 ∧ (0 : Int) + 1 + 1 + 1 + 1 + 1 < (↑8 : Int) ∧ WCall Tryz.prog G0 158 [AV.ptr 1 0] [ABlk.box [AV.sl 1 (rwN 7 (roL x)),
   AV.bool (nbK 6 (roL x))]] (AV.i (dgI (hdR (rwN 7 (roL x))))) [ABlk.box [AV.sl 1 (rwN 8 (roL x)), AV.bool (nbK 7 (roL x))]] ∧ In64 ((0 : Int) + 1 + 1 + 1 + 1 + 1 + 1) ∧ (0 : Int) ≤ 0 + 1 + 1 + 1 + 1 + 1 + 1 ∧ (0 : Int) + 1 + 1 + 1 +
   1 + 1 + 1 < (↑8 : Int) ∧ WCall Tryz.prog G0 158 [AV.ptr 1 0] [ABlk.box [AV.sl 1 (rwN 8 (roL x)), AV.bool (nbK 7 (roL x))]] (AV.i (dgI (hdR (rwN 8 (roL x))))) [ABlk.box [AV.sl 1 (rwN 9 (roL x)), AV.bool (nbK 8 (roL x))]] ∧ In64 ((0
   : Int) + 1 + 1 + 1 + 1 + 1 + 1 + 1) ∧ (0 : Int) ≤ 0 + 1 + 1 + 1 + 1 + 1 + 1 + 1 ∧ (0 : Int) + 1 + 1 + 1 + 1 + 1 + 1 + 1 < (↑8 : Int) ∧ WCall Tryz.prog G0 158 [AV.ptr 1 0] [ABlk.box [AV.sl 1 (rwN 9 (roL x)), AV.bool (nbK 8 (roL
   x))]] (AV.i (dgI (hdR (rwN 9 (roL x))))) [ABlk.box [AV.sl 1 (rwN 10 (roL x)), AV.bool (nbK 9 (roL x))]] ∧ In64 ((0 : Int) + 1 + 1 + 1 + 1 + 1 + 1 + 1 + 1) ∧ (0 : Int) ≤ 0 ∧ (0 : Int) < (↑8 : Int) ∧ WCall Tryz.prog G0 158 [AV.ptr 1
   0] [ABlk.box [AV.sl 1 (rwN 10 (roL x)), AV.bool (nbK 9 (roL x))]] (AV.i (dgI (hdR (rwN 10 (roL x))))) [ABlk.box [AV.sl 1 (rwN 11 (roL x)), AV.bool (nbK 10 (roL x))]] ∧ (0 : Int) ≤ 0 ∧ (0 : Int) < (↑8 : Int) ∧ WCall Tryz.prog G0 158
   [AV.ptr 1 0] [ABlk.box [AV.sl 1 (rwN 11 (roL x)), AV.bool (nbK 10 (roL x))]] (AV.i (dgI (hdR (rwN 11 (roL x))))) [ABlk.box [AV.sl 1 (rwN 12 (roL x)), AV.bool (nbK 11 (roL x))]] ∧ In64 ((0 : Int) + 1) ∧ (0 : Int) ≤ 0 + 1 ∧ (0 : Int)
   + 1 < (↑8 : Int) ∧ WCall Tryz.prog G0 158 [AV.ptr 1 0] [ABlk.box [AV.sl 1 (rwN 12 (roL x)), AV.bool (nbK 11 (roL x))]] (AV.i (dgI (hdR (rwN 12 (roL x))))) [ABlk.box [AV.sl 1 (rwN 13 (roL x)), AV.bool (nbK 12 (roL x))]] ∧ (0 : Int)
   ≤ 0 + 1 ∧ (0 : Int) + 1 < (↑8 : Int) ∧ WCall Tryz.prog G0 158 [AV.ptr 1 0] [ABlk.box [AV.sl 1 (rwN 13 (roL x)), AV.bool (nbK 12 (roL x))]] (AV.i (dgI (hdR (rwN 13 (roL x))))) [ABlk.box [AV.sl 1 (rwN 14 (roL x)), AV.bool (nbK 13
   (roL x))]] ∧ In64 ((0 : Int) + 1 + 1) ∧ (0 : Int) ≤ 0 + 1 + 1 ∧ (0 : Int) + 1 + 1 < (↑8 : Int) ∧ WCall Tryz.prog G0 158 [AV.ptr 1 0] [ABlk.box [AV.sl 1 (rwN 14 (roL x)), AV.bool (nbK 13 (roL x))]] (AV.i (dgI (hdR (rwN 14 (roL
   x))))) [ABlk.box [AV.sl 1 (rwN 15 (roL x)), AV.bool (nbK 14 (roL x))]] ∧ (0 : Int) ≤ 0 + 1 + 1 ∧ (0 : Int) + 1 + 1 < (↑8 : Int) ∧ WCall Tryz.prog G0 158 [AV.ptr 1 0] [ABlk.box [AV.sl 1 (rwN 15 (roL x)), AV.bool (nbK 14 (roL x))]]
   (AV.i (dgI (hdR (rwN 15 (roL x))))) [ABlk.box [AV.sl 1 (rwN 16 (roL x)), AV.bool (nbK 15 (roL x))]] ∧ In64 ((0 : Int) + 1 + 1 + 1) ∧ (0 : Int) ≤ 0 + 1 + 1 + 1 ∧ (0 : Int) + 1 + 1 + 1 < (↑8 : Int) ∧ WCall Tryz.prog G0 158 [AV.ptr 1
   0] [ABlk.box [AV.sl 1 (rwN 16 (roL x)), AV.bool (nbK 15 (roL x))]] (AV.i (dgI (hdR (rwN 16 (roL x))))) [ABlk.box [AV.sl 1 (rwN 17 (roL x)), AV.bool (nbK 16 (roL x))]] ∧ (0 : Int) ≤ 0 + 1 + 1 + 1 ∧ (0 : Int) + 1 + 1 + 1 < (↑8 : Int)
   ∧ WCall Tryz.prog G0 158 [AV.ptr 1 0] [ABlk.box [AV.sl 1 (rwN 17 (roL x)), AV.bool (nbK 16 (roL x))]] (AV.i (dgI (hdR (rwN 17 (roL x))))) [ABlk.box [AV.sl 1 (rwN 18 (roL x)), AV.bool (nbK 17 (roL x))]] ∧ In64 ((0 : Int) + 1 + 1 + 1
   + 1) ∧ (0 : Int) ≤ 0 + 1 + 1 + 1 + 1 ∧ (0 : Int) + 1 + 1 + 1 + 1 < (↑8 : Int) ∧ WCall Tryz.prog G0 158 [AV.ptr 1 0] [ABlk.box [AV.sl 1 (rwN 18 (roL x)), AV.bool (nbK 17 (roL x))]] (AV.i (dgI (hdR (rwN 18 (roL x))))) [ABlk.box
   [AV.sl 1 (rwN 19 (roL x)), AV.bool (nbK 18 (roL x))]] ∧ (0 : Int) ≤ 0 + 1 + 1 + 1 + 1 ∧ (0 : Int) + 1 + 1 + 1 + 1 < (↑8 : Int) ∧ WCall Tryz.prog G0 158 [AV.ptr 1 0] [ABlk.box [AV.sl 1 (rwN 19 (roL x)), AV.bool (nbK 18 (roL x))]]
   (AV.i (dgI (hdR (rwN 19 (roL x))))) [ABlk.box [AV.sl 1 (rwN 20 (roL x)), AV.bool (nbK 19 (roL x))]] ∧ In64 ((0 : Int) + 1 + 1 + 1 + 1 + 1) ∧ (0 : Int) ≤ 0 + 1 + 1 + 1 + 1 + 1 ∧ (0 : Int) + 1 + 1 + 1 + 1 + 1 < (↑8 : Int) ∧ WCall
   Tryz.prog G0 158 [AV.ptr 1 0] [ABlk.box [AV.sl 1 (rwN 20 (roL x)), AV.bool (nbK 19 (roL x))]] (AV.i (dgI (hdR (rwN 20 (roL x))))) [ABlk.box [AV.sl 1 (rwN 21 (roL x)), AV.bool (nbK 20 (roL x))]] ∧ (0 : Int) ≤ 0 + 1 + 1 + 1 + 1 + 1 ∧
   (0 : Int) + 1 + 1 + 1 + 1 + 1 < (↑8 : Int) ∧ WCall Tryz.prog G0 158 [AV.ptr 1 0] [ABlk.box [AV.sl 1 (rwN 21 (roL x)), AV.bool (nbK 20 (roL x))]] (AV.i (dgI (hdR (rwN 21 (roL x))))) [ABlk.box [AV.sl 1 (rwN 22 (roL x)), AV.bool (nbK
   21 (roL x))]] ∧ In64 ((0 : Int) + 1 + 1 + 1 + 1 + 1 + 1) ∧ (0 : Int) ≤ 0 + 1 + 1 + 1 + 1 + 1 + 1 ∧ (0 : Int) + 1 + 1 + 1 + 1 + 1 + 1 < (↑8 : Int) ∧ WCall Tryz.prog G0 158 [AV.ptr 1 0] [ABlk.box [AV.sl 1 (rwN 22 (roL x)), AV.bool
   (nbK 21 (roL x))]] (AV.i (dgI (hdR (rwN 22 (roL x))))) [ABlk.box [AV.sl 1 (rwN 23 (roL x)), AV.bool (nbK 22 (roL x))]] ∧ (0 : Int) ≤ 0 + 1 + 1 + 1 + 1 + 1 + 1 ∧ (0 : Int) + 1 + 1 + 1 + 1 + 1 + 1 < (↑8 : Int) ∧ WCall Tryz.prog G0
   158 [AV.ptr 1 0] [ABlk.box [AV.sl 1 (rwN 23 (roL x)), AV.bool (nbK 22 (roL x))]] (AV.i (dgI (hdR (rwN 23 (roL x))))) [ABlk.box [AV.sl 1 (rwN 24 (roL x)), AV.bool (nbK 23 (roL x))]] ∧ In64 ((0 : Int) + 1 + 1 + 1 + 1 + 1 + 1 + 1) ∧
   (0 : Int) ≤ 0 + 1 + 1 + 1 + 1 + 1 + 1 + 1 ∧ (0 : Int) + 1 + 1 + 1 + 1 + 1 + 1 + 1 < (↑8 : Int) ∧ WCall Tryz.prog G0 158 [AV.ptr 1 0] [ABlk.box [AV.sl 1 (rwN 24 (roL x)), AV.bool (nbK 23 (roL x))]] (AV.i (dgI (hdR (rwN 24 (roL
   x))))) [ABlk.box [AV.sl 1 (rwN 25 (roL x)), AV.bool (nbK 24 (roL x))]] ∧ (0 : Int) ≤ 0 + 1 + 1 + 1 + 1 + 1 + 1 + 1 ∧ (0 : Int) + 1 + 1 + 1 + 1 + 1 + 1 + 1 < (↑8 : Int) ∧ WCall Tryz.prog G0 158 [AV.ptr 1 0] [ABlk.box [AV.sl 1 (rwN
   25 (roL x)), AV.bool (nbK 24 (roL x))]] (AV.i (dgI (hdR (rwN 25 (roL x))))) [ABlk.box [AV.sl 1 (rwN 26 (roL x)), AV.bool (nbK 25 (roL x))]] ∧ In64 ((0 : Int) + 1 + 1 + 1 + 1 + 1 + 1 + 1 + 1) ∧ (List.map encWn (hmP g).ws).length + 1
   ≤ 9223372036854775807 ∧ ((List.map encWn (hmP g).ws).length + 1) * 200 ≤ 140737488355328 ∧ ((!!cutS x [(10 : UInt8)]) = true → (!!cutS x [(10 : UInt8)]) = true) ∧ ((!!cutS x [(10 : UInt8)]) = true → (!!cutS x [(10 : UInt8)]) =
   true) ∧ ((!cutS x [(10 : UInt8)]) = false → (!!cutS x [(10 : UInt8)]) = true) ∧ ((!if (!cutS x [(10 : UInt8)]) = true then true else !hdR (roL x) == [(119 : UInt8), (105 : UInt8), (110 : UInt8), (100 : UInt8), (111 : UInt8), (119 :
   UInt8)]) = true → (!if (!cutS x [(10 : UInt8)]) = true then true else !hdR (roL x) == [(119 : UInt8), (105 : UInt8), (110 : UInt8), (100 : UInt8), (111 : UInt8), (119 : UInt8)]) = true) ∧ ((!if (!cutS x [(10 : UInt8)]) = true then
   true else !hdR (roL x) == [(119 : UInt8), (105 : UInt8), (110 : UInt8), (100 : UInt8), (111 : UInt8), (119 : UInt8)]) = true → (!if (!cutS x [(10 : UInt8)]) = true then true else !hdR (roL x) == [(119 : UInt8), (105 : UInt8), (110
   : UInt8), (100 : UInt8), (111 : UInt8), (119 : UInt8)]) = true) ∧ ((!if (!cutS x [(10 : UInt8)]) = true then true else !hdR (roL x) == [(119 : UInt8), (105 : UInt8), (110 : UInt8), (100 : UInt8), (111 : UInt8), (119 : UInt8)]) =
   true → (!if (!cutS x [(10 : UInt8)]) = true then true else !hdR (roL x) == [(119 : UInt8), (105 : UInt8), (110 : UInt8), (100 : UInt8), (111 : UInt8), (119 : UInt8)]) = true) ∧ ((if (!cutS x [(10 : UInt8)]) = true then true else
   !hdR (roL x) == [(119 : UInt8), (105 : UInt8), (110 : UInt8), (100 : UInt8), (111 : UInt8), (119 : UInt8)]) = false → (!if (!cutS x [(10 : UInt8)]) = true then true else !hdR (roL x) == [(119 : UInt8), (105 : UInt8), (110 : UInt8),
   (100 : UInt8), (111 : UInt8), (119 : UInt8)]) = true) ∧ ((!if (if (!cutS x [(10 : UInt8)]) = true then true else !hdR (roL x) == [(119 : UInt8), (105 : UInt8), (110 : UInt8), (100 : UInt8), (111 : UInt8), (119 : UInt8)]) = true
   then true else nbW (rwN 25 (roL x)) (nbK 24 (roL x))) = true → (!if (if (!cutS x [(10 : UInt8)]) = true then true else !hdR (roL x) == [(119 : UInt8), (105 : UInt8), (110 : UInt8), (100 : UInt8), (111 : UInt8), (119 : UInt8)]) =
   true then true else nbW (rwN 25 (roL x)) (nbK 24 (roL x))) = true) ∧ ((!if (if (!cutS x [(10 : UInt8)]) = true then true else !hdR (roL x) == [(119 : UInt8), (105 : UInt8), (110 : UInt8), (100 : UInt8), (111 : UInt8), (119 :
   UInt8)]) = true then true else nbW (rwN 25 (roL x)) (nbK 24 (roL x))) = true → (!if (if (!cutS x [(10 : UInt8)]) = true then true else !hdR (roL x) == [(119 : UInt8), (105 : UInt8), (110 : UInt8), (100 : UInt8), (111 : UInt8), (119
   : UInt8)]) = true then true else nbW (rwN 25 (roL x)) (nbK 24 (roL x))) = true) ∧ ((!if (if (!cutS x [(10 : UInt8)]) = true then true else !hdR (roL x) == [(119 : UInt8), (105 : UInt8), (110 : UInt8), (100 : UInt8), (111 : UInt8),
   (119 : UInt8)]) = true then true else nbW (rwN 25 (roL x)) (nbK 24 (roL x))) = true → (!if (if (!cutS x [(10 : UInt8)]) = true then true else !hdR (roL x) == [(119 : UInt8), (105 : UInt8), (110 : UInt8), (100 : UInt8), (111 :
   UInt8), (119 : UInt8)]) = true then true else nbW (rwN 25 (roL x)) (nbK 24 (roL x))) = true) ∧ ((!if (if (!cutS x [(10 : UInt8)]) = true then true else !hdR (roL x) == [(119 : UInt8), (105 : UInt8), (110 : UInt8), (100 : UInt8),
   (111 : UInt8), (119 : UInt8)]) = true then true else nbW (rwN 25 (roL x)) (nbK 24 (roL x))) = true → (!if (if (!cutS x [(10 : UInt8)]) = true then true else !hdR (roL x) == [(119 : UInt8), (105 : UInt8), (110 : UInt8), (100 :
   UInt8), (111 : UInt8), (119 : UInt8)]) = true then true else nbW (rwN 25 (roL x)) (nbK 24 (roL x))) = true) ∧ ((!if (if (!cutS x [(10 : UInt8)]) = true then true else !hdR (roL x) == [(119 : UInt8), (105 : UInt8), (110 : UInt8),
   (100 : UInt8), (111 : UInt8), (119 : UInt8)]) = true then true else nbW (rwN 25 (roL x)) (nbK 24 (roL x))) = true → (!if (if (!cutS x [(10 : UInt8)]) = true then true else !hdR (roL x) == [(119 : UInt8), (105 : UInt8), (110 :
   UInt8), (100 : UInt8), (111 : UInt8), (119 : UInt8)]) = true then true else nbW (rwN 25 (roL x)) (nbK 24 (roL x))) = true) ∧ ((if (if (!cutS x [(10 : UInt8)]) = true then true else !hdR (roL x) == [(119 : UInt8), (105 : UInt8),
   (110 : UInt8), (100 : UInt8), (111 : UInt8), (119 : UInt8)]) = true then true else nbW (rwN 25 (roL x)) (nbK 24 (roL x))) = false → (!if (if (!cutS x [(10 : UInt8)]) = true then true else !hdR (roL x) == [(119 : UInt8), (105 :
   UInt8), (110 : UInt8), (100 : UInt8), (111 : UInt8), (119 : UInt8)]) = true then true else nbW (rwN 25 (roL x)) (nbK 24 (roL x))) = true) ∧ ((if (if (if (!cutS x [(10 : UInt8)]) = true then true else !hdR (roL x) == [(119 : UInt8),
   (105 : UInt8), (110 : UInt8), (100 : UInt8), (111 : UInt8), (119 : UInt8)]) = true then true else nbW (rwN 25 (roL x)) (nbK 24 (roL x))) = true then true else decide ((↑(rwN 26 (roL x)).length : Int) > 0)) = true → false = false ∧
   AV.tup [AV.agg [AV.str [], AV.i 0, AV.sl 25 []], AV.i (↑g.length : Int), AV.i 25] = psH (e86 s) (k86 s) (lns s).length (hmP (lns s))) ∧ ((if (if (if (!cutS x [(10 : UInt8)]) = true then true else !hdR (roL x) == [(119 : UInt8),
   (105 : UInt8), (110 : UInt8), (100 : UInt8), (111 : UInt8), (119 : UInt8)]) = true then true else nbW (rwN 25 (roL x)) (nbK 24 (roL x))) = true then true else decide ((↑(rwN 26 (roL x)).length : Int) > 0)) = false → In64
   ((↑g.length : Int) + 1) ∧ false = false ∧ ∃ (g' : List (List UInt8)), (g' = pre ++ [x] ∧ ∀ (j : Nat), j < (pre ++ [x]).length → badJ j ((pre ++ [x]).getD j []) = false) ∧ AS.mk [(2, AV.ptr 1 0), (3, AV.ptr 2 0), (4, AV.ptr 3 0),
   (6, AV.ptr 4 0), (7, AV.ptr 5 0)] [(1, ABlk.box [AV.str [], AV.i 0, AV.ex (Value.slice none 0 0)]), (2, ABlk.box [AV.i 0]), (3, ABlk.box [AV.i 0]), (4, ABlk.box [AV.str (hmP g).nm, AV.i (hmP g).pe, AV.own 6 ((List.map encWn (hmP
   g).ws).length + 1)]), (5, ABlk.box [AV.i ((↑g.length : Int) + 1)]), (6, ABlk.buf 189 25 (List.map encWn (hmP g).ws ++ [[AV.i (dgI (hdR (rwN 2 (roL x)))), AV.i (dgI (hdR (rwN 3 (roL x)))), AV.i (dgI (hdR (rwN 4 (roL x)))), AV.i (dgI
   (hdR (rwN 5 (roL x)))), AV.i (dgI (hdR (rwN 6 (roL x)))), AV.i (dgI (hdR (rwN 7 (roL x)))), AV.i (dgI (hdR (rwN 8 (roL x)))), AV.i (dgI (hdR (rwN 9 (roL x)))), AV.i (dgI (hdR (rwN 1 (roL x)))), AV.i (dgI (hdR (rwN 10 (roL x)))),
   AV.i (dgI (hdR (rwN 11 (roL x)))), AV.i (dgI (hdR (rwN 12 (roL x)))), AV.i (dgI (hdR (rwN 13 (roL x)))), AV.i (dgI (hdR (rwN 14 (roL x)))), AV.i (dgI (hdR (rwN 15 (roL x)))), AV.i (dgI (hdR (rwN 16 (roL x)))), AV.i (dgI (hdR (rwN
   17 (roL x)))), AV.i (dgI (hdR (rwN 18 (roL x)))), AV.i (dgI (hdR (rwN 19 (roL x)))), AV.i (dgI (hdR (rwN 20 (roL x)))), AV.i (dgI (hdR (rwN 21 (roL x)))), AV.i (dgI (hdR (rwN 22 (roL x)))), AV.i (dgI (hdR (rwN 23 (roL x)))), AV.i
   (dgI (hdR (rwN 24 (roL x)))), AV.i (dgI (hdR (rwN 25 (roL x))))]]))] 9 = AS.mk [(2, AV.ptr 1 0), (3, AV.ptr 2 0), (4, AV.ptr 3 0), (6, AV.ptr 4 0), (7, AV.ptr 5 0)] [(1, ABlk.box [AV.str [], AV.i 0, AV.ex (Value.slice none 0 0)]),
   (2, ABlk.box [AV.i 0]), (3, ABlk.box [AV.i 0]), (4, ABlk.box [AV.str (hmP g').nm, AV.i (hmP g').pe, AV.own 6 (List.map encWn (hmP g').ws).length]), (5, ABlk.box [AV.i (↑g'.length : Int)]), (6, ABlk.buf 189 25 (List.map encWn (hmP
   g').ws))] 9))) ∧ ∀ (g : List (List UInt8)), (g = lns s ∧ ∀ (j : Nat), j < (lns s).length → badJ j ((lns s).getD j []) = false) → PCall Tryz.prog G0 38 [AV.agg (encHm (hmP g))] (AV.i (fHm (Hm.mk (hmP g).nm (hmP g).pe (List.map decWn
   (List.map encWn (hmP g).ws))))) ∧ ((fHm (Hm.mk (hmP g).nm (hmP g).pe (List.map decWn (List.map encWn (hmP g).ws))) != 0) = true → AV.tup [AV.agg [AV.str [], AV.i 0, AV.sl 25 []], AV.i (↑g.length : Int), AV.i (fHm (Hm.mk (hmP g).nm
   (hmP g).pe (List.map decWn (List.map encWn (hmP g).ws))))] = psH (e86 s) (k86 s) (lns s).length (hmP (lns s))) ∧ ((fHm (Hm.mk (hmP g).nm (hmP g).pe (List.map decWn (List.map encWn (hmP g).ws))) != 0) = false → AV.tup [AV.agg (encHm
   (hmP g)), AV.i 0, AV.i 0] = psH (e86 s) (k86 s) (lns s).length (hmP (lns s)))) := by
    refine ⟨(c116 _ _), (c116 _ _), (c104 [_, _] (by simp)), fun h1 => ?_, fun h1 => ?_⟩
    · have he0 : (e86 s != 0) = true := h1
      rw [psH, if_pos he0]
      rfl
    · have he : e86 s = 0 := bne_f h1
      have he0 : ¬ (e86 s != 0) = true := by rw [he]; decide
      have hsl : s.length ≤ 400 := by
        have := e88_z (s := s) (by rw [← e_eq, he]; rfl)
        omega
      obtain ⟨l1, l2⟩ := ln_len (lns_is s)
      refine ⟨(c155 s), (s185 s (by omega)), fun x => rfl, ⟨[], ⟨rfl, fun j hj => absurd hj (Nat.not_lt_zero _)⟩, rfl⟩, fun pre x post g => fun h2 => ?_, fun g => fun h2 => ?_⟩
      · have hL := h2
        have hxl := l2 x (by rw [hL]; simp)
        have hbl := body_len x
        obtain ⟨w1, w2⟩ := spl_len 32 (bodyL x)
        have hw : (wdsL x).length ≤ 1000000 := by unfold wdsL; omega
        have hwl : ∀ y, y ∈ wdsL x → y.length ≤ 1000000 := fun y hy => by have := w2 y hy; omega
        have hgn : pre.length < (lns s).length := by rw [hL]; simp
        refine fun h3 => ?_
        · obtain ⟨rfl, hb⟩ := h3
          have hwsg : (hmP g).ws.length ≤ g.length := by
            cases g with
            | nil => exact Nat.zero_le _
            | cons y t => show (t.map wnL).length ≤ _; rw [List.length_map, List.length_cons]; omega
          have hwsm : (List.map encWn (hmP g).ws).length = (hmP g).ws.length := List.length_map _
          refine ⟨rfl, rfl, (c156 x [10] (by omega) (by decide)), (c157 (bodyL x) 32 (by omega)), (w159k 0 (wdsL x) _ hw), fun h4 => ?_, fun h4 => ?_⟩
          · have hg0 : g.length = 0 := by simpa using h4
            obtain rfl : g = [] := List.length_eq_zero_iff.1 hg0
            refine ⟨(w159k 1 (wdsL x) _ hw), (w158k _ (wdsL x) _ hw hwl), fun h => h, fun h => h, fun h => by first | exact h | (rw [h]; rfl) | simp_all, fun h => h, fun h => h, fun h => h, fun h => by first | exact h | (rw [h]; rfl) | simp_all, fun h => h, fun h => h, fun h => h, fun h => h, fun h => h, fun h => by first | exact h | (rw [h]; rfl) | simp_all, fun h5 => ?_, fun h5 => ?_⟩
            · have hx : badJ 0 x = true := h5
              refine ⟨rfl, ?_⟩
              · obtain ⟨hk, hlt⟩ := k86_e hL hb hx
                rw [psH, if_neg he0, hk, if_pos hlt]
                rfl
            · have hx : badJ 0 x = false := h5
              refine ⟨(by unfold In64; omega), rfl, ?_⟩
              · first
                  | (refine ⟨g ++ [x], ⟨rfl, ok_next hb hx⟩, ?_⟩
                     rw [hmP_next hg2, show (((g ++ [x]).length : Nat) : Int) = (g.length : Int) + 1 by (rw [List.length_append, List.length_singleton]; rfl), List.map_append, List.length_append]
                     kernel_rfl)
                  | (refine ⟨[] ++ [x], ⟨rfl, ok_next hb hx⟩, ?_⟩
                     kernel_rfl)
          · have hg1 : g.length ≠ 0 := by simpa using h4
            have hg2 : g ≠ [] := fun q => hg1 (by rw [q]; rfl)
            refine ⟨(w158k _ (wdsL x) _ hw hwl), (by omega), (by omega), (w158k _ (wdsL x) _ hw hwl), (by unfold In64; omega), (by omega), (by omega), (w158k _ (wdsL x) _ hw hwl), (by unfold In64; omega), (by omega), (by omega), (w158k _ (wdsL x) _ hw hwl), (by unfold In64; omega), (by omega), (by omega), (w158k _ (wdsL x) _ hw hwl), (by unfold In64; omega), (by omega), (by omega), (w158k _ (wdsL x) _ hw hwl), (by unfold In64; omega), (by omega), (by omega), (w158k _ (wdsL x) _ hw hwl), (by unfold In64; omega), (by omega), (by omega), (w158k _ (wdsL x) _ hw hwl), (by unfold In64; omega), (by omega), (by omega), (w158k _ (wdsL x) _ hw hwl), (by unfold In64; omega), (by omega), (by omega), (w158k _ (wdsL x) _ hw hwl), (by omega), (by omega), (w158k _ (wdsL x) _ hw hwl), (by unfold In64; omega), (by omega), (by omega), (w158k _ (wdsL x) _ hw hwl), (by omega), (by omega), (w158k _ (wdsL x) _ hw hwl), (by unfold In64; omega), (by omega), (by omega), (w158k _ (wdsL x) _ hw hwl), (by omega), (by omega), (w158k _ (wdsL x) _ hw hwl), (by unfold In64; omega), (by omega), (by omega), (w158k _ (wdsL x) _ hw hwl), (by omega), (by omega), (w158k _ (wdsL x) _ hw hwl), (by unfold In64; omega), (by omega), (by omega), (w158k _ (wdsL x) _ hw hwl), (by omega), (by omega), (w158k _ (wdsL x) _ hw hwl), (by unfold In64; omega), (by omega), (by omega), (w158k _ (wdsL x) _ hw hwl), (by omega), (by omega), (w158k _ (wdsL x) _ hw hwl), (by unfold In64; omega), (by omega), (by omega), (w158k _ (wdsL x) _ hw hwl), (by omega), (by omega), (w158k _ (wdsL x) _ hw hwl), (by unfold In64; omega), (by omega), (by omega), (w158k _ (wdsL x) _ hw hwl), (by omega), (by omega), (w158k _ (wdsL x) _ hw hwl), (by unfold In64; omega), (by omega), (by omega), fun h => h, fun h => h, fun h => by first | exact h | (rw [h]; rfl) | simp_all, fun h => h, fun h => h, fun h => h, fun h => by first | exact h | (rw [h]; rfl) | simp_all, fun h => h, fun h => h, fun h => h, fun h => h, fun h => h, fun h => by first | exact h | (rw [h]; rfl) | simp_all, fun h5 => ?_, fun h5 => ?_⟩
            · have hx : badJ g.length x = true := by
                unfold badJ
                rw [if_neg hg1]
                exact h5
              refine ⟨rfl, ?_⟩
              · obtain ⟨hk, hlt⟩ := k86_e hL hb hx
                rw [psH, if_neg he0, hk, if_pos hlt]
                rfl
            · have hx : badJ g.length x = false := by
                unfold badJ
                rw [if_neg hg1]
                exact h5
              refine ⟨(by unfold In64; omega), rfl, ?_⟩
              · first
                  | (refine ⟨g ++ [x], ⟨rfl, ok_next hb hx⟩, ?_⟩
                     rw [hmP_next hg2, show (((g ++ [x]).length : Nat) : Int) = (g.length : Int) + 1 by (rw [List.length_append, List.length_singleton]; rfl), List.map_append, List.length_append]
                     kernel_rfl)
                  | (refine ⟨[] ++ [x], ⟨rfl, ok_next hb hx⟩, ?_⟩
                     kernel_rfl)
      · obtain ⟨rfl, hb⟩ := h2
        have hk := k86_n hb
        have hbd := hmP_bd s
        refine ⟨((by rw [wd_dec]; exact c38 (hmP (lns s)) (by omega) (by omega))), fun h3 => ?_, fun h3 => ?_⟩
        · rw [wd_dec] at h3 ⊢
          rw [psH, if_neg he0, hk, if_neg (Nat.lt_irrefl _), if_pos h3]
          rfl
        · rw [wd_dec] at h3
          rw [psH, if_neg he0, hk, if_neg (Nat.lt_irrefl _), if_neg (by rw [h3]; decide)]
  exact c_of Tryz.f86 (gsB g86 { mkB sp86 86 [] noLa with hs := hs86, fa := some (fa86 s), cl := clL [60, 69], bx := fun i => if i.beq 0 then [.frzc 4 2] else [] }) (by kernel_rfl) (by kernel_rfl) (by kernel_rfl) (by kernel_rfl) key (by kernel_rfl)
end Go.Proofs.YtfoeefaamjknpaaGreatDoor
namespace Go.Proofs.YtfoeefaamjknpaaGreatDoor
open Go Go.Av Go.RowKit
theorem and_3 {a b c : Bool} : (if (if a = true then b else false) = true then c else false) = true → b = true := by
  cases a <;> cases b <;> cases c <;> decide
theorem and_2 {a b : Bool} : (if a = true then b else false) = true → b = true := by
  cases a <;> cases b <;> decide
theorem c88 (s : List UInt8) (hl : s.length ≤ 400 ∨ s.length = 4097) : PCall Tryz.prog G0 88 [.str s] (psG (e88 s) (kG s) (spl 10 s).length (hmR s (spl 10 s).length)) := by
  have key :
   (decide ((↑s.length : Int) > 4096) = true → AV.tup [AV.agg [AV.str [], AV.i 0, AV.sl 25 []], AV.i 0, AV.i 26] = psG (e88 s) (kG s) (spl (10 : UInt8) s).length (hmR s (spl (10 : UInt8) s).length)) ∧ (decide ((↑s.length : Int) >
   4096) = false → ((s == []) = true → AV.tup [AV.agg [AV.str [], AV.i 0, AV.sl 25 []], AV.i 0, AV.i 25] = psG (e88 s) (kG s) (spl (10 : UInt8) s).length (hmR s (spl (10 : UInt8) s).length)) ∧ ((s == []) = false → PCall Tryz.prog G0
   95 [AV.str s, AV.int IntKind.u8 (10 : Int)] (AV.sl 1 (List.map encS (spl (10 : UInt8) s))) ∧ (∃ (g : Nat), (g ≤ (spl (10 : UInt8) s).length ∧ ∀ (j : Nat), j < g → goodJ s j = true) ∧ AS.mk [(2, AV.ptr 1 0), (5, AV.ptr 2 0), (6,
   AV.sl 1 (List.map encS (spl (10 : UInt8) s))), (7, AV.i 0)] [(1, ABlk.box [AV.str [], AV.i 0, AV.ex (Value.slice none 0 0)]), (2, ABlk.box [AV.str [], AV.i 0, AV.own 3 0]), (3, ABlk.buf 177 25 [])] 4 = AS.mk [(2, AV.ptr 1 0), (5,
   AV.ptr 2 0), (6, AV.sl 1 (List.map encS (spl (10 : UInt8) s))), (7, AV.i (↑g : Int))] [(1, ABlk.box [AV.str [], AV.i 0, AV.ex (Value.slice none 0 0)]), (2, ABlk.box [AV.str (hmR s g).nm, AV.i (hmR s g).pe, AV.own 3 (List.map encWn
   (hmR s g).ws).length]), (3, ABlk.buf 177 25 (List.map encWn (hmR s g).ws))] 4) ∧ ∀ (g : Nat), (g ≤ (spl (10 : UInt8) s).length ∧ ∀ (j : Nat), j < g → goodJ s j = true) → (decide ((↑g : Int) < (↑(List.map encS (spl (10 : UInt8)
   s)).length : Int)) = true → In64 ((↑(List.map encS (spl (10 : UInt8) s)).length : Int) - 1) ∧ (((↑g : Int) == (↑(List.map encS (spl (10 : UInt8) s)).length : Int) - 1) = true → (0 : Int) ≤ (↑g : Int) ∧ (↑g : Int) < (↑(List.map encS
   (spl (10 : UInt8) s)).length : Int) ∧ nth (nthR (List.map encS (spl (10 : UInt8) s)) (↑g : Int).toNat) 0 = AV.str ((spl (10 : UInt8) s).getD (↑g : Int).toNat []) ∧ ((!(spl (10 : UInt8) s).getD (↑g : Int).toNat [] == []) = true →
   AV.tup [AV.agg [AV.str [], AV.i 0, AV.sl 25 []], AV.i (↑g : Int), AV.i 25] = psG (e88 s) (kG s) (spl (10 : UInt8) s).length (hmR s (spl (10 : UInt8) s).length)) ∧ ((!(spl (10 : UInt8) s).getD (↑g : Int).toNat [] == []) = false →
   In64 ((↑g : Int) + 1) ∧ ∃ (g' : Nat), (g' ≤ (spl (10 : UInt8) s).length ∧ ∀ (j : Nat), j < g' → goodJ s j = true) ∧ (spl (10 : UInt8) s).length - g' < (spl (10 : UInt8) s).length - g ∧ AS.mk [(2, AV.ptr 1 0), (5, AV.ptr 2 0), (6,
   AV.sl 1 (List.map encS (spl (10 : UInt8) s))), (7, AV.i ((↑g : Int) + 1))] [(1, ABlk.box [AV.str [], AV.i 0, AV.ex (Value.slice none 0 0)]), (2, ABlk.box [AV.str (hmR s g).nm, AV.i (hmR s g).pe, AV.own 3 (List.map encWn (hmR s
   g).ws).length]), (3, ABlk.buf 177 25 (List.map encWn (hmR s g).ws))] 4 = AS.mk [(2, AV.ptr 1 0), (5, AV.ptr 2 0), (6, AV.sl 1 (List.map encS (spl (10 : UInt8) s))), (7, AV.i (↑g' : Int))] [(1, ABlk.box [AV.str [], AV.i 0, AV.ex
   (Value.slice none 0 0)]), (2, ABlk.box [AV.str (hmR s g').nm, AV.i (hmR s g').pe, AV.own 3 (List.map encWn (hmR s g').ws).length]), (3, ABlk.buf 177 25 (List.map encWn (hmR s g').ws))] 4)) ∧ (((↑g : Int) == (↑(List.map encS (spl
   (10 : UInt8) s)).length : Int) - 1) = false → (0 : Int) ≤ (↑g : Int) ∧ (↑g : Int) < (↑(List.map encS (spl (10 : UInt8) s)).length : Int) ∧ nth (nthR (List.map encS (spl (10 : UInt8) s)) (↑g : Int).toNat) 0 = AV.str ((spl (10 :
   UInt8) s).getD (↑g : Int).toNat []) ∧ PCall Tryz.prog G0 95 [AV.str ((spl (10 : UInt8) s).getD (↑g : Int).toNat []), AV.int IntKind.u8 (32 : Int)] (AV.sl 1 (List.map encS (spl (32 : UInt8) ((spl (10 : UInt8) s).getD (↑g :
   Int).toNat [])))) ∧ (((↑g : Int) == 0) = true → ((↑g : Int) == 0) = true) ∧ (((↑g : Int) == 0) = true → ((↑g : Int) == 0) = true) ∧ (((↑g : Int) == 0) = true → ((↑g : Int) == 0) = true) ∧ ((if ((↑g : Int) == 0) = true then
   (↑(List.map encS (spl (32 : UInt8) ((spl (10 : UInt8) s).getD (↑g : Int).toNat []))).length : Int) == 3 else false) = true → (if ((↑g : Int) == 0) = true then (↑(List.map encS (spl (32 : UInt8) ((spl (10 : UInt8) s).getD (↑g :
   Int).toNat []))).length : Int) == 3 else false) = true) ∧ ((if ((↑g : Int) == 0) = true then (↑(List.map encS (spl (32 : UInt8) ((spl (10 : UInt8) s).getD (↑g : Int).toNat []))).length : Int) == 3 else false) = true → (0 : Int) ≤
   0) ∧ ((if ((↑g : Int) == 0) = true then (↑(List.map encS (spl (32 : UInt8) ((spl (10 : UInt8) s).getD (↑g : Int).toNat []))).length : Int) == 3 else false) = true → (0 : Int) < (↑(List.map encS (spl (32 : UInt8) ((spl (10 : UInt8)
   s).getD (↑g : Int).toNat []))).length : Int)) ∧ ((if ((↑g : Int) == 0) = true then (↑(List.map encS (spl (32 : UInt8) ((spl (10 : UInt8) s).getD (↑g : Int).toNat []))).length : Int) == 3 else false) = true → (if ((↑g : Int) == 0) =
   true then (↑(List.map encS (spl (32 : UInt8) ((spl (10 : UInt8) s).getD (↑g : Int).toNat []))).length : Int) == 3 else false) = true) ∧ ((if ((↑g : Int) == 0) = true then (↑(List.map encS (spl (32 : UInt8) ((spl (10 : UInt8)
   s).getD (↑g : Int).toNat []))).length : Int) == 3 else false) = true → (if ((↑g : Int) == 0) = true then (↑(List.map encS (spl (32 : UInt8) ((spl (10 : UInt8) s).getD (↑g : Int).toNat []))).length : Int) == 3 else false) = true) ∧
   ((if ((↑g : Int) == 0) = true then (↑(List.map encS (spl (32 : UInt8) ((spl (10 : UInt8) s).getD (↑g : Int).toNat []))).length : Int) == 3 else false) = true → (if ((↑g : Int) == 0) = true then (↑(List.map encS (spl (32 : UInt8)
   ((spl (10 : UInt8) s).getD (↑g : Int).toNat []))).length : Int) == 3 else false) = true) ∧ ((if (if ((↑g : Int) == 0) = true then (↑(List.map encS (spl (32 : UInt8) ((spl (10 : UInt8) s).getD (↑g : Int).toNat []))).length : Int) ==
   3 else false) = true then (dS (List.map encS (spl (32 : UInt8) ((spl (10 : UInt8) s).getD (↑g : Int).toNat [])))).getD 0 [] == [(104 : UInt8), (111 : UInt8), (109 : UInt8), (101 : UInt8)] else false) = true → (if (if ((↑g : Int) ==
   0) = true then (↑(List.map encS (spl (32 : UInt8) ((spl (10 : UInt8) s).getD (↑g : Int).toNat []))).length : Int) == 3 else false) = true then (dS (List.map encS (spl (32 : UInt8) ((spl (10 : UInt8) s).getD (↑g : Int).toNat
   [])))).getD 0 [] == [(104 : UInt8), (111 : UInt8), (109 : UInt8), (101 : UInt8)] else false) = true) ∧ ((if (if ((↑g : Int) == 0) = true then (↑(List.map encS (spl (32 : UInt8) ((spl (10 : UInt8) s).getD (↑g : Int).toNat
   []))).length : Int) == 3 else false) = true then (dS (List.map encS (spl (32 : UInt8) ((spl (10 : UInt8) s).getD (↑g : Int).toNat [])))).getD 0 [] == [(104 : UInt8), (111 : UInt8), (109 : UInt8), (101 : UInt8)] else false) = true →
   (0 : Int) ≤ 1) ∧ ((if (if ((↑g : Int) == 0) = true then (↑(List.map encS (spl (32 : UInt8) ((spl (10 : UInt8) s).getD (↑g : Int).toNat []))).length : Int) == 3 else false) = true then (dS (List.map encS (spl (32 : UInt8) ((spl (10
   : UInt8) s).getD (↑g : Int).toNat [])))).getD 0 [] == [(104 : UInt8), (111 : UInt8), (109 : UInt8), (101 : UInt8)] else false) = true → (1 : Int) < (↑(List.map encS (spl (32 : UInt8) ((spl (10 : UInt8) s).getD (↑g : Int).toNat
   []))).length : Int)) ∧ ((if (if ((↑g : Int) == 0) = true then (↑(List.map encS (spl (32 : UInt8) ((spl (10 : UInt8) s).getD (↑g : Int).toNat []))).length : Int) == 3 else false) = true then (dS (List.map encS (spl (32 : UInt8)
   ((spl (10 : UInt8) s).getD (↑g : Int).toNat [])))).getD 0 [] == [(104 : UInt8), (111 : UInt8), (109 : UInt8), (101 : UInt8)] else false) = true → (if (if ((↑g : Int) == 0) = true then (↑(List.map encS (spl (32 : UInt8) ((spl (10 :
   UInt8) s).getD (↑g : Int).toNat []))).length : Int) == 3 else false) = true then (dS (List.map encS (spl (32 : UInt8) ((spl (10 : UInt8) s).getD (↑g : Int).toNat [])))).getD 0 [] == [(104 : UInt8), (111 : UInt8), (109 : UInt8),
   (101 : UInt8)] else false) = true) ∧ ((if (if ((↑g : Int) == 0) = true then (↑(List.map encS (spl (32 : UInt8) ((spl (10 : UInt8) s).getD (↑g : Int).toNat []))).length : Int) == 3 else false) = true then (dS (List.map encS (spl (32
   : UInt8) ((spl (10 : UInt8) s).getD (↑g : Int).toNat [])))).getD 0 [] == [(104 : UInt8), (111 : UInt8), (109 : UInt8), (101 : UInt8)] else false) = true → (if (if ((↑g : Int) == 0) = true then (↑(List.map encS (spl (32 : UInt8)
   ((spl (10 : UInt8) s).getD (↑g : Int).toNat []))).length : Int) == 3 else false) = true then (dS (List.map encS (spl (32 : UInt8) ((spl (10 : UInt8) s).getD (↑g : Int).toNat [])))).getD 0 [] == [(104 : UInt8), (111 : UInt8), (109 :
   UInt8), (101 : UInt8)] else false) = true) ∧ ((if (if ((↑g : Int) == 0) = true then (↑(List.map encS (spl (32 : UInt8) ((spl (10 : UInt8) s).getD (↑g : Int).toNat []))).length : Int) == 3 else false) = true then (dS (List.map encS
   (spl (32 : UInt8) ((spl (10 : UInt8) s).getD (↑g : Int).toNat [])))).getD 0 [] == [(104 : UInt8), (111 : UInt8), (109 : UInt8), (101 : UInt8)] else false) = true → (if (if ((↑g : Int) == 0) = true then (↑(List.map encS (spl (32 :
   UInt8) ((spl (10 : UInt8) s).getD (↑g : Int).toNat []))).length : Int) == 3 else false) = true then (dS (List.map encS (spl (32 : UInt8) ((spl (10 : UInt8) s).getD (↑g : Int).toNat [])))).getD 0 [] == [(104 : UInt8), (111 : UInt8),
   (109 : UInt8), (101 : UInt8)] else false) = true) ∧ ((!if (if (if ((↑g : Int) == 0) = true then (↑(List.map encS (spl (32 : UInt8) ((spl (10 : UInt8) s).getD (↑g : Int).toNat []))).length : Int) == 3 else false) = true then (dS
   (List.map encS (spl (32 : UInt8) ((spl (10 : UInt8) s).getD (↑g : Int).toNat [])))).getD 0 [] == [(104 : UInt8), (111 : UInt8), (109 : UInt8), (101 : UInt8)] else false) = true then !(dS (List.map encS (spl (32 : UInt8) ((spl (10 :
   UInt8) s).getD (↑g : Int).toNat [])))).getD 1 [] == [] else false) = true → (!if (if (if ((↑g : Int) == 0) = true then (↑(List.map encS (spl (32 : UInt8) ((spl (10 : UInt8) s).getD (↑g : Int).toNat []))).length : Int) == 3 else
   false) = true then (dS (List.map encS (spl (32 : UInt8) ((spl (10 : UInt8) s).getD (↑g : Int).toNat [])))).getD 0 [] == [(104 : UInt8), (111 : UInt8), (109 : UInt8), (101 : UInt8)] else false) = true then !(dS (List.map encS (spl
   (32 : UInt8) ((spl (10 : UInt8) s).getD (↑g : Int).toNat [])))).getD 1 [] == [] else false) = true) ∧ ((!if (if (if ((↑g : Int) == 0) = true then (↑(List.map encS (spl (32 : UInt8) ((spl (10 : UInt8) s).getD (↑g : Int).toNat
   []))).length : Int) == 3 else false) = true then (dS (List.map encS (spl (32 : UInt8) ((spl (10 : UInt8) s).getD (↑g : Int).toNat [])))).getD 0 [] == [(104 : UInt8), (111 : UInt8), (109 : UInt8), (101 : UInt8)] else false) = true
   then !(dS (List.map encS (spl (32 : UInt8) ((spl (10 : UInt8) s).getD (↑g : Int).toNat [])))).getD 1 [] == [] else false) = true → (!if (if (if ((↑g : Int) == 0) = true then (↑(List.map encS (spl (32 : UInt8) ((spl (10 : UInt8)
   s).getD (↑g : Int).toNat []))).length : Int) == 3 else false) = true then (dS (List.map encS (spl (32 : UInt8) ((spl (10 : UInt8) s).getD (↑g : Int).toNat [])))).getD 0 [] == [(104 : UInt8), (111 : UInt8), (109 : UInt8), (101 :
   UInt8)] else false) = true then !(dS (List.map encS (spl (32 : UInt8) ((spl (10 : UInt8) s).getD (↑g : Int).toNat [])))).getD 1 [] == [] else false) = true) ∧ (((!if (if (if ((↑g : Int) == 0) = true then (↑(List.map encS (spl (32 :
   UInt8) ((spl (10 : UInt8) s).getD (↑g : Int).toNat []))).length : Int) == 3 else false) = true then (dS (List.map encS (spl (32 : UInt8) ((spl (10 : UInt8) s).getD (↑g : Int).toNat [])))).getD 0 [] == [(104 : UInt8), (111 : UInt8),
   (109 : UInt8), (101 : UInt8)] else false) = true then !(dS (List.map encS (spl (32 : UInt8) ((spl (10 : UInt8) s).getD (↑g : Int).toNat [])))).getD 1 [] == [] else false) && decide ((↑g : Int) > 0)) = true → ((!if (if (if ((↑g :
   Int) == 0) = true then (↑(List.map encS (spl (32 : UInt8) ((spl (10 : UInt8) s).getD (↑g : Int).toNat []))).length : Int) == 3 else false) = true then (dS (List.map encS (spl (32 : UInt8) ((spl (10 : UInt8) s).getD (↑g : Int).toNat
   [])))).getD 0 [] == [(104 : UInt8), (111 : UInt8), (109 : UInt8), (101 : UInt8)] else false) = true then !(dS (List.map encS (spl (32 : UInt8) ((spl (10 : UInt8) s).getD (↑g : Int).toNat [])))).getD 1 [] == [] else false) && decide
   ((↑g : Int) > 0)) = true) ∧ (((!if (if (if ((↑g : Int) == 0) = true then (↑(List.map encS (spl (32 : UInt8) ((spl (10 : UInt8) s).getD (↑g : Int).toNat []))).length : Int) == 3 else false) = true then (dS (List.map encS (spl (32 :
   UInt8) ((spl (10 : UInt8) s).getD (↑g : Int).toNat [])))).getD 0 [] == [(104 : UInt8), (111 : UInt8), (109 : UInt8), (101 : UInt8)] else false) = true then !(dS (List.map encS (spl (32 : UInt8) ((spl (10 : UInt8) s).getD (↑g :
   Int).toNat [])))).getD 1 [] == [] else false) && decide ((↑g : Int) > 0)) = true → ((!if (if (if ((↑g : Int) == 0) = true then (↑(List.map encS (spl (32 : UInt8) ((spl (10 : UInt8) s).getD (↑g : Int).toNat []))).length : Int) == 3
   else false) = true then (dS (List.map encS (spl (32 : UInt8) ((spl (10 : UInt8) s).getD (↑g : Int).toNat [])))).getD 0 [] == [(104 : UInt8), (111 : UInt8), (109 : UInt8), (101 : UInt8)] else false) = true then !(dS (List.map encS
   (spl (32 : UInt8) ((spl (10 : UInt8) s).getD (↑g : Int).toNat [])))).getD 1 [] == [] else false) && decide ((↑g : Int) > 0)) = true) ∧ ((!if (if (if ((↑g : Int) == 0) = true then (↑(List.map encS (spl (32 : UInt8) ((spl (10 :
   UInt8) s).getD (↑g : Int).toNat []))).length : Int) == 3 else false) = true then (dS (List.map encS (spl (32 : UInt8) ((spl (10 : UInt8) s).getD (↑g : Int).toNat [])))).getD 0 [] == [(104 : UInt8), (111 : UInt8), (109 : UInt8),
   (101 : UInt8)] else false) = true then !(dS (List.map encS (spl (32 : UInt8) ((spl (10 : UInt8) s).getD (↑g : Int).toNat [])))).getD 1 [] == [] else false) = true → (!if (if (if ((↑g : Int) == 0) = true then (↑(List.map encS (spl
   (32 : UInt8) ((spl (10 : UInt8) s).getD (↑g : Int).toNat []))).length : Int) == 3 else false) = true then (dS (List.map encS (spl (32 : UInt8) ((spl (10 : UInt8) s).getD (↑g : Int).toNat [])))).getD 0 [] == [(104 : UInt8), (111 :
   UInt8), (109 : UInt8), (101 : UInt8)] else false) = true then !(dS (List.map encS (spl (32 : UInt8) ((spl (10 : UInt8) s).getD (↑g : Int).toNat [])))).getD 1 [] == [] else false) = true) ∧ ((!if (if (if ((↑g : Int) == 0) = true
   then (↑(List.map encS (spl (32 : UInt8) ((spl (10 : UInt8) s).getD (↑g : Int).toNat []))).length : Int) == 3 else false) = true then (dS (List.map encS (spl (32 : UInt8) ((spl (10 : UInt8) s).getD (↑g : Int).toNat [])))).getD 0 []
   == [(104 : UInt8), (111 : UInt8), (109 : UInt8), (101 : UInt8)] else false) = true then !(dS (List.map encS (spl (32 : UInt8) ((spl (10 : UInt8) s).getD (↑g : Int).toNat [])))).getD 1 [] == [] else false) = true → decide ((↑g :
   Int) > 0) = true → ((!if (if (if ((↑g : Int) == 0) = true then (↑(List.map encS (spl (32 : UInt8) ((spl (10 : UInt8) s).getD (↑g : Int).toNat []))).length : Int) == 3 else false) = true then (dS (List.map encS (spl (32 : UInt8)
   ((spl (10 : UInt8) s).getD (↑g : Int).toNat [])))).getD 0 [] == [(104 : UInt8), (111 : UInt8), (109 : UInt8), (101 : UInt8)] else false) = true then !(dS (List.map encS (spl (32 : UInt8) ((spl (10 : UInt8) s).getD (↑g : Int).toNat
   [])))).getD 1 [] == [] else false) && decide ((↑g : Int) > 0)) = true) ∧ ((!if (if (if ((↑g : Int) == 0) = true then (↑(List.map encS (spl (32 : UInt8) ((spl (10 : UInt8) s).getD (↑g : Int).toNat []))).length : Int) == 3 else
   false) = true then (dS (List.map encS (spl (32 : UInt8) ((spl (10 : UInt8) s).getD (↑g : Int).toNat [])))).getD 0 [] == [(104 : UInt8), (111 : UInt8), (109 : UInt8), (101 : UInt8)] else false) = true then !(dS (List.map encS (spl
   (32 : UInt8) ((spl (10 : UInt8) s).getD (↑g : Int).toNat [])))).getD 1 [] == [] else false) = true → (!if (if (if ((↑g : Int) == 0) = true then (↑(List.map encS (spl (32 : UInt8) ((spl (10 : UInt8) s).getD (↑g : Int).toNat
   []))).length : Int) == 3 else false) = true then (dS (List.map encS (spl (32 : UInt8) ((spl (10 : UInt8) s).getD (↑g : Int).toNat [])))).getD 0 [] == [(104 : UInt8), (111 : UInt8), (109 : UInt8), (101 : UInt8)] else false) = true
   then !(dS (List.map encS (spl (32 : UInt8) ((spl (10 : UInt8) s).getD (↑g : Int).toNat [])))).getD 1 [] == [] else false) = true) ∧ (((!if (if (if ((↑g : Int) == 0) = true then (↑(List.map encS (spl (32 : UInt8) ((spl (10 : UInt8)
   s).getD (↑g : Int).toNat []))).length : Int) == 3 else false) = true then (dS (List.map encS (spl (32 : UInt8) ((spl (10 : UInt8) s).getD (↑g : Int).toNat [])))).getD 0 [] == [(104 : UInt8), (111 : UInt8), (109 : UInt8), (101 :
   UInt8)] else false) = true then !(dS (List.map encS (spl (32 : UInt8) ((spl (10 : UInt8) s).getD (↑g : Int).toNat [])))).getD 1 [] == [] else false) && if decide ((↑g : Int) > 0) = true then (↑(List.map encS (spl (32 : UInt8) ((spl
   (10 : UInt8) s).getD (↑g : Int).toNat []))).length : Int) == 26 else false) = true → ((!if (if (if ((↑g : Int) == 0) = true then (↑(List.map encS (spl (32 : UInt8) ((spl (10 : UInt8) s).getD (↑g : Int).toNat []))).length : Int) ==
   3 else false) = true then (dS (List.map encS (spl (32 : UInt8) ((spl (10 : UInt8) s).getD (↑g : Int).toNat [])))).getD 0 [] == [(104 : UInt8), (111 : UInt8), (109 : UInt8), (101 : UInt8)] else false) = true then !(dS (List.map encS
   (spl (32 : UInt8) ((spl (10 : UInt8) s).getD (↑g : Int).toNat [])))).getD 1 [] == [] else false) && if decide ((↑g : Int) > 0) = true then (↑(List.map encS (spl (32 : UInt8) ((spl (10 : UInt8) s).getD (↑g : Int).toNat []))).length
   : Int) == 26 else false) = true) ∧ (((!if (if (if ((↑g : Int) == 0) = true then (↑(List.map encS (spl (32 : UInt8) ((spl (10 : UInt8) s).getD (↑g : Int).toNat []))).length : Int) == 3 else false) = true then (dS (List.map encS (spl
   (32 : UInt8) ((spl (10 : UInt8) s).getD (↑g : Int).toNat [])))).getD 0 [] == [(104 : UInt8), (111 : UInt8), (109 : UInt8), (101 : UInt8)] else false) = true then !(dS (List.map encS (spl (32 : UInt8) ((spl (10 : UInt8) s).getD (↑g
   : Int).toNat [])))).getD 1 [] == [] else false) && if decide ((↑g : Int) > 0) = true then (↑(List.map encS (spl (32 : UInt8) ((spl (10 : UInt8) s).getD (↑g : Int).toNat []))).length : Int) == 26 else false) = true → (0 : Int) ≤ 0)
   ∧ (((!if (if (if ((↑g : Int) == 0) = true then (↑(List.map encS (spl (32 : UInt8) ((spl (10 : UInt8) s).getD (↑g : Int).toNat []))).length : Int) == 3 else false) = true then (dS (List.map encS (spl (32 : UInt8) ((spl (10 : UInt8)
   s).getD (↑g : Int).toNat [])))).getD 0 [] == [(104 : UInt8), (111 : UInt8), (109 : UInt8), (101 : UInt8)] else false) = true then !(dS (List.map encS (spl (32 : UInt8) ((spl (10 : UInt8) s).getD (↑g : Int).toNat [])))).getD 1 [] ==
   [] else false) && if decide ((↑g : Int) > 0) = true then (↑(List.map encS (spl (32 : UInt8) ((spl (10 : UInt8) s).getD (↑g : Int).toNat []))).length : Int) == 26 else false) = true → (0 : Int) < (↑(List.map encS (spl (32 : UInt8)
   ((spl (10 : UInt8) s).getD (↑g : Int).toNat []))).length : Int)) ∧ (((!if (if (if ((↑g : Int) == 0) = true then (↑(List.map encS (spl (32 : UInt8) ((spl (10 : UInt8) s).getD (↑g : Int).toNat []))).length : Int) == 3 else false) =
   true then (dS (List.map encS (spl (32 : UInt8) ((spl (10 : UInt8) s).getD (↑g : Int).toNat [])))).getD 0 [] == [(104 : UInt8), (111 : UInt8), (109 : UInt8), (101 : UInt8)] else false) = true then !(dS (List.map encS (spl (32 :
   UInt8) ((spl (10 : UInt8) s).getD (↑g : Int).toNat [])))).getD 1 [] == [] else false) && if decide ((↑g : Int) > 0) = true then (↑(List.map encS (spl (32 : UInt8) ((spl (10 : UInt8) s).getD (↑g : Int).toNat []))).length : Int) ==
   26 else false) = true → ((!if (if (if ((↑g : Int) == 0) = true then (↑(List.map encS (spl (32 : UInt8) ((spl (10 : UInt8) s).getD (↑g : Int).toNat []))).length : Int) == 3 else false) = true then (dS (List.map encS (spl (32 :
   UInt8) ((spl (10 : UInt8) s).getD (↑g : Int).toNat [])))).getD 0 [] == [(104 : UInt8), (111 : UInt8), (109 : UInt8), (101 : UInt8)] else false) = true then !(dS (List.map encS (spl (32 : UInt8) ((spl (10 : UInt8) s).getD (↑g :
   Int).toNat [])))).getD 1 [] == [] else false) && if decide ((↑g : Int) > 0) = true then (↑(List.map encS (spl (32 : UInt8) ((spl (10 : UInt8) s).getD (↑g : Int).toNat []))).length : Int) == 26 else false) = true) ∧ (((!if (if (if
   ((↑g : Int) == 0) = true then (↑(List.map encS (spl (32 : UInt8) ((spl (10 : UInt8) s).getD (↑g : Int).toNat []))).length : Int) == 3 else false) = true then (dS (List.map encS (spl (32 : UInt8) ((spl (10 : UInt8) s).getD (↑g :
   Int).toNat [])))).getD 0 [] == [(104 : UInt8), (111 : UInt8), (109 : UInt8), (101 : UInt8)] else false) = true then !(dS (List.map encS (spl (32 : UInt8) ((spl (10 : UInt8) s).getD (↑g : Int).toNat [])))).getD 1 [] == [] else
   false) && if decide ((↑g : Int) > 0) = true then (↑(List.map encS (spl (32 : UInt8) ((spl (10 : UInt8) s).getD (↑g : Int).toNat []))).length : Int) == 26 else false) = true → ((!if (if (if ((↑g : Int) == 0) = true then (↑(List.map
   encS (spl (32 : UInt8) ((spl (10 : UInt8) s).getD (↑g : Int).toNat []))).length : Int) == 3 else false) = true then (dS (List.map encS (spl (32 : UInt8) ((spl (10 : UInt8) s).getD (↑g : Int).toNat [])))).getD 0 [] == [(104 :
   UInt8), (111 : UInt8), (109 : UInt8), (101 : UInt8)] else false) = true then !(dS (List.map encS (spl (32 : UInt8) ((spl (10 : UInt8) s).getD (↑g : Int).toNat [])))).getD 1 [] == [] else false) && if decide ((↑g : Int) > 0) = true
   then (↑(List.map encS (spl (32 : UInt8) ((spl (10 : UInt8) s).getD (↑g : Int).toNat []))).length : Int) == 26 else false) = true) ∧ ((!if (if (if ((↑g : Int) == 0) = true then (↑(List.map encS (spl (32 : UInt8) ((spl (10 : UInt8)
   s).getD (↑g : Int).toNat []))).length : Int) == 3 else false) = true then (dS (List.map encS (spl (32 : UInt8) ((spl (10 : UInt8) s).getD (↑g : Int).toNat [])))).getD 0 [] == [(104 : UInt8), (111 : UInt8), (109 : UInt8), (101 :
   UInt8)] else false) = true then !(dS (List.map encS (spl (32 : UInt8) ((spl (10 : UInt8) s).getD (↑g : Int).toNat [])))).getD 1 [] == [] else false) = true → (!if (if (if ((↑g : Int) == 0) = true then (↑(List.map encS (spl (32 :
   UInt8) ((spl (10 : UInt8) s).getD (↑g : Int).toNat []))).length : Int) == 3 else false) = true then (dS (List.map encS (spl (32 : UInt8) ((spl (10 : UInt8) s).getD (↑g : Int).toNat [])))).getD 0 [] == [(104 : UInt8), (111 : UInt8),
   (109 : UInt8), (101 : UInt8)] else false) = true then !(dS (List.map encS (spl (32 : UInt8) ((spl (10 : UInt8) s).getD (↑g : Int).toNat [])))).getD 1 [] == [] else false) = true) ∧ ((!if (if (if ((↑g : Int) == 0) = true then
   (↑(List.map encS (spl (32 : UInt8) ((spl (10 : UInt8) s).getD (↑g : Int).toNat []))).length : Int) == 3 else false) = true then (dS (List.map encS (spl (32 : UInt8) ((spl (10 : UInt8) s).getD (↑g : Int).toNat [])))).getD 0 [] ==
   [(104 : UInt8), (111 : UInt8), (109 : UInt8), (101 : UInt8)] else false) = true then !(dS (List.map encS (spl (32 : UInt8) ((spl (10 : UInt8) s).getD (↑g : Int).toNat [])))).getD 1 [] == [] else false) = true → (if decide ((↑g :
   Int) > 0) = true then (↑(List.map encS (spl (32 : UInt8) ((spl (10 : UInt8) s).getD (↑g : Int).toNat []))).length : Int) == 26 else false) = true → ((!if (if (if ((↑g : Int) == 0) = true then (↑(List.map encS (spl (32 : UInt8)
   ((spl (10 : UInt8) s).getD (↑g : Int).toNat []))).length : Int) == 3 else false) = true then (dS (List.map encS (spl (32 : UInt8) ((spl (10 : UInt8) s).getD (↑g : Int).toNat [])))).getD 0 [] == [(104 : UInt8), (111 : UInt8), (109 :
   UInt8), (101 : UInt8)] else false) = true then !(dS (List.map encS (spl (32 : UInt8) ((spl (10 : UInt8) s).getD (↑g : Int).toNat [])))).getD 1 [] == [] else false) && if decide ((↑g : Int) > 0) = true then (↑(List.map encS (spl (32
   : UInt8) ((spl (10 : UInt8) s).getD (↑g : Int).toNat []))).length : Int) == 26 else false) = true) ∧ ((if (if (if ((↑g : Int) == 0) = true then (↑(List.map encS (spl (32 : UInt8) ((spl (10 : UInt8) s).getD (↑g : Int).toNat
   []))).length : Int) == 3 else false) = true then (dS (List.map encS (spl (32 : UInt8) ((spl (10 : UInt8) s).getD (↑g : Int).toNat [])))).getD 0 [] == [(104 : UInt8), (111 : UInt8), (109 : UInt8), (101 : UInt8)] else false) = true
   then !(dS (List.map encS (spl (32 : UInt8) ((spl (10 : UInt8) s).getD (↑g : Int).toNat [])))).getD 1 [] == [] else false) = false → (!if (if (if ((↑g : Int) == 0) = true then (↑(List.map encS (spl (32 : UInt8) ((spl (10 : UInt8)
   s).getD (↑g : Int).toNat []))).length : Int) == 3 else false) = true then (dS (List.map encS (spl (32 : UInt8) ((spl (10 : UInt8) s).getD (↑g : Int).toNat [])))).getD 0 [] == [(104 : UInt8), (111 : UInt8), (109 : UInt8), (101 :
   UInt8)] else false) = true then !(dS (List.map encS (spl (32 : UInt8) ((spl (10 : UInt8) s).getD (↑g : Int).toNat [])))).getD 1 [] == [] else false) = true) ∧ impB (if ((↑g : Int) == 0) = true then (↑(List.map encS (spl (32 :
   UInt8) ((spl (10 : UInt8) s).getD (↑g : Int).toNat []))).length : Int) == 3 else false) (nth (nthR (List.map encS (spl (32 : UInt8) ((spl (10 : UInt8) s).getD (↑g : Int).toNat []))) 0) 0 = AV.str ((dS (List.map encS (spl (32 :
   UInt8) ((spl (10 : UInt8) s).getD (↑g : Int).toNat [])))).getD 0 [])) ∧ impB (if (if ((↑g : Int) == 0) = true then (↑(List.map encS (spl (32 : UInt8) ((spl (10 : UInt8) s).getD (↑g : Int).toNat []))).length : Int) == 3 else false)
   = true then (dS (List.map encS (spl (32 : UInt8) ((spl (10 : UInt8) s).getD (↑g : Int).toNat [])))).getD 0 [] == [(104 : UInt8), (111 : UInt8), (109 : UInt8), (101 : UInt8)] else false) (nth (nthR (List.map encS (spl (32 : UInt8)
   ((spl (10 : UInt8) s).getD (↑g : Int).toNat []))) 1) 0 = AV.str ((dS (List.map encS (spl (32 : UInt8) ((spl (10 : UInt8) s).getD (↑g : Int).toNat [])))).getD 1 [])) ∧ impB ((!if (if (if ((↑g : Int) == 0) = true then (↑(List.map
   encS (spl (32 : UInt8) ((spl (10 : UInt8) s).getD (↑g : Int).toNat []))).length : Int) == 3 else false) = true then (dS (List.map encS (spl (32 : UInt8) ((spl (10 : UInt8) s).getD (↑g : Int).toNat [])))).getD 0 [] == [(104 :
   UInt8), (111 : UInt8), (109 : UInt8), (101 : UInt8)] else false) = true then !(dS (List.map encS (spl (32 : UInt8) ((spl (10 : UInt8) s).getD (↑g : Int).toNat [])))).getD 1 [] == [] else false) && if decide ((↑g : Int) > 0) = true
   then (↑(List.map encS (spl (32 : UInt8) ((spl (10 : UInt8) s).getD (↑g : Int).toNat []))).length : Int) == 26 else false) (nth (nthR (List.map encS (spl (32 : UInt8) ((spl (10 : UInt8) s).getD (↑g : Int).toNat []))) 0) 0 = AV.str
   ((dS (List.map encS (spl (32 : UInt8) ((spl (10 : UInt8) s).getD (↑g : Int).toNat [])))).getD 0 [])) ∧ ∃ (g0 : Nat × Nat), (g0.fst + 1 < (spl (10 : UInt8) s).length ∧ g0.snd + 1 ≤ (wsR s g0.fst).length) ∧ g0.fst = g0.fst ∧ AS.mk
   [(2, AV.ptr 1 0), (5, AV.ptr 2 0), (6, AV.sl 1 (List.map encS (spl (10 : UInt8) s))), (7, AV.i (↑g : Int)), (8, AV.sl 1 (List.map encS (spl (32 : UInt8) ((spl (10 : UInt8) s).getD (↑g : Int).toNat [])))), (9, AV.bool (if (if (if
   (if ((↑g : Int) == 0) = true then (↑(List.map encS (spl (32 : UInt8) ((spl (10 : UInt8) s).getD (↑g : Int).toNat []))).length : Int) == 3 else false) = true then (dS (List.map encS (spl (32 : UInt8) ((spl (10 : UInt8) s).getD (↑g :
   Int).toNat [])))).getD 0 [] == [(104 : UInt8), (111 : UInt8), (109 : UInt8), (101 : UInt8)] else false) = true then !(dS (List.map encS (spl (32 : UInt8) ((spl (10 : UInt8) s).getD (↑g : Int).toNat [])))).getD 1 [] == [] else
   false) = true then true else if (if decide ((↑g : Int) > 0) = true then (↑(List.map encS (spl (32 : UInt8) ((spl (10 : UInt8) s).getD (↑g : Int).toNat []))).length : Int) == 26 else false) = true then (dS (List.map encS (spl (32 :
   UInt8) ((spl (10 : UInt8) s).getD (↑g : Int).toNat [])))).getD 0 [] == [(119 : UInt8), (105 : UInt8), (110 : UInt8), (100 : UInt8), (111 : UInt8), (119 : UInt8)] else false)), (10, AV.own 4 0), (11, AV.i 1)] [(1, ABlk.box [AV.str
   [], AV.i 0, AV.ex (Value.slice none 0 0)]), (2, ABlk.box [AV.str (hmR s g).nm, AV.i (hmR s g).pe, AV.own 3 (List.map encWn (hmR s g).ws).length]), (3, ABlk.buf 177 25 (List.map encWn (hmR s g).ws)), (4, ABlk.buf 3 1 [])] 5 = AS.mk
   [(2, AV.ptr 1 0), (5, AV.ptr 2 0), (6, AV.sl 1 (List.map encS (spl (10 : UInt8) s))), (7, AV.i (↑g0.fst : Int)), (8, AV.sl 1 (List.map encS (wsR s g0.fst))), (9, AV.bool (rtN g0.fst (roR s g0.fst) g0.snd)), (10, AV.own 4 (List.map
   encI (lsN g0.fst (roR s g0.fst) g0.snd)).length), (11, AV.i ((↑g0.snd : Int) + 1))] [(1, ABlk.box [AV.str [], AV.i 0, AV.ex (Value.slice none 0 0)]), (2, ABlk.box [AV.str (hmR s g0.fst).nm, AV.i (hmR s g0.fst).pe, AV.own 3
   (List.map encWn (hmR s g0.fst).ws).length]), (3, ABlk.buf 177 25 (List.map encWn (hmR s g0.fst).ws)), (4, ABlk.buf 3 1 (List.map encI (lsN g0.fst (roR s g0.fst) g0.snd)))] 5 ∧ ∀ (g_1 : Nat × Nat), g_1.fst + 1 < (spl (10 : UInt8)
   s).length ∧ g_1.snd + 1 ≤ (wsR s g_1.fst).length → g_1.fst = g0.fst → (decide ((↑g_1.snd : Int) + 1 < (↑(List.map encS (wsR s g_1.fst)).length : Int)) = true → (((↑g_1.fst : Int) == 0) = true → ((↑g_1.fst : Int) == 0) = true) ∧
   (((↑g_1.fst : Int) == 0) = true → ((↑g_1.fst : Int) == 0) = true) ∧ ((if ((↑g_1.fst : Int) == 0) = true then (↑g_1.snd : Int) + 1 == 1 else false) = true → In64 ((↑g_1.snd : Int) + 1 + 1) ∧ ∃ (g' : Nat × Nat), (g'.fst + 1 < (spl
   (10 : UInt8) s).length ∧ g'.snd + 1 ≤ (wsR s g'.fst).length) ∧ g'.fst = g0.fst ∧ (wsR s g'.fst).length - g'.snd < (wsR s g_1.fst).length - g_1.snd ∧ AS.mk [(2, AV.ptr 1 0), (5, AV.ptr 2 0), (6, AV.sl 1 (List.map encS (spl (10 :
   UInt8) s))), (7, AV.i (↑g_1.fst : Int)), (8, AV.sl 1 (List.map encS (wsR s g_1.fst))), (9, AV.bool (rtN g_1.fst (roR s g_1.fst) g_1.snd)), (10, AV.own 4 (List.map encI (lsN g_1.fst (roR s g_1.fst) g_1.snd)).length), (11, AV.i
   ((↑g_1.snd : Int) + 1 + 1))] [(1, ABlk.box [AV.str [], AV.i 0, AV.ex (Value.slice none 0 0)]), (2, ABlk.box [AV.str (hmR s g_1.fst).nm, AV.i (hmR s g_1.fst).pe, AV.own 3 (List.map encWn (hmR s g_1.fst).ws).length]), (3, ABlk.buf
   177 25 (List.map encWn (hmR s g_1.fst).ws)), (4, ABlk.buf 3 1 (List.map encI (lsN g_1.fst (roR s g_1.fst) g_1.snd)))] 5 = AS.mk [(2, AV.ptr 1 0), (5, AV.ptr 2 0), (6, AV.sl 1 (List.map encS (spl (10 : UInt8) s))), (7, AV.i (↑g'.fst
   : Int)), (8, AV.sl 1 (List.map encS (wsR s g'.fst))), (9, AV.bool (rtN g'.fst (roR s g'.fst) g'.snd)), (10, AV.own 4 (List.map encI (lsN g'.fst (roR s g'.fst) g'.snd)).length), (11, AV.i ((↑g'.snd : Int) + 1))] [(1, ABlk.box
   [AV.str [], AV.i 0, AV.ex (Value.slice none 0 0)]), (2, ABlk.box [AV.str (hmR s g'.fst).nm, AV.i (hmR s g'.fst).pe, AV.own 3 (List.map encWn (hmR s g'.fst).ws).length]), (3, ABlk.buf 177 25 (List.map encWn (hmR s g'.fst).ws)), (4,
   ABlk.buf 3 1 (List.map encI (lsN g'.fst (roR s g'.fst) g'.snd)))] 5) ∧ ((if ((↑g_1.fst : Int) == 0) = true then (↑g_1.snd : Int) + 1 == 1 else false) = false → (0 : Int) ≤ (↑g_1.snd : Int) + 1 ∧ (↑g_1.snd : Int) + 1 < (↑(List.map
   encS (wsR s g_1.fst)).length : Int) ∧ nth (nthR (List.map encS (wsR s g_1.fst)) ((↑g_1.snd : Int) + 1).toNat) 0 = AV.str ((dS (List.map encS (wsR s g_1.fst))).getD ((↑g_1.snd : Int) + 1).toNat []) ∧ PCall Tryz.prog G0 160 [AV.str
   ((dS (List.map encS (wsR s g_1.fst))).getD ((↑g_1.snd : Int) + 1).toNat [])] (AV.tup [AV.i (dgV ((dS (List.map encS (wsR s g_1.fst))).getD ((↑g_1.snd : Int) + 1).toNat [])), AV.bool (inB ((dS (List.map encS (wsR s g_1.fst))).getD
   ((↑g_1.snd : Int) + 1).toNat []))]) ∧ (rtN g_1.fst (roR s g_1.fst) g_1.snd = true → rtN g_1.fst (roR s g_1.fst) g_1.snd = true) ∧ (List.map encI (lsN g_1.fst (roR s g_1.fst) g_1.snd)).length + 1 ≤ 9223372036854775807 ∧ ((List.map
   encI (lsN g_1.fst (roR s g_1.fst) g_1.snd)).length + 1) * 8 ≤ 140737488355328 ∧ In64 ((↑g_1.snd : Int) + 1 + 1) ∧ ∃ (g' : Nat × Nat), (g'.fst + 1 < (spl (10 : UInt8) s).length ∧ g'.snd + 1 ≤ (wsR s g'.fst).length) ∧ g'.fst = g0.fst
   ∧ (wsR s g'.fst).length - g'.snd < (wsR s g_1.fst).length - g_1.snd ∧ AS.mk [(2, AV.ptr 1 0), (5, AV.ptr 2 0), (6, AV.sl 1 (List.map encS (spl (10 : UInt8) s))), (7, AV.i (↑g_1.fst : Int)), (8, AV.sl 1 (List.map encS (wsR s
   g_1.fst))), (9, AV.bool (if rtN g_1.fst (roR s g_1.fst) g_1.snd = true then inB ((dS (List.map encS (wsR s g_1.fst))).getD ((↑g_1.snd : Int) + 1).toNat []) else false)), (10, AV.own 4 ((List.map encI (lsN g_1.fst (roR s g_1.fst)
   g_1.snd)).length + 1)), (11, AV.i ((↑g_1.snd : Int) + 1 + 1))] [(1, ABlk.box [AV.str [], AV.i 0, AV.ex (Value.slice none 0 0)]), (2, ABlk.box [AV.str (hmR s g_1.fst).nm, AV.i (hmR s g_1.fst).pe, AV.own 3 (List.map encWn (hmR s
   g_1.fst).ws).length]), (3, ABlk.buf 177 25 (List.map encWn (hmR s g_1.fst).ws)), (4, ABlk.buf 3 1 (List.map encI (lsN g_1.fst (roR s g_1.fst) g_1.snd) ++ [[AV.i (dgV ((dS (List.map encS (wsR s g_1.fst))).getD ((↑g_1.snd : Int) +
   1).toNat []))]]))] 5 = AS.mk [(2, AV.ptr 1 0), (5, AV.ptr 2 0), (6, AV.sl 1 (List.map encS (spl (10 : UInt8) s))), (7, AV.i (↑g'.fst : Int)), (8, AV.sl 1 (List.map encS (wsR s g'.fst))), (9, AV.bool (rtN g'.fst (roR s g'.fst)
   g'.snd)), (10, AV.own 4 (List.map encI (lsN g'.fst (roR s g'.fst) g'.snd)).length), (11, AV.i ((↑g'.snd : Int) + 1))] [(1, ABlk.box [AV.str [], AV.i 0, AV.ex (Value.slice none 0 0)]), (2, ABlk.box [AV.str (hmR s g'.fst).nm, AV.i
   (hmR s g'.fst).pe, AV.own 3 (List.map encWn (hmR s g'.fst).ws).length]), (3, ABlk.buf 177 25 (List.map encWn (hmR s g'.fst).ws)), (4, ABlk.buf 3 1 (List.map encI (lsN g'.fst (roR s g'.fst) g'.snd)))] 5)) ∧ (decide ((↑g_1.snd : Int)
   + 1 < (↑(List.map encS (wsR s g_1.fst)).length : Int)) = false → ((!rtN g_1.fst (roR s g_1.fst) g_1.snd) = true → AV.tup [AV.agg [AV.str [], AV.i 0, AV.sl 25 []], AV.i (↑g_1.fst : Int), AV.i 25] = psG (e88 s) (kG s) (spl (10 :
   UInt8) s).length (hmR s (spl (10 : UInt8) s).length)) ∧ ((!rtN g_1.fst (roR s g_1.fst) g_1.snd) = false → (((↑g_1.fst : Int) == 0) = true → (0 : Int) ≤ 1 ∧ (1 : Int) < (↑(List.map encS (wsR s g_1.fst)).length : Int) ∧ (0 : Int) ≤ 0
   ∧ (0 : Int) < (↑(List.map encI (lsN g_1.fst (roR s g_1.fst) g_1.snd)).length : Int) ∧ nth (nthR (List.map encS (wsR s g_1.fst)) 1) 0 = AV.str ((dS (List.map encS (wsR s g_1.fst))).getD 1 []) ∧ nth (nthR (List.map encI (lsN g_1.fst
   (roR s g_1.fst) g_1.snd)) 0) 0 = AV.i (cI (List.map encI (lsN g_1.fst (roR s g_1.fst) g_1.snd)) 0) ∧ In64 ((↑g_1.fst : Int) + 1) ∧ ∃ (g' : Nat), (g' ≤ (spl (10 : UInt8) s).length ∧ ∀ (j : Nat), j < g' → goodJ s j = true) ∧ (spl (10
   : UInt8) s).length - g' < (spl (10 : UInt8) s).length - g ∧ AS.mk [(2, AV.ptr 1 0), (5, AV.ptr 2 0), (6, AV.sl 1 (List.map encS (spl (10 : UInt8) s))), (7, AV.i ((↑g_1.fst : Int) + 1))] [(1, ABlk.box [AV.str [], AV.i 0, AV.ex
   (Value.slice none 0 0)]), (2, ABlk.box [AV.str ((dS (List.map encS (wsR s g_1.fst))).getD 1 []), AV.i (cI (List.map encI (lsN g_1.fst (roR s g_1.fst) g_1.snd)) 0), AV.own 3 0]), (3, ABlk.buf 177 25 [])] 4 = AS.mk [(2, AV.ptr 1 0),
   (5, AV.ptr 2 0), (6, AV.sl 1 (List.map encS (spl (10 : UInt8) s))), (7, AV.i (↑g' : Int))] [(1, ABlk.box [AV.str [], AV.i 0, AV.ex (Value.slice none 0 0)]), (2, ABlk.box [AV.str (hmR s g').nm, AV.i (hmR s g').pe, AV.own 3 (List.map
   encWn (hmR s g').ws).length]), (3, ABlk.buf 177 25 (List.map encWn (hmR s g').ws))] 4) ∧ (((↑g_1.fst : Int) == 0) = false → (0 : Int) ≤ 0 ∧ (0 : Int) < (↑(List.map encI (lsN g_1.fst (roR s g_1.fst) g_1.snd)).length : Int) ∧ nth
   (nthR (List.map encI (lsN g_1.fst (roR s g_1.fst) g_1.snd)) 0) 0 = AV.i (cI (List.map encI (lsN g_1.fst (roR s g_1.fst) g_1.snd)) 0) ∧ In64 ((1 : Int) + 0) ∧ (0 : Int) ≤ 1 + 0 ∧ (1 : Int) + 0 < (↑(List.map encI (lsN g_1.fst (roR s
   g_1.fst) g_1.snd)).length : Int) ∧ (0 : Int) ≤ 0 ∧ (0 : Int) < (↑8 : Int) ∧ nth (nthR (List.map encI (lsN g_1.fst (roR s g_1.fst) g_1.snd)) 1) 0 = AV.i (cI (List.map encI (lsN g_1.fst (roR s g_1.fst) g_1.snd)) 1) ∧ In64 ((2 : Int)
   * 0) ∧ In64 ((9 : Int) + 2 * 0) ∧ (0 : Int) ≤ 9 + 2 * 0 ∧ (9 : Int) + 2 * 0 < (↑(List.map encI (lsN g_1.fst (roR s g_1.fst) g_1.snd)).length : Int) ∧ In64 ((2 : Int) * 0) ∧ In64 ((10 : Int) + 2 * 0) ∧ (0 : Int) ≤ 10 + 2 * 0 ∧ (10 :
   Int) + 2 * 0 < (↑(List.map encI (lsN g_1.fst (roR s g_1.fst) g_1.snd)).length : Int) ∧ (0 : Int) ≤ 0 ∧ (0 : Int) < (↑8 : Int) ∧ nth (nthR (List.map encI (lsN g_1.fst (roR s g_1.fst) g_1.snd)) 9) 0 = AV.i (cI (List.map encI (lsN
   g_1.fst (roR s g_1.fst) g_1.snd)) 9) ∧ nth (nthR (List.map encI (lsN g_1.fst (roR s g_1.fst) g_1.snd)) 10) 0 = AV.i (cI (List.map encI (lsN g_1.fst (roR s g_1.fst) g_1.snd)) 10) ∧ In64 ((0 : Int) + 1) ∧ In64 ((1 : Int) + ((0 : Int)
   + 1)) ∧ (0 : Int) ≤ 1 + ((0 : Int) + 1) ∧ (1 : Int) + ((0 : Int) + 1) < (↑(List.map encI (lsN g_1.fst (roR s g_1.fst) g_1.snd)).length : Int) ∧ (0 : Int) ≤ 0 + 1 ∧ (0 : Int) + 1 < (↑8 : Int) ∧ nth (nthR (List.map encI (lsN g_1.fst
   (roR s g_1.fst) g_1.snd)) 2) 0 = AV.i (cI (List.map encI (lsN g_1.fst (roR s g_1.fst) g_1.snd)) 2) ∧ In64 ((2 : Int) * ((0 : Int) + 1)) ∧ In64 ((9 : Int) + 2 * ((0 : Int) + 1)) ∧ (0 : Int) ≤ 9 + 2 * ((0 : Int) + 1) ∧ (9 : Int) + 2
   * ((0 : Int) + 1) < (↑(List.map encI (lsN g_1.fst (roR s g_1.fst) g_1.snd)).length : Int) ∧ In64 ((2 : Int) * ((0 : Int) + 1)) ∧ In64 ((10 : Int) + 2 * ((0 : Int) + 1)) ∧ (0 : Int) ≤ 10 + 2 * ((0 : Int) + 1) ∧ (10 : Int) + 2 * ((0
   : Int) + 1) < (↑(List.map encI (lsN g_1.fst (roR s g_1.fst) g_1.snd)).length : Int) ∧ (0 : Int) ≤ 0 + 1 ∧ (0 : Int) + 1 < (↑8 : Int) ∧ nth (nthR (List.map encI (lsN g_1.fst (roR s g_1.fst) g_1.snd)) 11) 0 = AV.i (cI (List.map encI
   (lsN g_1.fst (roR s g_1.fst) g_1.snd)) 11) ∧ nth (nthR (List.map encI (lsN g_1.fst (roR s g_1.fst) g_1.snd)) 12) 0 = AV.i (cI (List.map encI (lsN g_1.fst (roR s g_1.fst) g_1.snd)) 12) ∧ In64 ((0 : Int) + 1 + 1) ∧ In64 ((1 : Int) +
   ((0 : Int) + 1 + 1)) ∧ (0 : Int) ≤ 1 + ((0 : Int) + 1 + 1) ∧ (1 : Int) + ((0 : Int) + 1 + 1) < (↑(List.map encI (lsN g_1.fst (roR s g_1.fst) g_1.snd)).length : Int) ∧ (0 : Int) ≤ 0 + 1 + 1 ∧ (0 : Int) + 1 + 1 < (↑8 : Int) ∧ nth
   (nthR (List.map encI (lsN g_1.fst (roR s g_1.fst) g_1.snd)) 3) 0 = AV.i (cI (List.map encI (lsN g_1.fst (roR s g_1.fst) g_1.snd)) 3) ∧ In64 ((2 : Int) * ((0 : Int) + 1 + 1)) ∧ In64 ((9 : Int) + 2 * ((0 : Int) + 1 + 1)) ∧ (0 : Int)
   ≤ 9 + 2 * ((0 : Int) + 1 + 1) ∧ (9 : Int) + 2 * ((0 : Int) + 1 + 1) < (↑(List.map encI (lsN g_1.fst (roR s g_1.fst) g_1.snd)).length : Int) ∧ In64 ((2 : Int) * ((0 : Int) + 1 + 1)) ∧ In64 ((10 : Int) + 2 * ((0 : Int) + 1 + 1)) ∧ (0
   : Int) ≤ 10 + 2 * ((0 : Int) + 1 + 1) ∧ (10 : Int) + 2 * ((0 : Int) + 1 + 1) < (↑(List.map encI (lsN g_1.fst (roR s g_1.fst) g_1.snd)).length : Int) ∧ (0 : Int) ≤ 0 + 1 + 1 ∧ (0 : Int) + 1 + 1 < (↑8 : Int) ∧ nth (nthR (List.map
   encI (lsN g_1.fst (roR s g_1.fst) g_1.snd)) 13) 0 = AV.i (cI (List.map encI (lsN g_1.fst (roR s g_1.fst) g_1.snd)) 13) ∧ nth (nthR (List.map encI (lsN g_1.fst (roR s g_1.fst) g_1.snd)) 14) 0 = AV.i (cI (List.map encI (lsN g_1.fst
   (roR s g_1.fst) g_1.snd)) 14) ∧ In64 ((0 : Int) + 1 + 1 + 1) ∧ In64 ((1 : Int) + ((0 : Int) + 1 + 1 + 1)) ∧ (0 : Int) ≤ 1 + ((0 : Int) + 1 + 1 + 1) ∧ (1 : Int) + ((0 : Int) + 1 + 1 + 1) < (↑(List.map encI (lsN g_1.fst (roR s
   g_1.fst) g_1.snd)).length : Int) ∧ (0 : Int) ≤ 0 + 1 + 1 + 1 ∧ (0 : Int) + 1 + 1 + 1 < (↑8 : Int) ∧ nth (nthR (List.map encI (lsN g_1.fst (roR s g_1.fst) g_1.snd)) 4) 0 = AV.i (cI (List.map encI (lsN g_1.fst (roR s g_1.fst)
   g_1.snd)) 4) ∧ In64 ((2 : Int) * ((0 : Int) + 1 + 1 + 1)) ∧ In64 ((9 : Int) + 2 * ((0 : Int) + 1 + 1 + 1)) ∧ (0 : Int) ≤ 9 + 2 * ((0 : Int) + 1 + 1 + 1) ∧ (9 : Int) + 2 * ((0 : Int) + 1 + 1 + 1) < (↑(List.map encI (lsN g_1.fst (roR
   s g_1.fst) g_1.snd)).length : Int) ∧ In64 ((2 : Int) * ((0 : Int) + 1 + 1 + 1)) ∧ In64 ((10 : Int) + 2 * ((0 : Int) + 1 + 1 + 1)) ∧ (0 : Int) ≤ 10 + 2 * ((0 : Int) + 1 + 1 + 1) ∧ (10 : Int) + 2 * ((0 : Int) + 1 + 1 + 1) <
   (↑(List.map encI (lsN g_1.fst (roR s g_1.fst) g_1.snd)).length : Int) ∧ (0 : Int) ≤ 0 + 1 + 1 + 1 ∧ (0 : Int) + 1 + 1 + 1 < (↑8 : Int) ∧ nth (nthR (List.map encI (lsN g_1.fst (roR s g_1.fst) g_1.snd)) 15) 0 = AV.i (cI (List.map
   encI (lsN g_1.fst (roR s g_1.fst) g_1.snd)) 15) ∧ nth (nthR (List.map encI (lsN g_1.fst (roR s g_1.fst) g_1.snd)) 16) 0 = AV.i (cI (List.map encI (lsN g_1.fst (roR s g_1.fst) g_1.snd)) 16) ∧ In64 ((0 : Int) + 1 + 1 + 1 + 1) ∧ In64
   ((1 : Int) + ((0 : Int) + 1 + 1 + 1 + 1)) ∧ (0 : Int) ≤ 1 + ((0 : Int) + 1 + 1 + 1 + 1) ∧ (1 : Int) + ((0 : Int) + 1 + 1 + 1 + 1) < (↑(List.map encI (lsN g_1.fst (roR s g_1.fst) g_1.snd)).length : Int) ∧ (0 : Int) ≤ 0 + 1 + 1 + 1 +
   1 ∧ (0 : Int) + 1 + 1 + 1 + 1 < (↑8 : Int) ∧ nth (nthR (List.map encI (lsN g_1.fst (roR s g_1.fst) g_1.snd)) 5) 0 = AV.i (cI (List.map encI (lsN g_1.fst (roR s g_1.fst) g_1.snd)) 5) ∧ In64 ((2 : Int) * ((0 : Int) + 1 + 1 + 1 + 1))
   ∧ In64 ((9 : Int) + 2 * ((0 : Int) + 1 + 1 + 1 + 1)) ∧ (0 : Int) ≤ 9 + 2 * ((0 : Int) + 1 + 1 + 1 + 1) ∧ (9 : Int) + 2 * ((0 : Int) + 1 + 1 + 1 + 1) < (↑(List.map encI (lsN g_1.fst (roR s g_1.fst) g_1.snd)).length : Int) ∧ In64 ((2
   : Int) * ((0 : Int) + 1 + 1 + 1 + 1)) ∧ In64 ((10 : Int) + 2 * ((0 : Int) + 1 + 1 + 1 + 1)) ∧ (0 : Int) ≤ 10 + 2 * ((0 : Int) + 1 + 1 + 1 + 1) ∧ (10 : Int) + 2 * ((0 : Int) + 1 + 1 + 1 + 1) < (↑(List.map encI (lsN g_1.fst (roR s
   g_1.fst) g_1.snd)).length : Int) ∧ (0 : Int) ≤ 0 + 1 + 1 + 1 + 1 ∧ (0 : Int) + 1 + 1 + 1 + 1 < (↑8 : Int) ∧ nth (nthR (List.map encI (lsN g_1.fst (roR s g_1.fst) g_1.snd)) 17) 0 = AV.i (cI (List.map encI (lsN g_1.fst (roR s
   g_1.fst) g_1.snd)) 17) ∧ nth (nthR (List.map encI (lsN g_1.fst (roR s g_1.fst) g_1.snd)) 18) 0 = AV.i (cI (List.map encI (lsN g_1.fst (roR s g_1.fst) g_1.snd)) 18) ∧ In64 ((0 : Int) + 1 + 1 + 1 + 1 + 1) ∧ In64 ((1 : Int) + ((0 :
   Int) + 1 + 1 + 1 + 1 + 1)) ∧ (0 : Int) ≤ 1 + ((0 : Int) + 1 + 1 + 1 + 1 + 1) ∧ (1 : Int) + ((0 : Int) + 1 + 1 + 1 + 1 + 1) < (↑(List.map encI (lsN g_1.fst (roR s g_1.fst) g_1.snd)).length : Int) ∧ (0 : Int) ≤ 0 + 1 + 1 + 1 + 1 + 1
   ∧ (0 : Int) + 1 + 1 + 1 + 1 + 1 < (↑8 : Int) ∧ nth (nthR (List.map encI (lsN g_1.fst (roR s g_1.fst) g_1.snd)) 6) 0 = AV.i (cI (List.map encI (lsN g_1.fst (roR s g_1.fst) g_1.snd)) 6) ∧ In64 ((2 : Int) * ((0 : Int) + 1 + 1 + 1 + 1
   + 1)) ∧ In64 ((9 : Int) + 2 * ((0 : Int) + 1 + 1 + 1 + 1 + 1)) ∧ (0 : Int) ≤ 9 + 2 * ((0 : Int) + 1 + 1 + 1 + 1 + 1) ∧ (9 : Int) + 2 * ((0 : Int) + 1 + 1 + 1 + 1 + 1) < (↑(List.map encI (lsN g_1.fst (roR s g_1.fst) g_1.snd)).length
   : Int) ∧ In64 ((2 : Int) * ((0 : Int) + 1 + 1 + 1 + 1 + 1)) ∧ In64 ((10 : Int) + 2 * ((0 : Int) + 1 + 1 + 1 + 1 + 1)) ∧ (0 : Int) ≤ 10 + 2 * ((0 : Int) + 1 + 1 + 1 + 1 + 1) ∧ (10 : Int) + 2 * ((0 : Int) + 1 + 1 + 1 + 1 + 1) <
   (↑(List.map encI (lsN g_1.fst (roR s g_1.fst) g_1.snd)).length : Int) ∧ (0 : Int) ≤ 0 + 1 + 1 + 1 + 1 + 1 ∧ (0 : Int) + 1 + 1 + 1 + 1 + 1 < (↑8 : Int) ∧ nth (nthR (List.map encI (lsN g_1.fst (roR s g_1.fst) g_1.snd)) 19) 0 = AV.i
   (cI (List.map encI (lsN g_1.fst (roR s g_1.fst) g_1.snd)) 19) ∧ nth (nthR (List.map encI (lsN g_1.fst (roR s g_1.fst) g_1.snd)) 20) 0 = AV.i (cI (List.map encI (lsN g_1.fst (roR s g_1.fst) g_1.snd)) 20) ∧ In64 ((0 : Int) + 1 + 1 +
   1 + 1 + 1 + 1) ∧ In64 ((1 : Int) + ((0 : Int) + 1 + 1 + 1 + 1 + 1 + 1)) ∧ (0 : Int) ≤ 1 + ((0 : Int) + 1 + 1 + 1 + 1 + 1 + 1) ∧ (1 : Int) + ((0 : Int) + 1 + 1 + 1 + 1 + 1 + 1) < (↑(List.map encI (lsN g_1.fst (roR s g_1.fst)
   g_1.snd)).length : Int) ∧ (0 : Int) ≤ 0 + 1 + 1 + 1 + 1 + 1 + 1 ∧ (0 : Int) + 1 + 1 + 1 + 1 + 1 + 1 < (↑8 : Int) ∧ nth (nthR (List.map encI (lsN g_1.fst (roR s g_1.fst) g_1.snd)) 7) 0 = AV.i (cI (List.map encI (lsN g_1.fst (roR s
   g_1.fst) g_1.snd)) 7) ∧ In64 ((2 : Int) * ((0 : Int) + 1 + 1 + 1 + 1 + 1 + 1)) ∧ In64 ((9 : Int) + 2 * ((0 : Int) + 1 + 1 + 1 + 1 + 1 + 1)) ∧ (0 : Int) ≤ 9 + 2 * ((0 : Int) + 1 + 1 + 1 + 1 + 1 + 1) ∧ (9 : Int) + 2 * ((0 : Int) + 1
   + 1 + 1 + 1 + 1 + 1) < (↑(List.map encI (lsN g_1.fst (roR s g_1.fst) g_1.snd)).length : Int) ∧ In64 ((2 : Int) * ((0 : Int) + 1 + 1 + 1 + 1 + 1 + 1)) ∧ In64 ((10 : Int) + 2 * ((0 : Int) + 1 + 1 + 1 + 1 + 1 + 1)) ∧ (0 : Int) ≤ 10 +
   2 * ((0 : Int) + 1 + 1 + 1 + 1 + 1 + 1) ∧ (10 : Int) + 2 * ((0 : Int) + 1 + 1 + 1 + 1 + 1 + 1) < (↑(List.map encI (lsN g_1.fst (roR s g_1.fst) g_1.snd)).length : Int) ∧ (0 : Int) ≤ 0 + 1 + 1 + 1 + 1 + 1 + 1 ∧ (0 : Int) + 1 + 1 + 1
   + 1 + 1 + 1 < (↑8 : Int) ∧ nth (nthR (List.map encI (lsN g_1.fst (roR s g_1.fst) g_1.snd)) 21) 0 = AV.i (cI (List.map encI (lsN g_1.fst (roR s g_1.fst) g_1.snd)) 21) ∧ nth (nthR (List.map encI (lsN g_1.fst (roR s g_1.fst) g_1.snd))
   22) 0 = AV.i (cI (List.map encI (lsN g_1.fst (roR s g_1.fst) g_1.snd)) 22) ∧ In64 ((0 : Int) + 1 + 1 + 1 + 1 + 1 + 1 + 1) ∧ In64 ((1 : Int) + ((0 : Int) + 1 + 1 + 1 + 1 + 1 + 1 + 1)) ∧ (0 : Int) ≤ 1 + ((0 : Int) + 1 + 1 + 1 + 1 + 1
   + 1 + 1) ∧ (1 : Int) + ((0 : Int) + 1 + 1 + 1 + 1 + 1 + 1 + 1) < (↑(List.map encI (lsN g_1.fst (roR s g_1.fst) g_1.snd)).length : Int) ∧ (0 : Int) ≤ 0 + 1 + 1 + 1 + 1 + 1 + 1 + 1 ∧ (0 : Int) + 1 + 1 + 1 + 1 + 1 + 1 + 1 < (↑8 : Int)
   ∧ nth (nthR (List.map encI (lsN g_1.fst (roR s g_1.fst) g_1.snd)) 8) 0 = AV.i (cI (List.map encI (lsN g_1.fst (roR s g_1.fst) g_1.snd)) 8) ∧ In64 ((2 : Int) * ((0 : Int) + 1 + 1 + 1 + 1 + 1 + 1 + 1)) ∧ In64 ((9 : Int) + 2 * ((0 :
   Int) + 1 + 1 + 1 + 1 + 1 + 1 + 1)) ∧ (0 : Int) ≤ 9 + 2 * ((0 : Int) + 1 + 1 + 1 + 1 + 1 + 1 + 1) ∧ (9 : Int) + 2 * ((0 : Int) + 1 + 1 + 1 + 1 + 1 + 1 + 1) < (↑(List.map encI (lsN g_1.fst (roR s g_1.fst) g_1.snd)).length : Int) ∧
   In64 ((2 : Int) * ((0 : Int) + 1 + 1 + 1 + 1 + 1 + 1 + 1)) ∧ In64 ((10 : Int) + 2 * ((0 : Int) + 1 + 1 + 1 + 1 + 1 + 1 + 1)) ∧ (0 : Int) ≤ 10 + 2 * ((0 : Int) + 1 + 1 + 1 + 1 + 1 + 1 + 1) ∧ (10 : Int) + 2 * ((0 : Int) + 1 + 1 + 1 +
   1 + 1 + 1 + 1) < (↑(List.map encI (lsN g_1.fst (roR s g_1.fst) g_1.snd)).length : Int) ∧ (0 : Int) ≤ 0 + 1 + 1 + 1 + 1 + 1 + 1 + 1 ∧ (0 : Int) + 1 + 1 + 1 + 1 + 1 + 1 + 1 < (↑8 : Int) ∧ nth (nthR (List.map encI (lsN g_1.fst (roR s
   g_1.fst) g_1.snd)) 23) 0 = AV.i (cI (List.map encI (lsN g_1.fst (roR s g_1.fst) g_1.snd)) 23) ∧ nth (nthR (List.map encI (lsN g_1.fst (roR s g_1.fst) g_1.snd)) 24) 0 = AV.i (cI (List.map encI (lsN g_1.fst (roR s g_1.fst) g_1.snd))
   24) ∧ In64 ((0 : Int) + 1 + 1 + 1 + 1 + 1 + 1 + 1 + 1) ∧ (List.map encWn (hmR s g_1.fst).ws).length + 1 ≤ 9223372036854775807 ∧ ((List.map encWn (hmR s g_1.fst).ws).length + 1) * 200 ≤ 140737488355328 ∧ In64 ((↑g_1.fst : Int) + 1)
   ∧ ∃ (g' : Nat), (g' ≤ (spl (10 : UInt8) s).length ∧ ∀ (j : Nat), j < g' → goodJ s j = true) ∧ (spl (10 : UInt8) s).length - g' < (spl (10 : UInt8) s).length - g ∧ AS.mk [(2, AV.ptr 1 0), (5, AV.ptr 2 0), (6, AV.sl 1 (List.map encS
   (spl (10 : UInt8) s))), (7, AV.i ((↑g_1.fst : Int) + 1))] [(1, ABlk.box [AV.str [], AV.i 0, AV.ex (Value.slice none 0 0)]), (2, ABlk.box [AV.str (hmR s g_1.fst).nm, AV.i (hmR s g_1.fst).pe, AV.own 3 ((List.map encWn (hmR s
   g_1.fst).ws).length + 1)]), (3, ABlk.buf 177 25 (List.map encWn (hmR s g_1.fst).ws ++ [[AV.i (cI (List.map encI (lsN g_1.fst (roR s g_1.fst) g_1.snd)) 1), AV.i (cI (List.map encI (lsN g_1.fst (roR s g_1.fst) g_1.snd)) 2), AV.i (cI
   (List.map encI (lsN g_1.fst (roR s g_1.fst) g_1.snd)) 3), AV.i (cI (List.map encI (lsN g_1.fst (roR s g_1.fst) g_1.snd)) 4), AV.i (cI (List.map encI (lsN g_1.fst (roR s g_1.fst) g_1.snd)) 5), AV.i (cI (List.map encI (lsN g_1.fst
   (roR s g_1.fst) g_1.snd)) 6), AV.i (cI (List.map encI (lsN g_1.fst (roR s g_1.fst) g_1.snd)) 7), AV.i (cI (List.map encI (lsN g_1.fst (roR s g_1.fst) g_1.snd)) 8), AV.i (cI (List.map encI (lsN g_1.fst (roR s g_1.fst) g_1.snd)) 0),
   AV.i (cI (List.map encI (lsN g_1.fst (roR s g_1.fst) g_1.snd)) 9), AV.i (cI (List.map encI (lsN g_1.fst (roR s g_1.fst) g_1.snd)) 10), AV.i (cI (List.map encI (lsN g_1.fst (roR s g_1.fst) g_1.snd)) 11), AV.i (cI (List.map encI (lsN
   g_1.fst (roR s g_1.fst) g_1.snd)) 12), AV.i (cI (List.map encI (lsN g_1.fst (roR s g_1.fst) g_1.snd)) 13), AV.i (cI (List.map encI (lsN g_1.fst (roR s g_1.fst) g_1.snd)) 14), AV.i (cI (List.map encI (lsN g_1.fst (roR s g_1.fst)
   g_1.snd)) 15), AV.i (cI (List.map encI (lsN g_1.fst (roR s g_1.fst) g_1.snd)) 16), AV.i (cI (List.map encI (lsN g_1.fst (roR s g_1.fst) g_1.snd)) 17), AV.i (cI (List.map encI (lsN g_1.fst (roR s g_1.fst) g_1.snd)) 18), AV.i (cI
   (List.map encI (lsN g_1.fst (roR s g_1.fst) g_1.snd)) 19), AV.i (cI (List.map encI (lsN g_1.fst (roR s g_1.fst) g_1.snd)) 20), AV.i (cI (List.map encI (lsN g_1.fst (roR s g_1.fst) g_1.snd)) 21), AV.i (cI (List.map encI (lsN g_1.fst
   (roR s g_1.fst) g_1.snd)) 22), AV.i (cI (List.map encI (lsN g_1.fst (roR s g_1.fst) g_1.snd)) 23), AV.i (cI (List.map encI (lsN g_1.fst (roR s g_1.fst) g_1.snd)) 24)]]))] 4 = AS.mk [(2, AV.ptr 1 0), (5, AV.ptr 2 0), (6, AV.sl 1
   (List.map encS (spl (10 : UInt8) s))), (7, AV.i (↑g' : Int))] [(1, ABlk.box [AV.str [], AV.i 0, AV.ex (Value.slice none 0 0)]), (2, ABlk.box [AV.str (hmR s g').nm, AV.i (hmR s g').pe, AV.own 3 (List.map encWn (hmR s
   g').ws).length]), (3, ABlk.buf 177 25 (List.map encWn (hmR s g').ws))] 4))))) ∧ (decide ((↑g : Int) < (↑(List.map encS (spl (10 : UInt8) s)).length : Int)) = false → PCall Tryz.prog G0 26 [AV.agg (encHm (hmR s g))] (AV.i (fHm
   (Hm.mk (hmR s g).nm (hmR s g).pe (List.map decWn (List.map encWn (hmR s g).ws))))) ∧ ((fHm (Hm.mk (hmR s g).nm (hmR s g).pe (List.map decWn (List.map encWn (hmR s g).ws))) != 0) = true → In64 ((↑(List.map encS (spl (10 : UInt8)
   s)).length : Int) - 1) ∧ AV.tup [AV.agg [AV.str [], AV.i 0, AV.sl 25 []], AV.i ((↑(List.map encS (spl (10 : UInt8) s)).length : Int) - 1), AV.i (fHm (Hm.mk (hmR s g).nm (hmR s g).pe (List.map decWn (List.map encWn (hmR s g).ws))))]
   = psG (e88 s) (kG s) (spl (10 : UInt8) s).length (hmR s (spl (10 : UInt8) s).length)) ∧ ((fHm (Hm.mk (hmR s g).nm (hmR s g).pe (List.map decWn (List.map encWn (hmR s g).ws))) != 0) = false → AV.tup [AV.agg (encHm (hmR s g)), AV.i
   0, AV.i 0] = psG (e88 s) (kG s) (spl (10 : UInt8) s).length (hmR s (spl (10 : UInt8) s).length))))) := by
    have hLm : (List.map encS (spl 10 s)).length = (spl 10 s).length := List.length_map _
    obtain ⟨w1, w2⟩ := spl_len 10 s
    have hL0 := List.length_pos_iff.2 (spl_ne 10 s)
    have : (List.map encS (spl (10 : UInt8) s)).length = (spl (10 : UInt8) s).length := by simp only [List.length_map]
    refine ⟨fun h1 => ?_, fun h1 => ?_⟩
    · have he : e88 s = 26 := if_pos h1
      rw [psG, if_pos (by rw [he]; decide), he]
      rfl
    · have he1 : e88 s = if (s == []) = true then 25 else 0 := if_neg (by rw [h1]; decide)
      have hsl : s.length ≤ 400 := by have := of_decide_eq_false h1; omega
      refine ⟨fun h2 => ?_, fun h2 => ?_⟩
      · have he : e88 s = 25 := by rw [he1]; exact if_pos h2
        rw [psG, if_pos (by rw [he]; decide), he]
        rfl
      · have he : e88 s = 0 := by rw [he1]; exact if_neg (by rw [h2]; decide)
        have he0 : ¬ (e88 s != 0) = true := by rw [he]; decide
        refine ⟨(c95 s 10 (by omega) (by decide)), ⟨⟨0, ⟨by omega, by intros; omega⟩, rfl⟩, fun g ⟨hg, ha⟩ => ⟨fun hd => ?_, fun hd => ?_⟩⟩⟩
        · have hlt : g < (spl (10 : UInt8) s).length := by have h9 := of_decide_eq_true hd; have h8 := hg; (try simp only [List.length_map] at h8 h9); omega
          have hxl : ((spl 10 s).getD g []).length ≤ s.length := w2 _ (getD_mem (l := spl 10 s) (i := g) (by omega))
          have hwl := wsR_len s g
          have hw1 : 1 ≤ (wsR s g).length := List.length_pos_iff.2 (spl_ne 32 _)
          have hwm : (List.map encS (wsR s g)).length = (wsR s g).length := List.length_map _
          have hw3 : (wsR s g).length ≤ s.length + 1 := by have := (spl_len 32 ((spl 10 s).getD g [])).1; unfold wsR; omega
          have hhl := hmR_len s g
          have hhm : (List.map encWn (hmR s g).ws).length = (hmR s g).ws.length := List.length_map _
          have hwq : (spl 32 ((spl 10 s).getD g [])).length = (wsR s g).length := rfl
          have hwqm : (List.map encS (spl 32 ((spl 10 s).getD g []))).length = (wsR s g).length := List.length_map _
          try rw [show (↑g : Int).toNat = g from Int.toNat_natCast g]
          refine ⟨(by unfold In64; omega), fun h3 => ?_, fun h3 => ?_⟩
          · have hgL : g + 1 = (spl 10 s).length := by have := eq_of_beq h3; omega
            refine ⟨(by omega), (by omega), (congrArg (fun r => nth r 0) (row_at encS (by omega))), fun h4 => ?_, fun h4 => ?_⟩
            · have hbad : goodJ s g = false := by
                unfold goodJ
                rw [if_pos hgL]
                simpa using h4
              rw [psG, if_neg he0, kg_e hlt ha hbad, if_pos hlt]
              rfl
            · have hgood : goodJ s g = true := by
                unfold goodJ
                rw [if_pos hgL]
                simpa using h4
              refine ⟨(by unfold In64; omega), ?_⟩
              · refine ⟨g + 1, ⟨by omega, all_ext ha hgood⟩, by omega, ?_⟩
                first
                  | (rw [show hmR s (g + 1) = hmR s g from if_pos hgL]; rfl)
                  | (rw [show hmR s (g + 1) = ⟨(wsR s g).getD 1 [], (lsR s g).getD 0 0, []⟩ by (rw [hmR, if_neg (by omega), if_pos hg0, hg0])]
                     simp only [cI_map]
                     rw [show lsN g (roR s g) n2 = lsR s g by (unfold lsR; rw [← hn2]), dS_e]
                     rfl)
                  | (rw [show hmR s (g + 1) = ⟨(hmR s g).nm, (hmR s g).pe, (hmR s g).ws ++ [wnO (lsR s g)]⟩ by (rw [hmR, if_neg (by omega), if_neg hg1])]
                     simp only [cI_map, hlsr]
                     rw [List.map_append, List.length_append]
                     kernel_rfl)
          · have hgL : g + 1 < (spl 10 s).length := by
              have q := h3
              rw [beq_eq_false_iff_ne] at q
              omega
            refine ⟨(by omega), (by omega), (congrArg (fun r => nth r 0) (row_at encS (by omega))), (c95 _ 32 (by omega) (by decide)), fun h => h, fun h => h, fun h => h, fun h => h, fun _ => by omega, (fun hb => by first | omega | (have q := eq_of_beq (and_3 hb); omega) | (have q := eq_of_beq (and_2 hb); omega)), fun h => h, fun h => h, fun h => h, fun h => h, fun _ => by omega, (fun hb => by first | omega | (have q := eq_of_beq (and_3 hb); omega) | (have q := eq_of_beq (and_2 hb); omega)), fun h => h, fun h => h, fun h => h, fun h => h, fun h => h, fun h => h, fun h => h, fun h => h, fun h4 => fun h => by first | exact h | (rw [h]; rfl) | simp_all, fun h => h, fun h => h, fun _ => by omega, (fun hb => by first | omega | (have q := eq_of_beq (and_3 hb); omega) | (have q := eq_of_beq (and_2 hb); omega)), fun h => h, fun h => h, fun h => h, fun h4 => fun h => by first | exact h | (rw [h]; rfl) | simp_all, fun h => by first | exact h | (rw [h]; rfl) | simp_all, impB_iff.2 fun hb => (rd_w (ws := wsR s g) (by first | omega | (have q := eq_of_beq (and_3 hb); omega) | (have q := eq_of_beq (and_2 hb); omega))), impB_iff.2 fun hb => (rd_w (ws := wsR s g) (by first | omega | (have q := eq_of_beq (and_3 hb); omega) | (have q := eq_of_beq (and_2 hb); omega))), impB_iff.2 fun hb => (rd_w (ws := wsR s g) (by first | omega | (have q := eq_of_beq (and_3 hb); omega) | (have q := eq_of_beq (and_2 hb); omega))), ⟨(g, 0), ⟨by (try dsimp only); omega, by (try dsimp only); omega⟩, rfl, rfl, fun g_1 hok2 hr2 => ?_⟩⟩
            · obtain ⟨i2, n2⟩ := g_1
              dsimp only at hok2 hr2 ⊢
              obtain ⟨hi2, hg2⟩ := hok2
              have hr4 : g = i2 := hr2.symm
              subst hr4
              try rw [show ((n2 : Int) + 1).toNat = n2 + 1 by omega]
              have hlsl := lsN_len g (roR s g) n2
              have hlsm : (List.map encI (lsN g (roR s g) n2)).length = (lsN g (roR s g) n2).length := List.length_map _
              refine ⟨fun h4 => ?_, fun h4 => ?_⟩
              · have hn2 : n2 + 1 < (wsR s g).length := by have := of_decide_eq_true h4; omega
                refine ⟨fun h => h, fun h => h, fun h5 => ?_, fun h5 => ?_⟩
                · have hsk := (sk_e g n2).symm.trans h5
                  refine ⟨(by unfold In64; omega), ⟨(g, n2 + 1), ⟨by (try dsimp only); omega, by (try dsimp only); omega⟩, rfl, (by (try dsimp only); omega), ?_⟩⟩
                  · dsimp only
                    rw [rtN, if_pos hsk, lsN, if_pos hsk]
                    rfl
                · have hsk := (sk_e g n2).symm.trans h5
                  refine ⟨(by omega), (by omega), (rd_w (by omega)), (c160 _ (by rw [dS_e]; have := hwl (n2 + 1); omega)), fun h => h, (by omega), (by omega), (by unfold In64; omega), ⟨(g, n2 + 1), ⟨by (try dsimp only); omega, by (try dsimp only); omega⟩, rfl, (by (try dsimp only); omega), ?_⟩⟩
                  · dsimp only
                    rw [rtN, if_neg (show ¬ skB g n2 = true by rw [hsk]; decide), lsN, if_neg (show ¬ skB g n2 = true by rw [hsk]; decide), List.map_append, List.length_append]
                    rfl
              · have hn2 : n2 = (wsR s g).length - 1 := by have := of_decide_eq_false h4; omega
                refine ⟨fun h5 => ?_, fun h5 => ?_⟩
                · have hbad : goodJ s g = false := by
                    unfold goodJ
                    rw [if_neg (by omega)]
                    unfold okR
                    rw [← hn2]
                    simpa using h5
                  rw [psG, if_neg he0, kg_e hlt ha hbad, if_pos hlt]
                  rfl
                · have hrt : okR s g = true := by
                    unfold okR
                    rw [← hn2]
                    simpa using h5
                  have hgood : goodJ s g = true := by
                    unfold goodJ
                    rw [if_neg (by omega)]
                    exact hrt
                  have hr0 := (rt_iff g (roR s g) _).1 hrt
                  refine ⟨fun h6 => ?_, fun h6 => ?_⟩
                  · have hg0 : g = 0 := by simpa using h6
                    have hq0 : rt0 0 ((wsR s g).map encS) = true := by
                      have q := hr0.1
                      rw [hg0] at q ⊢
                      exact q
                    have h30 := (rt0_0 _).1 hq0
                    have hl1 : lsN g (roR s g) n2 = [dgV ((dS (roR s g)).getD 2 [])] := by
                      rw [hn2, h30.1, hg0]
                      show lsN 0 _ 2 = _
                      rw [lsN, if_neg (by decide), lsN, if_pos (by decide), lsN]
                      rfl
                    have hl1l : (lsN g (roR s g) n2).length = 1 := by rw [hl1]; rfl
                    refine ⟨(by omega), (by omega), (by omega), (by omega), (rd_w (by omega)), (by rw [cI_map]; exact congrArg (fun r => nth r 0) (row_at encI (by omega))), (by unfold In64; omega), ?_⟩
                    · refine ⟨g + 1, ⟨by omega, all_ext ha hgood⟩, by omega, ?_⟩
                      first
                        | (rw [show hmR s (g + 1) = hmR s g from if_pos hgL]; rfl)
                        | (rw [show hmR s (g + 1) = ⟨(wsR s g).getD 1 [], (lsR s g).getD 0 0, []⟩ by (rw [hmR, if_neg (by omega), if_pos hg0, hg0])]
                           simp only [cI_map]
                           rw [show lsN g (roR s g) n2 = lsR s g by (unfold lsR; rw [← hn2]), dS_e]
                           rfl)
                        | (rw [show hmR s (g + 1) = ⟨(hmR s g).nm, (hmR s g).pe, (hmR s g).ws ++ [wnO (lsR s g)]⟩ by (rw [hmR, if_neg (by omega), if_neg hg1])]
                           simp only [cI_map, hlsr]
                           rw [List.map_append, List.length_append]
                           kernel_rfl)
                  · have hg1 : g ≠ 0 := by simpa using h6
                    have h26 := ((rt0_V hg1 (wsR s g)).1 hr0.1).1
                    have hl25 : (lsN g (roR s g) n2).length = 25 := by rw [hn2, h26, ls_e hg1, List.length_map, List.length_range]
                    have hlsr : lsN g (roR s g) n2 = lsR s g := by
                      unfold lsR
                      rw [← hn2]
                    refine ⟨(by omega), (by omega), (by rw [cI_map]; exact congrArg (fun r => nth r 0) (row_at encI (by omega))), (by unfold In64; omega), (by omega), (by omega), (by omega), (by omega), (by rw [cI_map]; exact congrArg (fun r => nth r 0) (row_at encI (by omega))), (by unfold In64; omega), (by unfold In64; omega), (by omega), (by omega), (by unfold In64; omega), (by unfold In64; omega), (by omega), (by omega), (by omega), (by omega), (by rw [cI_map]; exact congrArg (fun r => nth r 0) (row_at encI (by omega))), (by rw [cI_map]; exact congrArg (fun r => nth r 0) (row_at encI (by omega))), (by unfold In64; omega), (by unfold In64; omega), (by omega), (by omega), (by omega), (by omega), (by rw [cI_map]; exact congrArg (fun r => nth r 0) (row_at encI (by omega))), (by unfold In64; omega), (by unfold In64; omega), (by omega), (by omega), (by unfold In64; omega), (by unfold In64; omega), (by omega), (by omega), (by omega), (by omega), (by rw [cI_map]; exact congrArg (fun r => nth r 0) (row_at encI (by omega))), (by rw [cI_map]; exact congrArg (fun r => nth r 0) (row_at encI (by omega))), (by unfold In64; omega), (by unfold In64; omega), (by omega), (by omega), (by omega), (by omega), (by rw [cI_map]; exact congrArg (fun r => nth r 0) (row_at encI (by omega))), (by unfold In64; omega), (by unfold In64; omega), (by omega), (by omega), (by unfold In64; omega), (by unfold In64; omega), (by omega), (by omega), (by omega), (by omega), (by rw [cI_map]; exact congrArg (fun r => nth r 0) (row_at encI (by omega))), (by rw [cI_map]; exact congrArg (fun r => nth r 0) (row_at encI (by omega))), (by unfold In64; omega), (by unfold In64; omega), (by omega), (by omega), (by omega), (by omega), (by rw [cI_map]; exact congrArg (fun r => nth r 0) (row_at encI (by omega))), (by unfold In64; omega), (by unfold In64; omega), (by omega), (by omega), (by unfold In64; omega), (by unfold In64; omega), (by omega), (by omega), (by omega), (by omega), (by rw [cI_map]; exact congrArg (fun r => nth r 0) (row_at encI (by omega))), (by rw [cI_map]; exact congrArg (fun r => nth r 0) (row_at encI (by omega))), (by unfold In64; omega), (by unfold In64; omega), (by omega), (by omega), (by omega), (by omega), (by rw [cI_map]; exact congrArg (fun r => nth r 0) (row_at encI (by omega))), (by unfold In64; omega), (by unfold In64; omega), (by omega), (by omega), (by unfold In64; omega), (by unfold In64; omega), (by omega), (by omega), (by omega), (by omega), (by rw [cI_map]; exact congrArg (fun r => nth r 0) (row_at encI (by omega))), (by rw [cI_map]; exact congrArg (fun r => nth r 0) (row_at encI (by omega))), (by unfold In64; omega), (by unfold In64; omega), (by omega), (by omega), (by omega), (by omega), (by rw [cI_map]; exact congrArg (fun r => nth r 0) (row_at encI (by omega))), (by unfold In64; omega), (by unfold In64; omega), (by omega), (by omega), (by unfold In64; omega), (by unfold In64; omega), (by omega), (by omega), (by omega), (by omega), (by rw [cI_map]; exact congrArg (fun r => nth r 0) (row_at encI (by omega))), (by rw [cI_map]; exact congrArg (fun r => nth r 0) (row_at encI (by omega))), (by unfold In64; omega), (by unfold In64; omega), (by omega), (by omega), (by omega), (by omega), (by rw [cI_map]; exact congrArg (fun r => nth r 0) (row_at encI (by omega))), (by unfold In64; omega), (by unfold In64; omega), (by omega), (by omega), (by unfold In64; omega), (by unfold In64; omega), (by omega), (by omega), (by omega), (by omega), (by rw [cI_map]; exact congrArg (fun r => nth r 0) (row_at encI (by omega))), (by rw [cI_map]; exact congrArg (fun r => nth r 0) (row_at encI (by omega))), (by unfold In64; omega), (by unfold In64; omega), (by omega), (by omega), (by omega), (by omega), (by rw [cI_map]; exact congrArg (fun r => nth r 0) (row_at encI (by omega))), (by unfold In64; omega), (by unfold In64; omega), (by omega), (by omega), (by unfold In64; omega), (by unfold In64; omega), (by omega), (by omega), (by omega), (by omega), (by rw [cI_map]; exact congrArg (fun r => nth r 0) (row_at encI (by omega))), (by rw [cI_map]; exact congrArg (fun r => nth r 0) (row_at encI (by omega))), (by unfold In64; omega), (by omega), (by omega), (by unfold In64; omega), ?_⟩
                    · refine ⟨g + 1, ⟨by omega, all_ext ha hgood⟩, by omega, ?_⟩
                      first
                        | (rw [show hmR s (g + 1) = hmR s g from if_pos hgL]; rfl)
                        | (rw [show hmR s (g + 1) = ⟨(wsR s g).getD 1 [], (lsR s g).getD 0 0, []⟩ by (rw [hmR, if_neg (by omega), if_pos hg0, hg0])]
                           simp only [cI_map]
                           rw [show lsN g (roR s g) n2 = lsR s g by (unfold lsR; rw [← hn2]), dS_e]
                           rfl)
                        | (rw [show hmR s (g + 1) = ⟨(hmR s g).nm, (hmR s g).pe, (hmR s g).ws ++ [wnO (lsR s g)]⟩ by (rw [hmR, if_neg (by omega), if_neg hg1])]
                           simp only [cI_map, hlsr]
                           rw [List.map_append, List.length_append]
                           kernel_rfl)
        · have hge : g = (spl (10 : UInt8) s).length := by have h9 := of_decide_eq_false hd; have h8 := hg; (try simp only [List.length_map] at h8 h9); omega
          subst hge
          refine ⟨((by rw [wd_dec]; exact c26 (hmR s _) (Nat.le_trans (hmR_nm s _) (by omega)) (Nat.le_trans (hmR_len s _) (by omega)))), fun h3 => ⟨(by unfold In64; omega), ?_⟩, fun h3 => ?_⟩
          · have hk : kG s = (spl 10 s).length := kg_n ha
            rw [wd_dec] at h3 ⊢
            rw [psG, if_neg he0, hk, if_neg (Nat.lt_irrefl _), if_pos (show (fHm (hmR s (spl 10 s).length) != 0) = true from h3), hLm]
            rfl
          · have hk : kG s = (spl 10 s).length := kg_n ha
            rw [wd_dec] at h3
            rw [psG, if_neg he0, hk, if_neg (Nat.lt_irrefl _), if_neg (show ¬ (fHm (hmR s (spl 10 s).length) != 0) = true by (rw [show (fHm (hmR s (spl 10 s).length) != 0) = false from h3]; decide))]
  exact c_of Tryz.f88 ({ gsB g88 (fzB (modA 33 4 (fun a => { a with fz := false }) (mkB sp88 88 [(11, 3, rdL 1 encS (spl 10 s) 1 false), (13, 3, rdL 1 encS (spl 10 s) 1 false), (14, 10, rdW), (14, 16, rdW), (14, 30, rdW), (20, 3, rdW), (26, 2, rdW), (26, 5, rdJ), (27, 2, rdJ), (31, 5, rdJ), (32, 6, rdJ), (32, 12, rdJ)] (la88 s)))) with cl := clL [129], bx := fun i => if i.beq 0 then [.frzc 2 2] else if i.beq 2 then [.frzo 10] else [] }) (by kernel_rfl) (by kernel_rfl) (by kernel_rfl) (by kernel_rfl) key (by kernel_rfl)
end Go.Proofs.YtfoeefaamjknpaaGreatDoor
namespace Go.Proofs.YtfoeefaamjknpaaGreatDoor
open Go Go.Av Go.RowKit
end Go.Proofs.YtfoeefaamjknpaaGreatDoor
namespace Go.Proofs.YtfoeefaamjknpaaGreatDoor
open Go Go.Av Go.RowKit
end Go.Proofs.YtfoeefaamjknpaaGreatDoor
namespace Go.Proofs.YtfoeefaamjknpaaGreatDoor
open Go Go.Av Go.RowKit
end Go.Proofs.YtfoeefaamjknpaaGreatDoor
namespace Go.Proofs.YtfoeefaamjknpaaGreatDoor
open Go Go.Av Go.RowKit
theorem c_ofH {f : Nat} {args : List AV} {r : AV} (fn : Func) (B : BA) (ms : List (Option (List GS × AS × Prop))) (hf : Tryz.prog.funcs[f]? = some fn) (hb : fn.body = some (bodyOf fn)) (hn : (fn.name == "runtime.NumGoroutine") = false) (hlen : Nat.ble args.length fn.ntmps = true)
    {q : Prop} (hq : q) (h : partsH (bodyE Tryz.prog T0 G0 fn.ntmps []) B (retQ T0 fn fun v => v = r) (flatSeq (bodyOf fn)) ms (startS args) = q) : PCall Tryz.prog G0 f args r :=
  call_of_partsH tok mix hf hb hn (Nat.le_of_ble_eq_true hlen) B ms (vc_of hq h)
end Go.Proofs.YtfoeefaamjknpaaGreatDoor
namespace Go.Proofs.YtfoeefaamjknpaaGreatDoor
open Go Go.Av Go.RowKit
end Go.Proofs.YtfoeefaamjknpaaGreatDoor
