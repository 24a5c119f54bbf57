/-
  Printing movements, and parsing them: contracts. No condition but the theorems' own. Lines and parts of a string, and that both sides' Parse make the same of them: plain Lean. No condition but the theorems' own. Printing movements on both sides, equal lists, and lists told: contracts. No condition but the theorems' own. Movements are read as they were printed, and printed as they were read: plain Lean. No condition but the theorems' own. The reference's parsing of movements: a contract. No condition but the theorems' own. Print and Parse of both sides on short rules and movements; and what valid movements have for words. No condition but the theorems' own. NightStrings returns true. No condition but the theorems' own. What NightStrings' row says of the program's text. No condition.
-/
import Derived.Test.YtimgfogakgakhaaGreatDoorPD
import Derived.Test.YtimgfogakgakhaaGreatDoorPC
import Derived.Test.YtimgfogakgakhaaGreatDoorAvD
import Derived.Test.YtimgfogakgakhaaGreatDoorPB
namespace Go.Proofs.YtimgfogakgakhaaGreatDoor
open Go Go.Av Go.RowKit
def WM : List UInt8 := [109, 111, 118, 101]
def bodyL (x : List UInt8) : List UInt8 := if cutS x [10] then x.take (x.length - [(10 : UInt8)].length) else x
def wdsL (x : List UInt8) : List (List UInt8) := spl 32 (bodyL x)
def hdR (rows : List (List AV)) : List UInt8 := (dS rows).headD []
def tlR (rows : List (List AV)) : List (List AV) := (wdR (dS rows)).map encS
def bdW (rows : List (List AV)) (b : Bool) : Bool := wdB (dS rows) b
def nbW (rows : List (List AV)) (b : Bool) : Bool := if bdW rows b = true then true else !inB (hdR rows)
def rwN : Nat → List (List AV) → List (List AV)
  | 0, rows => rows
  | k + 1, rows => tlR (rwN k rows)
def b4R (rows : List (List AV)) : Bool := bdW (rwN 3 rows) (bdW (rwN 2 rows) (bdW (rwN 1 rows) (bdW (rwN 0 rows) false)))
def b6R (rows : List (List AV)) : Bool := nbW (rwN 5 rows) (nbW (rwN 4 rows) (b4R rows))
def roL (x : List UInt8) : List (List AV) := (wdsL x).map encS
def badL (x : List UInt8) : Bool := if (if (if (!cutS x [10]) = true then true else !(hdR (rwN 0 (roL x)) == WM)) = true then true else b6R (roL x)) = true then true else ((roL x).length : Int) != 6
def mvL (x : List UInt8) : Mv := ⟨hdR (rwN 1 (roL x)), hdR (rwN 2 (roL x)), hdR (rwN 3 (roL x)), inV (hdR (rwN 4 (roL x))), inV (hdR (rwN 5 (roL x)))⟩
def hs77 : Nat → List AV → List ABlk → Option AV
  | 142, _, [.box [.sl _ rows, .bool b]] => some (.gv true (.tup [.str (hdR rows), .agg [.sl 1 (tlR rows), .bool (bdW rows b)]]))
  | 143, _, [.box [.sl _ rows, .bool b]] => some (.gv true (.tup [.i (inV (hdR rows)), .agg [.sl 1 (tlR rows), .bool (nbW rows b)]]))
  | _, _, _ => none
def sp77 (r : Ru) (e : Int) : Nat → List AV → Option AV
  | 29, _ => some (.i (chkS r))
  | 139, [.str s] => some (.fbox 167 [.str s])
  | 140, [.str s, _] => some (.tup [.str (bodyL s), .bool (cutS s [10])])
  | 141, [.str s, _] => some (.sl 1 ((spl 32 s).map encS))
  | 42, _ => some (.i e)
  | n, x => spT n x
def fa77 (r : Ru) (s : List UInt8) : FA := {
  X := List UInt8, xs := lns s, enc := encS
  post := [.renc 4 0 5, .keep [] [1, 2, 3, 4, 5], .bound 8]
  Gh := List (List UInt8)
  st := fun g => ⟨[(2, .elt 18 [encRu r] 0 0), (4, .ptr 1 0), (5, .ptr 2 0), (6, .ptr 3 0), (8, .ptr 4 0)], [(1, .box [.ex (.slice none 0 0)]), (2, .box [.i 0]), (3, .box [.i 0]), (4, .box [.own 5 ((g.map mvL).map encMv).length]), (5, .buf 165 5 ((g.map mvL).map encMv))], 8⟩
  ok := fun pre g => g = pre ∧ ∀ x, x ∈ pre → badL x = false }
def psT (e0 : Int) (k n : Nat) (ms : List Mv) (e : Int) : AV := if e0 != 0 then .tup [.sl 5 [], .i 0, .i e0] else if k < n then .tup [.sl 5 [], .i k, .i 25] else if e != 0 then .tup [.sl 5 [], .i n, .i e] else .tup [.sl 5 (ms.map encMv), .i 0, .i 0]
def e77 (r : Ru) (s : List UInt8) : Int := sFirst [chkS r, sWhen (decide ((s.length : Int) > 4096)) 26]
def k77 (s : List UInt8) : Nat := fiN (fun i => badL ((lns s).getD i [])) (lns s).length
def g77 : Nat → List GS := fun i => if i.beq 3 then [.nilb 2 0 5] else if i.beq 4 then [.reno 4 1, .reno 5 2, .reno 6 3, .reno 8 4, .ownb 4 0 165 5, .renc 4 0 5, .keep [1, 2, 4, 5, 6, 8] [1, 2, 3, 4, 5], .bound 6] else if i.beq 5 then [.keep [2, 4, 5, 6, 8, 30] [1, 2, 3, 4, 5, 7], .bound 8] else if i.beq 18 then [.nilb 1 0 5] else if i.beq 22 then [.nilb 1 0 5] else []
theorem hd_r (ws : List (List UInt8)) : hdR (ws.map encS) = ws.headD [] := by rw [hdR, dS_e]
theorem tl_r (ws : List (List UInt8)) : tlR (ws.map encS) = (wdR ws).map encS := by rw [tlR, dS_e]
def wdN : Nat → List (List UInt8) → List (List UInt8)
  | 0, ws => ws
  | k + 1, ws => wdR (wdN k ws)
theorem rw_e (ws : List (List UInt8)) : ∀ k, rwN k (ws.map encS) = (wdN k ws).map encS
  | 0 => rfl
  | k + 1 => by rw [rwN, rw_e ws k, tl_r, wdN]
theorem wdR_sub (ws : List (List UInt8)) : (wdR ws).Sublist ws := by
  unfold wdR
  split
  · exact List.nil_sublist _
  · exact List.tail_sublist ws
theorem wdN_sub (ws : List (List UInt8)) : ∀ k, (wdN k ws).Sublist ws
  | 0 => List.Sublist.refl _
  | k + 1 => (wdR_sub _).trans (wdN_sub ws k)
theorem w142k (k : Nat) (ws : List (List UInt8)) (b : Bool) (hw : ws.length ≤ 1000000) : WCall Tryz.prog G0 142 [.ptr 1 0] [ABlk.box [.sl 1 (rwN k (ws.map encS)), .bool b]] (.str (hdR (rwN k (ws.map encS)))) [ABlk.box [.sl 1 (tlR (rwN k (ws.map encS))), .bool (bdW (rwN k (ws.map encS)) b)]] := by
  rw [rw_e, hd_r, tl_r, bdW, dS_e]
  exact w142 _ b (Nat.le_trans (wdN_sub ws k).length_le hw)
theorem w143k (k : Nat) (ws : List (List UInt8)) (b : Bool) (hw : ws.length ≤ 1000000) (hl : ∀ x, x ∈ ws → x.length ≤ 1000000) : WCall Tryz.prog G0 143 [.ptr 1 0] [ABlk.box [.sl 1 (rwN k (ws.map encS)), .bool b]] (.i (inV (hdR (rwN k (ws.map encS))))) [ABlk.box [.sl 1 (tlR (rwN k (ws.map encS))), .bool (nbW (rwN k (ws.map encS)) b)]] := by
  rw [rw_e, nbW, hd_r, tl_r, bdW, dS_e]
  exact w143 _ b (Nat.le_trans (wdN_sub ws k).length_le hw) (fun x hx => hl x ((wdN_sub ws k).subset hx))
theorem ln_len : ∀ {L : List (List UInt8)} {s : List UInt8}, isLn L s → L.length ≤ s.length ∧ ∀ x, x ∈ L → x.length ≤ s.length
  | [], s, _ => ⟨Nat.zero_le _, fun x hx => by simp at hx⟩
  | x :: L, s, ⟨h1, h2, h3⟩ => by
    obtain ⟨i1, i2⟩ := ln_len h3
    have h4 := tl_len h1
    have h5 := congrArg List.length (hd_tl s)
    rw [List.length_append] at h5
    refine ⟨by rw [List.length_cons]; omega, fun y hy => ?_⟩
    rcases List.mem_cons.1 hy with rfl | hy
    · rw [h2]; omega
    · have := i2 y hy; omega
theorem spl_len (c : UInt8) : ∀ s : List UInt8, (spl c s).length ≤ s.length + 1 ∧ ∀ x, x ∈ spl c s → x.length ≤ s.length
  | [] => by simp [spl]
  | a :: t => by
    obtain ⟨h1, h2⟩ := spl_len c t
    have h3 := spl_cons c t
    rw [spl]
    split
    · refine ⟨by simp only [List.length_cons]; omega, fun x hx => ?_⟩
      rcases List.mem_cons.1 hx with rfl | hx
      · exact Nat.zero_le _
      · have := h2 x hx; simp only [List.length_cons]; omega
    · have h4 := congrArg List.length h3
      rw [List.length_cons] at h4
      refine ⟨by simp only [List.length_cons]; omega, fun x hx => ?_⟩
      rcases List.mem_cons.1 hx with rfl | hx
      · have := h2 ((spl c t).headD []) (by rw [← h3]; exact List.mem_cons_self ..)
        simp only [List.length_cons]; omega
      · have := h2 x (by rw [← h3]; exact List.mem_cons_of_mem _ hx)
        simp only [List.length_cons]; omega
theorem body_len (x : List UInt8) : (bodyL x).length ≤ x.length := by
  unfold bodyL
  split
  · rw [List.length_take]; omega
  · exact Nat.le_refl _
theorem c77 (r : Ru) (s : List UInt8) (e : Int) (ht : r.ts.length ≤ 1000) (hs : r.rs.length ≤ 1000) (hn : ∀ t, t ∈ r.ts → t.n.length ≤ 1000) (hm : ∀ x, x ∈ r.rs → x.length ≤ 1000) (hl : s.length ≤ 10000) (he : e77 r s = 0 → k77 s = (lns s).length → PCall Tryz.prog G0 42 [.agg (encRu r), .sl 5 (((lns s).map mvL).map encMv)] (.i e)) : PCall Tryz.prog G0 77 [.agg (encRu r), .str s] (psT (e77 r s) (k77 s) (lns s).length ((lns s).map mvL) e) := by
  have key :
   PCall Tryz.prog G0 29 [AV.agg (encRu r)] (AV.i (chkS r)) ∧ PCall Tryz.prog G0 95 [AV.bool (decide ((↑s.length : Int) > 4096)), AV.i 26] (AV.i (sWhen (decide ((↑s.length : Int) > 4096)) (26 : Int))) ∧ PCall Tryz.prog G0 87 [AV.sl 1
   [[AV.i (chkS r)], [AV.i (sWhen (decide ((↑s.length : Int) > 4096)) (26 : Int))]]] (AV.i (sFirst [hdI [AV.i (chkS r)], hdI [AV.i (sWhen (decide ((↑s.length : Int) > 4096)) (26 : Int))]])) ∧ ((sFirst [hdI [AV.i (chkS r)], hdI [AV.i
   (sWhen (decide ((↑s.length : Int) > 4096)) (26 : Int))]] != 0) = true → AV.tup [AV.sl 5 [], AV.i 0, AV.i (sFirst [hdI [AV.i (chkS r)], hdI [AV.i (sWhen (decide ((↑s.length : Int) > 4096)) (26 : Int))]])] = psT (e77 r s) (k77 s)
   (lns s).length (List.map mvL (lns s)) e) ∧ ((sFirst [hdI [AV.i (chkS r)], hdI [AV.i (sWhen (decide ((↑s.length : Int) > 4096)) (26 : Int))]] != 0) = false → PCall Tryz.prog G0 139 [AV.str s] (AV.fbox 167 [AV.str s]) ∧ PSeqB (bodyE
   Tryz.prog T0 G0 Tryz.f77.ntmps []).P (bodyE Tryz.prog T0 G0 Tryz.f77.ntmps []).G 167 [AV.str s] (List.map (fa77 r s).enc (fa77 r s).xs) ∧ (∀ (x : List UInt8), 1 = 1) ∧ (∃ (g : List (List UInt8)), (g = [] ∧ ∀ (x : List UInt8), x ∈
   [] → badL x = false) ∧ AS.mk [(2, AV.elt 18 [(encRu r)] 0 0), (4, AV.ptr 1 0), (5, AV.ptr 2 0), (6, AV.ptr 3 0), (8, AV.ptr 4 0)] [(1, ABlk.box [AV.ex (Value.slice none 0 0)]), (2, ABlk.box [AV.i 0]), (3, ABlk.box [AV.i 0]), (4,
   ABlk.box [AV.own 5 0]), (5, ABlk.buf 165 5 [])] 8 = AS.mk [(2, AV.elt 18 [(encRu r)] 0 0), (4, AV.ptr 1 0), (5, AV.ptr 2 0), (6, AV.ptr 3 0), (8, AV.ptr 4 0)] [(1, ABlk.box [AV.ex (Value.slice none 0 0)]), (2, ABlk.box [AV.i 0]),
   (3, ABlk.box [AV.i 0]), (4, ABlk.box [AV.own 5 (List.map encMv (List.map mvL g)).length]), (5, ABlk.buf 165 5 (List.map encMv (List.map mvL g)))] 8) ∧ (∀ (pre : List (List UInt8)) (x : List UInt8) (post : List (List UInt8)) (g :
   List (List UInt8)), lns s = pre ++ x :: post → (g = pre ∧ ∀ (x : List UInt8), x ∈ pre → badL x = false) → Exit.normal = Exit.normal ∧ false = false ∧ PCall Tryz.prog G0 140 [AV.str x, AV.str [(10 : UInt8)]] (AV.tup [AV.str (bodyL
   x), AV.bool (cutS x [(10 : UInt8)])]) ∧ PCall Tryz.prog G0 141 [AV.str (bodyL x), AV.str [(32 : UInt8)]] (AV.sl 1 (List.map encS (spl (32 : UInt8) (bodyL x)))) ∧ WCall Tryz.prog G0 142 [AV.ptr 1 0] [ABlk.box [AV.sl 1 (List.map encS
   (spl (32 : UInt8) (bodyL x))), AV.bool false]] (AV.str (hdR (List.map encS (spl (32 : UInt8) (bodyL x))))) [ABlk.box [AV.sl 1 (tlR (List.map encS (spl (32 : UInt8) (bodyL x)))), AV.bool (bdW (List.map encS (spl (32 : UInt8) (bodyL
   x))) false)]] ∧ WCall Tryz.prog G0 142 [AV.ptr 1 0] [ABlk.box [AV.sl 1 (tlR (List.map encS (spl (32 : UInt8) (bodyL x)))), AV.bool (bdW (List.map encS (spl (32 : UInt8) (bodyL x))) false)]] (AV.str (hdR (tlR (List.map encS (spl (32
   : UInt8) (bodyL x)))))) [ABlk.box [AV.sl 1 (tlR (tlR (List.map encS (spl (32 : UInt8) (bodyL x))))), AV.bool (bdW (tlR (List.map encS (spl (32 : UInt8) (bodyL x)))) (bdW (List.map encS (spl (32 : UInt8) (bodyL x))) false))]] ∧
   WCall Tryz.prog G0 142 [AV.ptr 1 0] [ABlk.box [AV.sl 1 (tlR (tlR (List.map encS (spl (32 : UInt8) (bodyL x))))), AV.bool (bdW (tlR (List.map encS (spl (32 : UInt8) (bodyL x)))) (bdW (List.map encS (spl (32 : UInt8) (bodyL x)))
   false))]] (AV.str (hdR (tlR (tlR (List.map encS (spl (32 : UInt8) (bodyL x))))))) [ABlk.box [AV.sl 1 (tlR (tlR (tlR (List.map encS (spl (32 : UInt8) (bodyL x)))))), AV.bool (bdW (tlR (tlR (List.map encS (spl (32 : UInt8) (bodyL
   x))))) (bdW (tlR (List.map encS (spl (32 : UInt8) (bodyL x)))) (bdW (List.map encS (spl (32 : UInt8) (bodyL x))) false)))]] ∧ WCall Tryz.prog G0 142 [AV.ptr 1 0] [ABlk.box [AV.sl 1 (tlR (tlR (tlR (List.map encS (spl (32 : UInt8)
   (bodyL x)))))), AV.bool (bdW (tlR (tlR (List.map encS (spl (32 : UInt8) (bodyL x))))) (bdW (tlR (List.map encS (spl (32 : UInt8) (bodyL x)))) (bdW (List.map encS (spl (32 : UInt8) (bodyL x))) false)))]] (AV.str (hdR (tlR (tlR (tlR
   (List.map encS (spl (32 : UInt8) (bodyL x)))))))) [ABlk.box [AV.sl 1 (tlR (tlR (tlR (tlR (List.map encS (spl (32 : UInt8) (bodyL x))))))), AV.bool (bdW (tlR (tlR (tlR (List.map encS (spl (32 : UInt8) (bodyL x)))))) (bdW (tlR (tlR
   (List.map encS (spl (32 : UInt8) (bodyL x))))) (bdW (tlR (List.map encS (spl (32 : UInt8) (bodyL x)))) (bdW (List.map encS (spl (32 : UInt8) (bodyL x))) false))))]] ∧ WCall Tryz.prog G0 143 [AV.ptr 1 0] [ABlk.box [AV.sl 1 (tlR (tlR
   (tlR (tlR (List.map encS (spl (32 : UInt8) (bodyL x))))))), AV.bool (bdW (tlR (tlR (tlR (List.map encS (spl (32 : UInt8) (bodyL x)))))) (bdW (tlR (tlR (List.map encS (spl (32 : UInt8) (bodyL x))))) (bdW (tlR (List.map encS (spl (32
   : UInt8) (bodyL x)))) (bdW (List.map encS (spl (32 : UInt8) (bodyL x))) false))))]] (AV.i (inV (hdR (tlR (tlR (tlR (tlR (List.map encS (spl (32 : UInt8) (bodyL x)))))))))) [ABlk.box [AV.sl 1 (tlR (tlR (tlR (tlR (tlR (List.map encS
   (spl (32 : UInt8) (bodyL x)))))))), AV.bool (nbW (tlR (tlR (tlR (tlR (List.map encS (spl (32 : UInt8) (bodyL x))))))) (bdW (tlR (tlR (tlR (List.map encS (spl (32 : UInt8) (bodyL x)))))) (bdW (tlR (tlR (List.map encS (spl (32 :
   UInt8) (bodyL x))))) (bdW (tlR (List.map encS (spl (32 : UInt8) (bodyL x)))) (bdW (List.map encS (spl (32 : UInt8) (bodyL x))) false)))))]] ∧ WCall Tryz.prog G0 143 [AV.ptr 1 0] [ABlk.box [AV.sl 1 (tlR (tlR (tlR (tlR (tlR (List.map
   encS (spl (32 : UInt8) (bodyL x)))))))), AV.bool (nbW (tlR (tlR (tlR (tlR (List.map encS (spl (32 : UInt8) (bodyL x))))))) (bdW (tlR (tlR (tlR (List.map encS (spl (32 : UInt8) (bodyL x)))))) (bdW (tlR (tlR (List.map encS (spl (32 :
   UInt8) (bodyL x))))) (bdW (tlR (List.map encS (spl (32 : UInt8) (bodyL x)))) (bdW (List.map encS (spl (32 : UInt8) (bodyL x))) false)))))]] (AV.i (inV (hdR (tlR (tlR (tlR (tlR (tlR (List.map encS (spl (32 : UInt8) (bodyL
   x))))))))))) [ABlk.box [AV.sl 1 (tlR (tlR (tlR (tlR (tlR (tlR (List.map encS (spl (32 : UInt8) (bodyL x))))))))), AV.bool (nbW (tlR (tlR (tlR (tlR (tlR (List.map encS (spl (32 : UInt8) (bodyL x)))))))) (nbW (tlR (tlR (tlR (tlR
   (List.map encS (spl (32 : UInt8) (bodyL x))))))) (bdW (tlR (tlR (tlR (List.map encS (spl (32 : UInt8) (bodyL x)))))) (bdW (tlR (tlR (List.map encS (spl (32 : UInt8) (bodyL x))))) (bdW (tlR (List.map encS (spl (32 : UInt8) (bodyL
   x)))) (bdW (List.map encS (spl (32 : UInt8) (bodyL x))) false))))))]] ∧ ((!!cutS x [(10 : UInt8)]) = true → (!!cutS x [(10 : UInt8)]) = true) ∧ ((!cutS x [(10 : UInt8)]) = false → (!!cutS x [(10 : UInt8)]) = true) ∧ ((!if (!cutS x
   [(10 : UInt8)]) = true then true else !hdR (List.map encS (spl (32 : UInt8) (bodyL x))) == [(109 : UInt8), (111 : UInt8), (118 : UInt8), (101 : UInt8)]) = true → (!if (!cutS x [(10 : UInt8)]) = true then true else !hdR (List.map
   encS (spl (32 : UInt8) (bodyL x))) == [(109 : UInt8), (111 : UInt8), (118 : UInt8), (101 : UInt8)]) = true) ∧ ((!if (!cutS x [(10 : UInt8)]) = true then true else !hdR (List.map encS (spl (32 : UInt8) (bodyL x))) == [(109 : UInt8),
   (111 : UInt8), (118 : UInt8), (101 : UInt8)]) = true → (!if (!cutS x [(10 : UInt8)]) = true then true else !hdR (List.map encS (spl (32 : UInt8) (bodyL x))) == [(109 : UInt8), (111 : UInt8), (118 : UInt8), (101 : UInt8)]) = true) ∧
   ((!if (!cutS x [(10 : UInt8)]) = true then true else !hdR (List.map encS (spl (32 : UInt8) (bodyL x))) == [(109 : UInt8), (111 : UInt8), (118 : UInt8), (101 : UInt8)]) = true → (!if (!cutS x [(10 : UInt8)]) = true then true else
   !hdR (List.map encS (spl (32 : UInt8) (bodyL x))) == [(109 : UInt8), (111 : UInt8), (118 : UInt8), (101 : UInt8)]) = true) ∧ ((if (!cutS x [(10 : UInt8)]) = true then true else !hdR (List.map encS (spl (32 : UInt8) (bodyL x))) ==
   [(109 : UInt8), (111 : UInt8), (118 : UInt8), (101 : UInt8)]) = false → (!if (!cutS x [(10 : UInt8)]) = true then true else !hdR (List.map encS (spl (32 : UInt8) (bodyL x))) == [(109 : UInt8), (111 : UInt8), (118 : UInt8), (101 :
   UInt8)]) = true) ∧ ((!if (if (!cutS x [(10 : UInt8)]) = true then true else !hdR (List.map encS (spl (32 : UInt8) (bodyL x))) == [(109 : UInt8), (111 : UInt8), (118 : UInt8), (101 : UInt8)]) = true then true else nbW (tlR (tlR (tlR
   (tlR (tlR (List.map encS (spl (32 : UInt8) (bodyL x)))))))) (nbW (tlR (tlR (tlR (tlR (List.map encS (spl (32 : UInt8) (bodyL x))))))) (bdW (tlR (tlR (tlR (List.map encS (spl (32 : UInt8) (bodyL x)))))) (bdW (tlR (tlR (List.map encS
   (spl (32 : UInt8) (bodyL x))))) (bdW (tlR (List.map encS (spl (32 : UInt8) (bodyL x)))) (bdW (List.map encS (spl (32 : UInt8) (bodyL x))) false)))))) = true → (!if (if (!cutS x [(10 : UInt8)]) = true then true else !hdR (List.map
   encS (spl (32 : UInt8) (bodyL x))) == [(109 : UInt8), (111 : UInt8), (118 : UInt8), (101 : UInt8)]) = true then true else nbW (tlR (tlR (tlR (tlR (tlR (List.map encS (spl (32 : UInt8) (bodyL x)))))))) (nbW (tlR (tlR (tlR (tlR
   (List.map encS (spl (32 : UInt8) (bodyL x))))))) (bdW (tlR (tlR (tlR (List.map encS (spl (32 : UInt8) (bodyL x)))))) (bdW (tlR (tlR (List.map encS (spl (32 : UInt8) (bodyL x))))) (bdW (tlR (List.map encS (spl (32 : UInt8) (bodyL
   x)))) (bdW (List.map encS (spl (32 : UInt8) (bodyL x))) false)))))) = true) ∧ ((!if (if (!cutS x [(10 : UInt8)]) = true then true else !hdR (List.map encS (spl (32 : UInt8) (bodyL x))) == [(109 : UInt8), (111 : UInt8), (118 :
   UInt8), (101 : UInt8)]) = true then true else nbW (tlR (tlR (tlR (tlR (tlR (List.map encS (spl (32 : UInt8) (bodyL x)))))))) (nbW (tlR (tlR (tlR (tlR (List.map encS (spl (32 : UInt8) (bodyL x))))))) (bdW (tlR (tlR (tlR (List.map
   encS (spl (32 : UInt8) (bodyL x)))))) (bdW (tlR (tlR (List.map encS (spl (32 : UInt8) (bodyL x))))) (bdW (tlR (List.map encS (spl (32 : UInt8) (bodyL x)))) (bdW (List.map encS (spl (32 : UInt8) (bodyL x))) false)))))) = true → (!if
   (if (!cutS x [(10 : UInt8)]) = true then true else !hdR (List.map encS (spl (32 : UInt8) (bodyL x))) == [(109 : UInt8), (111 : UInt8), (118 : UInt8), (101 : UInt8)]) = true then true else nbW (tlR (tlR (tlR (tlR (tlR (List.map encS
   (spl (32 : UInt8) (bodyL x)))))))) (nbW (tlR (tlR (tlR (tlR (List.map encS (spl (32 : UInt8) (bodyL x))))))) (bdW (tlR (tlR (tlR (List.map encS (spl (32 : UInt8) (bodyL x)))))) (bdW (tlR (tlR (List.map encS (spl (32 : UInt8) (bodyL
   x))))) (bdW (tlR (List.map encS (spl (32 : UInt8) (bodyL x)))) (bdW (List.map encS (spl (32 : UInt8) (bodyL x))) false)))))) = true) ∧ ((if (if (!cutS x [(10 : UInt8)]) = true then true else !hdR (List.map encS (spl (32 : UInt8)
   (bodyL x))) == [(109 : UInt8), (111 : UInt8), (118 : UInt8), (101 : UInt8)]) = true then true else nbW (tlR (tlR (tlR (tlR (tlR (List.map encS (spl (32 : UInt8) (bodyL x)))))))) (nbW (tlR (tlR (tlR (tlR (List.map encS (spl (32 :
   UInt8) (bodyL x))))))) (bdW (tlR (tlR (tlR (List.map encS (spl (32 : UInt8) (bodyL x)))))) (bdW (tlR (tlR (List.map encS (spl (32 : UInt8) (bodyL x))))) (bdW (tlR (List.map encS (spl (32 : UInt8) (bodyL x)))) (bdW (List.map encS
   (spl (32 : UInt8) (bodyL x))) false)))))) = false → (!if (if (!cutS x [(10 : UInt8)]) = true then true else !hdR (List.map encS (spl (32 : UInt8) (bodyL x))) == [(109 : UInt8), (111 : UInt8), (118 : UInt8), (101 : UInt8)]) = true
   then true else nbW (tlR (tlR (tlR (tlR (tlR (List.map encS (spl (32 : UInt8) (bodyL x)))))))) (nbW (tlR (tlR (tlR (tlR (List.map encS (spl (32 : UInt8) (bodyL x))))))) (bdW (tlR (tlR (tlR (List.map encS (spl (32 : UInt8) (bodyL
   x)))))) (bdW (tlR (tlR (List.map encS (spl (32 : UInt8) (bodyL x))))) (bdW (tlR (List.map encS (spl (32 : UInt8) (bodyL x)))) (bdW (List.map encS (spl (32 : UInt8) (bodyL x))) false)))))) = true) ∧ ((if (if (if (!cutS x [(10 :
   UInt8)]) = true then true else !hdR (List.map encS (spl (32 : UInt8) (bodyL x))) == [(109 : UInt8), (111 : UInt8), (118 : UInt8), (101 : UInt8)]) = true then true else nbW (tlR (tlR (tlR (tlR (tlR (List.map encS (spl (32 : UInt8)
   (bodyL x)))))))) (nbW (tlR (tlR (tlR (tlR (List.map encS (spl (32 : UInt8) (bodyL x))))))) (bdW (tlR (tlR (tlR (List.map encS (spl (32 : UInt8) (bodyL x)))))) (bdW (tlR (tlR (List.map encS (spl (32 : UInt8) (bodyL x))))) (bdW (tlR
   (List.map encS (spl (32 : UInt8) (bodyL x)))) (bdW (List.map encS (spl (32 : UInt8) (bodyL x))) false)))))) = true then true else (↑(List.map encS (spl (32 : UInt8) (bodyL x))).length : Int) != 6) = true → false = false ∧ AV.tup
   [AV.sl 5 [], AV.i (↑(List.map encMv (List.map mvL g)).length : Int), AV.i 25] = psT (e77 r s) (k77 s) (lns s).length (List.map mvL (lns s)) e) ∧ ((if (if (if (!cutS x [(10 : UInt8)]) = true then true else !hdR (List.map encS (spl
   (32 : UInt8) (bodyL x))) == [(109 : UInt8), (111 : UInt8), (118 : UInt8), (101 : UInt8)]) = true then true else nbW (tlR (tlR (tlR (tlR (tlR (List.map encS (spl (32 : UInt8) (bodyL x)))))))) (nbW (tlR (tlR (tlR (tlR (List.map encS
   (spl (32 : UInt8) (bodyL x))))))) (bdW (tlR (tlR (tlR (List.map encS (spl (32 : UInt8) (bodyL x)))))) (bdW (tlR (tlR (List.map encS (spl (32 : UInt8) (bodyL x))))) (bdW (tlR (List.map encS (spl (32 : UInt8) (bodyL x)))) (bdW
   (List.map encS (spl (32 : UInt8) (bodyL x))) false)))))) = true then true else (↑(List.map encS (spl (32 : UInt8) (bodyL x))).length : Int) != 6) = false → (List.map encMv (List.map mvL g)).length + 1 ≤ 9223372036854775807 ∧
   ((List.map encMv (List.map mvL g)).length + 1) * 64 ≤ 140737488355328 ∧ false = false ∧ ∃ (g' : List (List UInt8)), (g' = pre ++ [x] ∧ ∀ (x_1 : List UInt8), x_1 ∈ pre ++ [x] → badL x_1 = false) ∧ AS.mk [(2, AV.elt 18 [(encRu r)] 0
   0), (4, AV.ptr 1 0), (5, AV.ptr 2 0), (6, AV.ptr 3 0), (8, AV.ptr 4 0)] [(1, ABlk.box [AV.ex (Value.slice none 0 0)]), (2, ABlk.box [AV.i 0]), (3, ABlk.box [AV.i 0]), (4, ABlk.box [AV.own 5 ((List.map encMv (List.map mvL g)).length
   + 1)]), (5, ABlk.buf 165 5 (List.map encMv (List.map mvL g) ++ [[AV.str (hdR (tlR (List.map encS (spl (32 : UInt8) (bodyL x))))), AV.str (hdR (tlR (tlR (List.map encS (spl (32 : UInt8) (bodyL x)))))), AV.str (hdR (tlR (tlR (tlR
   (List.map encS (spl (32 : UInt8) (bodyL x))))))), AV.i (inV (hdR (tlR (tlR (tlR (tlR (List.map encS (spl (32 : UInt8) (bodyL x))))))))), AV.i (inV (hdR (tlR (tlR (tlR (tlR (tlR (List.map encS (spl (32 : UInt8) (bodyL
   x))))))))))]]))] 8 = AS.mk [(2, AV.elt 18 [(encRu r)] 0 0), (4, AV.ptr 1 0), (5, AV.ptr 2 0), (6, AV.ptr 3 0), (8, AV.ptr 4 0)] [(1, ABlk.box [AV.ex (Value.slice none 0 0)]), (2, ABlk.box [AV.i 0]), (3, ABlk.box [AV.i 0]), (4,
   ABlk.box [AV.own 5 (List.map encMv (List.map mvL g')).length]), (5, ABlk.buf 165 5 (List.map encMv (List.map mvL g')))] 8)) ∧ ∀ (g : List (List UInt8)), (g = lns s ∧ ∀ (x : List UInt8), x ∈ lns s → badL x = false) → PCall Tryz.prog
   G0 42 [AV.agg (encRu r), AV.sl 5 (List.map encMv (List.map mvL g))] (AV.i e) ∧ ((e != 0) = true → AV.tup [AV.sl 5 [], AV.i (↑(List.map encMv (List.map mvL g)).length : Int), AV.i e] = psT (e77 r s) (k77 s) (lns s).length (List.map
   mvL (lns s)) e) ∧ ((e != 0) = false → AV.tup [AV.sl 5 (List.map encMv (List.map mvL g)), AV.i 0, AV.i 0] = psT (e77 r s) (k77 s) (lns s).length (List.map mvL (lns s)) e)) := by
    refine ⟨c29 r ht hs hn hm, c95 _ _, c87 [_, _] (by simp), fun h => ?_, fun h => ⟨c139 s, s167 s (by omega), fun _ => rfl, ⟨[], ⟨rfl, fun x hx => (by simp at hx)⟩, rfl⟩, fun pre x post g hL hg => ?_, fun g hg => ?_⟩⟩
    · rw [psT, if_pos (show (e77 r s != 0) = true from h)]
      rfl
    · obtain ⟨rfl, hb⟩ := hg
      obtain ⟨l1, l2⟩ := ln_len (lns_is s)
      have hxl := l2 x (by rw [hL]; simp)
      have hbl := body_len x
      obtain ⟨w1, w2⟩ := spl_len 32 (bodyL x)
      have hw : (wdsL x).length ≤ 1000000 := by unfold wdsL; omega
      have hwl : ∀ y, y ∈ wdsL x → y.length ≤ 1000000 := fun y hy => by have := w2 y hy; omega
      have hgl : (List.map encMv (List.map mvL g)).length = g.length := by rw [List.length_map, List.length_map]
      have hgn : g.length < (lns s).length := by rw [hL]; simp
      have he0 : ¬ (e77 r s != 0) = true := by
        rw [show (e77 r s != 0) = false from h]
        decide
      refine ⟨rfl, rfl, c140 x [10] (by omega) (by decide), c141 (bodyL x) 32 (by omega), w142k 0 (wdsL x) _ hw, w142k 1 (wdsL x) _ hw, w142k 2 (wdsL x) _ hw, w142k 3 (wdsL x) _ hw, w143k 4 (wdsL x) _ hw hwl, w143k 5 (wdsL x) _ hw hwl,
        fun h => h, fun h => by rw [h]; rfl, fun h => h, fun h => h, fun h => h, fun h => by rw [h]; rfl, fun h => h, fun h => h, fun h => by rw [h]; rfl, fun hx => ?_, fun hx => ?_⟩
      · have hx : badL x = true := hx
        have hk : k77 s = g.length := by
          refine fi_some (fun j hj => ?_) ?_ hgn
          · apply hb
            rw [hL, List.getD_eq_getElem?_getD, List.getElem?_append_left hj, List.getElem?_eq_getElem hj]
            exact List.getElem_mem hj
          · show badL ((lns s).getD g.length []) = true
            rw [hL, List.getD_eq_getElem?_getD, List.getElem?_append_right (Nat.le_refl _), Nat.sub_self]
            exact hx
        refine ⟨rfl, ?_⟩
        rw [psT, if_neg he0, hk, if_pos hgn, hgl]
      · have hx : badL x = false := hx
        refine ⟨by omega, by omega, rfl, g ++ [x], ⟨rfl, fun y hy => ?_⟩, ?_⟩
        · rcases List.mem_append.1 hy with hy | hy
          · exact hb y hy
          · rw [List.mem_singleton.1 hy]; exact hx
        · have e1 : List.map encMv (List.map mvL (g ++ [x])) = List.map encMv (List.map mvL g) ++ [encMv (mvL x)] := by rw [List.map_append, List.map_append]; rfl
          rw [e1, List.length_append]
          simp only [encMv, mvL, rwN, roL, wdsL]
          rfl
    · obtain ⟨rfl, hb⟩ := hg
      have he0 : ¬ (e77 r s != 0) = true := by
        rw [show (e77 r s != 0) = false from h]
        decide
      have hk : k77 s = (lns s).length := fi_none fun j hj => by
        apply hb
        rw [List.getD_eq_getElem?_getD, List.getElem?_eq_getElem hj]
        exact List.getElem_mem hj
      have hgl : (List.map encMv (List.map mvL (lns s))).length = (lns s).length := by rw [List.length_map, List.length_map]
      refine ⟨he (bne_f h) hk, fun h2 => ?_, fun h2 => ?_⟩
      · rw [psT, if_neg he0, hk, if_neg (Nat.lt_irrefl _), if_pos h2, hgl]
      · rw [psT, if_neg he0, hk, if_neg (Nat.lt_irrefl _), if_neg (by rw [h2]; decide)]
  exact c_of Tryz.f77 (gsB g77 { fzB (mkB (sp77 r e) 77 [] noLa) with hs := hs77, fa := some (fa77 r s) }) (by kernel_rfl) (by kernel_rfl) (by kernel_rfl) (by kernel_rfl) key (by kernel_rfl)
end Go.Proofs.YtimgfogakgakhaaGreatDoor
namespace Go.Proofs.YtimgfogakgakhaaGreatDoor
open Go Go.Av Go.RowKit
def lnP : List (List UInt8) → List (List UInt8)
  | [] => []
  | [x] => if x = [] then [] else [x]
  | x :: y :: t => (x ++ [10]) :: lnP (y :: t)
theorem spl_ln : ∀ s : List UInt8, (spl 10 s = [s] ∧ hdL s = s ∧ tlL s = []) ∨ ∃ x, hdL s = x ++ [10] ∧ spl 10 s = x :: spl 10 (tlL s)
  | [] => .inl ⟨rfl, rfl, rfl⟩
  | c :: t => by
    by_cases h : c = 10
    · subst h
      exact .inr ⟨[], rfl, rfl⟩
    · have hb : (c == 10) = false := beq_false_of_ne h
      rcases spl_ln t with ⟨h1, h2, h3⟩ | ⟨x, h1, h2⟩
      · exact .inl ⟨by rw [spl, hb, h1]; rfl, by rw [hdL, hb, h2]; rfl, by rw [tlL, hb, h3]; rfl⟩
      · exact .inr ⟨c :: x, by rw [hdL, hb, h1]; rfl, by rw [spl, tlL, hb, h2]; rfl⟩
theorem isLn_uniq : ∀ {A B : List (List UInt8)} {s : List UInt8}, isLn A s → isLn B s → A = B
  | [], [], _, _, _ => rfl
  | [], _ :: _, _, h, g => absurd h g.1
  | _ :: _, [], _, h, g => absurd g h.1
  | x :: A, y :: B, s, ⟨_, h2, h3⟩, ⟨_, g2, g3⟩ => by rw [h2, g2, isLn_uniq h3 g3]
theorem lnP_is : ∀ (n : Nat) (s : List UInt8), s.length ≤ n → isLn (lnP (spl 10 s)) s
  | 0, s, h => by
    cases s with
    | nil => exact rfl
    | cons _ _ => simp at h
  | n + 1, s, h => by
    by_cases q : s = []
    · subst q; exact rfl
    · rcases spl_ln s with ⟨h1, h2, h3⟩ | ⟨x, h1, h2⟩
      · rw [h1, lnP, if_neg q]
        exact ⟨q, h2.symm, h3⟩
      · have hlt := tl_len q
        have ih := lnP_is n (tlL s) (by omega)
        rw [h2]
        cases hP : spl 10 (tlL s) with
        | nil => exact absurd hP (spl_ne _ _)
        | cons y t =>
          rw [hP] at ih
          exact ⟨q, h1.symm, ih⟩
theorem lns_eq (s : List UInt8) : lns s = lnP (spl 10 s) := isLn_uniq (lns_is s) (lnP_is _ s (Nat.le_refl _))
theorem lnP_len : ∀ P : List (List UInt8), P ≠ [] → (lnP P).length = (P.length - 1) + (if P.getD (P.length - 1) [] = [] then 0 else 1)
  | [], h => absurd rfl h
  | [x], _ => by
    rw [lnP]
    by_cases q : x = []
    · subst q; rfl
    · rw [if_neg q, show [x].getD ([x].length - 1) [] = x from rfl, if_neg q]; rfl
  | x :: y :: t, _ => by
    have ih := lnP_len (y :: t) (by simp)
    rw [lnP, List.length_cons, ih, show (x :: y :: t).getD ((x :: y :: t).length - 1) [] = (y :: t).getD ((y :: t).length - 1) [] from rfl]
    simp only [List.length_cons]
    omega
theorem lnP_get : ∀ (P : List (List UInt8)) (i : Nat), i + 1 < P.length → (lnP P).getD i [] = P.getD i [] ++ [10]
  | [], i, h => by simp at h
  | [x], i, h => by simp at h
  | x :: y :: t, 0, _ => rfl
  | x :: y :: t, i + 1, h => lnP_get (y :: t) i (by simpa using h)
theorem lnP_last : ∀ P : List (List UInt8), P ≠ [] → P.getD (P.length - 1) [] ≠ [] → (lnP P).getD (P.length - 1) [] = P.getD (P.length - 1) []
  | [], h, _ => absurd rfl h
  | [x], _, h => by
    have h : x ≠ [] := h
    rw [lnP, if_neg h]
  | x :: y :: t, _, h => lnP_last (y :: t) (by simp) h
theorem spl_no (c : UInt8) : ∀ (s : List UInt8) (x : List UInt8), x ∈ spl c s → c ∉ x
  | [], x, h => by
    rw [spl, List.mem_singleton] at h
    subst h
    simp
  | a :: t, x, h => by
    rw [spl] at h
    by_cases q : a = c
    · rw [if_pos (by rw [q]; exact beq_self_eq_true c)] at h
      rcases List.mem_cons.1 h with rfl | h
      · simp
      · exact spl_no c t x h
    · rw [if_neg (by rw [beq_iff_eq]; exact q)] at h
      have e := spl_cons c t
      rcases List.mem_cons.1 h with rfl | h
      · have := spl_no c t ((spl c t).headD []) (by rw [← e]; exact List.mem_cons_self ..)
        rw [List.mem_cons]
        exact fun hx => hx.elim (fun hx => q hx.symm) this
      · exact spl_no c t x (by rw [← e]; exact List.mem_cons_of_mem _ h)
def okW (w : List (List UInt8)) : Bool := (decide (w.length = 6) && (w.getD 0 [] == WM && (!(w.getD 1 [] == []) && (!(w.getD 2 [] == []) && !(w.getD 3 [] == []))))) && (inB (w.getD 4 []) && inB (w.getD 5 []))
def dgV (s : List UInt8) : Int := if inB s then digV s s.length else 0
def mvW (w : List (List UInt8)) : Mv := ⟨w.getD 1 [], w.getD 2 [], w.getD 3 [], dgV (w.getD 4 []), dgV (w.getD 5 [])⟩
theorem inB_nil : inB [] = false := rfl
theorem inV_dg {s : List UInt8} (h : inB s = true) : inV s = dgV s := by
  have : inOK s = true := by
    unfold inB at h
    rw [Bool.and_eq_true] at h
    exact h.1
  rw [inV, dgV, if_pos this, if_pos h]
theorem cut_end (b : List UInt8) : cutS (b ++ [10]) [10] = true ∧ bodyL (b ++ [10]) = b := by
  have h : cutS (b ++ [10]) [10] = true := by
    unfold cutS
    simp
  refine ⟨h, ?_⟩
  unfold bodyL
  rw [h, if_pos rfl]
  simp
theorem cut_no {x : List UInt8} (h : (10 : UInt8) ∉ x) : cutS x [10] = false := by
  cases q : cutS x [10] with
  | false => rfl
  | true =>
    unfold cutS at q
    rw [Bool.and_eq_true, beq_iff_eq] at q
    exact absurd (List.mem_of_mem_drop (by rw [q.2]; exact List.mem_singleton.2 rfl)) h
theorem bad_no {x : List UInt8} (h : (10 : UInt8) ∉ x) : badL x = true := by
  unfold badL
  rw [cut_no h]
  rfl
theorem hd_k (ws : List (List UInt8)) (k : Nat) : hdR (rwN k (ws.map encS)) = (wdN k ws).headD [] := by rw [rw_e, hd_r]
theorem bd_k (ws : List (List UInt8)) (k : Nat) (b : Bool) : bdW (rwN k (ws.map encS)) b = wdB (wdN k ws) b := by rw [rw_e, bdW, dS_e]
theorem nb_k (ws : List (List UInt8)) (k : Nat) (b : Bool) : nbW (rwN k (ws.map encS)) b = (if wdB (wdN k ws) b then true else !inB ((wdN k ws).headD [])) := by rw [nbW, bd_k, hd_k]
theorem bad_w (b : List UInt8) : badL (b ++ [10]) = !okW (spl 32 b) := by
  obtain ⟨h1, h2⟩ := cut_end b
  unfold badL roL wdsL
  rw [h1, h2]
  generalize spl 32 b = ws
  unfold b6R b4R
  rw [nb_k, nb_k, bd_k, bd_k, bd_k, bd_k, hd_k, List.length_map]
  by_cases hl : ws.length = 6
  · match ws, hl with
    | [a, b, c, d, e, f], _ =>
      by_cases ha : a = WM
      · subst ha
        by_cases hb : b = []
        · subst hb
          simp [wdN, wdR, wdB, okW, WM]
        · by_cases hc : c = []
          · subst hc
            simp [wdN, wdR, wdB, okW, WM, hb]
          · by_cases hd : d = []
            · subst hd
              simp [wdN, wdR, wdB, okW, WM, hb, hc]
            · by_cases he : e = []
              · subst he
                simp [wdN, wdR, wdB, okW, WM, hb, hc, hd, inB_nil]
              · by_cases hf : f = []
                · subst hf
                  simp [wdN, wdR, wdB, okW, WM, hb, hc, hd, he, inB_nil]
                · simp [wdN, wdR, wdB, okW, WM, hb, hc, hd, he, hf]
      · have h3 : (a == WM) = false := beq_false_of_ne ha
        simp [wdN, okW, h3, ha]
  · have h3 : ((ws.length : Int) != 6) = true := by
      rw [bne_iff_ne]
      omega
    have h4 : okW ws = false := by
      unfold okW
      rw [decide_eq_false hl]
      rfl
    rw [h3, h4, ite_self]
    try rfl
theorem mv_w {b : List UInt8} (h : okW (spl 32 b) = true) : mvL (b ++ [10]) = mvW (spl 32 b) := by
  obtain ⟨_, h2⟩ := cut_end b
  unfold mvL roL wdsL
  rw [h2]
  revert h
  generalize spl 32 b = ws
  intro h
  rw [hd_k, hd_k, hd_k, hd_k, hd_k]
  unfold okW at h
  rw [Bool.and_eq_true, Bool.and_eq_true, Bool.and_eq_true, Bool.and_eq_true, Bool.and_eq_true, Bool.and_eq_true, decide_eq_true_eq] at h
  obtain ⟨⟨hl, h0, h1, h2, h3⟩, h4, h5⟩ := h
  match ws, hl with
  | [a, b, c, d, e, f], _ =>
    have g0 : a = WM := eq_of_beq h0
    have g1 : b ≠ [] := fun q => by rw [q] at h1; cases h1
    have g2 : c ≠ [] := fun q => by rw [q] at h2; cases h2
    have g3 : d ≠ [] := fun q => by rw [q] at h3; cases h3
    have g4 : inB e = true := h4
    have g5 : inB f = true := h5
    have g6 : e ≠ [] := fun q => by rw [q] at g4; cases g4
    subst g0
    simp [wdN, wdR, WM, g1, g2, g3, g6, mvW, inV_dg g4, inV_dg g5]
def cntR (s : List UInt8) : Nat := (spl 10 s).length - 1
def badW (s : List UInt8) (i : Nat) : Bool := !okW (spl 32 ((spl 10 s).getD i []))
def kR (s : List UInt8) : Nat := fiN (badW s) (cntR s)
def lstR (s : List UInt8) : List UInt8 := (spl 10 s).getD (cntR s) []
def msN (s : List UInt8) (n : Nat) : List Mv := ((spl 10 s).take n).map fun b => mvW (spl 32 b)
def psR (e0 : Int) (k n : Nat) (last : List UInt8) (ms : List Mv) (e : Int) : AV := if e0 != 0 then .tup [.sl 5 [], .i 0, .i e0] else if k < n then .tup [.sl 5 [], .i k, .i 25] else if !(last == []) then .tup [.sl 5 [], .i n, .i 25] else if e != 0 then .tup [.sl 5 [], .i n, .i e] else .tup [.sl 5 (ms.map encMv), .i 0, .i 0]
theorem cnt_lt (s : List UInt8) : cntR s < (spl 10 s).length := by
  have := List.length_pos_iff.2 (spl_ne 10 s)
  unfold cntR
  omega
theorem lns_len (s : List UInt8) : (lns s).length = cntR s + (if lstR s = [] then 0 else 1) := by rw [lns_eq]; exact lnP_len _ (spl_ne 10 s)
theorem lns_get {s : List UInt8} {i : Nat} (h : i < cntR s) : (lns s).getD i [] = (spl 10 s).getD i [] ++ [10] := by
  rw [lns_eq]
  exact lnP_get _ _ (by unfold cntR at h; omega)
theorem lns_bad {s : List UInt8} {i : Nat} (h : i < cntR s) : badL ((lns s).getD i []) = badW s i := by rw [lns_get h, bad_w, badW]
theorem lns_last {s : List UInt8} (h : lstR s ≠ []) : badL ((lns s).getD (cntR s) []) = true := by
  have e : (lns s).getD (cntR s) [] = lstR s := by
    rw [lns_eq]
    exact lnP_last _ (spl_ne 10 s) h
  rw [e]
  apply bad_no
  apply spl_no 10 s
  unfold lstR
  rw [List.getD_eq_getElem?_getD, List.getElem?_eq_getElem (cnt_lt s)]
  exact List.getElem_mem _
theorem k_0 {s : List UInt8} (h : lstR s = []) : (lns s).length = cntR s ∧ k77 s = kR s := by
  have hl : (lns s).length = cntR s := by rw [lns_len, if_pos h]; rfl
  refine ⟨hl, ?_⟩
  unfold k77 kR
  rw [hl]
  exact fi_congr fun j hj => lns_bad hj
theorem k_1 {s : List UInt8} (h : lstR s ≠ []) : (lns s).length = cntR s + 1 ∧ k77 s = kR s := by
  have hl : (lns s).length = cntR s + 1 := by rw [lns_len, if_neg h]
  refine ⟨hl, ?_⟩
  unfold k77
  rw [hl]
  have hle := fi_le (p := badW s) (cntR s)
  refine fi_some (fun j hj => ?_) ?_ (by unfold kR; omega)
  · rw [lns_bad (by unfold kR at hj; omega)]
    exact fi_min hj
  · by_cases q : kR s < cntR s
    · rw [lns_bad q]
      exact fi_hit q
    · rw [show kR s = cntR s by unfold kR at *; omega]
      exact lns_last h
theorem k_le (s : List UInt8) : kR s ≤ cntR s := fi_le _
theorem good_eq (s : List UInt8) : k77 s = (lns s).length ↔ kR s = cntR s ∧ lstR s = [] := by
  have hle := k_le s
  by_cases h : lstR s = []
  · obtain ⟨h1, h2⟩ := k_0 h
    rw [h1, h2]
    exact ⟨fun q => ⟨q, h⟩, fun q => q.1⟩
  · obtain ⟨h1, h2⟩ := k_1 h
    rw [h1, h2]
    exact ⟨fun q => by omega, fun q => absurd q.2 h⟩
theorem ms_eq {s : List UInt8} (h : k77 s = (lns s).length) : (lns s).map mvL = msN s (cntR s) := by
  obtain ⟨h1, h2⟩ := (good_eq s).1 h
  have hl := (k_0 h2).1
  have hc := cnt_lt s
  unfold msN
  refine List.ext_getElem (by rw [List.length_map, List.length_map, List.length_take, hl]; omega) fun i hi hj => ?_
  rw [List.length_map] at hi
  have hi2 : i < cntR s := by omega
  rw [List.getElem_map, List.getElem_map, List.getElem_take]
  have e1 : (lns s)[i] = (spl 10 s)[i] ++ [10] := by
    have := lns_get hi2
    rw [List.getD_eq_getElem?_getD, List.getElem?_eq_getElem hi, List.getD_eq_getElem?_getD, List.getElem?_eq_getElem (by omega)] at this
    exact this
  rw [e1]
  apply mv_w
  have hb : badW s i = false := fi_all (n := cntR s) (by unfold kR at h1; omega) i hi2
  unfold badW at hb
  rw [List.getD_eq_getElem?_getD, List.getElem?_eq_getElem (by omega)] at hb
  simpa using hb
theorem ps_eq (s : List UInt8) (e0 e : Int) : psR e0 (kR s) (cntR s) (lstR s) (msN s (cntR s)) e = psT e0 (k77 s) (lns s).length ((lns s).map mvL) e := by
  unfold psR psT
  by_cases h0 : (e0 != 0) = true
  · rw [if_pos h0, if_pos h0]
  · rw [if_neg h0, if_neg h0]
    have hle := k_le s
    by_cases h : lstR s = []
    · obtain ⟨h1, h2⟩ := k_0 h
      rw [h1, h2]
      by_cases hk : kR s < cntR s
      · rw [if_pos hk, if_pos hk]
      · rw [if_neg hk, if_neg hk, h, show (!(([] : List UInt8) == [])) = false from rfl, if_neg (by decide), ms_eq ((good_eq s).2 ⟨by omega, h⟩)]
    · obtain ⟨h1, h2⟩ := k_1 h
      rw [h1, h2, if_pos (show kR s < cntR s + 1 by omega)]
      by_cases hk : kR s < cntR s
      · rw [if_pos hk]
      · rw [if_neg hk, if_pos (by rw [Bool.not_eq_true', beq_eq_false_iff_ne]; exact h), show kR s = cntR s by omega]
end Go.Proofs.YtimgfogakgakhaaGreatDoor
namespace Go.Proofs.YtimgfogakgakhaaGreatDoor
open Go Go.Av Go.RowKit
def jn (c : UInt8) : List (List UInt8) → List UInt8
  | [] => []
  | [x] => x
  | x :: y :: t => x ++ c :: jn c (y :: t)
def wsM (m : Mv) : List (List UInt8) := [WM, m.fl, m.al, m.ty, Lib.itoa m.day, Lib.itoa m.mi]
def prM (m : Mv) : List UInt8 := jn 32 (wsM m) ++ [10]
def prOK (m : Mv) : Prop := (0 ≤ m.day ∧ m.day < 1000000000) ∧ (0 ≤ m.mi ∧ m.mi < 1000000000) ∧ m.fl.length ≤ 1000 ∧ m.al.length ≤ 1000 ∧ m.ty.length ≤ 1000
theorem prM_6 (m : Mv) : prM m = WM ++ ([32] ++ (m.fl ++ ([32] ++ (m.al ++ ([32] ++ (m.ty ++ ([32] ++ (Lib.itoa m.day ++ ([32] ++ (Lib.itoa m.mi ++ [10])))))))))) := by
  simp [prM, wsM, jn]
theorem prM_len {m : Mv} (h : prOK m) : (prM m).length ≤ 4000 := by
  have h1 := io_len h.1
  have h2 := io_len h.2.1
  obtain ⟨-, -, h3, h4, h5⟩ := h
  rw [prM_6]
  simp only [List.length_append, List.length_cons, List.length_nil, WM]
  omega
theorem flat_len {b : Nat} : ∀ {L : List (List UInt8)}, (∀ x, x ∈ L → x.length ≤ b) → L.flatten.length ≤ b * L.length
  | [], _ => Nat.zero_le _
  | x :: L, h => by
    have h1 := h x (by simp)
    have h2 := flat_len (L := L) (fun y hy => h y (List.mem_cons_of_mem _ hy))
    rw [List.flatten_cons, List.length_append, List.length_cons, Nat.mul_succ]
    omega
theorem join_0 : ∀ L : List (List UInt8), Lib.join L [] = L.flatten
  | [] => rfl
  | [x] => by simp [Lib.join, List.intercalate, List.intersperse]
  | x :: y :: L => by
    have := join_0 (y :: L)
    simp only [Lib.join, List.intercalate, List.intersperse, List.flatten_cons, List.nil_append] at this ⊢
    rw [this]
theorem c137p {m : Mv} (h : prOK m) : PCall Tryz.prog G0 137 [.agg (encMv m)] (.str (prM m)) := by
  have := c137 m Lib.itoa _ (fun _ => rfl) h.1 h.2.1 h.2.2 rfl
  rw [join_6] at this
  rw [prM_6]
  simpa [WM] using this
theorem c144i {n : Int} (h : 0 ≤ n ∧ n < 1000000000) : PCall Tryz.prog G0 144 [.i n] (.str (Lib.itoa n)) := by
  have := c144 n.toNat (by omega)
  rw [show ((n.toNat : Nat) : Int) = n by omega] at this
  rw [Lib.itoa, if_neg (by omega)]
  first
    | exact this
    | (rw [show n.natAbs = n.toNat by omega]; exact this)
def sp110p (pr : Mv → List UInt8) : Nat → List AV → Option AV
  | 137, [.agg [.str f, .str a, .str t, .int _ d, .int _ m]] => some (.str (pr ⟨f, a, t, d, m⟩))
  | n, x => spS n x
def la110p (pr : Mv → List UInt8) (l : List Mv) : LA := {
  pre := [.own 5 9 1, .reno 5 1, .keep [1, 5, 8, 9, 10] [1], .bound 2], post := [.reno 5 1, .keep [1, 5, 8, 9, 10] [1], .bound 2]
  Gh := Nat
  st := fun i => ⟨[(1, .fn (.func 137) [] []), (5, .own 1 (((l.take i).map pr).map encS).length), (8, .sl 5 (l.map encMv)), (9, .i (l.map encMv).length), (10, .i i)], [(1, .buf 9 1 (((l.take i).map pr).map encS))], 2⟩
  ok := fun i => i ≤ (l.map encMv).length
  ms := fun i => (l.map encMv).length - i }
theorem c110p (l : List Mv) (pr : Mv → List UInt8) (hl : l.length ≤ 1000) (hp : ∀ m, m ∈ l → PCall Tryz.prog G0 137 [.agg (encMv m)] (.str (pr m))) : PCall Tryz.prog G0 110 [.sl 5 (l.map encMv), .fn (.func 137) [] []] (.fresh 9 1 ((l.map pr).map encS)) := by
  have key :
   (∃ (g : Nat), g ≤ (List.map encMv l).length ∧ AS.mk [(1, AV.fn (Fn.func 137) [] []), (5, AV.own 1 0), (8, AV.sl 5 (List.map encMv l)), (9, AV.i (↑(List.map encMv l).length : Int)), (10, AV.i 0)] [(1, ABlk.buf 9 1 [])] 2 = AS.mk
   [(1, AV.fn (Fn.func 137) [] []), (5, AV.own 1 (List.map encS (List.map pr (List.take g l))).length), (8, AV.sl 5 (List.map encMv l)), (9, AV.i (↑(List.map encMv l).length : Int)), (10, AV.i (↑g : Int))] [(1, ABlk.buf 9 1 (List.map
   encS (List.map pr (List.take g l))))] 2) ∧ ∀ (g : Nat), g ≤ (List.map encMv l).length → (decide ((↑g : Int) < (↑(List.map encMv l).length : Int)) = true → (0 : Int) ≤ (↑g : Int) ∧ (↑g : Int) < (↑(List.map encMv l).length : Int) ∧
   AV.agg (nthR (List.map encMv l) (↑g : Int).toNat) = AV.agg (encMv (l.getD (↑g : Int).toNat default)) ∧ (List.map encS (List.map pr (List.take g l))).length + 1 ≤ 9223372036854775807 ∧ ((List.map encS (List.map pr (List.take g
   l))).length + 1) * 16 ≤ 140737488355328 ∧ PCall Tryz.prog G0 137 [AV.agg (encMv (l.getD (↑g : Int).toNat default))] (AV.str (pr (Mv.mk (l.getD (↑g : Int).toNat default).fl (l.getD (↑g : Int).toNat default).al (l.getD (↑g :
   Int).toNat default).ty (l.getD (↑g : Int).toNat default).day (l.getD (↑g : Int).toNat default).mi))) ∧ In64 ((↑g : Int) + 1) ∧ ∃ (g' : Nat), g' ≤ (List.map encMv l).length ∧ (List.map encMv l).length - g' < (List.map encMv
   l).length - g ∧ AS.mk [(1, AV.fn (Fn.func 137) [] []), (5, AV.own 1 ((List.map encS (List.map pr (List.take g l))).length + 1)), (8, AV.sl 5 (List.map encMv l)), (9, AV.i (↑(List.map encMv l).length : Int)), (10, AV.i ((↑g : Int) +
   1))] [(1, ABlk.buf 9 1 (List.map encS (List.map pr (List.take g l)) ++ [[AV.str (pr (Mv.mk (l.getD (↑g : Int).toNat default).fl (l.getD (↑g : Int).toNat default).al (l.getD (↑g : Int).toNat default).ty (l.getD (↑g : Int).toNat
   default).day (l.getD (↑g : Int).toNat default).mi))]]))] 2 = AS.mk [(1, AV.fn (Fn.func 137) [] []), (5, AV.own 1 (List.map encS (List.map pr (List.take g' l))).length), (8, AV.sl 5 (List.map encMv l)), (9, AV.i (↑(List.map encMv
   l).length : Int)), (10, AV.i (↑g' : Int))] [(1, ABlk.buf 9 1 (List.map encS (List.map pr (List.take g' l))))] 2) ∧ (decide ((↑g : Int) < (↑(List.map encMv l).length : Int)) = false → AV.fresh 9 1 (List.map encS (List.map pr
   (List.take g l))) = AV.fresh 9 1 (List.map encS (List.map pr l))) := by
    have hlm : (List.map encMv l).length = l.length := List.length_map _
    refine ⟨⟨0, by omega, rfl⟩, fun g hg => ⟨fun hd => ?_, fun hd => ?_⟩⟩
    · rw [hlm] at hd
      have hlt := lt_of_dec hd
      have h2 := take_succ_map encS pr hlt
      have h7 : (List.map encS (List.map pr (List.take g l))).length = g := by rw [List.length_map, List.length_map, List.length_take]; omega
      have h8 : (List.map encS (List.map pr (List.take (g + 1) l))).length = g + 1 := by rw [List.length_map, List.length_map, List.length_take]; omega
      refine ⟨by omega, by omega, congrArg AV.agg (row_at encMv hlt), by omega, by omega, hp (l.getD g default) (getD_mem hlt), by unfold In64; omega, g + 1, by omega, by omega, ?_⟩
      rw [h8, ← h2, h7]
      rfl
    · rw [ge_of_dec hd hg, hlm, List.take_length]
  exact c_of Tryz.f110 (fzB (mkB (sp110p pr) 110 [(4, 1, rdL 5 encMv l 5 true)] (fun i => if i.beq 0 then some (la110p pr l) else none))) (by kernel_rfl) (by kernel_rfl) (by kernel_rfl) (by kernel_rfl) key (by kernel_rfl)
def sp76 (pr : Mv → List UInt8) (l : List Mv) (t : List UInt8) (e : Int) : Nat → List AV → Option AV
  | 42, _ => some (.i e)
  | 110, _ => some (.sl 1 ((l.map pr).map encS))
  | 136, _ => some (.str t)
  | n, x => spS n x
theorem c76p (r : Ru) (l : List Mv) (pr : Mv → List UInt8) (t : List UInt8) (e : Int) (he : PCall Tryz.prog G0 42 [.agg (encRu r), .sl 5 (l.map encMv)] (.i e)) (hl : l.length ≤ 1000) (hp : e = 0 → ∀ m, m ∈ l → PCall Tryz.prog G0 137 [.agg (encMv m)] (.str (pr m))) (ht : e = 0 → t = (l.map pr).flatten) (htl : e = 0 → t.length ≤ 100000000) : PCall Tryz.prog G0 76 [.agg (encRu r), .sl 5 (l.map encMv)] (if e != 0 then .tup [.str [], .i e] else .tup [.str t, .i 0]) := by
  have key :
   PCall Tryz.prog G0 42 [AV.agg (encRu r), AV.sl 5 (List.map encMv l)] (AV.i e) ∧ ((e != 0) = true → AV.tup [AV.str [], AV.i e] = if (e != 0) = true then AV.tup [AV.str [], AV.i e] else AV.tup [AV.str t, AV.i 0]) ∧ ((e != 0) = false
   → PCall Tryz.prog G0 110 [AV.sl 5 (List.map encMv l), AV.fn (Fn.func 137) [] []] (AV.sl 1 (List.map encS (List.map pr l))) ∧ PCall Tryz.prog G0 136 [AV.sl 1 (List.map encS (List.map pr l)), AV.str []] (AV.str t) ∧ AV.tup [AV.str t,
   AV.i 0] = if (e != 0) = true then AV.tup [AV.str [], AV.i e] else AV.tup [AV.str t, AV.i 0]) := by
    refine ⟨he, fun h => ?_, fun h => ?_⟩
    · rw [if_pos h]
    · have h0 : e = 0 := bne_f h
      have ht := ht h0
      have htl := htl h0
      refine ⟨(c110p l pr hl (hp h0)).un, ?_, ?_⟩
      · have := c136 (l.map pr) [] (by rw [List.length_map]; omega) (by rw [join_0, ← ht]; omega)
        rw [join_0, ← ht] at this
        exact this
      · rw [if_neg (by rw [h]; decide)]
  exact c_of Tryz.f76 (fzB (mkB (sp76 pr l t e) 76 [] noLa)) (by kernel_rfl) (by kernel_rfl) (by kernel_rfl) (by kernel_rfl) key (by kernel_rfl)
def sp78 (tx : Int → List UInt8) : Nat → List AV → Option AV
  | 144, [.int _ n] => some (.str (tx n))
  | n, x => spS n x
def la78 (pr : Mv → List UInt8) (l : List Mv) : LA := {
  pre := [.keep [0, 3, 4] [], .bound 1], post := [.keep [0, 3, 4] [], .bound 1]
  Gh := Nat
  st := fun i => ⟨[(0, .sl 5 (l.map encMv)), (3, .str ((l.take i).map pr).flatten), (4, .i i)], [], 1⟩
  ok := fun i => i ≤ l.length
  ms := fun i => l.length - i }
theorem c78 (l : List Mv) (pr : Mv → List UInt8) (tx : Int → List UInt8) (hl : l.length ≤ 1000) (hp : ∀ m, m ∈ l → prOK m) (htx : ∀ n, tx n = Lib.itoa n) (hpr : ∀ m, pr m = prM m) : PCall Tryz.prog G0 78 [.sl 5 (l.map encMv)] (.str (l.map pr).flatten) := by
  have key :
   (∃ (g : Nat), g ≤ l.length ∧ AS.mk [(0, AV.sl 5 (List.map encMv l)), (3, AV.str []), (4, AV.i 0)] [] 1 = AS.mk [(0, AV.sl 5 (List.map encMv l)), (3, AV.str (List.map pr (List.take g l)).flatten), (4, AV.i (↑g : Int))] [] 1) ∧ ∀ (g
   : Nat), g ≤ l.length → (decide ((↑g : Int) < (↑(List.map encMv l).length : Int)) = true → (List.map pr (List.take g l)).flatten.length + 5 ≤ 9223372036854775807 ∧ (0 : Int) ≤ (↑g : Int) ∧ (↑g : Int) < (↑(List.map encMv l).length :
   Int) ∧ ((List.map pr (List.take g l)).flatten ++ [(109 : UInt8), (111 : UInt8), (118 : UInt8), (101 : UInt8), (32 : UInt8)]).length + (l.getD (↑g : Int).toNat default).fl.length ≤ 9223372036854775807 ∧ ((List.map pr (List.take g
   l)).flatten ++ [(109 : UInt8), (111 : UInt8), (118 : UInt8), (101 : UInt8), (32 : UInt8)] ++ (l.getD (↑g : Int).toNat default).fl).length + 1 ≤ 9223372036854775807 ∧ (0 : Int) ≤ (↑g : Int) ∧ (↑g : Int) < (↑(List.map encMv l).length
   : Int) ∧ ((List.map pr (List.take g l)).flatten ++ [(109 : UInt8), (111 : UInt8), (118 : UInt8), (101 : UInt8), (32 : UInt8)] ++ (l.getD (↑g : Int).toNat default).fl ++ [(32 : UInt8)]).length + (l.getD (↑g : Int).toNat
   default).al.length ≤ 9223372036854775807 ∧ ((List.map pr (List.take g l)).flatten ++ [(109 : UInt8), (111 : UInt8), (118 : UInt8), (101 : UInt8), (32 : UInt8)] ++ (l.getD (↑g : Int).toNat default).fl ++ [(32 : UInt8)] ++ (l.getD
   (↑g : Int).toNat default).al).length + 1 ≤ 9223372036854775807 ∧ (0 : Int) ≤ (↑g : Int) ∧ (↑g : Int) < (↑(List.map encMv l).length : Int) ∧ ((List.map pr (List.take g l)).flatten ++ [(109 : UInt8), (111 : UInt8), (118 : UInt8),
   (101 : UInt8), (32 : UInt8)] ++ (l.getD (↑g : Int).toNat default).fl ++ [(32 : UInt8)] ++ (l.getD (↑g : Int).toNat default).al ++ [(32 : UInt8)]).length + (l.getD (↑g : Int).toNat default).ty.length ≤ 9223372036854775807 ∧
   ((List.map pr (List.take g l)).flatten ++ [(109 : UInt8), (111 : UInt8), (118 : UInt8), (101 : UInt8), (32 : UInt8)] ++ (l.getD (↑g : Int).toNat default).fl ++ [(32 : UInt8)] ++ (l.getD (↑g : Int).toNat default).al ++ [(32 :
   UInt8)] ++ (l.getD (↑g : Int).toNat default).ty).length + 1 ≤ 9223372036854775807 ∧ (0 : Int) ≤ (↑g : Int) ∧ (↑g : Int) < (↑(List.map encMv l).length : Int) ∧ ((List.map pr (List.take g l)).flatten ++ [(109 : UInt8), (111 : UInt8),
   (118 : UInt8), (101 : UInt8), (32 : UInt8)] ++ (l.getD (↑g : Int).toNat default).fl ++ [(32 : UInt8)] ++ (l.getD (↑g : Int).toNat default).al ++ [(32 : UInt8)] ++ (l.getD (↑g : Int).toNat default).ty ++ [(32 : UInt8)]).length + (tx
   (l.getD (↑g : Int).toNat default).day).length ≤ 9223372036854775807 ∧ ((List.map pr (List.take g l)).flatten ++ [(109 : UInt8), (111 : UInt8), (118 : UInt8), (101 : UInt8), (32 : UInt8)] ++ (l.getD (↑g : Int).toNat default).fl ++
   [(32 : UInt8)] ++ (l.getD (↑g : Int).toNat default).al ++ [(32 : UInt8)] ++ (l.getD (↑g : Int).toNat default).ty ++ [(32 : UInt8)] ++ tx (l.getD (↑g : Int).toNat default).day).length + 1 ≤ 9223372036854775807 ∧ (0 : Int) ≤ (↑g :
   Int) ∧ (↑g : Int) < (↑(List.map encMv l).length : Int) ∧ ((List.map pr (List.take g l)).flatten ++ [(109 : UInt8), (111 : UInt8), (118 : UInt8), (101 : UInt8), (32 : UInt8)] ++ (l.getD (↑g : Int).toNat default).fl ++ [(32 : UInt8)]
   ++ (l.getD (↑g : Int).toNat default).al ++ [(32 : UInt8)] ++ (l.getD (↑g : Int).toNat default).ty ++ [(32 : UInt8)] ++ tx (l.getD (↑g : Int).toNat default).day ++ [(32 : UInt8)]).length + (tx (l.getD (↑g : Int).toNat
   default).mi).length ≤ 9223372036854775807 ∧ ((List.map pr (List.take g l)).flatten ++ [(109 : UInt8), (111 : UInt8), (118 : UInt8), (101 : UInt8), (32 : UInt8)] ++ (l.getD (↑g : Int).toNat default).fl ++ [(32 : UInt8)] ++ (l.getD
   (↑g : Int).toNat default).al ++ [(32 : UInt8)] ++ (l.getD (↑g : Int).toNat default).ty ++ [(32 : UInt8)] ++ tx (l.getD (↑g : Int).toNat default).day ++ [(32 : UInt8)] ++ tx (l.getD (↑g : Int).toNat default).mi).length + 1 ≤
   9223372036854775807 ∧ nth (nthR (List.map encMv l) (↑g : Int).toNat) 0 = AV.str (l.getD (↑g : Int).toNat default).fl ∧ nth (nthR (List.map encMv l) (↑g : Int).toNat) 1 = AV.str (l.getD (↑g : Int).toNat default).al ∧ nth (nthR
   (List.map encMv l) (↑g : Int).toNat) 2 = AV.str (l.getD (↑g : Int).toNat default).ty ∧ nth (nthR (List.map encMv l) (↑g : Int).toNat) 3 = AV.i (l.getD (↑g : Int).toNat default).day ∧ PCall Tryz.prog G0 144 [AV.i (l.getD (↑g :
   Int).toNat default).day] (AV.str (tx (l.getD (↑g : Int).toNat default).day)) ∧ nth (nthR (List.map encMv l) (↑g : Int).toNat) 4 = AV.i (l.getD (↑g : Int).toNat default).mi ∧ PCall Tryz.prog G0 144 [AV.i (l.getD (↑g : Int).toNat
   default).mi] (AV.str (tx (l.getD (↑g : Int).toNat default).mi)) ∧ In64 ((↑g : Int) + 1) ∧ ∃ (g' : Nat), g' ≤ l.length ∧ l.length - g' < l.length - g ∧ AS.mk [(0, AV.sl 5 (List.map encMv l)), (3, AV.str ((List.map pr (List.take g
   l)).flatten ++ [(109 : UInt8), (111 : UInt8), (118 : UInt8), (101 : UInt8), (32 : UInt8)] ++ (l.getD (↑g : Int).toNat default).fl ++ [(32 : UInt8)] ++ (l.getD (↑g : Int).toNat default).al ++ [(32 : UInt8)] ++ (l.getD (↑g :
   Int).toNat default).ty ++ [(32 : UInt8)] ++ tx (l.getD (↑g : Int).toNat default).day ++ [(32 : UInt8)] ++ tx (l.getD (↑g : Int).toNat default).mi ++ [(10 : UInt8)])), (4, AV.i ((↑g : Int) + 1))] [] 1 = AS.mk [(0, AV.sl 5 (List.map
   encMv l)), (3, AV.str (List.map pr (List.take g' l)).flatten), (4, AV.i (↑g' : Int))] [] 1) ∧ (decide ((↑g : Int) < (↑(List.map encMv l).length : Int)) = false → AV.str (List.map pr (List.take g l)).flatten = AV.str (List.map pr
   l).flatten) := by
    have hlm : (List.map encMv l).length = l.length := List.length_map _
    have : (List.map encMv l).length = l.length := by simp only [List.length_map]
    refine ⟨⟨0, by omega, rfl⟩, fun g hg => ⟨fun hd => ?_, fun hd => ?_⟩⟩
    · have hlt : g < l.length := by have h9 := of_decide_eq_true hd; have h8 := hg; (try simp only [List.length_map] at h8); (try simp only [List.length_map] at h9); omega
      have hm := hp _ (getD_mem hlt)
      have hfl : ((l.take g).map pr).flatten.length ≤ 4000 * 1000 := by
        have h1 := flat_len (b := 4000) (L := (l.take g).map pr) (fun x hx => by
          obtain ⟨m, hm, rfl⟩ := List.mem_map.1 hx
          rw [hpr]
          exact prM_len (hp m (List.mem_of_mem_take hm)))
        rw [List.length_map, List.length_take] at h1
        exact Nat.le_trans h1 (Nat.mul_le_mul_left _ (by omega))
      have hstep : ((l.take (g + 1)).map pr).flatten = ((l.take g).map pr).flatten ++ prM (l.getD g default) := by
        have e : l.take (g + 1) = l.take g ++ [l.getD g default] := by
          rw [List.getD_eq_getElem?_getD, List.getElem?_eq_getElem hlt]
          exact (List.take_append_getElem hlt).symm
        rw [e, List.map_append, List.flatten_append, List.map_singleton, List.flatten_singleton, hpr]
      have h6 := prM_6 (l.getD g default)
      have hl6 := prM_len hm
      rw [h6] at hl6
      simp only [List.length_append, List.length_cons, List.length_nil, WM] at hl6
      have k1 : (tx (l.getD g default).day).length = (Lib.itoa (l.getD g default).day).length := by rw [htx]
      have k2 : (tx (l.getD g default).mi).length = (Lib.itoa (l.getD g default).mi).length := by rw [htx]
      try rw [show (↑g : Int).toNat = g from Int.toNat_natCast g]
      refine ⟨(by (try simp only [List.length_append, List.length_cons, List.length_nil]); omega), (by omega), (by omega), (by (try simp only [List.length_append, List.length_cons, List.length_nil]); omega), (by (try simp only [List.length_append, List.length_cons, List.length_nil]); omega), (by omega), (by omega), (by (try simp only [List.length_append, List.length_cons, List.length_nil]); omega), (by (try simp only [List.length_append, List.length_cons, List.length_nil]); omega), (by omega), (by omega), (by (try simp only [List.length_append, List.length_cons, List.length_nil]); omega), (by (try simp only [List.length_append, List.length_cons, List.length_nil]); omega), (by omega), (by omega), (by (try simp only [List.length_append, List.length_cons, List.length_nil]); omega), (by (try simp only [List.length_append, List.length_cons, List.length_nil]); omega), (by omega), (by omega), (by (try simp only [List.length_append, List.length_cons, List.length_nil]); omega), (by (try simp only [List.length_append, List.length_cons, List.length_nil]); omega), congrArg (fun r => nth r 0) (row_at encMv hlt), congrArg (fun r => nth r 1) (row_at encMv hlt), congrArg (fun r => nth r 2) (row_at encMv hlt), congrArg (fun r => nth r 3) (row_at encMv hlt), ((by rw [htx]; exact c144i hm.1)), congrArg (fun r => nth r 4) (row_at encMv hlt), ((by rw [htx]; exact c144i hm.2.1)), (by unfold In64; omega), ⟨g + 1, by omega, by omega, ?_⟩⟩
      · rw [hstep, h6, htx, htx]
        simp only [List.append_assoc]
        rfl
    · have hge : g = l.length := by have h9 := of_decide_eq_false hd; have h8 := hg; (try simp only [List.length_map] at h8); (try simp only [List.length_map] at h9); omega
      subst hge
      rw [List.take_length]
  exact c_of Tryz.f78 (mkB (sp78 tx) 78 [(5, 6, rdL 5 encMv l 1 false), (5, 13, rdL 5 encMv l 1 false), (5, 20, rdL 5 encMv l 1 false), (5, 27, rdL 5 encMv l 1 false), (5, 35, rdL 5 encMv l 1 false)] (fun i => if i.beq 0 then some (la78 pr l) else none)) (by kernel_rfl) (by kernel_rfl) (by kernel_rfl) (by kernel_rfl) key (by kernel_rfl)
def la80 (l : List Mv) : LA := {
  pre := [.keep [0, 1, 5] [], .bound 1], post := [.keep [0, 1, 5] [], .bound 1]
  Gh := Nat
  st := fun i => ⟨[(0, .sl 5 (l.map encMv)), (1, .sl 5 (l.map encMv)), (5, .i i)], [], 1⟩
  ok := fun i => i ≤ l.length
  ms := fun i => l.length - i }
theorem c80 (l : List Mv) (hl : l.length ≤ 1000) : PCall Tryz.prog G0 80 [.sl 5 (l.map encMv), .sl 5 (l.map encMv)] (.bool true) := by
  have key :
   (((↑(List.map encMv l).length : Int) != (↑(List.map encMv l).length : Int)) = true → AV.bool false = AV.bool true) ∧ (((↑(List.map encMv l).length : Int) != (↑(List.map encMv l).length : Int)) = false → (∃ (g : Nat), g ≤ l.length ∧
   AS.mk [(0, AV.sl 5 (List.map encMv l)), (1, AV.sl 5 (List.map encMv l)), (5, AV.i 0)] [] 1 = AS.mk [(0, AV.sl 5 (List.map encMv l)), (1, AV.sl 5 (List.map encMv l)), (5, AV.i (↑g : Int))] [] 1) ∧ ∀ (g : Nat), g ≤ l.length → (decide
   ((↑g : Int) < (↑(List.map encMv l).length : Int)) = true → (0 : Int) ≤ (↑g : Int) ∧ (↑g : Int) < (↑(List.map encMv l).length : Int) ∧ (0 : Int) ≤ (↑g : Int) ∧ (↑g : Int) < (↑(List.map encMv l).length : Int) ∧ AV.agg (nthR (List.map
   encMv l) (↑g : Int).toNat) = AV.agg (encMv (l.getD (↑g : Int).toNat default)) ∧ AV.agg (nthR (List.map encMv l) (↑g : Int).toNat) = AV.agg (encMv (l.getD (↑g : Int).toNat default)) ∧ ((!((l.getD (↑g : Int).toNat default).fl ==
   (l.getD (↑g : Int).toNat default).fl && true && ((l.getD (↑g : Int).toNat default).al == (l.getD (↑g : Int).toNat default).al && true && ((l.getD (↑g : Int).toNat default).ty == (l.getD (↑g : Int).toNat default).ty && true &&
   ((l.getD (↑g : Int).toNat default).day == (l.getD (↑g : Int).toNat default).day && true && ((l.getD (↑g : Int).toNat default).mi == (l.getD (↑g : Int).toNat default).mi && true && true)))))) = true → AV.bool false = AV.bool true) ∧
   ((!((l.getD (↑g : Int).toNat default).fl == (l.getD (↑g : Int).toNat default).fl && true && ((l.getD (↑g : Int).toNat default).al == (l.getD (↑g : Int).toNat default).al && true && ((l.getD (↑g : Int).toNat default).ty == (l.getD
   (↑g : Int).toNat default).ty && true && ((l.getD (↑g : Int).toNat default).day == (l.getD (↑g : Int).toNat default).day && true && ((l.getD (↑g : Int).toNat default).mi == (l.getD (↑g : Int).toNat default).mi && true && true))))))
   = false → In64 ((↑g : Int) + 1) ∧ ∃ (g' : Nat), g' ≤ l.length ∧ l.length - g' < l.length - g ∧ AS.mk [(0, AV.sl 5 (List.map encMv l)), (1, AV.sl 5 (List.map encMv l)), (5, AV.i ((↑g : Int) + 1))] [] 1 = AS.mk [(0, AV.sl 5 (List.map
   encMv l)), (1, AV.sl 5 (List.map encMv l)), (5, AV.i (↑g' : Int))] [] 1)) ∧ (decide ((↑g : Int) < (↑(List.map encMv l).length : Int)) = false → AV.bool true = AV.bool true)) := by
    have hlm : (List.map encMv l).length = l.length := List.length_map _
    have : (List.map encMv l).length = l.length := by simp only [List.length_map]
    refine ⟨fun h1 => ?_, fun h1 => ⟨⟨0, by omega, rfl⟩, fun g hg => ⟨fun hd => ?_, fun hd => ?_⟩⟩⟩
    · simp_all
    · have hlt : g < l.length := by have h9 := of_decide_eq_true hd; have h8 := hg; (try simp only [List.length_map] at h8); (try simp only [List.length_map] at h9); omega
      try rw [show (↑g : Int).toNat = g from Int.toNat_natCast g]
      refine ⟨(by omega), (by omega), (by omega), (by omega), congrArg AV.agg (row_at encMv hlt), congrArg AV.agg (row_at encMv hlt), fun h2 => ?_, fun h2 => ⟨(by unfold In64; omega), ⟨g + 1, by omega, by omega, rfl⟩⟩⟩
      · simp_all
    · have hge : g = l.length := by have h9 := of_decide_eq_false hd; have h8 := hg; (try simp only [List.length_map] at h8); (try simp only [List.length_map] at h9); omega
      subst hge
      exact rfl
  exact c_of Tryz.f80 (mkB spS 80 [(6, 3, rdL 5 encMv l 5 true), (6, 7, rdL 5 encMv l 5 true)] (fun i => if i.beq 0 then some (la80 l) else none)) (by kernel_rfl) (by kernel_rfl) (by kernel_rfl) (by kernel_rfl) key (by kernel_rfl)
def la81 (l : List Mv) : LA := {
  pre := [.own 3 64 5, .reno 3 1, .keep [3, 6, 7, 8] [1], .bound 2], post := [.reno 3 1, .keep [3, 6, 7, 8] [1], .bound 2]
  Gh := Nat
  st := fun i => ⟨[(3, .own 1 ((l.take i).map encMv).length), (6, .sl 5 (l.map encMv)), (7, .i (l.map encMv).length), (8, .i i)], [(1, .buf 64 5 ((l.take i).map encMv))], 2⟩
  ok := fun i => i ≤ (l.map encMv).length
  ms := fun i => (l.map encMv).length - i }
theorem c81 (l : List Mv) (hl : l.length ≤ 1000) : PCall Tryz.prog G0 81 [.sl 5 (l.map encMv)] (.fresh 64 5 (l.map encMv)) := by
  have key :
   (∃ (g : Nat), g ≤ (List.map encMv l).length ∧ AS.mk [(3, AV.own 1 0), (6, AV.sl 5 (List.map encMv l)), (7, AV.i (↑(List.map encMv l).length : Int)), (8, AV.i 0)] [(1, ABlk.buf 64 5 [])] 2 = AS.mk [(3, AV.own 1 (List.map encMv
   (List.take g l)).length), (6, AV.sl 5 (List.map encMv l)), (7, AV.i (↑(List.map encMv l).length : Int)), (8, AV.i (↑g : Int))] [(1, ABlk.buf 64 5 (List.map encMv (List.take g l)))] 2) ∧ ∀ (g : Nat), g ≤ (List.map encMv l).length →
   (decide ((↑g : Int) < (↑(List.map encMv l).length : Int)) = true → (0 : Int) ≤ (↑g : Int) ∧ (↑g : Int) < (↑(List.map encMv l).length : Int) ∧ AV.agg (nthR (List.map encMv l) (↑g : Int).toNat) = AV.agg (encMv (l.getD (↑g :
   Int).toNat default)) ∧ (List.map encMv (List.take g l)).length + 1 ≤ 9223372036854775807 ∧ ((List.map encMv (List.take g l)).length + 1) * 64 ≤ 140737488355328 ∧ In64 ((↑g : Int) + 1) ∧ ∃ (g' : Nat), g' ≤ (List.map encMv l).length
   ∧ (List.map encMv l).length - g' < (List.map encMv l).length - g ∧ AS.mk [(3, AV.own 1 ((List.map encMv (List.take g l)).length + 1)), (6, AV.sl 5 (List.map encMv l)), (7, AV.i (↑(List.map encMv l).length : Int)), (8, AV.i ((↑g :
   Int) + 1))] [(1, ABlk.buf 64 5 (List.map encMv (List.take g l) ++ [(encMv (l.getD (↑g : Int).toNat default))]))] 2 = AS.mk [(3, AV.own 1 (List.map encMv (List.take g' l)).length), (6, AV.sl 5 (List.map encMv l)), (7, AV.i
   (↑(List.map encMv l).length : Int)), (8, AV.i (↑g' : Int))] [(1, ABlk.buf 64 5 (List.map encMv (List.take g' l)))] 2) ∧ (decide ((↑g : Int) < (↑(List.map encMv l).length : Int)) = false → AV.fresh 64 5 (List.map encMv (List.take g
   l)) = AV.fresh 64 5 (List.map encMv l)) := by
    have hlm : (List.map encMv l).length = l.length := List.length_map _
    have : (List.map encMv l).length = l.length := by simp only [List.length_map]
    refine ⟨⟨0, by omega, rfl⟩, fun g hg => ⟨fun hd => ?_, fun hd => ?_⟩⟩
    · have hlt : g < l.length := by have h9 := of_decide_eq_true hd; have h8 := hg; (try simp only [List.length_map] at h8); (try simp only [List.length_map] at h9); omega
      have : (List.map encMv (List.take g l)).length = g := by simp only [List.length_map, List.length_take]; omega
      try rw [show (↑g : Int).toNat = g from Int.toNat_natCast g]
      refine ⟨(by omega), (by omega), congrArg AV.agg (row_at encMv hlt), (by omega), (by omega), (by unfold In64; omega), ⟨g + 1, by omega, by omega, ?_⟩⟩
      · first | (rw [← take_succ_map _ _ hlt, List.length_append]; rfl) | (rw [← take_succ _ hlt, List.length_append]; rfl)
    · have hge : g = l.length := by have h9 := of_decide_eq_false hd; have h8 := hg; (try simp only [List.length_map] at h8); (try simp only [List.length_map] at h9); omega
      subst hge
      exact (by rw [List.take_length])
  exact c_of Tryz.f81 (fzB (mkB spS 81 [(4, 1, rdL 5 encMv l 5 true)] (fun i => if i.beq 0 then some (la81 l) else none))) (by kernel_rfl) (by kernel_rfl) (by kernel_rfl) (by kernel_rfl) key (by kernel_rfl)
end Go.Proofs.YtimgfogakgakhaaGreatDoor
namespace Go.Proofs.YtimgfogakgakhaaGreatDoor
open Go Go.Av Go.RowKit
structure WdOK (m : Mv) : Prop where
  f : m.fl ≠ [] ∧ (32 : UInt8) ∉ m.fl ∧ (10 : UInt8) ∉ m.fl
  a : m.al ≠ [] ∧ (32 : UInt8) ∉ m.al ∧ (10 : UInt8) ∉ m.al
  t : m.ty ≠ [] ∧ (32 : UInt8) ∉ m.ty ∧ (10 : UInt8) ∉ m.ty
  d : 0 ≤ m.day ∧ m.day < 1000000000
  m : 0 ≤ m.mi ∧ m.mi < 1000000000
def txM (l : List Mv) : List UInt8 := (l.map prM).flatten
end Go.Proofs.YtimgfogakgakhaaGreatDoor
namespace Go.Proofs.YtimgfogakgakhaaGreatDoor
open Go Go.Av Go.RowKit
def rdW : List AV → Option AV
  | [.elt _ rows i _] => some (.str ((dS rows).getD i []))
  | _ => none
theorem rd_w {ws : List (List UInt8)} {i : Nat} (h : i < ws.length) : nth (nthR (ws.map encS) i) 0 = AV.str ((dS (ws.map encS)).getD i []) := by
  rw [dS_e]
  exact congrArg (fun r => nth r 0) (row_at encS h)
def e79 (r : Ru) (s : List UInt8) : Int := sFirst [chkR r, sWhen (decide ((s.length : Int) > 4096)) 26]
def sp79 (r : Ru) (e : Int) : Nat → List AV → Option AV
  | 25, _ => some (.i (chkR r))
  | 36, _ => some (.i e)
  | 145, [.str s] => some (.tup [.i (dgV s), .bool (inB s)])
  | 82, [.str s, .int _ c] => match c.toNat.beq 10 with
    | true => some (.sl 1 ((spl 10 s).map encS))
    | false => some (.sl 1 ((spl 32 s).map encS))
  | n, x => spT n x
def la79 (r : Ru) (s : List UInt8) : LA := {
  pre := [.own 10 64 5, .reno 10 1, .keep [2, 8, 9, 10, 11] [1], .bound 2], post := [.reno 10 1, .keep [2, 8, 9, 10, 11] [1], .bound 2]
  Gh := Nat
  st := fun i => ⟨[(2, .elt 18 [encRu r] 0 0), (8, .sl 1 ((spl 10 s).map encS)), (9, .i (((spl 10 s).map encS).length - 1)), (10, .own 1 ((msN s i).map encMv).length), (11, .i i)], [(1, .buf 64 5 ((msN s i).map encMv))], 2⟩
  ok := fun i => i ≤ cntR s ∧ ∀ j, j < i → badW s j = false
  ms := fun i => cntR s - i }
def g79 : Nat → List GS := fun i => if i.beq 3 then [.nil 4 5] else if i.beq 12 then [.nil 4 5] else if i.beq 16 then [.nil 4 5] else if i.beq 19 then [.nil 4 5] else if i.beq 22 then [.nil 4 5] else []
def bad1 (n : Int) (w0 w1 w2 w3 : List UInt8) : Bool := if (if (if (if (n != 6) = true then true else !(w0 == WM)) = true then true else w1 == []) = true then true else w2 == []) = true then true else w3 == []
theorem bad1_e (ws : List (List UInt8)) : bad1 (((ws.map encS).length : Nat) : Int) ((dS (ws.map encS)).getD 0 []) ((dS (ws.map encS)).getD 1 []) ((dS (ws.map encS)).getD 2 []) ((dS (ws.map encS)).getD 3 []) = !(decide (ws.length = 6) && (ws.getD 0 [] == WM && (!(ws.getD 1 [] == []) && (!(ws.getD 2 [] == []) && !(ws.getD 3 [] == []))))) := by
  rw [dS_e, List.length_map]
  unfold bad1
  have e : ((ws.length : Int) != 6) = !decide (ws.length = 6) := by
    by_cases q : ws.length = 6
    · rw [q]; rfl
    · rw [decide_eq_false q, Bool.not_false, bne_iff_ne]
      omega
  rw [e]
  generalize decide (ws.length = 6) = a
  generalize (ws.getD 0 [] == WM) = b
  generalize (ws.getD 1 [] == []) = c
  generalize (ws.getD 2 [] == []) = d
  generalize (ws.getD 3 [] == []) = f
  cases a <;> cases b <;> cases c <;> cases d <;> cases f <;> rfl
theorem ok_1 {ws : List (List UInt8)} (h : bad1 (((ws.map encS).length : Nat) : Int) ((dS (ws.map encS)).getD 0 []) ((dS (ws.map encS)).getD 1 []) ((dS (ws.map encS)).getD 2 []) ((dS (ws.map encS)).getD 3 []) = true) : (!okW ws) = true := by
  rw [bad1_e] at h
  unfold okW
  revert h
  generalize (decide (ws.length = 6) && (ws.getD 0 [] == WM && (!(ws.getD 1 [] == []) && (!(ws.getD 2 [] == []) && !(ws.getD 3 [] == []))))) = a
  cases a
  · exact fun _ => rfl
  · exact fun h => by cases h
def bad2 (w4 w5 : List UInt8) : Bool := if (!inB w4) = true then true else !inB w5
theorem ok_2 {ws : List (List UInt8)} (h : bad2 ((dS (ws.map encS)).getD 4 []) ((dS (ws.map encS)).getD 5 []) = true) : (!okW ws) = true := by
  rw [dS_e] at h
  unfold bad2 at h
  unfold okW
  revert h
  generalize (decide (ws.length = 6) && (ws.getD 0 [] == WM && (!(ws.getD 1 [] == []) && (!(ws.getD 2 [] == []) && !(ws.getD 3 [] == []))))) = a
  generalize inB (ws.getD 4 []) = b
  generalize inB (ws.getD 5 []) = c
  cases a <;> cases b <;> cases c <;> intro h <;> first | rfl | cases h
theorem ok_3 {ws : List (List UInt8)} (h1 : bad1 (((ws.map encS).length : Nat) : Int) ((dS (ws.map encS)).getD 0 []) ((dS (ws.map encS)).getD 1 []) ((dS (ws.map encS)).getD 2 []) ((dS (ws.map encS)).getD 3 []) = false) (h : bad2 ((dS (ws.map encS)).getD 4 []) ((dS (ws.map encS)).getD 5 []) = false) : (!okW ws) = false := by
  rw [bad1_e] at h1
  rw [dS_e] at h
  unfold bad2 at h
  unfold okW
  revert h h1
  generalize (decide (ws.length = 6) && (ws.getD 0 [] == WM && (!(ws.getD 1 [] == []) && (!(ws.getD 2 [] == []) && !(ws.getD 3 [] == []))))) = a
  generalize inB (ws.getD 4 []) = b
  generalize inB (ws.getD 5 []) = c
  cases a <;> cases b <;> cases c <;> intro h1 h <;> first | rfl | (exfalso; revert h h1; decide)
theorem len6 {ws : List (List UInt8)} (h : bad1 (((ws.map encS).length : Nat) : Int) ((dS (ws.map encS)).getD 0 []) ((dS (ws.map encS)).getD 1 []) ((dS (ws.map encS)).getD 2 []) ((dS (ws.map encS)).getD 3 []) = false) : (ws.map encS).length = 6 := by
  rw [bad1_e] at h
  by_cases q : ws.length = 6
  · rw [List.length_map, q]
  · rw [decide_eq_false q] at h
    cases h
theorem nor_l {a b : Bool} (h : (!if a = true then true else b) = true) : (!a) = true := by
  cases a
  · rfl
  · cases h
theorem l6 {n : Nat} {k : Int} (hk : k < 6) (h : (!((n : Int) != 6)) = true) : k < (n : Int) := by
  have e : n = 6 := by
    by_cases q : n = 6
    · exact q
    · rw [show ((n : Int) != 6) = true by rw [bne_iff_ne]; omega] at h
      cases h
  omega
theorem l6n {ws : List (List UInt8)} {i : Nat} (hk : i < 6) (h : (!((((ws.map encS).length : Nat) : Int) != 6)) = true) : i < ws.length := by
  have h1 := l6 (k := i) (by omega) h
  rw [List.length_map] at h1
  omega
theorem ms_step {s : List UInt8} {g : Nat} (h : g < cntR s) : msN s (g + 1) = msN s g ++ [mvW (spl 32 ((spl 10 s).getD g []))] := by
  unfold msN
  have hc := cnt_lt s
  have e : (spl 10 s).take (g + 1) = (spl 10 s).take g ++ [(spl 10 s).getD g []] := take_one1 (by omega)
  rw [e, List.map_append]
  rfl
theorem gd_len {L : List (List UInt8)} {b : Nat} (h : ∀ x, x ∈ L → x.length ≤ b) (i : Nat) : (L.getD i []).length ≤ b := by
  by_cases q : i < L.length
  · exact h _ (getD_mem q)
  · rw [List.getD_eq_getElem?_getD, List.getElem?_eq_none (by omega)]
    exact Nat.zero_le _
theorem last_nil {s : List UInt8} (hMl : (List.map encS (spl 10 s)).length = (spl 10 s).length) (hcnt : cntR s = (spl 10 s).length - 1) (h : (!(spl 10 s).getD (((List.map encS (spl 10 s)).length : Int) - 1).toNat [] == []) = false) : lstR s = [] := by
  have hc := cnt_lt s
  rw [show (((List.map encS (spl 10 s)).length : Int) - 1).toNat = cntR s by omega] at h
  have h : (!(lstR s == [])) = false := h
  cases q : (lstR s == []) with
  | true => exact eq_of_beq q
  | false => rw [q] at h; cases h
theorem ms_len {s : List UInt8} {g : Nat} (h : g ≤ cntR s) : (msN s g).length = g := by
  have hc := cnt_lt s
  unfold msN
  rw [List.length_map, List.length_take]
  omega
theorem c79 (r : Ru) (s : List UInt8) (e : Int) (ht : r.ts.length ≤ 1000) (hs : r.rs.length ≤ 1000) (hn : ∀ t, t ∈ r.ts → t.n.length ≤ 1000) (hm : ∀ x, x ∈ r.rs → x.length ≤ 1000) (hl : s.length ≤ 10000) (he : e79 r s = 0 → kR s = cntR s → lstR s = [] → PCall Tryz.prog G0 36 [.agg (encRu r), .sl 5 ((msN s (cntR s)).map encMv)] (.i e)) : PCall Tryz.prog G0 79 [.agg (encRu r), .str s] (psR (e79 r s) (kR s) (cntR s) (lstR s) (msN s (cntR s)) e) := by
  have key :
   PCall Tryz.prog G0 25 [AV.agg (encRu r)] (AV.i (chkR r)) ∧ PCall Tryz.prog G0 37 [AV.bool (decide ((↑s.length : Int) > 4096)), AV.i 26] (AV.i (sWhen (decide ((↑s.length : Int) > 4096)) (26 : Int))) ∧ PCall Tryz.prog G0 24 [AV.sl 1
   [[AV.i (chkR r)], [AV.i (sWhen (decide ((↑s.length : Int) > 4096)) (26 : Int))]]] (AV.i (sFirst [hdI [AV.i (chkR r)], hdI [AV.i (sWhen (decide ((↑s.length : Int) > 4096)) (26 : Int))]])) ∧ ((sFirst [hdI [AV.i (chkR r)], hdI [AV.i
   (sWhen (decide ((↑s.length : Int) > 4096)) (26 : Int))]] != 0) = true → AV.tup [AV.sl 5 [], AV.i 0, AV.i (sFirst [hdI [AV.i (chkR r)], hdI [AV.i (sWhen (decide ((↑s.length : Int) > 4096)) (26 : Int))]])] = psR (e79 r s) (kR s)
   (cntR s) (lstR s) (msN s (cntR s)) e) ∧ ((sFirst [hdI [AV.i (chkR r)], hdI [AV.i (sWhen (decide ((↑s.length : Int) > 4096)) (26 : Int))]] != 0) = false → PCall Tryz.prog G0 82 [AV.str s, AV.int IntKind.u8 (10 : Int)] (AV.sl 1
   (List.map encS (spl (10 : UInt8) s))) ∧ In64 ((↑(List.map encS (spl (10 : UInt8) s)).length : Int) - 1) ∧ (∃ (g : Nat), (g ≤ cntR s ∧ ∀ (j : Nat), j < g → badW s j = false) ∧ AS.mk [(2, AV.elt 18 [(encRu r)] 0 0), (8, AV.sl 1
   (List.map encS (spl (10 : UInt8) s))), (9, AV.i ((↑(List.map encS (spl (10 : UInt8) s)).length : Int) - 1)), (10, AV.own 1 0), (11, AV.i 0)] [(1, ABlk.buf 64 5 [])] 2 = AS.mk [(2, AV.elt 18 [(encRu r)] 0 0), (8, AV.sl 1 (List.map
   encS (spl (10 : UInt8) s))), (9, AV.i ((↑(List.map encS (spl (10 : UInt8) s)).length : Int) - 1)), (10, AV.own 1 (List.map encMv (msN s g)).length), (11, AV.i (↑g : Int))] [(1, ABlk.buf 64 5 (List.map encMv (msN s g)))] 2) ∧ ∀ (g :
   Nat), (g ≤ cntR s ∧ ∀ (j : Nat), j < g → badW s j = false) → (decide ((↑g : Int) < (↑(List.map encS (spl (10 : UInt8) s)).length : Int) - 1) = true → (0 : Int) ≤ (↑g : Int) ∧ (↑g : Int) < (↑(List.map encS (spl (10 : UInt8)
   s)).length : Int) ∧ nth (nthR (List.map encS (spl (10 : UInt8) s)) (↑g : Int).toNat) 0 = AV.str ((spl (10 : UInt8) s).getD (↑g : Int).toNat []) ∧ PCall Tryz.prog G0 82 [AV.str ((spl (10 : UInt8) s).getD (↑g : Int).toNat []), AV.int
   IntKind.u8 (32 : Int)] (AV.sl 1 (List.map encS (spl (32 : UInt8) ((spl (10 : UInt8) s).getD (↑g : Int).toNat [])))) ∧ ((!(↑(List.map encS (spl (32 : UInt8) ((spl (10 : UInt8) s).getD (↑g : Int).toNat []))).length : Int) != 6) =
   true → (!(↑(List.map encS (spl (32 : UInt8) ((spl (10 : UInt8) s).getD (↑g : Int).toNat []))).length : Int) != 6) = true) ∧ ((!(↑(List.map encS (spl (32 : UInt8) ((spl (10 : UInt8) s).getD (↑g : Int).toNat []))).length : Int) != 6)
   = true → (0 : Int) ≤ 0) ∧ ((!(↑(List.map encS (spl (32 : UInt8) ((spl (10 : UInt8) s).getD (↑g : Int).toNat []))).length : Int) != 6) = true → (0 : Int) < (↑(List.map encS (spl (32 : UInt8) ((spl (10 : UInt8) s).getD (↑g :
   Int).toNat []))).length : Int)) ∧ ((!(↑(List.map encS (spl (32 : UInt8) ((spl (10 : UInt8) s).getD (↑g : Int).toNat []))).length : Int) != 6) = true → (!(↑(List.map encS (spl (32 : UInt8) ((spl (10 : UInt8) s).getD (↑g : Int).toNat
   []))).length : Int) != 6) = true) ∧ ((!(↑(List.map encS (spl (32 : UInt8) ((spl (10 : UInt8) s).getD (↑g : Int).toNat []))).length : Int) != 6) = true → (!(↑(List.map encS (spl (32 : UInt8) ((spl (10 : UInt8) s).getD (↑g :
   Int).toNat []))).length : Int) != 6) = true) ∧ (((↑(List.map encS (spl (32 : UInt8) ((spl (10 : UInt8) s).getD (↑g : Int).toNat []))).length : Int) != 6) = false → (!(↑(List.map encS (spl (32 : UInt8) ((spl (10 : UInt8) s).getD (↑g
   : Int).toNat []))).length : Int) != 6) = true) ∧ ((!if ((↑(List.map encS (spl (32 : UInt8) ((spl (10 : UInt8) s).getD (↑g : Int).toNat []))).length : Int) != 6) = true then true else !(dS (List.map encS (spl (32 : UInt8) ((spl (10
   : UInt8) s).getD (↑g : Int).toNat [])))).getD 0 [] == [(109 : UInt8), (111 : UInt8), (118 : UInt8), (101 : UInt8)]) = true → (!if ((↑(List.map encS (spl (32 : UInt8) ((spl (10 : UInt8) s).getD (↑g : Int).toNat []))).length : Int)
   != 6) = true then true else !(dS (List.map encS (spl (32 : UInt8) ((spl (10 : UInt8) s).getD (↑g : Int).toNat [])))).getD 0 [] == [(109 : UInt8), (111 : UInt8), (118 : UInt8), (101 : UInt8)]) = true) ∧ ((!if ((↑(List.map encS (spl
   (32 : UInt8) ((spl (10 : UInt8) s).getD (↑g : Int).toNat []))).length : Int) != 6) = true then true else !(dS (List.map encS (spl (32 : UInt8) ((spl (10 : UInt8) s).getD (↑g : Int).toNat [])))).getD 0 [] == [(109 : UInt8), (111 :
   UInt8), (118 : UInt8), (101 : UInt8)]) = true → (0 : Int) ≤ 1) ∧ ((!if ((↑(List.map encS (spl (32 : UInt8) ((spl (10 : UInt8) s).getD (↑g : Int).toNat []))).length : Int) != 6) = true then true else !(dS (List.map encS (spl (32 :
   UInt8) ((spl (10 : UInt8) s).getD (↑g : Int).toNat [])))).getD 0 [] == [(109 : UInt8), (111 : UInt8), (118 : UInt8), (101 : UInt8)]) = true → (1 : Int) < (↑(List.map encS (spl (32 : UInt8) ((spl (10 : UInt8) s).getD (↑g :
   Int).toNat []))).length : Int)) ∧ ((!if ((↑(List.map encS (spl (32 : UInt8) ((spl (10 : UInt8) s).getD (↑g : Int).toNat []))).length : Int) != 6) = true then true else !(dS (List.map encS (spl (32 : UInt8) ((spl (10 : UInt8)
   s).getD (↑g : Int).toNat [])))).getD 0 [] == [(109 : UInt8), (111 : UInt8), (118 : UInt8), (101 : UInt8)]) = true → (!if ((↑(List.map encS (spl (32 : UInt8) ((spl (10 : UInt8) s).getD (↑g : Int).toNat []))).length : Int) != 6) =
   true then true else !(dS (List.map encS (spl (32 : UInt8) ((spl (10 : UInt8) s).getD (↑g : Int).toNat [])))).getD 0 [] == [(109 : UInt8), (111 : UInt8), (118 : UInt8), (101 : UInt8)]) = true) ∧ ((!if ((↑(List.map encS (spl (32 :
   UInt8) ((spl (10 : UInt8) s).getD (↑g : Int).toNat []))).length : Int) != 6) = true then true else !(dS (List.map encS (spl (32 : UInt8) ((spl (10 : UInt8) s).getD (↑g : Int).toNat [])))).getD 0 [] == [(109 : UInt8), (111 : UInt8),
   (118 : UInt8), (101 : UInt8)]) = true → (!if ((↑(List.map encS (spl (32 : UInt8) ((spl (10 : UInt8) s).getD (↑g : Int).toNat []))).length : Int) != 6) = true then true else !(dS (List.map encS (spl (32 : UInt8) ((spl (10 : UInt8)
   s).getD (↑g : Int).toNat [])))).getD 0 [] == [(109 : UInt8), (111 : UInt8), (118 : UInt8), (101 : UInt8)]) = true) ∧ ((if ((↑(List.map encS (spl (32 : UInt8) ((spl (10 : UInt8) s).getD (↑g : Int).toNat []))).length : Int) != 6) =
   true then true else !(dS (List.map encS (spl (32 : UInt8) ((spl (10 : UInt8) s).getD (↑g : Int).toNat [])))).getD 0 [] == [(109 : UInt8), (111 : UInt8), (118 : UInt8), (101 : UInt8)]) = false → (!if ((↑(List.map encS (spl (32 :
   UInt8) ((spl (10 : UInt8) s).getD (↑g : Int).toNat []))).length : Int) != 6) = true then true else !(dS (List.map encS (spl (32 : UInt8) ((spl (10 : UInt8) s).getD (↑g : Int).toNat [])))).getD 0 [] == [(109 : UInt8), (111 : UInt8),
   (118 : UInt8), (101 : UInt8)]) = true) ∧ ((!if (if ((↑(List.map encS (spl (32 : UInt8) ((spl (10 : UInt8) s).getD (↑g : Int).toNat []))).length : Int) != 6) = true then true else !(dS (List.map encS (spl (32 : UInt8) ((spl (10 :
   UInt8) s).getD (↑g : Int).toNat [])))).getD 0 [] == [(109 : UInt8), (111 : UInt8), (118 : UInt8), (101 : UInt8)]) = true then true else (dS (List.map encS (spl (32 : UInt8) ((spl (10 : UInt8) s).getD (↑g : Int).toNat [])))).getD 1
   [] == []) = true → (!if (if ((↑(List.map encS (spl (32 : UInt8) ((spl (10 : UInt8) s).getD (↑g : Int).toNat []))).length : Int) != 6) = true then true else !(dS (List.map encS (spl (32 : UInt8) ((spl (10 : UInt8) s).getD (↑g :
   Int).toNat [])))).getD 0 [] == [(109 : UInt8), (111 : UInt8), (118 : UInt8), (101 : UInt8)]) = true then true else (dS (List.map encS (spl (32 : UInt8) ((spl (10 : UInt8) s).getD (↑g : Int).toNat [])))).getD 1 [] == []) = true) ∧
   ((!if (if ((↑(List.map encS (spl (32 : UInt8) ((spl (10 : UInt8) s).getD (↑g : Int).toNat []))).length : Int) != 6) = true then true else !(dS (List.map encS (spl (32 : UInt8) ((spl (10 : UInt8) s).getD (↑g : Int).toNat [])))).getD
   0 [] == [(109 : UInt8), (111 : UInt8), (118 : UInt8), (101 : UInt8)]) = true then true else (dS (List.map encS (spl (32 : UInt8) ((spl (10 : UInt8) s).getD (↑g : Int).toNat [])))).getD 1 [] == []) = true → (0 : Int) ≤ 2) ∧ ((!if
   (if ((↑(List.map encS (spl (32 : UInt8) ((spl (10 : UInt8) s).getD (↑g : Int).toNat []))).length : Int) != 6) = true then true else !(dS (List.map encS (spl (32 : UInt8) ((spl (10 : UInt8) s).getD (↑g : Int).toNat [])))).getD 0 []
   == [(109 : UInt8), (111 : UInt8), (118 : UInt8), (101 : UInt8)]) = true then true else (dS (List.map encS (spl (32 : UInt8) ((spl (10 : UInt8) s).getD (↑g : Int).toNat [])))).getD 1 [] == []) = true → (2 : Int) < (↑(List.map encS
   (spl (32 : UInt8) ((spl (10 : UInt8) s).getD (↑g : Int).toNat []))).length : Int)) ∧ ((!if (if ((↑(List.map encS (spl (32 : UInt8) ((spl (10 : UInt8) s).getD (↑g : Int).toNat []))).length : Int) != 6) = true then true else !(dS
   (List.map encS (spl (32 : UInt8) ((spl (10 : UInt8) s).getD (↑g : Int).toNat [])))).getD 0 [] == [(109 : UInt8), (111 : UInt8), (118 : UInt8), (101 : UInt8)]) = true then true else (dS (List.map encS (spl (32 : UInt8) ((spl (10 :
   UInt8) s).getD (↑g : Int).toNat [])))).getD 1 [] == []) = true → (!if (if ((↑(List.map encS (spl (32 : UInt8) ((spl (10 : UInt8) s).getD (↑g : Int).toNat []))).length : Int) != 6) = true then true else !(dS (List.map encS (spl (32
   : UInt8) ((spl (10 : UInt8) s).getD (↑g : Int).toNat [])))).getD 0 [] == [(109 : UInt8), (111 : UInt8), (118 : UInt8), (101 : UInt8)]) = true then true else (dS (List.map encS (spl (32 : UInt8) ((spl (10 : UInt8) s).getD (↑g :
   Int).toNat [])))).getD 1 [] == []) = true) ∧ ((!if (if ((↑(List.map encS (spl (32 : UInt8) ((spl (10 : UInt8) s).getD (↑g : Int).toNat []))).length : Int) != 6) = true then true else !(dS (List.map encS (spl (32 : UInt8) ((spl (10
   : UInt8) s).getD (↑g : Int).toNat [])))).getD 0 [] == [(109 : UInt8), (111 : UInt8), (118 : UInt8), (101 : UInt8)]) = true then true else (dS (List.map encS (spl (32 : UInt8) ((spl (10 : UInt8) s).getD (↑g : Int).toNat [])))).getD
   1 [] == []) = true → (!if (if ((↑(List.map encS (spl (32 : UInt8) ((spl (10 : UInt8) s).getD (↑g : Int).toNat []))).length : Int) != 6) = true then true else !(dS (List.map encS (spl (32 : UInt8) ((spl (10 : UInt8) s).getD (↑g :
   Int).toNat [])))).getD 0 [] == [(109 : UInt8), (111 : UInt8), (118 : UInt8), (101 : UInt8)]) = true then true else (dS (List.map encS (spl (32 : UInt8) ((spl (10 : UInt8) s).getD (↑g : Int).toNat [])))).getD 1 [] == []) = true) ∧
   ((if (if ((↑(List.map encS (spl (32 : UInt8) ((spl (10 : UInt8) s).getD (↑g : Int).toNat []))).length : Int) != 6) = true then true else !(dS (List.map encS (spl (32 : UInt8) ((spl (10 : UInt8) s).getD (↑g : Int).toNat [])))).getD
   0 [] == [(109 : UInt8), (111 : UInt8), (118 : UInt8), (101 : UInt8)]) = true then true else (dS (List.map encS (spl (32 : UInt8) ((spl (10 : UInt8) s).getD (↑g : Int).toNat [])))).getD 1 [] == []) = false → (!if (if ((↑(List.map
   encS (spl (32 : UInt8) ((spl (10 : UInt8) s).getD (↑g : Int).toNat []))).length : Int) != 6) = true then true else !(dS (List.map encS (spl (32 : UInt8) ((spl (10 : UInt8) s).getD (↑g : Int).toNat [])))).getD 0 [] == [(109 :
   UInt8), (111 : UInt8), (118 : UInt8), (101 : UInt8)]) = true then true else (dS (List.map encS (spl (32 : UInt8) ((spl (10 : UInt8) s).getD (↑g : Int).toNat [])))).getD 1 [] == []) = true) ∧ ((!if (if (if ((↑(List.map encS (spl (32
   : UInt8) ((spl (10 : UInt8) s).getD (↑g : Int).toNat []))).length : Int) != 6) = true then true else !(dS (List.map encS (spl (32 : UInt8) ((spl (10 : UInt8) s).getD (↑g : Int).toNat [])))).getD 0 [] == [(109 : UInt8), (111 :
   UInt8), (118 : UInt8), (101 : UInt8)]) = true then true else (dS (List.map encS (spl (32 : UInt8) ((spl (10 : UInt8) s).getD (↑g : Int).toNat [])))).getD 1 [] == []) = true then true else (dS (List.map encS (spl (32 : UInt8) ((spl
   (10 : UInt8) s).getD (↑g : Int).toNat [])))).getD 2 [] == []) = true → (!if (if (if ((↑(List.map encS (spl (32 : UInt8) ((spl (10 : UInt8) s).getD (↑g : Int).toNat []))).length : Int) != 6) = true then true else !(dS (List.map encS
   (spl (32 : UInt8) ((spl (10 : UInt8) s).getD (↑g : Int).toNat [])))).getD 0 [] == [(109 : UInt8), (111 : UInt8), (118 : UInt8), (101 : UInt8)]) = true then true else (dS (List.map encS (spl (32 : UInt8) ((spl (10 : UInt8) s).getD
   (↑g : Int).toNat [])))).getD 1 [] == []) = true then true else (dS (List.map encS (spl (32 : UInt8) ((spl (10 : UInt8) s).getD (↑g : Int).toNat [])))).getD 2 [] == []) = true) ∧ ((!if (if (if ((↑(List.map encS (spl (32 : UInt8)
   ((spl (10 : UInt8) s).getD (↑g : Int).toNat []))).length : Int) != 6) = true then true else !(dS (List.map encS (spl (32 : UInt8) ((spl (10 : UInt8) s).getD (↑g : Int).toNat [])))).getD 0 [] == [(109 : UInt8), (111 : UInt8), (118 :
   UInt8), (101 : UInt8)]) = true then true else (dS (List.map encS (spl (32 : UInt8) ((spl (10 : UInt8) s).getD (↑g : Int).toNat [])))).getD 1 [] == []) = true then true else (dS (List.map encS (spl (32 : UInt8) ((spl (10 : UInt8)
   s).getD (↑g : Int).toNat [])))).getD 2 [] == []) = true → (0 : Int) ≤ 3) ∧ ((!if (if (if ((↑(List.map encS (spl (32 : UInt8) ((spl (10 : UInt8) s).getD (↑g : Int).toNat []))).length : Int) != 6) = true then true else !(dS (List.map
   encS (spl (32 : UInt8) ((spl (10 : UInt8) s).getD (↑g : Int).toNat [])))).getD 0 [] == [(109 : UInt8), (111 : UInt8), (118 : UInt8), (101 : UInt8)]) = true then true else (dS (List.map encS (spl (32 : UInt8) ((spl (10 : UInt8)
   s).getD (↑g : Int).toNat [])))).getD 1 [] == []) = true then true else (dS (List.map encS (spl (32 : UInt8) ((spl (10 : UInt8) s).getD (↑g : Int).toNat [])))).getD 2 [] == []) = true → (3 : Int) < (↑(List.map encS (spl (32 : UInt8)
   ((spl (10 : UInt8) s).getD (↑g : Int).toNat []))).length : Int)) ∧ ((!if (if (if ((↑(List.map encS (spl (32 : UInt8) ((spl (10 : UInt8) s).getD (↑g : Int).toNat []))).length : Int) != 6) = true then true else !(dS (List.map encS
   (spl (32 : UInt8) ((spl (10 : UInt8) s).getD (↑g : Int).toNat [])))).getD 0 [] == [(109 : UInt8), (111 : UInt8), (118 : UInt8), (101 : UInt8)]) = true then true else (dS (List.map encS (spl (32 : UInt8) ((spl (10 : UInt8) s).getD
   (↑g : Int).toNat [])))).getD 1 [] == []) = true then true else (dS (List.map encS (spl (32 : UInt8) ((spl (10 : UInt8) s).getD (↑g : Int).toNat [])))).getD 2 [] == []) = true → (!if (if (if ((↑(List.map encS (spl (32 : UInt8) ((spl
   (10 : UInt8) s).getD (↑g : Int).toNat []))).length : Int) != 6) = true then true else !(dS (List.map encS (spl (32 : UInt8) ((spl (10 : UInt8) s).getD (↑g : Int).toNat [])))).getD 0 [] == [(109 : UInt8), (111 : UInt8), (118 :
   UInt8), (101 : UInt8)]) = true then true else (dS (List.map encS (spl (32 : UInt8) ((spl (10 : UInt8) s).getD (↑g : Int).toNat [])))).getD 1 [] == []) = true then true else (dS (List.map encS (spl (32 : UInt8) ((spl (10 : UInt8)
   s).getD (↑g : Int).toNat [])))).getD 2 [] == []) = true) ∧ ((!if (if (if ((↑(List.map encS (spl (32 : UInt8) ((spl (10 : UInt8) s).getD (↑g : Int).toNat []))).length : Int) != 6) = true then true else !(dS (List.map encS (spl (32 :
   UInt8) ((spl (10 : UInt8) s).getD (↑g : Int).toNat [])))).getD 0 [] == [(109 : UInt8), (111 : UInt8), (118 : UInt8), (101 : UInt8)]) = true then true else (dS (List.map encS (spl (32 : UInt8) ((spl (10 : UInt8) s).getD (↑g :
   Int).toNat [])))).getD 1 [] == []) = true then true else (dS (List.map encS (spl (32 : UInt8) ((spl (10 : UInt8) s).getD (↑g : Int).toNat [])))).getD 2 [] == []) = true → (!if (if (if ((↑(List.map encS (spl (32 : UInt8) ((spl (10 :
   UInt8) s).getD (↑g : Int).toNat []))).length : Int) != 6) = true then true else !(dS (List.map encS (spl (32 : UInt8) ((spl (10 : UInt8) s).getD (↑g : Int).toNat [])))).getD 0 [] == [(109 : UInt8), (111 : UInt8), (118 : UInt8),
   (101 : UInt8)]) = true then true else (dS (List.map encS (spl (32 : UInt8) ((spl (10 : UInt8) s).getD (↑g : Int).toNat [])))).getD 1 [] == []) = true then true else (dS (List.map encS (spl (32 : UInt8) ((spl (10 : UInt8) s).getD
   (↑g : Int).toNat [])))).getD 2 [] == []) = true) ∧ ((if (if (if ((↑(List.map encS (spl (32 : UInt8) ((spl (10 : UInt8) s).getD (↑g : Int).toNat []))).length : Int) != 6) = true then true else !(dS (List.map encS (spl (32 : UInt8)
   ((spl (10 : UInt8) s).getD (↑g : Int).toNat [])))).getD 0 [] == [(109 : UInt8), (111 : UInt8), (118 : UInt8), (101 : UInt8)]) = true then true else (dS (List.map encS (spl (32 : UInt8) ((spl (10 : UInt8) s).getD (↑g : Int).toNat
   [])))).getD 1 [] == []) = true then true else (dS (List.map encS (spl (32 : UInt8) ((spl (10 : UInt8) s).getD (↑g : Int).toNat [])))).getD 2 [] == []) = false → (!if (if (if ((↑(List.map encS (spl (32 : UInt8) ((spl (10 : UInt8)
   s).getD (↑g : Int).toNat []))).length : Int) != 6) = true then true else !(dS (List.map encS (spl (32 : UInt8) ((spl (10 : UInt8) s).getD (↑g : Int).toNat [])))).getD 0 [] == [(109 : UInt8), (111 : UInt8), (118 : UInt8), (101 :
   UInt8)]) = true then true else (dS (List.map encS (spl (32 : UInt8) ((spl (10 : UInt8) s).getD (↑g : Int).toNat [])))).getD 1 [] == []) = true then true else (dS (List.map encS (spl (32 : UInt8) ((spl (10 : UInt8) s).getD (↑g :
   Int).toNat [])))).getD 2 [] == []) = true) ∧ impB (!(↑(List.map encS (spl (32 : UInt8) ((spl (10 : UInt8) s).getD (↑g : Int).toNat []))).length : Int) != 6) (nth (nthR (List.map encS (spl (32 : UInt8) ((spl (10 : UInt8) s).getD (↑g
   : Int).toNat []))) 0) 0 = AV.str ((dS (List.map encS (spl (32 : UInt8) ((spl (10 : UInt8) s).getD (↑g : Int).toNat [])))).getD 0 [])) ∧ impB (!if ((↑(List.map encS (spl (32 : UInt8) ((spl (10 : UInt8) s).getD (↑g : Int).toNat
   []))).length : Int) != 6) = true then true else !(dS (List.map encS (spl (32 : UInt8) ((spl (10 : UInt8) s).getD (↑g : Int).toNat [])))).getD 0 [] == [(109 : UInt8), (111 : UInt8), (118 : UInt8), (101 : UInt8)]) (nth (nthR
   (List.map encS (spl (32 : UInt8) ((spl (10 : UInt8) s).getD (↑g : Int).toNat []))) 1) 0 = AV.str ((dS (List.map encS (spl (32 : UInt8) ((spl (10 : UInt8) s).getD (↑g : Int).toNat [])))).getD 1 [])) ∧ impB (!if (if ((↑(List.map encS
   (spl (32 : UInt8) ((spl (10 : UInt8) s).getD (↑g : Int).toNat []))).length : Int) != 6) = true then true else !(dS (List.map encS (spl (32 : UInt8) ((spl (10 : UInt8) s).getD (↑g : Int).toNat [])))).getD 0 [] == [(109 : UInt8),
   (111 : UInt8), (118 : UInt8), (101 : UInt8)]) = true then true else (dS (List.map encS (spl (32 : UInt8) ((spl (10 : UInt8) s).getD (↑g : Int).toNat [])))).getD 1 [] == []) (nth (nthR (List.map encS (spl (32 : UInt8) ((spl (10 :
   UInt8) s).getD (↑g : Int).toNat []))) 2) 0 = AV.str ((dS (List.map encS (spl (32 : UInt8) ((spl (10 : UInt8) s).getD (↑g : Int).toNat [])))).getD 2 [])) ∧ impB (!if (if (if ((↑(List.map encS (spl (32 : UInt8) ((spl (10 : UInt8)
   s).getD (↑g : Int).toNat []))).length : Int) != 6) = true then true else !(dS (List.map encS (spl (32 : UInt8) ((spl (10 : UInt8) s).getD (↑g : Int).toNat [])))).getD 0 [] == [(109 : UInt8), (111 : UInt8), (118 : UInt8), (101 :
   UInt8)]) = true then true else (dS (List.map encS (spl (32 : UInt8) ((spl (10 : UInt8) s).getD (↑g : Int).toNat [])))).getD 1 [] == []) = true then true else (dS (List.map encS (spl (32 : UInt8) ((spl (10 : UInt8) s).getD (↑g :
   Int).toNat [])))).getD 2 [] == []) (nth (nthR (List.map encS (spl (32 : UInt8) ((spl (10 : UInt8) s).getD (↑g : Int).toNat []))) 3) 0 = AV.str ((dS (List.map encS (spl (32 : UInt8) ((spl (10 : UInt8) s).getD (↑g : Int).toNat
   [])))).getD 3 [])) ∧ ((if (if (if (if ((↑(List.map encS (spl (32 : UInt8) ((spl (10 : UInt8) s).getD (↑g : Int).toNat []))).length : Int) != 6) = true then true else !(dS (List.map encS (spl (32 : UInt8) ((spl (10 : UInt8) s).getD
   (↑g : Int).toNat [])))).getD 0 [] == [(109 : UInt8), (111 : UInt8), (118 : UInt8), (101 : UInt8)]) = true then true else (dS (List.map encS (spl (32 : UInt8) ((spl (10 : UInt8) s).getD (↑g : Int).toNat [])))).getD 1 [] == []) =
   true then true else (dS (List.map encS (spl (32 : UInt8) ((spl (10 : UInt8) s).getD (↑g : Int).toNat [])))).getD 2 [] == []) = true then true else (dS (List.map encS (spl (32 : UInt8) ((spl (10 : UInt8) s).getD (↑g : Int).toNat
   [])))).getD 3 [] == []) = true → AV.tup [AV.sl 5 [], AV.i (↑g : Int), AV.i 25] = psR (e79 r s) (kR s) (cntR s) (lstR s) (msN s (cntR s)) e) ∧ ((if (if (if (if ((↑(List.map encS (spl (32 : UInt8) ((spl (10 : UInt8) s).getD (↑g :
   Int).toNat []))).length : Int) != 6) = true then true else !(dS (List.map encS (spl (32 : UInt8) ((spl (10 : UInt8) s).getD (↑g : Int).toNat [])))).getD 0 [] == [(109 : UInt8), (111 : UInt8), (118 : UInt8), (101 : UInt8)]) = true
   then true else (dS (List.map encS (spl (32 : UInt8) ((spl (10 : UInt8) s).getD (↑g : Int).toNat [])))).getD 1 [] == []) = true then true else (dS (List.map encS (spl (32 : UInt8) ((spl (10 : UInt8) s).getD (↑g : Int).toNat
   [])))).getD 2 [] == []) = true then true else (dS (List.map encS (spl (32 : UInt8) ((spl (10 : UInt8) s).getD (↑g : Int).toNat [])))).getD 3 [] == []) = false → (0 : Int) ≤ 4 ∧ (4 : Int) < (↑(List.map encS (spl (32 : UInt8) ((spl
   (10 : UInt8) s).getD (↑g : Int).toNat []))).length : Int) ∧ nth (nthR (List.map encS (spl (32 : UInt8) ((spl (10 : UInt8) s).getD (↑g : Int).toNat []))) 4) 0 = AV.str ((dS (List.map encS (spl (32 : UInt8) ((spl (10 : UInt8) s).getD
   (↑g : Int).toNat [])))).getD 4 []) ∧ PCall Tryz.prog G0 145 [AV.str ((dS (List.map encS (spl (32 : UInt8) ((spl (10 : UInt8) s).getD (↑g : Int).toNat [])))).getD 4 [])] (AV.tup [AV.i (dgV ((dS (List.map encS (spl (32 : UInt8) ((spl
   (10 : UInt8) s).getD (↑g : Int).toNat [])))).getD 4 [])), AV.bool (inB ((dS (List.map encS (spl (32 : UInt8) ((spl (10 : UInt8) s).getD (↑g : Int).toNat [])))).getD 4 []))]) ∧ (0 : Int) ≤ 5 ∧ (5 : Int) < (↑(List.map encS (spl (32 :
   UInt8) ((spl (10 : UInt8) s).getD (↑g : Int).toNat []))).length : Int) ∧ nth (nthR (List.map encS (spl (32 : UInt8) ((spl (10 : UInt8) s).getD (↑g : Int).toNat []))) 5) 0 = AV.str ((dS (List.map encS (spl (32 : UInt8) ((spl (10 :
   UInt8) s).getD (↑g : Int).toNat [])))).getD 5 []) ∧ PCall Tryz.prog G0 145 [AV.str ((dS (List.map encS (spl (32 : UInt8) ((spl (10 : UInt8) s).getD (↑g : Int).toNat [])))).getD 5 [])] (AV.tup [AV.i (dgV ((dS (List.map encS (spl (32
   : UInt8) ((spl (10 : UInt8) s).getD (↑g : Int).toNat [])))).getD 5 [])), AV.bool (inB ((dS (List.map encS (spl (32 : UInt8) ((spl (10 : UInt8) s).getD (↑g : Int).toNat [])))).getD 5 []))]) ∧ ((!!inB ((dS (List.map encS (spl (32 :
   UInt8) ((spl (10 : UInt8) s).getD (↑g : Int).toNat [])))).getD 4 [])) = true → (!!inB ((dS (List.map encS (spl (32 : UInt8) ((spl (10 : UInt8) s).getD (↑g : Int).toNat [])))).getD 4 [])) = true) ∧ ((!inB ((dS (List.map encS (spl
   (32 : UInt8) ((spl (10 : UInt8) s).getD (↑g : Int).toNat [])))).getD 4 [])) = false → (!!inB ((dS (List.map encS (spl (32 : UInt8) ((spl (10 : UInt8) s).getD (↑g : Int).toNat [])))).getD 4 [])) = true) ∧ ((if (!inB ((dS (List.map
   encS (spl (32 : UInt8) ((spl (10 : UInt8) s).getD (↑g : Int).toNat [])))).getD 4 [])) = true then true else !inB ((dS (List.map encS (spl (32 : UInt8) ((spl (10 : UInt8) s).getD (↑g : Int).toNat [])))).getD 5 [])) = true → AV.tup
   [AV.sl 5 [], AV.i (↑g : Int), AV.i 25] = psR (e79 r s) (kR s) (cntR s) (lstR s) (msN s (cntR s)) e) ∧ ((if (!inB ((dS (List.map encS (spl (32 : UInt8) ((spl (10 : UInt8) s).getD (↑g : Int).toNat [])))).getD 4 [])) = true then true
   else !inB ((dS (List.map encS (spl (32 : UInt8) ((spl (10 : UInt8) s).getD (↑g : Int).toNat [])))).getD 5 [])) = false → (0 : Int) ≤ 1 ∧ (1 : Int) < (↑(List.map encS (spl (32 : UInt8) ((spl (10 : UInt8) s).getD (↑g : Int).toNat
   []))).length : Int) ∧ (0 : Int) ≤ 2 ∧ (2 : Int) < (↑(List.map encS (spl (32 : UInt8) ((spl (10 : UInt8) s).getD (↑g : Int).toNat []))).length : Int) ∧ (0 : Int) ≤ 3 ∧ (3 : Int) < (↑(List.map encS (spl (32 : UInt8) ((spl (10 :
   UInt8) s).getD (↑g : Int).toNat []))).length : Int) ∧ (List.map encMv (msN s g)).length + 1 ≤ 9223372036854775807 ∧ ((List.map encMv (msN s g)).length + 1) * 64 ≤ 140737488355328 ∧ nth (nthR (List.map encS (spl (32 : UInt8) ((spl
   (10 : UInt8) s).getD (↑g : Int).toNat []))) 1) 0 = AV.str ((dS (List.map encS (spl (32 : UInt8) ((spl (10 : UInt8) s).getD (↑g : Int).toNat [])))).getD 1 []) ∧ nth (nthR (List.map encS (spl (32 : UInt8) ((spl (10 : UInt8) s).getD
   (↑g : Int).toNat []))) 2) 0 = AV.str ((dS (List.map encS (spl (32 : UInt8) ((spl (10 : UInt8) s).getD (↑g : Int).toNat [])))).getD 2 []) ∧ nth (nthR (List.map encS (spl (32 : UInt8) ((spl (10 : UInt8) s).getD (↑g : Int).toNat [])))
   3) 0 = AV.str ((dS (List.map encS (spl (32 : UInt8) ((spl (10 : UInt8) s).getD (↑g : Int).toNat [])))).getD 3 []) ∧ In64 ((↑g : Int) + 1) ∧ ∃ (g' : Nat), (g' ≤ cntR s ∧ ∀ (j : Nat), j < g' → badW s j = false) ∧ cntR s - g' < cntR s
   - g ∧ AS.mk [(2, AV.elt 18 [(encRu r)] 0 0), (8, AV.sl 1 (List.map encS (spl (10 : UInt8) s))), (9, AV.i ((↑(List.map encS (spl (10 : UInt8) s)).length : Int) - 1)), (10, AV.own 1 ((List.map encMv (msN s g)).length + 1)), (11, AV.i
   ((↑g : Int) + 1))] [(1, ABlk.buf 64 5 (List.map encMv (msN s g) ++ [[AV.str ((dS (List.map encS (spl (32 : UInt8) ((spl (10 : UInt8) s).getD (↑g : Int).toNat [])))).getD 1 []), AV.str ((dS (List.map encS (spl (32 : UInt8) ((spl (10
   : UInt8) s).getD (↑g : Int).toNat [])))).getD 2 []), AV.str ((dS (List.map encS (spl (32 : UInt8) ((spl (10 : UInt8) s).getD (↑g : Int).toNat [])))).getD 3 []), AV.i (dgV ((dS (List.map encS (spl (32 : UInt8) ((spl (10 : UInt8)
   s).getD (↑g : Int).toNat [])))).getD 4 [])), AV.i (dgV ((dS (List.map encS (spl (32 : UInt8) ((spl (10 : UInt8) s).getD (↑g : Int).toNat [])))).getD 5 []))]]))] 2 = AS.mk [(2, AV.elt 18 [(encRu r)] 0 0), (8, AV.sl 1 (List.map encS
   (spl (10 : UInt8) s))), (9, AV.i ((↑(List.map encS (spl (10 : UInt8) s)).length : Int) - 1)), (10, AV.own 1 (List.map encMv (msN s g')).length), (11, AV.i (↑g' : Int))] [(1, ABlk.buf 64 5 (List.map encMv (msN s g')))] 2))) ∧
   (decide ((↑g : Int) < (↑(List.map encS (spl (10 : UInt8) s)).length : Int) - 1) = false → (0 : Int) ≤ (↑(List.map encS (spl (10 : UInt8) s)).length : Int) - 1 ∧ (↑(List.map encS (spl (10 : UInt8) s)).length : Int) - 1 < (↑(List.map
   encS (spl (10 : UInt8) s)).length : Int) ∧ nth (nthR (List.map encS (spl (10 : UInt8) s)) ((↑(List.map encS (spl (10 : UInt8) s)).length : Int) - 1).toNat) 0 = AV.str ((spl (10 : UInt8) s).getD ((↑(List.map encS (spl (10 : UInt8)
   s)).length : Int) - 1).toNat []) ∧ ((!(spl (10 : UInt8) s).getD ((↑(List.map encS (spl (10 : UInt8) s)).length : Int) - 1).toNat [] == []) = true → AV.tup [AV.sl 5 [], AV.i ((↑(List.map encS (spl (10 : UInt8) s)).length : Int) -
   1), AV.i 25] = psR (e79 r s) (kR s) (cntR s) (lstR s) (msN s (cntR s)) e) ∧ ((!(spl (10 : UInt8) s).getD ((↑(List.map encS (spl (10 : UInt8) s)).length : Int) - 1).toNat [] == []) = false → PCall Tryz.prog G0 36 [AV.agg (encRu r),
   AV.sl 5 (List.map encMv (msN s g))] (AV.i e) ∧ ((e != 0) = true → AV.tup [AV.sl 5 [], AV.i ((↑(List.map encS (spl (10 : UInt8) s)).length : Int) - 1), AV.i e] = psR (e79 r s) (kR s) (cntR s) (lstR s) (msN s (cntR s)) e) ∧ ((e != 0)
   = false → AV.tup [AV.sl 5 (List.map encMv (msN s g)), AV.i 0, AV.i 0] = psR (e79 r s) (kR s) (cntR s) (lstR s) (msN s (cntR s)) e)))) := by
    have hcnt : cntR s = (spl 10 s).length - 1 := rfl
    have hc0 := cnt_lt s
    have hMl : (List.map encS (spl 10 s)).length = (spl 10 s).length := List.length_map _
    obtain ⟨w1, w2⟩ := spl_len 10 s
    have : (List.map encS (spl (10 : UInt8) s)).length = (spl (10 : UInt8) s).length := by simp only [List.length_map]
    refine ⟨(c25 r ht hs hn hm), (c37 _ _), (c24 [_, _] (by simp)), fun h1 => ?_, fun h1 => ⟨(c82 s 10 (by omega) (by decide)), (by unfold In64; omega), ⟨⟨0, ⟨by omega, by intros; omega⟩, rfl⟩, fun g ⟨hg, ha⟩ => ⟨fun hd => ?_, fun hd => ?_⟩⟩⟩⟩
    · rw [psR, if_pos (show (e79 r s != 0) = true from h1)]
      rfl
    · have hlt : g < cntR s := by have h9 := of_decide_eq_true hd; have h8 := hg; (try simp only [List.length_map] at h8); (try simp only [List.length_map] at h9); omega
      have hxl : ((spl 10 s).getD g []).length ≤ s.length := w2 _ (getD_mem (l := spl 10 s) (i := g) (by omega))
      have hml : (List.map encMv (msN s g)).length = g := by rw [List.length_map, ms_len (by omega)]
      try rw [show (↑g : Int).toNat = g from Int.toNat_natCast g]
      refine ⟨(by omega), (by omega), congrArg (fun r => nth r 0) (row_at encS (by omega)), (c82 _ 32 (by omega) (by decide)), fun h => h, fun _ => by omega, fun h => l6 (by decide) h, fun h => h, fun h => h, fun h => by first | exact h | (rw [h]; rfl) | simp_all, fun h => h, fun _ => by omega, fun h => l6 (by decide) (nor_l h), fun h => h, fun h => h, fun h => by first | exact h | (rw [h]; rfl) | simp_all, fun h => h, fun _ => by omega, fun h => l6 (by decide) (nor_l (nor_l h)), fun h => h, fun h => h, fun h => by first | exact h | (rw [h]; rfl) | simp_all, fun h => h, fun _ => by omega, fun h => l6 (by decide) (nor_l (nor_l (nor_l h))), fun h => h, fun h => h, fun h => by first | exact h | (rw [h]; rfl) | simp_all, impB_iff.2 fun hb => rd_w (by first | (rw [List.length_map] at h6; omega) | exact l6n (by decide) hb | exact l6n (by decide) (nor_l hb) | exact l6n (by decide) (nor_l (nor_l hb)) | exact l6n (by decide) (nor_l (nor_l (nor_l hb)))), impB_iff.2 fun hb => rd_w (by first | (rw [List.length_map] at h6; omega) | exact l6n (by decide) hb | exact l6n (by decide) (nor_l hb) | exact l6n (by decide) (nor_l (nor_l hb)) | exact l6n (by decide) (nor_l (nor_l (nor_l hb)))), impB_iff.2 fun hb => rd_w (by first | (rw [List.length_map] at h6; omega) | exact l6n (by decide) hb | exact l6n (by decide) (nor_l hb) | exact l6n (by decide) (nor_l (nor_l hb)) | exact l6n (by decide) (nor_l (nor_l (nor_l hb)))), impB_iff.2 fun hb => rd_w (by first | (rw [List.length_map] at h6; omega) | exact l6n (by decide) hb | exact l6n (by decide) (nor_l hb) | exact l6n (by decide) (nor_l (nor_l hb)) | exact l6n (by decide) (nor_l (nor_l (nor_l hb)))), fun h2 => ?_, fun h2 => ?_⟩
      · have he0 : ¬ (e79 r s != 0) = true := by rw [show (e79 r s != 0) = false from h1]; decide
        have hbad : badW s g = true := by first | exact ok_1 h2 | exact ok_2 h3
        have hk : kR s = g := fi_some ha hbad hlt
        rw [psR, if_neg he0, hk, if_pos hlt]
      · have h6 := len6 h2
        refine ⟨(by omega), (by omega), rd_w (by first | (rw [List.length_map] at h6; omega) | exact l6n (by decide) hb | exact l6n (by decide) (nor_l hb) | exact l6n (by decide) (nor_l (nor_l hb)) | exact l6n (by decide) (nor_l (nor_l (nor_l hb)))), (c145 _ (by have hww := (spl_len 32 ((spl 10 s).getD g [])).2; rw [dS_e]; exact Nat.le_trans (gd_len hww _) (by omega))), (by omega), (by omega), rd_w (by first | (rw [List.length_map] at h6; omega) | exact l6n (by decide) hb | exact l6n (by decide) (nor_l hb) | exact l6n (by decide) (nor_l (nor_l hb)) | exact l6n (by decide) (nor_l (nor_l (nor_l hb)))), (c145 _ (by have hww := (spl_len 32 ((spl 10 s).getD g [])).2; rw [dS_e]; exact Nat.le_trans (gd_len hww _) (by omega))), fun h => h, fun h => by first | exact h | (rw [h]; rfl) | simp_all, fun h3 => ?_, fun h3 => ⟨(by omega), (by omega), (by omega), (by omega), (by omega), (by omega), (by omega), (by omega), rd_w (by first | (rw [List.length_map] at h6; omega) | exact l6n (by decide) hb | exact l6n (by decide) (nor_l hb) | exact l6n (by decide) (nor_l (nor_l hb)) | exact l6n (by decide) (nor_l (nor_l (nor_l hb)))), rd_w (by first | (rw [List.length_map] at h6; omega) | exact l6n (by decide) hb | exact l6n (by decide) (nor_l hb) | exact l6n (by decide) (nor_l (nor_l hb)) | exact l6n (by decide) (nor_l (nor_l (nor_l hb)))), rd_w (by first | (rw [List.length_map] at h6; omega) | exact l6n (by decide) hb | exact l6n (by decide) (nor_l hb) | exact l6n (by decide) (nor_l (nor_l hb)) | exact l6n (by decide) (nor_l (nor_l (nor_l hb)))), (by unfold In64; omega), ⟨g + 1, ⟨by omega, all_ext ha (ok_3 h2 h3)⟩, by omega, ?_⟩⟩⟩
        · have he0 : ¬ (e79 r s != 0) = true := by rw [show (e79 r s != 0) = false from h1]; decide
          have hbad : badW s g = true := by first | exact ok_1 h2 | exact ok_2 h3
          have hk : kR s = g := fi_some ha hbad hlt
          rw [psR, if_neg he0, hk, if_pos hlt]
        · rw [ms_step hlt, List.map_append, List.length_append, dS_e]
          rfl
    · have hge : g = cntR s := by have h9 := of_decide_eq_false hd; have h8 := hg; (try simp only [List.length_map] at h8); (try simp only [List.length_map] at h9); omega
      subst hge
      refine ⟨(by omega), (by omega), congrArg (fun r => nth r 0) (row_at encS (by omega)), fun h2 => ?_, fun h2 => ⟨(he (bne_f h1) (fi_none ha) (last_nil hMl hcnt h2)), fun h3 => ?_, fun h3 => ?_⟩⟩
      · have he0 : ¬ (e79 r s != 0) = true := by rw [show (e79 r s != 0) = false from h1]; decide
        have hk : kR s = cntR s := fi_none ha
        have hn : ((List.map encS (spl 10 s)).length : Int) - 1 = (cntR s : Int) := by omega
        rw [hn, Int.toNat_natCast] at h2
        rw [psR, if_neg he0, hk, if_neg (Nat.lt_irrefl _), if_pos (show (!(lstR s == [])) = true from h2), hn]
      · have he0 : ¬ (e79 r s != 0) = true := by rw [show (e79 r s != 0) = false from h1]; decide
        have hk : kR s = cntR s := fi_none ha
        have hn : ((List.map encS (spl 10 s)).length : Int) - 1 = (cntR s : Int) := by omega
        rw [psR, if_neg he0, hk, if_neg (Nat.lt_irrefl _), last_nil hMl hcnt h2, if_neg (by decide), if_pos h3, hn]
      · have he0 : ¬ (e79 r s != 0) = true := by rw [show (e79 r s != 0) = false from h1]; decide
        have hk : kR s = cntR s := fi_none ha
        rw [psR, if_neg he0, hk, if_neg (Nat.lt_irrefl _), last_nil hMl hcnt h2, if_neg (by decide), if_neg (by rw [h3]; decide)]
  exact c_of Tryz.f79 (gsB g79 (fzB (mkB (sp79 r e) 79 [(10, 3, rdL 1 encS (spl 10 s) 1 false), (11, 6, rdW), (11, 12, rdW), (11, 18, rdW), (11, 24, rdW), (13, 2, rdW), (14, 2, rdW), (17, 3, rdW), (17, 6, rdW), (17, 9, rdW), (18, 3, rdL 1 encS (spl 10 s) 1 false)] (fun i => if i.beq 0 then some (la79 r s) else none)))) (by kernel_rfl) (by kernel_rfl) (by kernel_rfl) (by kernel_rfl) key (by kernel_rfl)
end Go.Proofs.YtimgfogakgakhaaGreatDoor
namespace Go.Proofs.YtimgfogakgakhaaGreatDoor
open Go Go.Av Go.RowKit
theorem ty_in {r : Ru} {m : Mv} (h : fiN (pN r.ts m.ty) r.ts.length < r.ts.length) : ∃ t, t ∈ r.ts ∧ t.n = m.ty := by
  have h1 := fi_hit h
  exact ⟨_, getD_mem h, eq_of_beq h1⟩
theorem mv_pr {r : Ru} {l : List Mv} (hS : Sh r l) (h0 : chkMR r l = 0) : ∀ m, m ∈ l → prOK m := fun m hm => by
  have h1 := (mv_ok h0).2.1.2 m hm
  obtain ⟨t, ht, e⟩ := ty_in h1.t
  have h2 := h1.d
  have h3 := h1.m
  exact ⟨by omega, by omega, (hS.v m hm).1, (hS.v m hm).2, by rw [← e]; exact hS.n t ht⟩
def tP (r : Ru) (l : List Mv) : List UInt8 := if chkMR r l != 0 then [] else txM l
theorem tx_len {r : Ru} {l : List Mv} (hS : Sh r l) (h0 : chkMR r l = 0) : (txM l).length ≤ 4000000 := by
  have hk := hS.k
  have h := flat_len (b := 4000) (L := l.map prM) (fun x hx => by
    obtain ⟨m, hm, rfl⟩ := List.mem_map.1 hx
    exact prM_len (mv_pr hS h0 m hm))
  rw [List.length_map] at h
  unfold txM
  omega
theorem c76r {r : Ru} {l : List Mv} (hS : Sh r l) : PCall Tryz.prog G0 76 [.agg (encRu r), .sl 5 (l.map encMv)] (.tup [.str (tP r l), .i (chkMR r l)]) := by
  have h := c76p r l prM (tP r l) (chkMR r l) (c42r hS) hS.k (fun h m hm => c137p (mv_pr hS h m hm)) (fun h => by rw [tP, h]; rfl) (fun h => by have := tx_len hS h; rw [tP, h]; show (txM l).length ≤ _; omega)
  by_cases q : (chkMR r l != 0) = true
  · rw [if_pos q] at h
    rw [tP, if_pos q]
    exact h
  · rw [if_neg q] at h
    have e : chkMR r l = 0 := by simpa using q
    rw [e]
    exact h
theorem c78r {r : Ru} {l : List Mv} (hS : Sh r l) (h0 : chkMR r l = 0) : PCall Tryz.prog G0 78 [.sl 5 (l.map encMv)] (.str (txM l)) :=
  c78 l prM Lib.itoa hS.k (mv_pr hS h0) (fun _ => rfl) (fun _ => rfl)
def eM (r : Ru) (s : List UInt8) : Int := chkMR r ((lns s).map mvL)
def msP (r : Ru) (s : List UInt8) : List Mv := if e77 r s != 0 then [] else if k77 s < (lns s).length then [] else if eM r s != 0 then [] else (lns s).map mvL
def kP (r : Ru) (s : List UInt8) : Int := if e77 r s != 0 then 0 else if k77 s < (lns s).length then k77 s else if eM r s != 0 then (lns s).length else 0
def eP (r : Ru) (s : List UInt8) : Int := if e77 r s != 0 then e77 r s else if k77 s < (lns s).length then 25 else eM r s
theorem ps_tup (r : Ru) (s : List UInt8) : psT (e77 r s) (k77 s) (lns s).length ((lns s).map mvL) (eM r s) = .tup [.sl 5 ((msP r s).map encMv), .i (kP r s), .i (eP r s)] := by
  unfold psT msP kP eP
  by_cases h0 : (e77 r s != 0) = true
  · rw [if_pos h0, if_pos h0, if_pos h0, if_pos h0]
    rfl
  · rw [if_neg h0, if_neg h0, if_neg h0, if_neg h0]
    by_cases h1 : k77 s < (lns s).length
    · rw [if_pos h1, if_pos h1, if_pos h1, if_pos h1]
      rfl
    · rw [if_neg h1, if_neg h1, if_neg h1, if_neg h1]
      by_cases h2 : (eM r s != 0) = true
      · rw [if_pos h2, if_pos h2, if_pos h2]
        rfl
      · rw [if_neg h2, if_neg h2, if_neg h2]
        have e : eM r s = 0 := by simpa using h2
        rw [e]
theorem e_eq (r : Ru) (s : List UInt8) : e79 r s = e77 r s := by
  unfold e79 e77
  rw [chk_eq]
def HP (r : Ru) (s : List UInt8) : Prop := e77 r s = 0 → k77 s = (lns s).length → Sh r ((lns s).map mvL)
theorem c77r {r : Ru} {s : List UInt8} (hr : shR r = true) (hl : s.length ≤ 10000) (hp : HP r s) : PCall Tryz.prog G0 77 [.agg (encRu r), .str s] (.tup [.sl 5 ((msP r s).map encMv), .i (kP r s), .i (eP r s)]) := by
  obtain ⟨s1, s2, s3, s4⟩ := sh_of hr
  rw [← ps_tup]
  exact c77 r s (eM r s) (by omega) (by omega) s3 s4 hl (fun h1 h2 => c42r (hp h1 h2))
theorem c79r {r : Ru} {s : List UInt8} (hr : shR r = true) (hl : s.length ≤ 10000) (hp : HP r s) : PCall Tryz.prog G0 79 [.agg (encRu r), .str s] (.tup [.sl 5 ((msP r s).map encMv), .i (kP r s), .i (eP r s)]) := by
  obtain ⟨s1, s2, s3, s4⟩ := sh_of hr
  rw [← ps_tup, ← ps_eq, ← e_eq]
  refine c79 r s (eM r s) (by omega) (by omega) s3 s4 hl (fun h1 h2 h3 => ?_)
  have hg := (good_eq s).2 ⟨h2, h3⟩
  rw [← ms_eq hg]
  exact c36s (hp (by rw [← e_eq]; exact h1) hg)
theorem sh_ms {r : Ru} {s : List UInt8} (hr : shR r = true) (hl : s.length ≤ 1000) (h : k77 s = (lns s).length) : Sh r ((lns s).map mvL) := by
  obtain ⟨s1, s2, s3, s4⟩ := sh_of hr
  refine ⟨by omega, by omega, s3, s4, ?_, fun m hm => ?_⟩
  · have := (ln_len (lns_is s)).1
    rw [List.length_map]
    omega
  · rw [ms_eq h] at hm
    unfold msN at hm
    obtain ⟨b, hb, rfl⟩ := List.mem_map.1 hm
    have hb1 := (spl_len 10 s).2 b (List.mem_of_mem_take hb)
    have hw := (spl_len 32 b).2
    exact ⟨Nat.le_trans (gd_len hw 1) (by omega), Nat.le_trans (gd_len hw 2) (by omega)⟩
theorem hp_of {r : Ru} {s : List UInt8} (hr : shR r = true) (h : s.length ≤ 400 ∨ s.length = 4097) : s.length ≤ 10000 ∧ HP r s := by
  refine ⟨by omega, fun h1 h2 => ?_⟩
  rcases h with h | h
  · exact sh_ms hr (by omega) h2
  · exfalso
    unfold e77 at h1
    rw [first_zero, first_zero] at h1
    have := when_z (by decide) h1.2.1
    have := of_decide_eq_false this
    omega
end Go.Proofs.YtimgfogakgakhaaGreatDoor
namespace Go.Proofs.YtimgfogakgakhaaGreatDoor
open Go Go.Av Go.RowKit
def sp14 (r : Ru) (l : List Mv) (s : List UInt8) : Nat → List AV → Option AV
  | 16, _ => some (.bool true)
  | 17, _ => some (.bool (shR r))
  | 30, _ => some (.bool (shM l))
  | 21, _ => some (.agg (encRu r))
  | 32, [.sl _ rows] => some (.sl 5 rows)
  | 76, _ => some (.tup [.str (tP r l), .i (chkMR r l)])
  | 77, _ => some (.tup [.sl 5 ((msP r s).map encMv), .i (kP r s), .i (eP r s)])
  | 36, _ => some (.i (chkMR r l))
  | 78, _ => some (.str (txM l))
  | 79, _ => some (.tup [.sl 5 ((msP r s).map encMv), .i (kP r s), .i (eP r s)])
  | 81, [.sl _ rows] => some (.sl 5 rows)
  | 80, _ => some (.bool true)
  | n, x => spS n x
theorem ms_k {r : Ru} {s : List UInt8} (hr : shR r = true) (h : s.length ≤ 400 ∨ s.length = 4097) : (msP r s).length ≤ 1000 := by
  unfold msP
  by_cases h0 : (e77 r s != 0) = true
  · rw [if_pos h0]; exact Nat.zero_le _
  · rw [if_neg h0]
    by_cases h1 : k77 s < (lns s).length
    · rw [if_pos h1]; exact Nat.zero_le _
    · rw [if_neg h1]
      split
      · exact Nat.zero_le _
      · have hk : k77 s = (lns s).length := by
          have := fi_le (p := fun i => badL ((lns s).getD i [])) (lns s).length
          unfold k77 at *
          omega
        exact ((hp_of hr h).2 (by simpa using h0) hk).k
theorem len_of {n : Nat} (h : (if decide ((n : Int) > 400) = true then (n : Int) != 4097 else false) = false) : n ≤ 400 ∨ n = 4097 := by
  by_cases q : n ≤ 400
  · exact .inl q
  · rw [decide_eq_true (show (n : Int) > 400 by omega), if_pos rfl] at h
    refine .inr ?_
    by_cases q2 : n = 4097
    · exact q2
    · rw [show ((n : Int) != 4097) = true by rw [bne_iff_ne]; omega] at h
      cases h
theorem c14 (r : Ru) (l : List Mv) (s : List UInt8) (hA : PCall Tryz.prog G0 16 [] (.bool true)) (hl : r.ts.length ≤ maxLen) (hm : r.rs.length ≤ maxLen) (hn : l.length ≤ maxLen) : PCall Tryz.prog G0 14 [.agg (encRu r), .sl 5 (l.map encMv), .str s] (.bool true) := by
  have key :
   (true = true → true = true) ∧ (true = true → true = true) ∧ (false = false → true = true) ∧ ((!!shR r) = true → (!!shR r) = true) ∧ ((!!shR r) = true → (!!shR r) = true) ∧ ((!shR r) = false → (!!shR r) = true) ∧ ((!if (!shR r) =
   true then true else !shM l) = true → (!if (!shR r) = true then true else !shM l) = true) ∧ ((!if (!shR r) = true then true else !shM l) = true → (!if (!shR r) = true then true else !shM l) = true) ∧ ((!if (!shR r) = true then true
   else !shM l) = true → (!if (!shR r) = true then true else !shM l) = true) ∧ (((!if (!shR r) = true then true else !shM l) && decide ((↑s.length : Int) > 400)) = true → ((!if (!shR r) = true then true else !shM l) && decide
   ((↑s.length : Int) > 400)) = true) ∧ (((!if (!shR r) = true then true else !shM l) && decide ((↑s.length : Int) > 400)) = true → ((!if (!shR r) = true then true else !shM l) && decide ((↑s.length : Int) > 400)) = true) ∧ ((!if
   (!shR r) = true then true else !shM l) = true → (!if (!shR r) = true then true else !shM l) = true) ∧ ((!if (!shR r) = true then true else !shM l) = true → decide ((↑s.length : Int) > 400) = true → ((!if (!shR r) = true then true
   else !shM l) && decide ((↑s.length : Int) > 400)) = true) ∧ ((if (!shR r) = true then true else !shM l) = false → (!if (!shR r) = true then true else !shM l) = true) ∧ PCall Tryz.prog G0 16 [] (AV.bool true) ∧ PCall Tryz.prog G0 17
   [AV.agg (encRu r)] (AV.bool (shR r)) ∧ impB (!!shR r) (PCall Tryz.prog G0 30 [AV.sl 5 (List.map encMv l)] (AV.bool (shM l))) ∧ ((if (if (!shR r) = true then true else !shM l) = true then true else if decide ((↑s.length : Int) >
   400) = true then (↑s.length : Int) != 4097 else false) = true → PCall Tryz.prog G0 16 [] (AV.bool true) ∧ AV.bool true = AV.bool true) ∧ ((if (if (!shR r) = true then true else !shM l) = true then true else if decide ((↑s.length :
   Int) > 400) = true then (↑s.length : Int) != 4097 else false) = false → PCall Tryz.prog G0 21 [AV.agg (encRu r)] (AV.agg (encRu r)) ∧ PCall Tryz.prog G0 32 [AV.sl 5 (List.map encMv l)] (AV.sl 5 (List.map encMv l)) ∧ PCall Tryz.prog
   G0 76 [AV.agg (encRu r), AV.sl 5 (List.map encMv l)] (AV.tup [AV.str (tP r l), AV.i (chkMR r l)]) ∧ PCall Tryz.prog G0 21 [AV.agg (encRu r)] (AV.agg (encRu r)) ∧ PCall Tryz.prog G0 77 [AV.agg (encRu r), AV.str s] (AV.tup [AV.sl 5
   (List.map encMv (msP r s)), AV.i (kP r s), AV.i (eP r s)]) ∧ PCall Tryz.prog G0 36 [AV.agg (encRu r), AV.sl 5 (List.map encMv l)] (AV.i (chkMR r l)) ∧ ((chkMR r l == 0) = true → PCall Tryz.prog G0 78 [AV.sl 5 (List.map encMv l)]
   (AV.str (txM l)) ∧ PCall Tryz.prog G0 79 [AV.agg (encRu r), AV.str s] (AV.tup [AV.sl 5 (List.map encMv (msP r s)), AV.i (kP r s), AV.i (eP r s)]) ∧ AV.bool (tP r l == txM l) = AV.bool true ∧ AV.bool (chkMR r l == chkMR r l) =
   AV.bool true ∧ PCall Tryz.prog G0 81 [AV.sl 5 (List.map encMv (msP r s))] (AV.sl 5 (List.map encMv (msP r s))) ∧ PCall Tryz.prog G0 80 [AV.sl 5 (List.map encMv (msP r s)), AV.sl 5 (List.map encMv (msP r s))] (AV.bool true) ∧
   AV.bool (kP r s == kP r s) = AV.bool true ∧ AV.bool (eP r s == eP r s) = AV.bool true ∧ AV.bool true = AV.bool true) ∧ ((chkMR r l == 0) = false → PCall Tryz.prog G0 79 [AV.agg (encRu r), AV.str s] (AV.tup [AV.sl 5 (List.map encMv
   (msP r s)), AV.i (kP r s), AV.i (eP r s)]) ∧ AV.bool (tP r l == []) = AV.bool true ∧ AV.bool (chkMR r l == chkMR r l) = AV.bool true ∧ PCall Tryz.prog G0 81 [AV.sl 5 (List.map encMv (msP r s))] (AV.sl 5 (List.map encMv (msP r s)))
   ∧ PCall Tryz.prog G0 80 [AV.sl 5 (List.map encMv (msP r s)), AV.sl 5 (List.map encMv (msP r s))] (AV.bool true) ∧ AV.bool (kP r s == kP r s) = AV.bool true ∧ AV.bool (eP r s == eP r s) = AV.bool true ∧ AV.bool true = AV.bool true))
   := by
    have hlm : (List.map encMv l).length = l.length := List.length_map _
    refine ⟨fun h => h, fun h => h, fun h => by first | exact h | (rw [h]; rfl) | simp_all, fun h => h, fun h => h, fun h => by first | exact h | (rw [h]; rfl) | simp_all, fun h => h, fun h => h, fun h => h, fun h => h, fun h => h, fun h => h, fun h1 => fun h => by first | exact h | (rw [h]; rfl) | simp_all, fun h => by first | exact h | (rw [h]; rfl) | simp_all, hA, (c17 r hl hm), impB_iff.2 fun hb => (c30 l hn), fun h1 => ⟨hA, rfl⟩, fun h1 => ?_⟩
    · obtain ⟨hx, h400⟩ := or_f h1
      obtain ⟨hx1, hx2⟩ := or_f hx
      have hR : shR r = true := by simpa using hx1
      have hS : Sh r l := sh_mv hR (by simpa using hx2)
      have h4 := len_of h400
      obtain ⟨hl9, hP⟩ := hp_of hR h4
      refine ⟨(c21 r hS.t hS.s), ((c32 l hS.k).un), (c76r hS), (c21 r hS.t hS.s), (c77r hR hl9 hP), (c36s hS), fun h2 => ⟨(c78r hS (by simpa using h2)), (c79r hR hl9 hP), ?_, congrArg AV.bool (beq_self_eq_true _), ((c81 _ (ms_k hR h4)).un), (c80 _ (ms_k hR h4)), congrArg AV.bool (beq_self_eq_true _), congrArg AV.bool (beq_self_eq_true _), rfl⟩, fun h2 => ⟨(c79r hR hl9 hP), ?_, congrArg AV.bool (beq_self_eq_true _), ((c81 _ (ms_k hR h4)).un), (c80 _ (ms_k hR h4)), congrArg AV.bool (beq_self_eq_true _), congrArg AV.bool (beq_self_eq_true _), rfl⟩⟩
      · have h0 : chkMR r l = 0 := by simpa using h2
        rw [tP, h0]
        exact congrArg AV.bool (beq_self_eq_true _)
      · rw [tP, if_pos (by rw [bne, h2]; rfl)]
        rfl
  exact c_of Tryz.f14 (noSyms [10] (fzB (mkB (sp14 r l s) 14 (lits true [(10, 2), (10, 6), (10, 17), (10, 22)]) noLa))) (by kernel_rfl) (by kernel_rfl) (by kernel_rfl) (by kernel_rfl) key (by kernel_rfl)
end Go.Proofs.YtimgfogakgakhaaGreatDoor
namespace Go.Proofs.YtimgfogakgakhaaGreatDoor
open Go Go.Av Go.RowKit Go.ChangeShapes Go.WideShapes
theorem jp0_14 : (Rows.nightStringsRow.inPlace == Tryz.prog.inPlace 14) = true := by kernel_rfl
theorem jp1_14 : (Rows.nightStringsRow.unfollowed == Tryz.prog.unfollowed 14) = true := by kernel_rfl
theorem jp2_14 : (Rows.nightStringsRow.recurses == Tryz.prog.recurses 14) = true := by kernel_rfl
theorem jp3_14 : (Rows.nightStringsRow.named == Tryz.prog.varsNamed 14) = true := by kernel_rfl
theorem jfacts_14 : joinedFacts Tryz.prog 14 Tryz.f14 Rows.nightStringsSpec Rows.nightStringsRow = true := by
  unfold joinedFacts
  rw [jp0_14, jp1_14, jp2_14, jp3_14]
  kernel_rfl
end Go.Proofs.YtimgfogakgakhaaGreatDoor
