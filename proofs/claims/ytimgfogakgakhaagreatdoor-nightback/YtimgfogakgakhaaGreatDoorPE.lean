/-
  Printing movements, and parsing them: contracts. No condition but the theorems' own. Lines and parts of a string, and that both sides' Parse make the same of them: plain Lean. No condition but the theorems' own. Printing movements on both sides, equal lists, and lists told: contracts. No condition but the theorems' own. Movements are read as they were printed, and printed as they were read: plain Lean. No condition but the theorems' own. The reference's parsing of movements: a contract. No condition but the theorems' own. Print and Parse of both sides on short rules and movements; and what valid movements have for words. No condition but the theorems' own. NightBack returns true. No condition but the theorems' own. What NightBack' row says of the program's text. No condition.
-/
import Derived.Test.YtimgfogakgakhaaGreatDoorPD
import Derived.Test.YtimgfogakgakhaaGreatDoorPC
import Derived.Test.YtimgfogakgakhaaGreatDoorAvD
import Derived.Test.YtimgfogakgakhaaGreatDoorPB
namespace Go.Proofs.YtimgfogakgakhaaGreatDoor
open Go Go.Av Go.RowKit
def WM : List UInt8 := [109, 111, 118, 101]
def bodyL (x : List UInt8) : List UInt8 := if cutS x [10] then x.take (x.length - [(10 : UInt8)].length) else x
def wdsL (x : List UInt8) : List (List UInt8) := spl 32 (bodyL x)
def hdR (rows : List (List AV)) : List UInt8 := (dS rows).headD []
def tlR (rows : List (List AV)) : List (List AV) := (wdR (dS rows)).map encS
def bdW (rows : List (List AV)) (b : Bool) : Bool := wdB (dS rows) b
def nbW (rows : List (List AV)) (b : Bool) : Bool := if bdW rows b = true then true else !inB (hdR rows)
def rwN : Nat → List (List AV) → List (List AV)
  | 0, rows => rows
  | k + 1, rows => tlR (rwN k rows)
def b4R (rows : List (List AV)) : Bool := bdW (rwN 3 rows) (bdW (rwN 2 rows) (bdW (rwN 1 rows) (bdW (rwN 0 rows) false)))
def b6R (rows : List (List AV)) : Bool := nbW (rwN 5 rows) (nbW (rwN 4 rows) (b4R rows))
def roL (x : List UInt8) : List (List AV) := (wdsL x).map encS
def badL (x : List UInt8) : Bool := if (if (if (!cutS x [10]) = true then true else !(hdR (rwN 0 (roL x)) == WM)) = true then true else b6R (roL x)) = true then true else ((roL x).length : Int) != 6
def mvL (x : List UInt8) : Mv := ⟨hdR (rwN 1 (roL x)), hdR (rwN 2 (roL x)), hdR (rwN 3 (roL x)), inV (hdR (rwN 4 (roL x))), inV (hdR (rwN 5 (roL x)))⟩
def hs77 : Nat → List AV → List ABlk → Option AV
  | 142, _, [.box [.sl _ rows, .bool b]] => some (.gv true (.tup [.str (hdR rows), .agg [.sl 1 (tlR rows), .bool (bdW rows b)]]))
  | 143, _, [.box [.sl _ rows, .bool b]] => some (.gv true (.tup [.i (inV (hdR rows)), .agg [.sl 1 (tlR rows), .bool (nbW rows b)]]))
  | _, _, _ => none
def sp77 (r : Ru) (e : Int) : Nat → List AV → Option AV
  | 29, _ => some (.i (chkS r))
  | 139, [.str s] => some (.fbox 167 [.str s])
  | 140, [.str s, _] => some (.tup [.str (bodyL s), .bool (cutS s [10])])
  | 141, [.str s, _] => some (.sl 1 ((spl 32 s).map encS))
  | 42, _ => some (.i e)
  | n, x => spT n x
def fa77 (r : Ru) (s : List UInt8) : FA := {
  X := List UInt8, xs := lns s, enc := encS
  post := [.renc 4 0 5, .keep [] [1, 2, 3, 4, 5], .bound 8]
  Gh := List (List UInt8)
  st := fun g => ⟨[(2, .elt 18 [encRu r] 0 0), (4, .ptr 1 0), (5, .ptr 2 0), (6, .ptr 3 0), (8, .ptr 4 0)], [(1, .box [.ex (.slice none 0 0)]), (2, .box [.i 0]), (3, .box [.i 0]), (4, .box [.own 5 ((g.map mvL).map encMv).length]), (5, .buf 165 5 ((g.map mvL).map encMv))], 8⟩
  ok := fun pre g => g = pre ∧ ∀ x, x ∈ pre → badL x = false }
def psT (e0 : Int) (k n : Nat) (ms : List Mv) (e : Int) : AV := if e0 != 0 then .tup [.sl 5 [], .i 0, .i e0] else if k < n then .tup [.sl 5 [], .i k, .i 25] else if e != 0 then .tup [.sl 5 [], .i n, .i e] else .tup [.sl 5 (ms.map encMv), .i 0, .i 0]
def e77 (r : Ru) (s : List UInt8) : Int := sFirst [chkS r, sWhen (decide ((s.length : Int) > 4096)) 26]
def k77 (s : List UInt8) : Nat := fiN (fun i => badL ((lns s).getD i [])) (lns s).length
def g77 : Nat → List GS := fun i => if i.beq 3 then [.nilb 2 0 5] else if i.beq 4 then [.reno 4 1, .reno 5 2, .reno 6 3, .reno 8 4, .ownb 4 0 165 5, .renc 4 0 5, .keep [1, 2, 4, 5, 6, 8] [1, 2, 3, 4, 5], .bound 6] else if i.beq 5 then [.keep [2, 4, 5, 6, 8, 30] [1, 2, 3, 4, 5, 7], .bound 8] else if i.beq 18 then [.nilb 1 0 5] else if i.beq 22 then [.nilb 1 0 5] else []
theorem hd_r (ws : List (List UInt8)) : hdR (ws.map encS) = ws.headD [] := by rw [hdR, dS_e]
theorem tl_r (ws : List (List UInt8)) : tlR (ws.map encS) = (wdR ws).map encS := by rw [tlR, dS_e]
def wdN : Nat → List (List UInt8) → List (List UInt8)
  | 0, ws => ws
  | k + 1, ws => wdR (wdN k ws)
theorem rw_e (ws : List (List UInt8)) : ∀ k, rwN k (ws.map encS) = (wdN k ws).map encS
  | 0 => rfl
  | k + 1 => by rw [rwN, rw_e ws k, tl_r, wdN]
theorem wdR_sub (ws : List (List UInt8)) : (wdR ws).Sublist ws := by
  unfold wdR
  split
  · exact List.nil_sublist _
  · exact List.tail_sublist ws
theorem wdN_sub (ws : List (List UInt8)) : ∀ k, (wdN k ws).Sublist ws
  | 0 => List.Sublist.refl _
  | k + 1 => (wdR_sub _).trans (wdN_sub ws k)
theorem w142k (k : Nat) (ws : List (List UInt8)) (b : Bool) (hw : ws.length ≤ 1000000) : WCall Tryz.prog G0 142 [.ptr 1 0] [ABlk.box [.sl 1 (rwN k (ws.map encS)), .bool b]] (.str (hdR (rwN k (ws.map encS)))) [ABlk.box [.sl 1 (tlR (rwN k (ws.map encS))), .bool (bdW (rwN k (ws.map encS)) b)]] := by
  rw [rw_e, hd_r, tl_r, bdW, dS_e]
  exact w142 _ b (Nat.le_trans (wdN_sub ws k).length_le hw)
theorem w143k (k : Nat) (ws : List (List UInt8)) (b : Bool) (hw : ws.length ≤ 1000000) (hl : ∀ x, x ∈ ws → x.length ≤ 1000000) : WCall Tryz.prog G0 143 [.ptr 1 0] [ABlk.box [.sl 1 (rwN k (ws.map encS)), .bool b]] (.i (inV (hdR (rwN k (ws.map encS))))) [ABlk.box [.sl 1 (tlR (rwN k (ws.map encS))), .bool (nbW (rwN k (ws.map encS)) b)]] := by
  rw [rw_e, nbW, hd_r, tl_r, bdW, dS_e]
  exact w143 _ b (Nat.le_trans (wdN_sub ws k).length_le hw) (fun x hx => hl x ((wdN_sub ws k).subset hx))
theorem ln_len : ∀ {L : List (List UInt8)} {s : List UInt8}, isLn L s → L.length ≤ s.length ∧ ∀ x, x ∈ L → x.length ≤ s.length
  | [], s, _ => ⟨Nat.zero_le _, fun x hx => by simp at hx⟩
  | x :: L, s, ⟨h1, h2, h3⟩ => by
    obtain ⟨i1, i2⟩ := ln_len h3
    have h4 := tl_len h1
    have h5 := congrArg List.length (hd_tl s)
    rw [List.length_append] at h5
    refine ⟨by rw [List.length_cons]; omega, fun y hy => ?_⟩
    rcases List.mem_cons.1 hy with rfl | hy
    · rw [h2]; omega
    · have := i2 y hy; omega
theorem spl_len (c : UInt8) : ∀ s : List UInt8, (spl c s).length ≤ s.length + 1 ∧ ∀ x, x ∈ spl c s → x.length ≤ s.length
  | [] => by simp [spl]
  | a :: t => by
    obtain ⟨h1, h2⟩ := spl_len c t
    have h3 := spl_cons c t
    rw [spl]
    split
    · refine ⟨by simp only [List.length_cons]; omega, fun x hx => ?_⟩
      rcases List.mem_cons.1 hx with rfl | hx
      · exact Nat.zero_le _
      · have := h2 x hx; simp only [List.length_cons]; omega
    · have h4 := congrArg List.length h3
      rw [List.length_cons] at h4
      refine ⟨by simp only [List.length_cons]; omega, fun x hx => ?_⟩
      rcases List.mem_cons.1 hx with rfl | hx
      · have := h2 ((spl c t).headD []) (by rw [← h3]; exact List.mem_cons_self ..)
        simp only [List.length_cons]; omega
      · have := h2 x (by rw [← h3]; exact List.mem_cons_of_mem _ hx)
        simp only [List.length_cons]; omega
theorem body_len (x : List UInt8) : (bodyL x).length ≤ x.length := by
  unfold bodyL
  split
  · rw [List.length_take]; omega
  · exact Nat.le_refl _
theorem c77 (r : Ru) (s : List UInt8) (e : Int) (ht : r.ts.length ≤ 1000) (hs : r.rs.length ≤ 1000) (hn : ∀ t, t ∈ r.ts → t.n.length ≤ 1000) (hm : ∀ x, x ∈ r.rs → x.length ≤ 1000) (hl : s.length ≤ 10000) (he : e77 r s = 0 → k77 s = (lns s).length → PCall Tryz.prog G0 42 [.agg (encRu r), .sl 5 (((lns s).map mvL).map encMv)] (.i e)) : PCall Tryz.prog G0 77 [.agg (encRu r), .str s] (psT (e77 r s) (k77 s) (lns s).length ((lns s).map mvL) e) := by
  have key :
   PCall Tryz.prog G0 29 [AV.agg (encRu r)] (AV.i (chkS r)) ∧ PCall Tryz.prog G0 95 [AV.bool (decide ((↑s.length : Int) > 4096)), AV.i 26] (AV.i (sWhen (decide ((↑s.length : Int) > 4096)) (26 : Int))) ∧ PCall Tryz.prog G0 87 [AV.sl 1
   [[AV.i (chkS r)], [AV.i (sWhen (decide ((↑s.length : Int) > 4096)) (26 : Int))]]] (AV.i (sFirst [hdI [AV.i (chkS r)], hdI [AV.i (sWhen (decide ((↑s.length : Int) > 4096)) (26 : Int))]])) ∧ ((sFirst [hdI [AV.i (chkS r)], hdI [AV.i
   (sWhen (decide ((↑s.length : Int) > 4096)) (26 : Int))]] != 0) = true → AV.tup [AV.sl 5 [], AV.i 0, AV.i (sFirst [hdI [AV.i (chkS r)], hdI [AV.i (sWhen (decide ((↑s.length : Int) > 4096)) (26 : Int))]])] = psT (e77 r s) (k77 s)
   (lns s).length (List.map mvL (lns s)) e) ∧ ((sFirst [hdI [AV.i (chkS r)], hdI [AV.i (sWhen (decide ((↑s.length : Int) > 4096)) (26 : Int))]] != 0) = false → PCall Tryz.prog G0 139 [AV.str s] (AV.fbox 167 [AV.str s]) ∧ PSeqB (bodyE
   Tryz.prog T0 G0 Tryz.f77.ntmps []).P (bodyE Tryz.prog T0 G0 Tryz.f77.ntmps []).G 167 [AV.str s] (List.map (fa77 r s).enc (fa77 r s).xs) ∧ (∀ (x : List UInt8), 1 = 1) ∧ (∃ (g : List (List UInt8)), (g = [] ∧ ∀ (x : List UInt8), x ∈
   [] → badL x = false) ∧ AS.mk [(2, AV.elt 18 [(encRu r)] 0 0), (4, AV.ptr 1 0), (5, AV.ptr 2 0), (6, AV.ptr 3 0), (8, AV.ptr 4 0)] [(1, ABlk.box [AV.ex (Value.slice none 0 0)]), (2, ABlk.box [AV.i 0]), (3, ABlk.box [AV.i 0]), (4,
   ABlk.box [AV.own 5 0]), (5, ABlk.buf 165 5 [])] 8 = AS.mk [(2, AV.elt 18 [(encRu r)] 0 0), (4, AV.ptr 1 0), (5, AV.ptr 2 0), (6, AV.ptr 3 0), (8, AV.ptr 4 0)] [(1, ABlk.box [AV.ex (Value.slice none 0 0)]), (2, ABlk.box [AV.i 0]),
   (3, ABlk.box [AV.i 0]), (4, ABlk.box [AV.own 5 (List.map encMv (List.map mvL g)).length]), (5, ABlk.buf 165 5 (List.map encMv (List.map mvL g)))] 8) ∧ (∀ (pre : List (List UInt8)) (x : List UInt8) (post : List (List UInt8)) (g :
   List (List UInt8)), lns s = pre ++ x :: post → (g = pre ∧ ∀ (x : List UInt8), x ∈ pre → badL x = false) → Exit.normal = Exit.normal ∧ false = false ∧ PCall Tryz.prog G0 140 [AV.str x, AV.str [(10 : UInt8)]] (AV.tup [AV.str (bodyL
   x), AV.bool (cutS x [(10 : UInt8)])]) ∧ PCall Tryz.prog G0 141 [AV.str (bodyL x), AV.str [(32 : UInt8)]] (AV.sl 1 (List.map encS (spl (32 : UInt8) (bodyL x)))) ∧ WCall Tryz.prog G0 142 [AV.ptr 1 0] [ABlk.box [AV.sl 1 (List.map encS
   (spl (32 : UInt8) (bodyL x))), AV.bool false]] (AV.str (hdR (List.map encS (spl (32 : UInt8) (bodyL x))))) [ABlk.box [AV.sl 1 (tlR (List.map encS (spl (32 : UInt8) (bodyL x)))), AV.bool (bdW (List.map encS (spl (32 : UInt8) (bodyL
   x))) false)]] ∧ WCall Tryz.prog G0 142 [AV.ptr 1 0] [ABlk.box [AV.sl 1 (tlR (List.map encS (spl (32 : UInt8) (bodyL x)))), AV.bool (bdW (List.map encS (spl (32 : UInt8) (bodyL x))) false)]] (AV.str (hdR (tlR (List.map encS (spl (32
   : UInt8) (bodyL x)))))) [ABlk.box [AV.sl 1 (tlR (tlR (List.map encS (spl (32 : UInt8) (bodyL x))))), AV.bool (bdW (tlR (List.map encS (spl (32 : UInt8) (bodyL x)))) (bdW (List.map encS (spl (32 : UInt8) (bodyL x))) false))]] ∧
   WCall Tryz.prog G0 142 [AV.ptr 1 0] [ABlk.box [AV.sl 1 (tlR (tlR (List.map encS (spl (32 : UInt8) (bodyL x))))), AV.bool (bdW (tlR (List.map encS (spl (32 : UInt8) (bodyL x)))) (bdW (List.map encS (spl (32 : UInt8) (bodyL x)))
   false))]] (AV.str (hdR (tlR (tlR (List.map encS (spl (32 : UInt8) (bodyL x))))))) [ABlk.box [AV.sl 1 (tlR (tlR (tlR (List.map encS (spl (32 : UInt8) (bodyL x)))))), AV.bool (bdW (tlR (tlR (List.map encS (spl (32 : UInt8) (bodyL
   x))))) (bdW (tlR (List.map encS (spl (32 : UInt8) (bodyL x)))) (bdW (List.map encS (spl (32 : UInt8) (bodyL x))) false)))]] ∧ WCall Tryz.prog G0 142 [AV.ptr 1 0] [ABlk.box [AV.sl 1 (tlR (tlR (tlR (List.map encS (spl (32 : UInt8)
   (bodyL x)))))), AV.bool (bdW (tlR (tlR (List.map encS (spl (32 : UInt8) (bodyL x))))) (bdW (tlR (List.map encS (spl (32 : UInt8) (bodyL x)))) (bdW (List.map encS (spl (32 : UInt8) (bodyL x))) false)))]] (AV.str (hdR (tlR (tlR (tlR
   (List.map encS (spl (32 : UInt8) (bodyL x)))))))) [ABlk.box [AV.sl 1 (tlR (tlR (tlR (tlR (List.map encS (spl (32 : UInt8) (bodyL x))))))), AV.bool (bdW (tlR (tlR (tlR (List.map encS (spl (32 : UInt8) (bodyL x)))))) (bdW (tlR (tlR
   (List.map encS (spl (32 : UInt8) (bodyL x))))) (bdW (tlR (List.map encS (spl (32 : UInt8) (bodyL x)))) (bdW (List.map encS (spl (32 : UInt8) (bodyL x))) false))))]] ∧ WCall Tryz.prog G0 143 [AV.ptr 1 0] [ABlk.box [AV.sl 1 (tlR (tlR
   (tlR (tlR (List.map encS (spl (32 : UInt8) (bodyL x))))))), AV.bool (bdW (tlR (tlR (tlR (List.map encS (spl (32 : UInt8) (bodyL x)))))) (bdW (tlR (tlR (List.map encS (spl (32 : UInt8) (bodyL x))))) (bdW (tlR (List.map encS (spl (32
   : UInt8) (bodyL x)))) (bdW (List.map encS (spl (32 : UInt8) (bodyL x))) false))))]] (AV.i (inV (hdR (tlR (tlR (tlR (tlR (List.map encS (spl (32 : UInt8) (bodyL x)))))))))) [ABlk.box [AV.sl 1 (tlR (tlR (tlR (tlR (tlR (List.map encS
   (spl (32 : UInt8) (bodyL x)))))))), AV.bool (nbW (tlR (tlR (tlR (tlR (List.map encS (spl (32 : UInt8) (bodyL x))))))) (bdW (tlR (tlR (tlR (List.map encS (spl (32 : UInt8) (bodyL x)))))) (bdW (tlR (tlR (List.map encS (spl (32 :
   UInt8) (bodyL x))))) (bdW (tlR (List.map encS (spl (32 : UInt8) (bodyL x)))) (bdW (List.map encS (spl (32 : UInt8) (bodyL x))) false)))))]] ∧ WCall Tryz.prog G0 143 [AV.ptr 1 0] [ABlk.box [AV.sl 1 (tlR (tlR (tlR (tlR (tlR (List.map
   encS (spl (32 : UInt8) (bodyL x)))))))), AV.bool (nbW (tlR (tlR (tlR (tlR (List.map encS (spl (32 : UInt8) (bodyL x))))))) (bdW (tlR (tlR (tlR (List.map encS (spl (32 : UInt8) (bodyL x)))))) (bdW (tlR (tlR (List.map encS (spl (32 :
   UInt8) (bodyL x))))) (bdW (tlR (List.map encS (spl (32 : UInt8) (bodyL x)))) (bdW (List.map encS (spl (32 : UInt8) (bodyL x))) false)))))]] (AV.i (inV (hdR (tlR (tlR (tlR (tlR (tlR (List.map encS (spl (32 : UInt8) (bodyL
   x))))))))))) [ABlk.box [AV.sl 1 (tlR (tlR (tlR (tlR (tlR (tlR (List.map encS (spl (32 : UInt8) (bodyL x))))))))), AV.bool (nbW (tlR (tlR (tlR (tlR (tlR (List.map encS (spl (32 : UInt8) (bodyL x)))))))) (nbW (tlR (tlR (tlR (tlR
   (List.map encS (spl (32 : UInt8) (bodyL x))))))) (bdW (tlR (tlR (tlR (List.map encS (spl (32 : UInt8) (bodyL x)))))) (bdW (tlR (tlR (List.map encS (spl (32 : UInt8) (bodyL x))))) (bdW (tlR (List.map encS (spl (32 : UInt8) (bodyL
   x)))) (bdW (List.map encS (spl (32 : UInt8) (bodyL x))) false))))))]] ∧ ((!!cutS x [(10 : UInt8)]) = true → (!!cutS x [(10 : UInt8)]) = true) ∧ ((!cutS x [(10 : UInt8)]) = false → (!!cutS x [(10 : UInt8)]) = true) ∧ ((!if (!cutS x
   [(10 : UInt8)]) = true then true else !hdR (List.map encS (spl (32 : UInt8) (bodyL x))) == [(109 : UInt8), (111 : UInt8), (118 : UInt8), (101 : UInt8)]) = true → (!if (!cutS x [(10 : UInt8)]) = true then true else !hdR (List.map
   encS (spl (32 : UInt8) (bodyL x))) == [(109 : UInt8), (111 : UInt8), (118 : UInt8), (101 : UInt8)]) = true) ∧ ((!if (!cutS x [(10 : UInt8)]) = true then true else !hdR (List.map encS (spl (32 : UInt8) (bodyL x))) == [(109 : UInt8),
   (111 : UInt8), (118 : UInt8), (101 : UInt8)]) = true → (!if (!cutS x [(10 : UInt8)]) = true then true else !hdR (List.map encS (spl (32 : UInt8) (bodyL x))) == [(109 : UInt8), (111 : UInt8), (118 : UInt8), (101 : UInt8)]) = true) ∧
   ((!if (!cutS x [(10 : UInt8)]) = true then true else !hdR (List.map encS (spl (32 : UInt8) (bodyL x))) == [(109 : UInt8), (111 : UInt8), (118 : UInt8), (101 : UInt8)]) = true → (!if (!cutS x [(10 : UInt8)]) = true then true else
   !hdR (List.map encS (spl (32 : UInt8) (bodyL x))) == [(109 : UInt8), (111 : UInt8), (118 : UInt8), (101 : UInt8)]) = true) ∧ ((if (!cutS x [(10 : UInt8)]) = true then true else !hdR (List.map encS (spl (32 : UInt8) (bodyL x))) ==
   [(109 : UInt8), (111 : UInt8), (118 : UInt8), (101 : UInt8)]) = false → (!if (!cutS x [(10 : UInt8)]) = true then true else !hdR (List.map encS (spl (32 : UInt8) (bodyL x))) == [(109 : UInt8), (111 : UInt8), (118 : UInt8), (101 :
   UInt8)]) = true) ∧ ((!if (if (!cutS x [(10 : UInt8)]) = true then true else !hdR (List.map encS (spl (32 : UInt8) (bodyL x))) == [(109 : UInt8), (111 : UInt8), (118 : UInt8), (101 : UInt8)]) = true then true else nbW (tlR (tlR (tlR
   (tlR (tlR (List.map encS (spl (32 : UInt8) (bodyL x)))))))) (nbW (tlR (tlR (tlR (tlR (List.map encS (spl (32 : UInt8) (bodyL x))))))) (bdW (tlR (tlR (tlR (List.map encS (spl (32 : UInt8) (bodyL x)))))) (bdW (tlR (tlR (List.map encS
   (spl (32 : UInt8) (bodyL x))))) (bdW (tlR (List.map encS (spl (32 : UInt8) (bodyL x)))) (bdW (List.map encS (spl (32 : UInt8) (bodyL x))) false)))))) = true → (!if (if (!cutS x [(10 : UInt8)]) = true then true else !hdR (List.map
   encS (spl (32 : UInt8) (bodyL x))) == [(109 : UInt8), (111 : UInt8), (118 : UInt8), (101 : UInt8)]) = true then true else nbW (tlR (tlR (tlR (tlR (tlR (List.map encS (spl (32 : UInt8) (bodyL x)))))))) (nbW (tlR (tlR (tlR (tlR
   (List.map encS (spl (32 : UInt8) (bodyL x))))))) (bdW (tlR (tlR (tlR (List.map encS (spl (32 : UInt8) (bodyL x)))))) (bdW (tlR (tlR (List.map encS (spl (32 : UInt8) (bodyL x))))) (bdW (tlR (List.map encS (spl (32 : UInt8) (bodyL
   x)))) (bdW (List.map encS (spl (32 : UInt8) (bodyL x))) false)))))) = true) ∧ ((!if (if (!cutS x [(10 : UInt8)]) = true then true else !hdR (List.map encS (spl (32 : UInt8) (bodyL x))) == [(109 : UInt8), (111 : UInt8), (118 :
   UInt8), (101 : UInt8)]) = true then true else nbW (tlR (tlR (tlR (tlR (tlR (List.map encS (spl (32 : UInt8) (bodyL x)))))))) (nbW (tlR (tlR (tlR (tlR (List.map encS (spl (32 : UInt8) (bodyL x))))))) (bdW (tlR (tlR (tlR (List.map
   encS (spl (32 : UInt8) (bodyL x)))))) (bdW (tlR (tlR (List.map encS (spl (32 : UInt8) (bodyL x))))) (bdW (tlR (List.map encS (spl (32 : UInt8) (bodyL x)))) (bdW (List.map encS (spl (32 : UInt8) (bodyL x))) false)))))) = true → (!if
   (if (!cutS x [(10 : UInt8)]) = true then true else !hdR (List.map encS (spl (32 : UInt8) (bodyL x))) == [(109 : UInt8), (111 : UInt8), (118 : UInt8), (101 : UInt8)]) = true then true else nbW (tlR (tlR (tlR (tlR (tlR (List.map encS
   (spl (32 : UInt8) (bodyL x)))))))) (nbW (tlR (tlR (tlR (tlR (List.map encS (spl (32 : UInt8) (bodyL x))))))) (bdW (tlR (tlR (tlR (List.map encS (spl (32 : UInt8) (bodyL x)))))) (bdW (tlR (tlR (List.map encS (spl (32 : UInt8) (bodyL
   x))))) (bdW (tlR (List.map encS (spl (32 : UInt8) (bodyL x)))) (bdW (List.map encS (spl (32 : UInt8) (bodyL x))) false)))))) = true) ∧ ((if (if (!cutS x [(10 : UInt8)]) = true then true else !hdR (List.map encS (spl (32 : UInt8)
   (bodyL x))) == [(109 : UInt8), (111 : UInt8), (118 : UInt8), (101 : UInt8)]) = true then true else nbW (tlR (tlR (tlR (tlR (tlR (List.map encS (spl (32 : UInt8) (bodyL x)))))))) (nbW (tlR (tlR (tlR (tlR (List.map encS (spl (32 :
   UInt8) (bodyL x))))))) (bdW (tlR (tlR (tlR (List.map encS (spl (32 : UInt8) (bodyL x)))))) (bdW (tlR (tlR (List.map encS (spl (32 : UInt8) (bodyL x))))) (bdW (tlR (List.map encS (spl (32 : UInt8) (bodyL x)))) (bdW (List.map encS
   (spl (32 : UInt8) (bodyL x))) false)))))) = false → (!if (if (!cutS x [(10 : UInt8)]) = true then true else !hdR (List.map encS (spl (32 : UInt8) (bodyL x))) == [(109 : UInt8), (111 : UInt8), (118 : UInt8), (101 : UInt8)]) = true
   then true else nbW (tlR (tlR (tlR (tlR (tlR (List.map encS (spl (32 : UInt8) (bodyL x)))))))) (nbW (tlR (tlR (tlR (tlR (List.map encS (spl (32 : UInt8) (bodyL x))))))) (bdW (tlR (tlR (tlR (List.map encS (spl (32 : UInt8) (bodyL
   x)))))) (bdW (tlR (tlR (List.map encS (spl (32 : UInt8) (bodyL x))))) (bdW (tlR (List.map encS (spl (32 : UInt8) (bodyL x)))) (bdW (List.map encS (spl (32 : UInt8) (bodyL x))) false)))))) = true) ∧ ((if (if (if (!cutS x [(10 :
   UInt8)]) = true then true else !hdR (List.map encS (spl (32 : UInt8) (bodyL x))) == [(109 : UInt8), (111 : UInt8), (118 : UInt8), (101 : UInt8)]) = true then true else nbW (tlR (tlR (tlR (tlR (tlR (List.map encS (spl (32 : UInt8)
   (bodyL x)))))))) (nbW (tlR (tlR (tlR (tlR (List.map encS (spl (32 : UInt8) (bodyL x))))))) (bdW (tlR (tlR (tlR (List.map encS (spl (32 : UInt8) (bodyL x)))))) (bdW (tlR (tlR (List.map encS (spl (32 : UInt8) (bodyL x))))) (bdW (tlR
   (List.map encS (spl (32 : UInt8) (bodyL x)))) (bdW (List.map encS (spl (32 : UInt8) (bodyL x))) false)))))) = true then true else (↑(List.map encS (spl (32 : UInt8) (bodyL x))).length : Int) != 6) = true → false = false ∧ AV.tup
   [AV.sl 5 [], AV.i (↑(List.map encMv (List.map mvL g)).length : Int), AV.i 25] = psT (e77 r s) (k77 s) (lns s).length (List.map mvL (lns s)) e) ∧ ((if (if (if (!cutS x [(10 : UInt8)]) = true then true else !hdR (List.map encS (spl
   (32 : UInt8) (bodyL x))) == [(109 : UInt8), (111 : UInt8), (118 : UInt8), (101 : UInt8)]) = true then true else nbW (tlR (tlR (tlR (tlR (tlR (List.map encS (spl (32 : UInt8) (bodyL x)))))))) (nbW (tlR (tlR (tlR (tlR (List.map encS
   (spl (32 : UInt8) (bodyL x))))))) (bdW (tlR (tlR (tlR (List.map encS (spl (32 : UInt8) (bodyL x)))))) (bdW (tlR (tlR (List.map encS (spl (32 : UInt8) (bodyL x))))) (bdW (tlR (List.map encS (spl (32 : UInt8) (bodyL x)))) (bdW
   (List.map encS (spl (32 : UInt8) (bodyL x))) false)))))) = true then true else (↑(List.map encS (spl (32 : UInt8) (bodyL x))).length : Int) != 6) = false → (List.map encMv (List.map mvL g)).length + 1 ≤ 9223372036854775807 ∧
   ((List.map encMv (List.map mvL g)).length + 1) * 64 ≤ 140737488355328 ∧ false = false ∧ ∃ (g' : List (List UInt8)), (g' = pre ++ [x] ∧ ∀ (x_1 : List UInt8), x_1 ∈ pre ++ [x] → badL x_1 = false) ∧ AS.mk [(2, AV.elt 18 [(encRu r)] 0
   0), (4, AV.ptr 1 0), (5, AV.ptr 2 0), (6, AV.ptr 3 0), (8, AV.ptr 4 0)] [(1, ABlk.box [AV.ex (Value.slice none 0 0)]), (2, ABlk.box [AV.i 0]), (3, ABlk.box [AV.i 0]), (4, ABlk.box [AV.own 5 ((List.map encMv (List.map mvL g)).length
   + 1)]), (5, ABlk.buf 165 5 (List.map encMv (List.map mvL g) ++ [[AV.str (hdR (tlR (List.map encS (spl (32 : UInt8) (bodyL x))))), AV.str (hdR (tlR (tlR (List.map encS (spl (32 : UInt8) (bodyL x)))))), AV.str (hdR (tlR (tlR (tlR
   (List.map encS (spl (32 : UInt8) (bodyL x))))))), AV.i (inV (hdR (tlR (tlR (tlR (tlR (List.map encS (spl (32 : UInt8) (bodyL x))))))))), AV.i (inV (hdR (tlR (tlR (tlR (tlR (tlR (List.map encS (spl (32 : UInt8) (bodyL
   x))))))))))]]))] 8 = AS.mk [(2, AV.elt 18 [(encRu r)] 0 0), (4, AV.ptr 1 0), (5, AV.ptr 2 0), (6, AV.ptr 3 0), (8, AV.ptr 4 0)] [(1, ABlk.box [AV.ex (Value.slice none 0 0)]), (2, ABlk.box [AV.i 0]), (3, ABlk.box [AV.i 0]), (4,
   ABlk.box [AV.own 5 (List.map encMv (List.map mvL g')).length]), (5, ABlk.buf 165 5 (List.map encMv (List.map mvL g')))] 8)) ∧ ∀ (g : List (List UInt8)), (g = lns s ∧ ∀ (x : List UInt8), x ∈ lns s → badL x = false) → PCall Tryz.prog
   G0 42 [AV.agg (encRu r), AV.sl 5 (List.map encMv (List.map mvL g))] (AV.i e) ∧ ((e != 0) = true → AV.tup [AV.sl 5 [], AV.i (↑(List.map encMv (List.map mvL g)).length : Int), AV.i e] = psT (e77 r s) (k77 s) (lns s).length (List.map
   mvL (lns s)) e) ∧ ((e != 0) = false → AV.tup [AV.sl 5 (List.map encMv (List.map mvL g)), AV.i 0, AV.i 0] = psT (e77 r s) (k77 s) (lns s).length (List.map mvL (lns s)) e)) := by
    refine ⟨c29 r ht hs hn hm, c95 _ _, c87 [_, _] (by simp), fun h => ?_, fun h => ⟨c139 s, s167 s (by omega), fun _ => rfl, ⟨[], ⟨rfl, fun x hx => (by simp at hx)⟩, rfl⟩, fun pre x post g hL hg => ?_, fun g hg => ?_⟩⟩
    · rw [psT, if_pos (show (e77 r s != 0) = true from h)]
      rfl
    · obtain ⟨rfl, hb⟩ := hg
      obtain ⟨l1, l2⟩ := ln_len (lns_is s)
      have hxl := l2 x (by rw [hL]; simp)
      have hbl := body_len x
      obtain ⟨w1, w2⟩ := spl_len 32 (bodyL x)
      have hw : (wdsL x).length ≤ 1000000 := by unfold wdsL; omega
      have hwl : ∀ y, y ∈ wdsL x → y.length ≤ 1000000 := fun y hy => by have := w2 y hy; omega
      have hgl : (List.map encMv (List.map mvL g)).length = g.length := by rw [List.length_map, List.length_map]
      have hgn : g.length < (lns s).length := by rw [hL]; simp
      have he0 : ¬ (e77 r s != 0) = true := by
        rw [show (e77 r s != 0) = false from h]
        decide
      refine ⟨rfl, rfl, c140 x [10] (by omega) (by decide), c141 (bodyL x) 32 (by omega), w142k 0 (wdsL x) _ hw, w142k 1 (wdsL x) _ hw, w142k 2 (wdsL x) _ hw, w142k 3 (wdsL x) _ hw, w143k 4 (wdsL x) _ hw hwl, w143k 5 (wdsL x) _ hw hwl,
        fun h => h, fun h => by rw [h]; rfl, fun h => h, fun h => h, fun h => h, fun h => by rw [h]; rfl, fun h => h, fun h => h, fun h => by rw [h]; rfl, fun hx => ?_, fun hx => ?_⟩
      · have hx : badL x = true := hx
        have hk : k77 s = g.length := by
          refine fi_some (fun j hj => ?_) ?_ hgn
          · apply hb
            rw [hL, List.getD_eq_getElem?_getD, List.getElem?_append_left hj, List.getElem?_eq_getElem hj]
            exact List.getElem_mem hj
          · show badL ((lns s).getD g.length []) = true
            rw [hL, List.getD_eq_getElem?_getD, List.getElem?_append_right (Nat.le_refl _), Nat.sub_self]
            exact hx
        refine ⟨rfl, ?_⟩
        rw [psT, if_neg he0, hk, if_pos hgn, hgl]
      · have hx : badL x = false := hx
        refine ⟨by omega, by omega, rfl, g ++ [x], ⟨rfl, fun y hy => ?_⟩, ?_⟩
        · rcases List.mem_append.1 hy with hy | hy
          · exact hb y hy
          · rw [List.mem_singleton.1 hy]; exact hx
        · have e1 : List.map encMv (List.map mvL (g ++ [x])) = List.map encMv (List.map mvL g) ++ [encMv (mvL x)] := by rw [List.map_append, List.map_append]; rfl
          rw [e1, List.length_append]
          simp only [encMv, mvL, rwN, roL, wdsL]
          rfl
    · obtain ⟨rfl, hb⟩ := hg
      have he0 : ¬ (e77 r s != 0) = true := by
        rw [show (e77 r s != 0) = false from h]
        decide
      have hk : k77 s = (lns s).length := fi_none fun j hj => by
        apply hb
        rw [List.getD_eq_getElem?_getD, List.getElem?_eq_getElem hj]
        exact List.getElem_mem hj
      have hgl : (List.map encMv (List.map mvL (lns s))).length = (lns s).length := by rw [List.length_map, List.length_map]
      refine ⟨he (bne_f h) hk, fun h2 => ?_, fun h2 => ?_⟩
      · rw [psT, if_neg he0, hk, if_neg (Nat.lt_irrefl _), if_pos h2, hgl]
      · rw [psT, if_neg he0, hk, if_neg (Nat.lt_irrefl _), if_neg (by rw [h2]; decide)]
  exact c_of Tryz.f77 (gsB g77 { fzB (mkB (sp77 r e) 77 [] noLa) with hs := hs77, fa := some (fa77 r s) }) (by kernel_rfl) (by kernel_rfl) (by kernel_rfl) (by kernel_rfl) key (by kernel_rfl)
end Go.Proofs.YtimgfogakgakhaaGreatDoor
namespace Go.Proofs.YtimgfogakgakhaaGreatDoor
open Go Go.Av Go.RowKit
def lnP : List (List UInt8) → List (List UInt8)
  | [] => []
  | [x] => if x = [] then [] else [x]
  | x :: y :: t => (x ++ [10]) :: lnP (y :: t)
theorem spl_ln : ∀ s : List UInt8, (spl 10 s = [s] ∧ hdL s = s ∧ tlL s = []) ∨ ∃ x, hdL s = x ++ [10] ∧ spl 10 s = x :: spl 10 (tlL s)
  | [] => .inl ⟨rfl, rfl, rfl⟩
  | c :: t => by
    by_cases h : c = 10
    · subst h
      exact .inr ⟨[], rfl, rfl⟩
    · have hb : (c == 10) = false := beq_false_of_ne h
      rcases spl_ln t with ⟨h1, h2, h3⟩ | ⟨x, h1, h2⟩
      · exact .inl ⟨by rw [spl, hb, h1]; rfl, by rw [hdL, hb, h2]; rfl, by rw [tlL, hb, h3]; rfl⟩
      · exact .inr ⟨c :: x, by rw [hdL, hb, h1]; rfl, by rw [spl, tlL, hb, h2]; rfl⟩
theorem isLn_uniq : ∀ {A B : List (List UInt8)} {s : List UInt8}, isLn A s → isLn B s → A = B
  | [], [], _, _, _ => rfl
  | [], _ :: _, _, h, g => absurd h g.1
  | _ :: _, [], _, h, g => absurd g h.1
  | x :: A, y :: B, s, ⟨_, h2, h3⟩, ⟨_, g2, g3⟩ => by rw [h2, g2, isLn_uniq h3 g3]
theorem lnP_is : ∀ (n : Nat) (s : List UInt8), s.length ≤ n → isLn (lnP (spl 10 s)) s
  | 0, s, h => by
    cases s with
    | nil => exact rfl
    | cons _ _ => simp at h
  | n + 1, s, h => by
    by_cases q : s = []
    · subst q; exact rfl
    · rcases spl_ln s with ⟨h1, h2, h3⟩ | ⟨x, h1, h2⟩
      · rw [h1, lnP, if_neg q]
        exact ⟨q, h2.symm, h3⟩
      · have hlt := tl_len q
        have ih := lnP_is n (tlL s) (by omega)
        rw [h2]
        cases hP : spl 10 (tlL s) with
        | nil => exact absurd hP (spl_ne _ _)
        | cons y t =>
          rw [hP] at ih
          exact ⟨q, h1.symm, ih⟩
theorem lns_eq (s : List UInt8) : lns s = lnP (spl 10 s) := isLn_uniq (lns_is s) (lnP_is _ s (Nat.le_refl _))
theorem lnP_len : ∀ P : List (List UInt8), P ≠ [] → (lnP P).length = (P.length - 1) + (if P.getD (P.length - 1) [] = [] then 0 else 1)
  | [], h => absurd rfl h
  | [x], _ => by
    rw [lnP]
    by_cases q : x = []
    · subst q; rfl
    · rw [if_neg q, show [x].getD ([x].length - 1) [] = x from rfl, if_neg q]; rfl
  | x :: y :: t, _ => by
    have ih := lnP_len (y :: t) (by simp)
    rw [lnP, List.length_cons, ih, show (x :: y :: t).getD ((x :: y :: t).length - 1) [] = (y :: t).getD ((y :: t).length - 1) [] from rfl]
    simp only [List.length_cons]
    omega
theorem lnP_get : ∀ (P : List (List UInt8)) (i : Nat), i + 1 < P.length → (lnP P).getD i [] = P.getD i [] ++ [10]
  | [], i, h => by simp at h
  | [x], i, h => by simp at h
  | x :: y :: t, 0, _ => rfl
  | x :: y :: t, i + 1, h => lnP_get (y :: t) i (by simpa using h)
theorem lnP_last : ∀ P : List (List UInt8), P ≠ [] → P.getD (P.length - 1) [] ≠ [] → (lnP P).getD (P.length - 1) [] = P.getD (P.length - 1) []
  | [], h, _ => absurd rfl h
  | [x], _, h => by
    have h : x ≠ [] := h
    rw [lnP, if_neg h]
  | x :: y :: t, _, h => lnP_last (y :: t) (by simp) h
theorem spl_no (c : UInt8) : ∀ (s : List UInt8) (x : List UInt8), x ∈ spl c s → c ∉ x
  | [], x, h => by
    rw [spl, List.mem_singleton] at h
    subst h
    simp
  | a :: t, x, h => by
    rw [spl] at h
    by_cases q : a = c
    · rw [if_pos (by rw [q]; exact beq_self_eq_true c)] at h
      rcases List.mem_cons.1 h with rfl | h
      · simp
      · exact spl_no c t x h
    · rw [if_neg (by rw [beq_iff_eq]; exact q)] at h
      have e := spl_cons c t
      rcases List.mem_cons.1 h with rfl | h
      · have := spl_no c t ((spl c t).headD []) (by rw [← e]; exact List.mem_cons_self ..)
        rw [List.mem_cons]
        exact fun hx => hx.elim (fun hx => q hx.symm) this
      · exact spl_no c t x (by rw [← e]; exact List.mem_cons_of_mem _ h)
def okW (w : List (List UInt8)) : Bool := (decide (w.length = 6) && (w.getD 0 [] == WM && (!(w.getD 1 [] == []) && (!(w.getD 2 [] == []) && !(w.getD 3 [] == []))))) && (inB (w.getD 4 []) && inB (w.getD 5 []))
def dgV (s : List UInt8) : Int := if inB s then digV s s.length else 0
def mvW (w : List (List UInt8)) : Mv := ⟨w.getD 1 [], w.getD 2 [], w.getD 3 [], dgV (w.getD 4 []), dgV (w.getD 5 [])⟩
theorem inB_nil : inB [] = false := rfl
theorem inV_dg {s : List UInt8} (h : inB s = true) : inV s = dgV s := by
  have : inOK s = true := by
    unfold inB at h
    rw [Bool.and_eq_true] at h
    exact h.1
  rw [inV, dgV, if_pos this, if_pos h]
theorem cut_end (b : List UInt8) : cutS (b ++ [10]) [10] = true ∧ bodyL (b ++ [10]) = b := by
  have h : cutS (b ++ [10]) [10] = true := by
    unfold cutS
    simp
  refine ⟨h, ?_⟩
  unfold bodyL
  rw [h, if_pos rfl]
  simp
theorem cut_no {x : List UInt8} (h : (10 : UInt8) ∉ x) : cutS x [10] = false := by
  cases q : cutS x [10] with
  | false => rfl
  | true =>
    unfold cutS at q
    rw [Bool.and_eq_true, beq_iff_eq] at q
    exact absurd (List.mem_of_mem_drop (by rw [q.2]; exact List.mem_singleton.2 rfl)) h
theorem bad_no {x : List UInt8} (h : (10 : UInt8) ∉ x) : badL x = true := by
  unfold badL
  rw [cut_no h]
  rfl
theorem hd_k (ws : List (List UInt8)) (k : Nat) : hdR (rwN k (ws.map encS)) = (wdN k ws).headD [] := by rw [rw_e, hd_r]
theorem bd_k (ws : List (List UInt8)) (k : Nat) (b : Bool) : bdW (rwN k (ws.map encS)) b = wdB (wdN k ws) b := by rw [rw_e, bdW, dS_e]
theorem nb_k (ws : List (List UInt8)) (k : Nat) (b : Bool) : nbW (rwN k (ws.map encS)) b = (if wdB (wdN k ws) b then true else !inB ((wdN k ws).headD [])) := by rw [nbW, bd_k, hd_k]
theorem bad_w (b : List UInt8) : badL (b ++ [10]) = !okW (spl 32 b) := by
  obtain ⟨h1, h2⟩ := cut_end b
  unfold badL roL wdsL
  rw [h1, h2]
  generalize spl 32 b = ws
  unfold b6R b4R
  rw [nb_k, nb_k, bd_k, bd_k, bd_k, bd_k, hd_k, List.length_map]
  by_cases hl : ws.length = 6
  · match ws, hl with
    | [a, b, c, d, e, f], _ =>
      by_cases ha : a = WM
      · subst ha
        by_cases hb : b = []
        · subst hb
          simp [wdN, wdR, wdB, okW, WM]
        · by_cases hc : c = []
          · subst hc
            simp [wdN, wdR, wdB, okW, WM, hb]
          · by_cases hd : d = []
            · subst hd
              simp [wdN, wdR, wdB, okW, WM, hb, hc]
            · by_cases he : e = []
              · subst he
                simp [wdN, wdR, wdB, okW, WM, hb, hc, hd, inB_nil]
              · by_cases hf : f = []
                · subst hf
                  simp [wdN, wdR, wdB, okW, WM, hb, hc, hd, he, inB_nil]
                · simp [wdN, wdR, wdB, okW, WM, hb, hc, hd, he, hf]
      · have h3 : (a == WM) = false := beq_false_of_ne ha
        simp [wdN, okW, h3, ha]
  · have h3 : ((ws.length : Int) != 6) = true := by
      rw [bne_iff_ne]
      omega
    have h4 : okW ws = false := by
      unfold okW
      rw [decide_eq_false hl]
      rfl
    rw [h3, h4, ite_self]
    try rfl
theorem mv_w {b : List UInt8} (h : okW (spl 32 b) = true) : mvL (b ++ [10]) = mvW (spl 32 b) := by
  obtain ⟨_, h2⟩ := cut_end b
  unfold mvL roL wdsL
  rw [h2]
  revert h
  generalize spl 32 b = ws
  intro h
  rw [hd_k, hd_k, hd_k, hd_k, hd_k]
  unfold okW at h
  rw [Bool.and_eq_true, Bool.and_eq_true, Bool.and_eq_true, Bool.and_eq_true, Bool.and_eq_true, Bool.and_eq_true, decide_eq_true_eq] at h
  obtain ⟨⟨hl, h0, h1, h2, h3⟩, h4, h5⟩ := h
  match ws, hl with
  | [a, b, c, d, e, f], _ =>
    have g0 : a = WM := eq_of_beq h0
    have g1 : b ≠ [] := fun q => by rw [q] at h1; cases h1
    have g2 : c ≠ [] := fun q => by rw [q] at h2; cases h2
    have g3 : d ≠ [] := fun q => by rw [q] at h3; cases h3
    have g4 : inB e = true := h4
    have g5 : inB f = true := h5
    have g6 : e ≠ [] := fun q => by rw [q] at g4; cases g4
    subst g0
    simp [wdN, wdR, WM, g1, g2, g3, g6, mvW, inV_dg g4, inV_dg g5]
def cntR (s : List UInt8) : Nat := (spl 10 s).length - 1
def badW (s : List UInt8) (i : Nat) : Bool := !okW (spl 32 ((spl 10 s).getD i []))
def kR (s : List UInt8) : Nat := fiN (badW s) (cntR s)
def lstR (s : List UInt8) : List UInt8 := (spl 10 s).getD (cntR s) []
def msN (s : List UInt8) (n : Nat) : List Mv := ((spl 10 s).take n).map fun b => mvW (spl 32 b)
theorem cnt_lt (s : List UInt8) : cntR s < (spl 10 s).length := by
  have := List.length_pos_iff.2 (spl_ne 10 s)
  unfold cntR
  omega
theorem lns_len (s : List UInt8) : (lns s).length = cntR s + (if lstR s = [] then 0 else 1) := by rw [lns_eq]; exact lnP_len _ (spl_ne 10 s)
theorem lns_get {s : List UInt8} {i : Nat} (h : i < cntR s) : (lns s).getD i [] = (spl 10 s).getD i [] ++ [10] := by
  rw [lns_eq]
  exact lnP_get _ _ (by unfold cntR at h; omega)
theorem lns_bad {s : List UInt8} {i : Nat} (h : i < cntR s) : badL ((lns s).getD i []) = badW s i := by rw [lns_get h, bad_w, badW]
theorem lns_last {s : List UInt8} (h : lstR s ≠ []) : badL ((lns s).getD (cntR s) []) = true := by
  have e : (lns s).getD (cntR s) [] = lstR s := by
    rw [lns_eq]
    exact lnP_last _ (spl_ne 10 s) h
  rw [e]
  apply bad_no
  apply spl_no 10 s
  unfold lstR
  rw [List.getD_eq_getElem?_getD, List.getElem?_eq_getElem (cnt_lt s)]
  exact List.getElem_mem _
theorem k_0 {s : List UInt8} (h : lstR s = []) : (lns s).length = cntR s ∧ k77 s = kR s := by
  have hl : (lns s).length = cntR s := by rw [lns_len, if_pos h]; rfl
  refine ⟨hl, ?_⟩
  unfold k77 kR
  rw [hl]
  exact fi_congr fun j hj => lns_bad hj
theorem k_1 {s : List UInt8} (h : lstR s ≠ []) : (lns s).length = cntR s + 1 ∧ k77 s = kR s := by
  have hl : (lns s).length = cntR s + 1 := by rw [lns_len, if_neg h]
  refine ⟨hl, ?_⟩
  unfold k77
  rw [hl]
  have hle := fi_le (p := badW s) (cntR s)
  refine fi_some (fun j hj => ?_) ?_ (by unfold kR; omega)
  · rw [lns_bad (by unfold kR at hj; omega)]
    exact fi_min hj
  · by_cases q : kR s < cntR s
    · rw [lns_bad q]
      exact fi_hit q
    · rw [show kR s = cntR s by unfold kR at *; omega]
      exact lns_last h
theorem k_le (s : List UInt8) : kR s ≤ cntR s := fi_le _
theorem good_eq (s : List UInt8) : k77 s = (lns s).length ↔ kR s = cntR s ∧ lstR s = [] := by
  have hle := k_le s
  by_cases h : lstR s = []
  · obtain ⟨h1, h2⟩ := k_0 h
    rw [h1, h2]
    exact ⟨fun q => ⟨q, h⟩, fun q => q.1⟩
  · obtain ⟨h1, h2⟩ := k_1 h
    rw [h1, h2]
    exact ⟨fun q => by omega, fun q => absurd q.2 h⟩
theorem ms_eq {s : List UInt8} (h : k77 s = (lns s).length) : (lns s).map mvL = msN s (cntR s) := by
  obtain ⟨h1, h2⟩ := (good_eq s).1 h
  have hl := (k_0 h2).1
  have hc := cnt_lt s
  unfold msN
  refine List.ext_getElem (by rw [List.length_map, List.length_map, List.length_take, hl]; omega) fun i hi hj => ?_
  rw [List.length_map] at hi
  have hi2 : i < cntR s := by omega
  rw [List.getElem_map, List.getElem_map, List.getElem_take]
  have e1 : (lns s)[i] = (spl 10 s)[i] ++ [10] := by
    have := lns_get hi2
    rw [List.getD_eq_getElem?_getD, List.getElem?_eq_getElem hi, List.getD_eq_getElem?_getD, List.getElem?_eq_getElem (by omega)] at this
    exact this
  rw [e1]
  apply mv_w
  have hb : badW s i = false := fi_all (n := cntR s) (by unfold kR at h1; omega) i hi2
  unfold badW at hb
  rw [List.getD_eq_getElem?_getD, List.getElem?_eq_getElem (by omega)] at hb
  simpa using hb
end Go.Proofs.YtimgfogakgakhaaGreatDoor
namespace Go.Proofs.YtimgfogakgakhaaGreatDoor
open Go Go.Av Go.RowKit
def jn (c : UInt8) : List (List UInt8) → List UInt8
  | [] => []
  | [x] => x
  | x :: y :: t => x ++ c :: jn c (y :: t)
def wsM (m : Mv) : List (List UInt8) := [WM, m.fl, m.al, m.ty, Lib.itoa m.day, Lib.itoa m.mi]
def prM (m : Mv) : List UInt8 := jn 32 (wsM m) ++ [10]
def prOK (m : Mv) : Prop := (0 ≤ m.day ∧ m.day < 1000000000) ∧ (0 ≤ m.mi ∧ m.mi < 1000000000) ∧ m.fl.length ≤ 1000 ∧ m.al.length ≤ 1000 ∧ m.ty.length ≤ 1000
theorem prM_6 (m : Mv) : prM m = WM ++ ([32] ++ (m.fl ++ ([32] ++ (m.al ++ ([32] ++ (m.ty ++ ([32] ++ (Lib.itoa m.day ++ ([32] ++ (Lib.itoa m.mi ++ [10])))))))))) := by
  simp [prM, wsM, jn]
theorem prM_len {m : Mv} (h : prOK m) : (prM m).length ≤ 4000 := by
  have h1 := io_len h.1
  have h2 := io_len h.2.1
  obtain ⟨-, -, h3, h4, h5⟩ := h
  rw [prM_6]
  simp only [List.length_append, List.length_cons, List.length_nil, WM]
  omega
theorem flat_len {b : Nat} : ∀ {L : List (List UInt8)}, (∀ x, x ∈ L → x.length ≤ b) → L.flatten.length ≤ b * L.length
  | [], _ => Nat.zero_le _
  | x :: L, h => by
    have h1 := h x (by simp)
    have h2 := flat_len (L := L) (fun y hy => h y (List.mem_cons_of_mem _ hy))
    rw [List.flatten_cons, List.length_append, List.length_cons, Nat.mul_succ]
    omega
theorem join_0 : ∀ L : List (List UInt8), Lib.join L [] = L.flatten
  | [] => rfl
  | [x] => by simp [Lib.join, List.intercalate, List.intersperse]
  | x :: y :: L => by
    have := join_0 (y :: L)
    simp only [Lib.join, List.intercalate, List.intersperse, List.flatten_cons, List.nil_append] at this ⊢
    rw [this]
theorem c137p {m : Mv} (h : prOK m) : PCall Tryz.prog G0 137 [.agg (encMv m)] (.str (prM m)) := by
  have := c137 m Lib.itoa _ (fun _ => rfl) h.1 h.2.1 h.2.2 rfl
  rw [join_6] at this
  rw [prM_6]
  simpa [WM] using this
def sp110p (pr : Mv → List UInt8) : Nat → List AV → Option AV
  | 137, [.agg [.str f, .str a, .str t, .int _ d, .int _ m]] => some (.str (pr ⟨f, a, t, d, m⟩))
  | n, x => spS n x
def la110p (pr : Mv → List UInt8) (l : List Mv) : LA := {
  pre := [.own 5 9 1, .reno 5 1, .keep [1, 5, 8, 9, 10] [1], .bound 2], post := [.reno 5 1, .keep [1, 5, 8, 9, 10] [1], .bound 2]
  Gh := Nat
  st := fun i => ⟨[(1, .fn (.func 137) [] []), (5, .own 1 (((l.take i).map pr).map encS).length), (8, .sl 5 (l.map encMv)), (9, .i (l.map encMv).length), (10, .i i)], [(1, .buf 9 1 (((l.take i).map pr).map encS))], 2⟩
  ok := fun i => i ≤ (l.map encMv).length
  ms := fun i => (l.map encMv).length - i }
theorem c110p (l : List Mv) (pr : Mv → List UInt8) (hl : l.length ≤ 1000) (hp : ∀ m, m ∈ l → PCall Tryz.prog G0 137 [.agg (encMv m)] (.str (pr m))) : PCall Tryz.prog G0 110 [.sl 5 (l.map encMv), .fn (.func 137) [] []] (.fresh 9 1 ((l.map pr).map encS)) := by
  have key :
   (∃ (g : Nat), g ≤ (List.map encMv l).length ∧ AS.mk [(1, AV.fn (Fn.func 137) [] []), (5, AV.own 1 0), (8, AV.sl 5 (List.map encMv l)), (9, AV.i (↑(List.map encMv l).length : Int)), (10, AV.i 0)] [(1, ABlk.buf 9 1 [])] 2 = AS.mk
   [(1, AV.fn (Fn.func 137) [] []), (5, AV.own 1 (List.map encS (List.map pr (List.take g l))).length), (8, AV.sl 5 (List.map encMv l)), (9, AV.i (↑(List.map encMv l).length : Int)), (10, AV.i (↑g : Int))] [(1, ABlk.buf 9 1 (List.map
   encS (List.map pr (List.take g l))))] 2) ∧ ∀ (g : Nat), g ≤ (List.map encMv l).length → (decide ((↑g : Int) < (↑(List.map encMv l).length : Int)) = true → (0 : Int) ≤ (↑g : Int) ∧ (↑g : Int) < (↑(List.map encMv l).length : Int) ∧
   AV.agg (nthR (List.map encMv l) (↑g : Int).toNat) = AV.agg (encMv (l.getD (↑g : Int).toNat default)) ∧ (List.map encS (List.map pr (List.take g l))).length + 1 ≤ 9223372036854775807 ∧ ((List.map encS (List.map pr (List.take g
   l))).length + 1) * 16 ≤ 140737488355328 ∧ PCall Tryz.prog G0 137 [AV.agg (encMv (l.getD (↑g : Int).toNat default))] (AV.str (pr (Mv.mk (l.getD (↑g : Int).toNat default).fl (l.getD (↑g : Int).toNat default).al (l.getD (↑g :
   Int).toNat default).ty (l.getD (↑g : Int).toNat default).day (l.getD (↑g : Int).toNat default).mi))) ∧ In64 ((↑g : Int) + 1) ∧ ∃ (g' : Nat), g' ≤ (List.map encMv l).length ∧ (List.map encMv l).length - g' < (List.map encMv
   l).length - g ∧ AS.mk [(1, AV.fn (Fn.func 137) [] []), (5, AV.own 1 ((List.map encS (List.map pr (List.take g l))).length + 1)), (8, AV.sl 5 (List.map encMv l)), (9, AV.i (↑(List.map encMv l).length : Int)), (10, AV.i ((↑g : Int) +
   1))] [(1, ABlk.buf 9 1 (List.map encS (List.map pr (List.take g l)) ++ [[AV.str (pr (Mv.mk (l.getD (↑g : Int).toNat default).fl (l.getD (↑g : Int).toNat default).al (l.getD (↑g : Int).toNat default).ty (l.getD (↑g : Int).toNat
   default).day (l.getD (↑g : Int).toNat default).mi))]]))] 2 = AS.mk [(1, AV.fn (Fn.func 137) [] []), (5, AV.own 1 (List.map encS (List.map pr (List.take g' l))).length), (8, AV.sl 5 (List.map encMv l)), (9, AV.i (↑(List.map encMv
   l).length : Int)), (10, AV.i (↑g' : Int))] [(1, ABlk.buf 9 1 (List.map encS (List.map pr (List.take g' l))))] 2) ∧ (decide ((↑g : Int) < (↑(List.map encMv l).length : Int)) = false → AV.fresh 9 1 (List.map encS (List.map pr
   (List.take g l))) = AV.fresh 9 1 (List.map encS (List.map pr l))) := by
    have hlm : (List.map encMv l).length = l.length := List.length_map _
    refine ⟨⟨0, by omega, rfl⟩, fun g hg => ⟨fun hd => ?_, fun hd => ?_⟩⟩
    · rw [hlm] at hd
      have hlt := lt_of_dec hd
      have h2 := take_succ_map encS pr hlt
      have h7 : (List.map encS (List.map pr (List.take g l))).length = g := by rw [List.length_map, List.length_map, List.length_take]; omega
      have h8 : (List.map encS (List.map pr (List.take (g + 1) l))).length = g + 1 := by rw [List.length_map, List.length_map, List.length_take]; omega
      refine ⟨by omega, by omega, congrArg AV.agg (row_at encMv hlt), by omega, by omega, hp (l.getD g default) (getD_mem hlt), by unfold In64; omega, g + 1, by omega, by omega, ?_⟩
      rw [h8, ← h2, h7]
      rfl
    · rw [ge_of_dec hd hg, hlm, List.take_length]
  exact c_of Tryz.f110 (fzB (mkB (sp110p pr) 110 [(4, 1, rdL 5 encMv l 5 true)] (fun i => if i.beq 0 then some (la110p pr l) else none))) (by kernel_rfl) (by kernel_rfl) (by kernel_rfl) (by kernel_rfl) key (by kernel_rfl)
def sp76 (pr : Mv → List UInt8) (l : List Mv) (t : List UInt8) (e : Int) : Nat → List AV → Option AV
  | 42, _ => some (.i e)
  | 110, _ => some (.sl 1 ((l.map pr).map encS))
  | 136, _ => some (.str t)
  | n, x => spS n x
theorem c76p (r : Ru) (l : List Mv) (pr : Mv → List UInt8) (t : List UInt8) (e : Int) (he : PCall Tryz.prog G0 42 [.agg (encRu r), .sl 5 (l.map encMv)] (.i e)) (hl : l.length ≤ 1000) (hp : e = 0 → ∀ m, m ∈ l → PCall Tryz.prog G0 137 [.agg (encMv m)] (.str (pr m))) (ht : e = 0 → t = (l.map pr).flatten) (htl : e = 0 → t.length ≤ 100000000) : PCall Tryz.prog G0 76 [.agg (encRu r), .sl 5 (l.map encMv)] (if e != 0 then .tup [.str [], .i e] else .tup [.str t, .i 0]) := by
  have key :
   PCall Tryz.prog G0 42 [AV.agg (encRu r), AV.sl 5 (List.map encMv l)] (AV.i e) ∧ ((e != 0) = true → AV.tup [AV.str [], AV.i e] = if (e != 0) = true then AV.tup [AV.str [], AV.i e] else AV.tup [AV.str t, AV.i 0]) ∧ ((e != 0) = false
   → PCall Tryz.prog G0 110 [AV.sl 5 (List.map encMv l), AV.fn (Fn.func 137) [] []] (AV.sl 1 (List.map encS (List.map pr l))) ∧ PCall Tryz.prog G0 136 [AV.sl 1 (List.map encS (List.map pr l)), AV.str []] (AV.str t) ∧ AV.tup [AV.str t,
   AV.i 0] = if (e != 0) = true then AV.tup [AV.str [], AV.i e] else AV.tup [AV.str t, AV.i 0]) := by
    refine ⟨he, fun h => ?_, fun h => ?_⟩
    · rw [if_pos h]
    · have h0 : e = 0 := bne_f h
      have ht := ht h0
      have htl := htl h0
      refine ⟨(c110p l pr hl (hp h0)).un, ?_, ?_⟩
      · have := c136 (l.map pr) [] (by rw [List.length_map]; omega) (by rw [join_0, ← ht]; omega)
        rw [join_0, ← ht] at this
        exact this
      · rw [if_neg (by rw [h]; decide)]
  exact c_of Tryz.f76 (fzB (mkB (sp76 pr l t e) 76 [] noLa)) (by kernel_rfl) (by kernel_rfl) (by kernel_rfl) (by kernel_rfl) key (by kernel_rfl)
def la80 (l : List Mv) : LA := {
  pre := [.keep [0, 1, 5] [], .bound 1], post := [.keep [0, 1, 5] [], .bound 1]
  Gh := Nat
  st := fun i => ⟨[(0, .sl 5 (l.map encMv)), (1, .sl 5 (l.map encMv)), (5, .i i)], [], 1⟩
  ok := fun i => i ≤ l.length
  ms := fun i => l.length - i }
theorem c80 (l : List Mv) (hl : l.length ≤ 1000) : PCall Tryz.prog G0 80 [.sl 5 (l.map encMv), .sl 5 (l.map encMv)] (.bool true) := by
  have key :
   (((↑(List.map encMv l).length : Int) != (↑(List.map encMv l).length : Int)) = true → AV.bool false = AV.bool true) ∧ (((↑(List.map encMv l).length : Int) != (↑(List.map encMv l).length : Int)) = false → (∃ (g : Nat), g ≤ l.length ∧
   AS.mk [(0, AV.sl 5 (List.map encMv l)), (1, AV.sl 5 (List.map encMv l)), (5, AV.i 0)] [] 1 = AS.mk [(0, AV.sl 5 (List.map encMv l)), (1, AV.sl 5 (List.map encMv l)), (5, AV.i (↑g : Int))] [] 1) ∧ ∀ (g : Nat), g ≤ l.length → (decide
   ((↑g : Int) < (↑(List.map encMv l).length : Int)) = true → (0 : Int) ≤ (↑g : Int) ∧ (↑g : Int) < (↑(List.map encMv l).length : Int) ∧ (0 : Int) ≤ (↑g : Int) ∧ (↑g : Int) < (↑(List.map encMv l).length : Int) ∧ AV.agg (nthR (List.map
   encMv l) (↑g : Int).toNat) = AV.agg (encMv (l.getD (↑g : Int).toNat default)) ∧ AV.agg (nthR (List.map encMv l) (↑g : Int).toNat) = AV.agg (encMv (l.getD (↑g : Int).toNat default)) ∧ ((!((l.getD (↑g : Int).toNat default).fl ==
   (l.getD (↑g : Int).toNat default).fl && true && ((l.getD (↑g : Int).toNat default).al == (l.getD (↑g : Int).toNat default).al && true && ((l.getD (↑g : Int).toNat default).ty == (l.getD (↑g : Int).toNat default).ty && true &&
   ((l.getD (↑g : Int).toNat default).day == (l.getD (↑g : Int).toNat default).day && true && ((l.getD (↑g : Int).toNat default).mi == (l.getD (↑g : Int).toNat default).mi && true && true)))))) = true → AV.bool false = AV.bool true) ∧
   ((!((l.getD (↑g : Int).toNat default).fl == (l.getD (↑g : Int).toNat default).fl && true && ((l.getD (↑g : Int).toNat default).al == (l.getD (↑g : Int).toNat default).al && true && ((l.getD (↑g : Int).toNat default).ty == (l.getD
   (↑g : Int).toNat default).ty && true && ((l.getD (↑g : Int).toNat default).day == (l.getD (↑g : Int).toNat default).day && true && ((l.getD (↑g : Int).toNat default).mi == (l.getD (↑g : Int).toNat default).mi && true && true))))))
   = false → In64 ((↑g : Int) + 1) ∧ ∃ (g' : Nat), g' ≤ l.length ∧ l.length - g' < l.length - g ∧ AS.mk [(0, AV.sl 5 (List.map encMv l)), (1, AV.sl 5 (List.map encMv l)), (5, AV.i ((↑g : Int) + 1))] [] 1 = AS.mk [(0, AV.sl 5 (List.map
   encMv l)), (1, AV.sl 5 (List.map encMv l)), (5, AV.i (↑g' : Int))] [] 1)) ∧ (decide ((↑g : Int) < (↑(List.map encMv l).length : Int)) = false → AV.bool true = AV.bool true)) := by
    have hlm : (List.map encMv l).length = l.length := List.length_map _
    have : (List.map encMv l).length = l.length := by simp only [List.length_map]
    refine ⟨fun h1 => ?_, fun h1 => ⟨⟨0, by omega, rfl⟩, fun g hg => ⟨fun hd => ?_, fun hd => ?_⟩⟩⟩
    · simp_all
    · have hlt : g < l.length := by have h9 := of_decide_eq_true hd; have h8 := hg; (try simp only [List.length_map] at h8); (try simp only [List.length_map] at h9); omega
      try rw [show (↑g : Int).toNat = g from Int.toNat_natCast g]
      refine ⟨(by omega), (by omega), (by omega), (by omega), congrArg AV.agg (row_at encMv hlt), congrArg AV.agg (row_at encMv hlt), fun h2 => ?_, fun h2 => ⟨(by unfold In64; omega), ⟨g + 1, by omega, by omega, rfl⟩⟩⟩
      · simp_all
    · have hge : g = l.length := by have h9 := of_decide_eq_false hd; have h8 := hg; (try simp only [List.length_map] at h8); (try simp only [List.length_map] at h9); omega
      subst hge
      exact rfl
  exact c_of Tryz.f80 (mkB spS 80 [(6, 3, rdL 5 encMv l 5 true), (6, 7, rdL 5 encMv l 5 true)] (fun i => if i.beq 0 then some (la80 l) else none)) (by kernel_rfl) (by kernel_rfl) (by kernel_rfl) (by kernel_rfl) key (by kernel_rfl)
def la81 (l : List Mv) : LA := {
  pre := [.own 3 64 5, .reno 3 1, .keep [3, 6, 7, 8] [1], .bound 2], post := [.reno 3 1, .keep [3, 6, 7, 8] [1], .bound 2]
  Gh := Nat
  st := fun i => ⟨[(3, .own 1 ((l.take i).map encMv).length), (6, .sl 5 (l.map encMv)), (7, .i (l.map encMv).length), (8, .i i)], [(1, .buf 64 5 ((l.take i).map encMv))], 2⟩
  ok := fun i => i ≤ (l.map encMv).length
  ms := fun i => (l.map encMv).length - i }
theorem c81 (l : List Mv) (hl : l.length ≤ 1000) : PCall Tryz.prog G0 81 [.sl 5 (l.map encMv)] (.fresh 64 5 (l.map encMv)) := by
  have key :
   (∃ (g : Nat), g ≤ (List.map encMv l).length ∧ AS.mk [(3, AV.own 1 0), (6, AV.sl 5 (List.map encMv l)), (7, AV.i (↑(List.map encMv l).length : Int)), (8, AV.i 0)] [(1, ABlk.buf 64 5 [])] 2 = AS.mk [(3, AV.own 1 (List.map encMv
   (List.take g l)).length), (6, AV.sl 5 (List.map encMv l)), (7, AV.i (↑(List.map encMv l).length : Int)), (8, AV.i (↑g : Int))] [(1, ABlk.buf 64 5 (List.map encMv (List.take g l)))] 2) ∧ ∀ (g : Nat), g ≤ (List.map encMv l).length →
   (decide ((↑g : Int) < (↑(List.map encMv l).length : Int)) = true → (0 : Int) ≤ (↑g : Int) ∧ (↑g : Int) < (↑(List.map encMv l).length : Int) ∧ AV.agg (nthR (List.map encMv l) (↑g : Int).toNat) = AV.agg (encMv (l.getD (↑g :
   Int).toNat default)) ∧ (List.map encMv (List.take g l)).length + 1 ≤ 9223372036854775807 ∧ ((List.map encMv (List.take g l)).length + 1) * 64 ≤ 140737488355328 ∧ In64 ((↑g : Int) + 1) ∧ ∃ (g' : Nat), g' ≤ (List.map encMv l).length
   ∧ (List.map encMv l).length - g' < (List.map encMv l).length - g ∧ AS.mk [(3, AV.own 1 ((List.map encMv (List.take g l)).length + 1)), (6, AV.sl 5 (List.map encMv l)), (7, AV.i (↑(List.map encMv l).length : Int)), (8, AV.i ((↑g :
   Int) + 1))] [(1, ABlk.buf 64 5 (List.map encMv (List.take g l) ++ [(encMv (l.getD (↑g : Int).toNat default))]))] 2 = AS.mk [(3, AV.own 1 (List.map encMv (List.take g' l)).length), (6, AV.sl 5 (List.map encMv l)), (7, AV.i
   (↑(List.map encMv l).length : Int)), (8, AV.i (↑g' : Int))] [(1, ABlk.buf 64 5 (List.map encMv (List.take g' l)))] 2) ∧ (decide ((↑g : Int) < (↑(List.map encMv l).length : Int)) = false → AV.fresh 64 5 (List.map encMv (List.take g
   l)) = AV.fresh 64 5 (List.map encMv l)) := by
    have hlm : (List.map encMv l).length = l.length := List.length_map _
    have : (List.map encMv l).length = l.length := by simp only [List.length_map]
    refine ⟨⟨0, by omega, rfl⟩, fun g hg => ⟨fun hd => ?_, fun hd => ?_⟩⟩
    · have hlt : g < l.length := by have h9 := of_decide_eq_true hd; have h8 := hg; (try simp only [List.length_map] at h8); (try simp only [List.length_map] at h9); omega
      have : (List.map encMv (List.take g l)).length = g := by simp only [List.length_map, List.length_take]; omega
      try rw [show (↑g : Int).toNat = g from Int.toNat_natCast g]
      refine ⟨(by omega), (by omega), congrArg AV.agg (row_at encMv hlt), (by omega), (by omega), (by unfold In64; omega), ⟨g + 1, by omega, by omega, ?_⟩⟩
      · first | (rw [← take_succ_map _ _ hlt, List.length_append]; rfl) | (rw [← take_succ _ hlt, List.length_append]; rfl)
    · have hge : g = l.length := by have h9 := of_decide_eq_false hd; have h8 := hg; (try simp only [List.length_map] at h8); (try simp only [List.length_map] at h9); omega
      subst hge
      exact (by rw [List.take_length])
  exact c_of Tryz.f81 (fzB (mkB spS 81 [(4, 1, rdL 5 encMv l 5 true)] (fun i => if i.beq 0 then some (la81 l) else none))) (by kernel_rfl) (by kernel_rfl) (by kernel_rfl) (by kernel_rfl) key (by kernel_rfl)
end Go.Proofs.YtimgfogakgakhaaGreatDoor
namespace Go.Proofs.YtimgfogakgakhaaGreatDoor
open Go Go.Av Go.RowKit
theorem spl_app (c : UInt8) : ∀ (a t : List UInt8), c ∉ a → spl c (a ++ c :: t) = a :: spl c t
  | [], t, _ => by rw [List.nil_append, spl, if_pos (beq_self_eq_true c)]
  | x :: a, t, h => by
    have hx : x ≠ c := fun e => h (by rw [e]; exact List.mem_cons_self ..)
    rw [List.cons_append, spl, if_neg (by rw [beq_iff_eq]; exact hx), spl_app c a t (fun q => h (List.mem_cons_of_mem _ q))]
    rfl
theorem spl_one (c : UInt8) : ∀ (a : List UInt8), c ∉ a → spl c a = [a]
  | [], _ => rfl
  | x :: a, h => by
    have hx : x ≠ c := fun e => h (by rw [e]; exact List.mem_cons_self ..)
    rw [spl, if_neg (by rw [beq_iff_eq]; exact hx), spl_one c a (fun q => h (List.mem_cons_of_mem _ q))]
    rfl
theorem spl_jn (c : UInt8) : ∀ W : List (List UInt8), W ≠ [] → (∀ x, x ∈ W → c ∉ x) → spl c (jn c W) = W
  | [], h, _ => absurd rfl h
  | [x], _, h => by rw [jn, spl_one c x (h x (by simp))]
  | x :: y :: t, _, h => by rw [jn, spl_app c x _ (h x (by simp)), spl_jn c (y :: t) (by simp) (fun z hz => h z (List.mem_cons_of_mem _ hz))]
theorem jn_spl (c : UInt8) : ∀ s : List UInt8, jn c (spl c s) = s
  | [] => rfl
  | x :: t => by
    have ih := jn_spl c t
    rw [spl]
    by_cases q : x = c
    · rw [if_pos (by rw [q]; exact beq_self_eq_true c)]
      cases h : spl c t with
      | nil => exact absurd h (spl_ne c t)
      | cons y r => rw [jn, ← h, ih, q]; rfl
    · rw [if_neg (by rw [beq_iff_eq]; exact q)]
      cases h : spl c t with
      | nil => exact absurd h (spl_ne c t)
      | cons y r =>
        rw [h] at ih
        cases r with
        | nil =>
          show jn c [x :: y] = x :: t
          rw [jn] at ih ⊢
          rw [ih]
        | cons z r =>
          show jn c ((x :: y) :: z :: r) = x :: t
          rw [jn] at ih ⊢
          rw [List.cons_append, ih]
theorem mem_jn {c x : UInt8} : ∀ {W : List (List UInt8)}, x ∈ jn c W → x = c ∨ ∃ w, w ∈ W ∧ x ∈ w
  | [], h => by simp [jn] at h
  | [w], h => .inr ⟨w, by simp, by rw [jn] at h; exact h⟩
  | w :: y :: t, h => by
    rw [jn] at h
    rcases List.mem_append.1 h with h | h
    · exact .inr ⟨w, by simp, h⟩
    · rcases List.mem_cons.1 h with h | h
      · exact .inl h
      · rcases mem_jn h with h | ⟨v, hv, hx⟩
        · exact .inl h
        · exact .inr ⟨v, List.mem_cons_of_mem _ hv, hx⟩
theorem spl_lines : ∀ (L : List (List UInt8)) (y : List UInt8), (∀ x, x ∈ L → (10 : UInt8) ∉ x) → spl 10 ((L.map (· ++ [10])).flatten ++ y) = L ++ spl 10 y
  | [], y, _ => rfl
  | x :: L, y, h => by
    have ih := spl_lines L y (fun z hz => h z (List.mem_cons_of_mem _ hz))
    rw [List.map_cons, List.flatten_cons, List.append_assoc, List.append_assoc]
    show spl 10 (x ++ 10 :: ((L.map (· ++ [10])).flatten ++ y)) = _
    rw [spl_app 10 x _ (h x (by simp)), ih]
    rfl
theorem jn_lines : ∀ L : List (List UInt8), jn 10 (L ++ [[]]) = (L.map (· ++ [10])).flatten
  | [] => rfl
  | [x] => by simp [jn]
  | x :: y :: L => by
    have ih := jn_lines (y :: L)
    rw [List.cons_append] at ih
    rw [List.map_cons, List.flatten_cons, ← ih]
    show x ++ 10 :: jn 10 (y :: (L ++ [[]])) = _
    rw [List.append_assoc]
    rfl
theorem u8_dig {d : Nat} (h : d < 10) : (UInt8.ofNat (48 + d)).toNat = 48 + d := by
  show (48 + d) % 256 = 48 + d
  omega
theorem all_iff {s : List UInt8} {n : Nat} : allDg s n = true ↔ ∀ i, i < n → digB (s.getD i 0) = true := by
  unfold allDg
  rw [List.all_eq_true]
  exact ⟨fun h i hi => h i (List.mem_range.2 hi), fun h i hi => h i (List.mem_range.1 hi)⟩
theorem getD_snoc {a : List UInt8} {c : UInt8} {i : Nat} (h : i < a.length) : (a ++ [c]).getD i 0 = a.getD i 0 := by
  rw [List.getD_eq_getElem?_getD, List.getD_eq_getElem?_getD, List.getElem?_append_left h]
theorem getD_snoc0 {a : List UInt8} {c : UInt8} : (a ++ [c]).getD a.length 0 = c := by
  rw [List.getD_eq_getElem?_getD, List.getElem?_append_right (Nat.le_refl _), Nat.sub_self]
  rfl
theorem dg_app (a : List UInt8) (c : UInt8) : ∀ k, k ≤ a.length → digV (a ++ [c]) k = digV a k
  | 0, _ => rfl
  | k + 1, h => by rw [digV, digV, dg_app a c k (by omega), getD_snoc (by omega)]
theorem dg_snoc (a : List UInt8) (c : UInt8) : digV (a ++ [c]) (a.length + 1) = 10 * digV a a.length + ((c.toNat : Int) - 48) := by
  rw [digV, dg_app a c _ (Nat.le_refl _), getD_snoc0]
theorem all_snoc {a : List UInt8} {c : UInt8} : allDg (a ++ [c]) (a.length + 1) = true ↔ allDg a a.length = true ∧ digB c = true := by
  rw [all_iff, all_iff]
  constructor
  · intro h
    refine ⟨fun i hi => ?_, ?_⟩
    · have := h i (by omega)
      rwa [getD_snoc hi] at this
    · have := h a.length (by omega)
      rwa [getD_snoc0] at this
  · intro ⟨h1, h2⟩ i hi
    by_cases q : i < a.length
    · rw [getD_snoc q]; exact h1 i q
    · rw [show i = a.length by omega, getD_snoc0]; exact h2
theorem digB_of {d : Nat} (h : d < 10) : digB (UInt8.ofNat (48 + d)) = true := by
  unfold digB
  rw [u8_dig h, decide_eq_true (by omega), decide_eq_true (by omega)]
  rfl
theorem dd_ok (n : Nat) : allDg (Lib.decDigits n) (Lib.decDigits n).length = true ∧ digV (Lib.decDigits n) (Lib.decDigits n).length = n ∧ Lib.decDigits n ≠ [] ∧ (0 < n → (Lib.decDigits n).getD 0 0 ≠ 48) := by
  induction n using Nat.strongRecOn with
  | _ n ih =>
    by_cases h0 : n < 10
    · have e : Lib.decDigits n = [UInt8.ofNat (48 + n)] := by rw [Lib.decDigits, dif_pos h0]
      rw [e]
      refine ⟨?_, ?_, by simp, fun hn => ?_⟩
      · exact all_snoc (a := []).2 ⟨rfl, digB_of h0⟩
      · have := dg_snoc [] (UInt8.ofNat (48 + n))
        rw [u8_dig h0] at this
        refine Eq.trans this ?_
        show 10 * (0 : Int) + (((48 + n : Nat) : Int) - 48) = n
        omega
      · show UInt8.ofNat (48 + n) ≠ 48
        intro q
        have := congrArg UInt8.toNat q
        rw [u8_dig h0] at this
        have e48 : (48 : UInt8).toNat = 48 := rfl
        omega
    · have hm : n % 10 < 10 := Nat.mod_lt _ (by decide)
      obtain ⟨i1, i2, i3, i4⟩ := ih (n / 10) (by omega)
      have e : Lib.decDigits n = Lib.decDigits (n / 10) ++ [UInt8.ofNat (48 + n % 10)] := by rw [dd_step (show n ≠ 0 by omega), if_neg (by omega)]
      rw [e]
      revert i1 i2 i3 i4
      generalize Lib.decDigits (n / 10) = a
      intro i1 i2 i3 i4
      rw [List.length_append, List.length_singleton]
      refine ⟨all_snoc.2 ⟨i1, digB_of hm⟩, ?_, by simp, fun _ => ?_⟩
      · rw [dg_snoc, i2, u8_dig hm]
        omega
      · rw [getD_snoc (List.length_pos_iff.2 i3)]
        exact i4 (by omega)
theorem dd_len9 {n : Nat} (h : n < 1000000000) : (Lib.decDigits n).length ≤ 9 := by
  rw [← ddF_eq 8 n (by omega)]
  exact ddF_len 8 n
theorem dd_in {n : Nat} (h : n < 1000000000) : inB (Lib.decDigits n) = true := by
  obtain ⟨h1, h2, h3, h4⟩ := dd_ok n
  have h5 := dd_len9 h
  have hok : inOK (Lib.decDigits n) = true := by
    unfold inOK
    rw [decide_eq_true h5, h1]
    rfl
  unfold inB
  rw [hok, Bool.true_and, Bool.and_eq_true, Bool.or_eq_true]
  refine ⟨by rw [Bool.not_eq_true', beq_eq_false_iff_ne]; exact h3, ?_⟩
  by_cases q : 0 < n
  · exact .inr (by rw [Bool.not_eq_true', beq_eq_false_iff_ne]; exact h4 q)
  · have : n = 0 := by omega
    subst this
    refine .inl ?_
    rw [Lib.decDigits, dif_pos (by decide)]
    rfl
theorem dd_inv : ∀ (k : Nat) (s : List UInt8), s.length = k + 1 → allDg s (k + 1) = true → (k = 0 ∨ s.getD 0 0 ≠ 48) → Lib.decDigits (digV s (k + 1)).toNat = s
  | 0, s, hl, ha, _ => by
    match s, hl with
    | [c], _ =>
      have hc := (all_snoc (a := []) (c := c)).1 ha
      have hc := hc.2
      unfold digB at hc
      rw [Bool.and_eq_true, decide_eq_true_eq, decide_eq_true_eq] at hc
      have e : digV [c] (0 + 1) = ((c.toNat - 48 : Nat) : Int) := by
        show 10 * (0 : Int) + ((c.toNat : Int) - 48) = _
        omega
      rw [e, Int.toNat_natCast, Lib.decDigits, dif_pos (by omega)]
      congr 1
      apply UInt8.toNat_inj.1
      rw [u8_dig (by omega)]
      omega
  | k + 1, s, hl, ha, hh => by
    have hne : s ≠ [] := fun q => by rw [q] at hl; simp at hl
    have hh : s.getD 0 0 ≠ 48 := hh.resolve_left (by omega)
    obtain ⟨a, c, rfl⟩ : ∃ a c, s = a ++ [c] := ⟨s.dropLast, s.getLast hne, (List.dropLast_concat_getLast hne).symm⟩
    have hal : a.length = k + 1 := by rw [List.length_append, List.length_singleton] at hl; omega
    rw [← hal] at ha
    obtain ⟨h1, h2⟩ := all_snoc.1 ha
    rw [getD_snoc (by omega)] at hh
    have ih := dd_inv k a hal (by rw [← hal]; exact h1) (.inr hh)
    unfold digB at h2
    rw [Bool.and_eq_true, decide_eq_true_eq, decide_eq_true_eq] at h2
    have hb := (dg_bd (s := a) _ h1).1
    rw [← hal, dg_snoc]
    rw [← hal] at ih
    revert ih hb
    generalize digV a a.length = v
    intro ih hb
    have hv : v ≠ 0 := by
      intro q
      rw [q] at ih
      apply hh
      rw [← ih, show (0 : Int).toNat = 0 from rfl, Lib.decDigits, dif_pos (by decide)]
      rfl
    have e1 : (10 * v + ((c.toNat : Int) - 48)).toNat = 10 * v.toNat + (c.toNat - 48) := by omega
    rw [e1, dd_step (by omega), if_neg (by omega), show (10 * v.toNat + (c.toNat - 48)) / 10 = v.toNat by omega, ih, show (10 * v.toNat + (c.toNat - 48)) % 10 = c.toNat - 48 by omega]
    congr 1
    congr 1
    apply UInt8.toNat_inj.1
    rw [u8_dig (by omega)]
    omega
theorem itoa_nn {n : Int} (h : 0 ≤ n) : Lib.itoa n = Lib.decDigits n.toNat := by
  rw [Lib.itoa, if_neg (by omega)]
  try (congr 1; omega)
theorem it_ok {n : Int} (h : 0 ≤ n ∧ n < 1000000000) : inB (Lib.itoa n) = true ∧ dgV (Lib.itoa n) = n ∧ (32 : UInt8) ∉ Lib.itoa n ∧ (10 : UInt8) ∉ Lib.itoa n := by
  rw [itoa_nn h.1]
  have hb := dd_in (n := n.toNat) (by omega)
  obtain ⟨h1, h2, h3, h4⟩ := dd_ok n.toNat
  have hno : ∀ c : UInt8, c.toNat < 48 → c ∉ Lib.decDigits n.toNat := fun c hc hm => by
    obtain ⟨i, hi, e⟩ := List.mem_iff_getElem.1 hm
    have := (all_iff.1 h1) i hi
    rw [List.getD_eq_getElem?_getD, List.getElem?_eq_getElem hi, e] at this
    unfold digB at this
    rw [Bool.and_eq_true, decide_eq_true_eq] at this
    have := this.1
    have e2 : ((some c).getD (0 : UInt8)) = c := rfl
    rw [e2] at this
    omega
  refine ⟨hb, ?_, hno 32 (by decide), hno 10 (by decide)⟩
  rw [dgV, if_pos hb, h2]
  omega
theorem it_inv {s : List UInt8} (h : inB s = true) : Lib.itoa (dgV s) = s := by
  rw [dgV, if_pos h]
  unfold inB inOK at h
  rw [Bool.and_eq_true, Bool.and_eq_true, Bool.and_eq_true, Bool.or_eq_true, decide_eq_true_eq, decide_eq_true_eq, Bool.not_eq_true', beq_eq_false_iff_ne, Bool.not_eq_true', beq_eq_false_iff_ne] at h
  obtain ⟨⟨h1, h2⟩, h3, h4⟩ := h
  rw [itoa_nn (dg_bd _ h2).1]
  have hp := List.length_pos_iff.2 h3
  obtain ⟨k, hk⟩ : ∃ k, s.length = k + 1 := ⟨s.length - 1, by omega⟩
  rw [hk] at h2 ⊢
  exact dd_inv k s hk h2 (h4.imp (fun q => by omega) id)
structure WdOK (m : Mv) : Prop where
  f : m.fl ≠ [] ∧ (32 : UInt8) ∉ m.fl ∧ (10 : UInt8) ∉ m.fl
  a : m.al ≠ [] ∧ (32 : UInt8) ∉ m.al ∧ (10 : UInt8) ∉ m.al
  t : m.ty ≠ [] ∧ (32 : UInt8) ∉ m.ty ∧ (10 : UInt8) ∉ m.ty
  d : 0 ≤ m.day ∧ m.day < 1000000000
  m : 0 ≤ m.mi ∧ m.mi < 1000000000
theorem wm_no : (32 : UInt8) ∉ WM ∧ (10 : UInt8) ∉ WM := by decide
theorem ws_no {m : Mv} (h : WdOK m) : ∀ x, x ∈ wsM m → (32 : UInt8) ∉ x ∧ (10 : UInt8) ∉ x := by
  intro x hx
  unfold wsM at hx
  simp only [List.mem_cons, List.not_mem_nil, or_false] at hx
  rcases hx with rfl | rfl | rfl | rfl | rfl | rfl
  · exact wm_no
  · exact h.f.2
  · exact h.a.2
  · exact h.t.2
  · exact (it_ok h.d).2.2
  · exact (it_ok h.m).2.2
theorem bd_spl {m : Mv} (h : WdOK m) : spl 32 (jn 32 (wsM m)) = wsM m := spl_jn 32 _ (by simp [wsM]) fun x hx => (ws_no h x hx).1
theorem bd_no {m : Mv} (h : WdOK m) : (10 : UInt8) ∉ jn 32 (wsM m) := fun q => by
  rcases mem_jn q with q | ⟨w, hw, q⟩
  · exact absurd q (by decide)
  · exact (ws_no h w hw).2 q
theorem ws_ok {m : Mv} (h : WdOK m) : okW (wsM m) = true ∧ mvW (wsM m) = m := by
  obtain ⟨h1, h2, -⟩ := it_ok h.d
  obtain ⟨h3, h4, -⟩ := it_ok h.m
  refine ⟨?_, ?_⟩
  · unfold okW wsM
    simp [h.f.1, h.a.1, h.t.1, h1, h3]
  · unfold mvW wsM
    simp [h2, h4]
theorem ws_inv {w : List (List UInt8)} (h : okW w = true) : wsM (mvW w) = w := by
  unfold okW at h
  rw [Bool.and_eq_true, Bool.and_eq_true, Bool.and_eq_true, Bool.and_eq_true, Bool.and_eq_true, Bool.and_eq_true, decide_eq_true_eq] at h
  obtain ⟨⟨hl, h0, h1, h2, h3⟩, h4, h5⟩ := h
  match w, hl with
  | [a, b, c, d, e, f], _ =>
    have h0 : a = WM := eq_of_beq h0
    have h4 : inB e = true := h4
    have h5 : inB f = true := h5
    show [WM, b, c, d, Lib.itoa (dgV e), Lib.itoa (dgV f)] = [a, b, c, d, e, f]
    rw [it_inv h4, it_inv h5, h0]
def txM (l : List Mv) : List UInt8 := (l.map prM).flatten
theorem tx_map (l : List Mv) : txM l = ((l.map fun m => jn 32 (wsM m)).map (· ++ [10])).flatten := by
  unfold txM
  rw [List.map_map]
  rfl
theorem tx_spl {l : List Mv} (h : ∀ m, m ∈ l → WdOK m) : spl 10 (txM l) = (l.map fun m => jn 32 (wsM m)) ++ [[]] := by
  have := spl_lines (l.map fun m => jn 32 (wsM m)) [] (fun x hx => by obtain ⟨m, hm, rfl⟩ := List.mem_map.1 hx; exact bd_no (h m hm))
  rw [List.append_nil] at this
  rw [tx_map, this]
  rfl
theorem tx_back {l : List Mv} (h : ∀ m, m ∈ l → WdOK m) : (spl 10 (txM l)).length = l.length + 1 ∧ k77 (txM l) = (lns (txM l)).length ∧ (lns (txM l)).map mvL = l := by
  have hs := tx_spl h
  have hlen : (spl 10 (txM l)).length = l.length + 1 := by rw [hs, List.length_append, List.length_map]; rfl
  have hc : cntR (txM l) = l.length := by unfold cntR; omega
  have hlast : lstR (txM l) = [] := by
    unfold lstR
    rw [hc, hs, List.getD_eq_getElem?_getD, List.getElem?_append_right (by rw [List.length_map]; exact Nat.le_refl _), List.length_map, Nat.sub_self]
    rfl
  have hget : ∀ i, i < l.length → (spl 10 (txM l)).getD i [] = jn 32 (wsM (l.getD i default)) := fun i hi => by
    rw [hs, List.getD_eq_getElem?_getD, List.getElem?_append_left (by rw [List.length_map]; exact hi), List.getElem?_map, List.getD_eq_getElem?_getD, List.getElem?_eq_getElem hi]
    rfl
  have hk : kR (txM l) = cntR (txM l) := fi_none fun j hj => by
    rw [hc] at hj
    have hm := h _ (getD_mem hj)
    unfold badW
    rw [hget j hj, bd_spl hm, (ws_ok hm).1]
    rfl
  have hg := (good_eq (txM l)).2 ⟨hk, hlast⟩
  refine ⟨hlen, hg, ?_⟩
  rw [ms_eq hg]
  unfold msN
  rw [hc, hs, List.take_left' (by rw [List.length_map]), List.map_map]
  refine (List.map_congr_left fun m hm => ?_).trans (List.map_id l)
  show mvW (spl 32 (jn 32 (wsM m))) = m
  rw [bd_spl (h m hm), (ws_ok (h m hm)).2]
theorem tx_again {s : List UInt8} (h : k77 s = (lns s).length) : txM ((lns s).map mvL) = s := by
  obtain ⟨h1, h2⟩ := (good_eq s).1 h
  have hc := cnt_lt s
  rw [ms_eq h, tx_map]
  have e : (spl 10 s) = (spl 10 s).take (cntR s) ++ [[]] := by
    have h3 : (spl 10 s).drop (cntR s) = [[]] := by
      rw [List.drop_eq_getElem_cons hc, List.drop_eq_nil_of_le (by unfold cntR; omega)]
      have h4 : lstR s = (spl 10 s)[cntR s] := by
        unfold lstR
        rw [List.getD_eq_getElem?_getD, List.getElem?_eq_getElem hc]
        rfl
      rw [← h4, h2]
    have h5 := List.take_append_drop (cntR s) (spl 10 s)
    rw [h3] at h5
    exact h5.symm
  have e2 : ((msN s (cntR s)).map fun m => jn 32 (wsM m)) = (spl 10 s).take (cntR s) := by
    unfold msN
    rw [List.map_map]
    refine (List.map_congr_left fun b hb => ?_).trans (List.map_id _)
    show jn 32 (wsM (mvW (spl 32 b))) = b
    obtain ⟨i, hi, eb⟩ := List.mem_iff_getElem.1 hb
    rw [List.length_take] at hi
    rw [List.getElem_take] at eb
    have hbad : badW s i = false := fi_all (n := cntR s) (by unfold kR at h1; omega) i (by omega)
    unfold badW at hbad
    rw [List.getD_eq_getElem?_getD, List.getElem?_eq_getElem (by omega), eb] at hbad
    rw [ws_inv (by simpa using hbad), jn_spl]
  rw [e2, ← jn_lines, ← e, jn_spl]
theorem tx_cut {l : List Mv} {m : Mv} (h : ∀ x, x ∈ l → WdOK x) (hm : WdOK m) : kR (txM l ++ jn 32 (wsM m)) = l.length ∧ cntR (txM l ++ jn 32 (wsM m)) = l.length ∧ lstR (txM l ++ jn 32 (wsM m)) ≠ [] := by
  have hs : spl 10 (txM l ++ jn 32 (wsM m)) = (l.map fun m => jn 32 (wsM m)) ++ [jn 32 (wsM m)] := by
    have := spl_lines (l.map fun m => jn 32 (wsM m)) (jn 32 (wsM m)) (fun x hx => by obtain ⟨m, hm, rfl⟩ := List.mem_map.1 hx; exact bd_no (h m hm))
    rw [tx_map, this, spl_one 10 _ (bd_no hm)]
  generalize txM l ++ jn 32 (wsM m) = t at hs ⊢
  have hc : cntR t = l.length := by unfold cntR; rw [hs, List.length_append, List.length_map]; rfl
  have hlast : lstR t = jn 32 (wsM m) := by
    unfold lstR
    rw [hc, hs, List.getD_eq_getElem?_getD, List.getElem?_append_right (by rw [List.length_map]; exact Nat.le_refl _), List.length_map, Nat.sub_self]
    rfl
  refine ⟨?_, hc, ?_⟩
  · unfold kR
    rw [hc]
    refine fi_none fun j hj => ?_
    have hm := h _ (getD_mem hj)
    unfold badW
    rw [hs, List.getD_eq_getElem?_getD, List.getElem?_append_left (by rw [List.length_map]; exact hj), List.getElem?_map]
    have e : (l[j]?.map fun m => jn 32 (wsM m)).getD [] = jn 32 (wsM (l.getD j default)) := by
      rw [List.getD_eq_getElem?_getD, List.getElem?_eq_getElem hj]
      rfl
    rw [e, bd_spl hm, (ws_ok hm).1]
    rfl
  · rw [hlast]
    unfold wsM
    simp [jn, WM]
theorem nm_wd {s : List UInt8} (h : sName s = true) : s ≠ [] ∧ (32 : UInt8) ∉ s ∧ (10 : UInt8) ∉ s := by
  unfold sName at h
  rw [Bool.and_eq_true, Bool.and_eq_true, Bool.not_eq_true', beq_eq_false_iff_ne] at h
  obtain ⟨h1, h2, -⟩ := h
  have hno : ∀ c : UInt8, c.toNat < 48 → c ∉ s := fun c hc hm => by
    obtain ⟨i, hi, e⟩ := List.mem_iff_getElem.1 hm
    unfold allB at h1
    rw [List.all_eq_true] at h1
    have := h1 i (List.mem_range.2 hi)
    rw [List.getD_eq_getElem?_getD, List.getElem?_eq_getElem hi, e] at this
    have e2 : ((some c).getD (0 : UInt8)) = c := rfl
    rw [e2] at this
    unfold okB isLet at this
    simp only [Bool.or_eq_true, Bool.and_eq_true, decide_eq_true_eq] at this
    omega
  exact ⟨h2, hno 32 (by decide), hno 10 (by decide)⟩
end Go.Proofs.YtimgfogakgakhaaGreatDoor
namespace Go.Proofs.YtimgfogakgakhaaGreatDoor
open Go Go.Av Go.RowKit
theorem gd_len {L : List (List UInt8)} {b : Nat} (h : ∀ x, x ∈ L → x.length ≤ b) (i : Nat) : (L.getD i []).length ≤ b := by
  by_cases q : i < L.length
  · exact h _ (getD_mem q)
  · rw [List.getD_eq_getElem?_getD, List.getElem?_eq_none (by omega)]
    exact Nat.zero_le _
end Go.Proofs.YtimgfogakgakhaaGreatDoor
namespace Go.Proofs.YtimgfogakgakhaaGreatDoor
open Go Go.Av Go.RowKit
theorem ty_in {r : Ru} {m : Mv} (h : fiN (pN r.ts m.ty) r.ts.length < r.ts.length) : ∃ t, t ∈ r.ts ∧ t.n = m.ty := by
  have h1 := fi_hit h
  exact ⟨_, getD_mem h, eq_of_beq h1⟩
theorem mv_pr {r : Ru} {l : List Mv} (hS : Sh r l) (h0 : chkMR r l = 0) : ∀ m, m ∈ l → prOK m := fun m hm => by
  have h1 := (mv_ok h0).2.1.2 m hm
  obtain ⟨t, ht, e⟩ := ty_in h1.t
  have h2 := h1.d
  have h3 := h1.m
  exact ⟨by omega, by omega, (hS.v m hm).1, (hS.v m hm).2, by rw [← e]; exact hS.n t ht⟩
theorem tp_name {r : Ru} (h : chkR r = 0) {t : Tp} (ht : t ∈ r.ts) : sName t.n = true := by
  unfold chkR at h
  obtain ⟨h1, h2⟩ := ite_z h
  obtain ⟨-, h3⟩ := scan_zero h2
  obtain ⟨-, h4⟩ := gt5 h3
  obtain ⟨hT, -⟩ := scan_zero h4
  obtain ⟨i, hi, rfl⟩ := mem_get ht
  have h7 := hT i hi
  unfold fT at h7
  rw [first_zero] at h7
  have a := when_z (by decide) h7.1
  simpa using a
theorem mv_names {r : Ru} {l : List Mv} (h : chkMR r l = 0) {m : Mv} (hm : m ∈ l) : sName m.al = true ∧ sName m.fl = true := by
  unfold chkMR at h
  obtain ⟨h1, h2⟩ := ite_z h
  obtain ⟨i, hi, rfl⟩ := mem_get hm
  have h7 := (scan_zero h2).1 i hi
  unfold fMv at h7
  rw [first_zero, first_zero, first_zero] at h7
  have a := when_z (by decide) h7.1
  have b := when_z (by decide) h7.2.2.1
  exact ⟨by simpa using b, by simpa using a⟩
theorem mv_wd {r : Ru} {l : List Mv} (h0 : chkMR r l = 0) : ∀ m, m ∈ l → WdOK m := fun m hm => by
  have h1 := (mv_ok h0).2.1.2 m hm
  obtain ⟨ha, hf⟩ := mv_names h0 hm
  obtain ⟨t, ht, e⟩ := ty_in h1.t
  have hn := tp_name (mv_ok h0).1 ht
  rw [e] at hn
  have h2 := h1.d
  have h3 := h1.m
  exact ⟨nm_wd hf, nm_wd ha, nm_wd hn, by omega, by omega⟩
def tP (r : Ru) (l : List Mv) : List UInt8 := if chkMR r l != 0 then [] else txM l
theorem tx_len {r : Ru} {l : List Mv} (hS : Sh r l) (h0 : chkMR r l = 0) : (txM l).length ≤ 4000000 := by
  have hk := hS.k
  have h := flat_len (b := 4000) (L := l.map prM) (fun x hx => by
    obtain ⟨m, hm, rfl⟩ := List.mem_map.1 hx
    exact prM_len (mv_pr hS h0 m hm))
  rw [List.length_map] at h
  unfold txM
  omega
theorem c76r {r : Ru} {l : List Mv} (hS : Sh r l) : PCall Tryz.prog G0 76 [.agg (encRu r), .sl 5 (l.map encMv)] (.tup [.str (tP r l), .i (chkMR r l)]) := by
  have h := c76p r l prM (tP r l) (chkMR r l) (c42r hS) hS.k (fun h m hm => c137p (mv_pr hS h m hm)) (fun h => by rw [tP, h]; rfl) (fun h => by have := tx_len hS h; rw [tP, h]; show (txM l).length ≤ _; omega)
  by_cases q : (chkMR r l != 0) = true
  · rw [if_pos q] at h
    rw [tP, if_pos q]
    exact h
  · rw [if_neg q] at h
    have e : chkMR r l = 0 := by simpa using q
    rw [e]
    exact h
def eM (r : Ru) (s : List UInt8) : Int := chkMR r ((lns s).map mvL)
def msP (r : Ru) (s : List UInt8) : List Mv := if e77 r s != 0 then [] else if k77 s < (lns s).length then [] else if eM r s != 0 then [] else (lns s).map mvL
def kP (r : Ru) (s : List UInt8) : Int := if e77 r s != 0 then 0 else if k77 s < (lns s).length then k77 s else if eM r s != 0 then (lns s).length else 0
def eP (r : Ru) (s : List UInt8) : Int := if e77 r s != 0 then e77 r s else if k77 s < (lns s).length then 25 else eM r s
theorem ps_tup (r : Ru) (s : List UInt8) : psT (e77 r s) (k77 s) (lns s).length ((lns s).map mvL) (eM r s) = .tup [.sl 5 ((msP r s).map encMv), .i (kP r s), .i (eP r s)] := by
  unfold psT msP kP eP
  by_cases h0 : (e77 r s != 0) = true
  · rw [if_pos h0, if_pos h0, if_pos h0, if_pos h0]
    rfl
  · rw [if_neg h0, if_neg h0, if_neg h0, if_neg h0]
    by_cases h1 : k77 s < (lns s).length
    · rw [if_pos h1, if_pos h1, if_pos h1, if_pos h1]
      rfl
    · rw [if_neg h1, if_neg h1, if_neg h1, if_neg h1]
      by_cases h2 : (eM r s != 0) = true
      · rw [if_pos h2, if_pos h2, if_pos h2]
        rfl
      · rw [if_neg h2, if_neg h2, if_neg h2]
        have e : eM r s = 0 := by simpa using h2
        rw [e]
def HP (r : Ru) (s : List UInt8) : Prop := e77 r s = 0 → k77 s = (lns s).length → Sh r ((lns s).map mvL)
theorem c77r {r : Ru} {s : List UInt8} (hr : shR r = true) (hl : s.length ≤ 10000) (hp : HP r s) : PCall Tryz.prog G0 77 [.agg (encRu r), .str s] (.tup [.sl 5 ((msP r s).map encMv), .i (kP r s), .i (eP r s)]) := by
  obtain ⟨s1, s2, s3, s4⟩ := sh_of hr
  rw [← ps_tup]
  exact c77 r s (eM r s) (by omega) (by omega) s3 s4 hl (fun h1 h2 => c42r (hp h1 h2))
theorem sh_ms {r : Ru} {s : List UInt8} (hr : shR r = true) (hl : s.length ≤ 1000) (h : k77 s = (lns s).length) : Sh r ((lns s).map mvL) := by
  obtain ⟨s1, s2, s3, s4⟩ := sh_of hr
  refine ⟨by omega, by omega, s3, s4, ?_, fun m hm => ?_⟩
  · have := (ln_len (lns_is s)).1
    rw [List.length_map]
    omega
  · rw [ms_eq h] at hm
    unfold msN at hm
    obtain ⟨b, hb, rfl⟩ := List.mem_map.1 hm
    have hb1 := (spl_len 10 s).2 b (List.mem_of_mem_take hb)
    have hw := (spl_len 32 b).2
    exact ⟨Nat.le_trans (gd_len hw 1) (by omega), Nat.le_trans (gd_len hw 2) (by omega)⟩
theorem hp_of {r : Ru} {s : List UInt8} (hr : shR r = true) (h : s.length ≤ 400 ∨ s.length = 4097) : s.length ≤ 10000 ∧ HP r s := by
  refine ⟨by omega, fun h1 h2 => ?_⟩
  rcases h with h | h
  · exact sh_ms hr (by omega) h2
  · exfalso
    unfold e77 at h1
    rw [first_zero, first_zero] at h1
    have := when_z (by decide) h1.2.1
    have := of_decide_eq_false this
    omega
end Go.Proofs.YtimgfogakgakhaaGreatDoor
namespace Go.Proofs.YtimgfogakgakhaaGreatDoor
open Go Go.Av Go.RowKit
def dM : List AV → Mv
  | [.str a, .str b, .str c, .int _ d, .int _ m] => ⟨a, b, c, d, m⟩
  | _ => default
def dMs (rows : List (List AV)) : List Mv := rows.map dM
theorem dMs_e (l : List Mv) : dMs (l.map encMv) = l := by
  unfold dMs
  rw [List.map_map]
  exact (List.map_congr_left fun x _ => rfl).trans (List.map_id l)
def tQ (r : Ru) (rows : List (List AV)) : List UInt8 := tP r (dMs rows)
def cQ (r : Ru) (rows : List (List AV)) : Int := chkMR r (dMs rows)
def sp15 (r : Ru) (l : List Mv) : Nat → List AV → Option AV
  | 16, _ => some (.bool true)
  | 17, _ => some (.bool (shR r))
  | 30, _ => some (.bool (shM l))
  | 36, _ => some (.i (chkMR r l))
  | 21, _ => some (.agg (encRu r))
  | 32, [.sl _ rows] => some (.sl 5 rows)
  | 76, [_, .sl _ rows] => some (.tup [.str (tQ r rows), .i (cQ r rows)])
  | 77, [_, .str x] => some (.tup [.sl 5 ((msP r x).map encMv), .i (kP r x), .i (eP r x)])
  | 81, [.sl _ rows] => some (.sl 5 rows)
  | 80, _ => some (.bool true)
  | 82, [.str x, _] => some (.sl 1 ((spl 10 x).map encS))
  | n, x => spS n x
theorem c76q {r : Ru} {l : List Mv} (hS : Sh r l) : PCall Tryz.prog G0 76 [.agg (encRu r), .sl 5 (l.map encMv)] (.tup [.str (tQ r (l.map encMv)), .i (cQ r (l.map encMv))]) := by
  rw [tQ, cQ, dMs_e]
  exact c76r hS
structure Bk (r : Ru) (l : List Mv) (t : List UInt8) : Prop where
  x : tQ r (l.map encMv) = t
  c : cQ r (l.map encMv) = 0
  n : t.length ≤ 4096
  p : HP r t
  m : msP r t = l
  k : kP r t = 0
  e : eP r t = 0
  s : ((spl 10 t).map encS).length = l.length + 1
theorem nm_24 {s : List UInt8} (h : sName s = true) : s.length ≤ 24 := by
  unfold sName at h
  simp only [Bool.and_eq_true, decide_eq_true_eq] at h
  exact h.2.2
theorem pr_24 {r : Ru} {l : List Mv} (h0 : chkMR r l = 0) {m : Mv} (hm : m ∈ l) : (prM m).length ≤ 200 := by
  have h1 := (mv_ok h0).2.1.2 m hm
  obtain ⟨ha, hf⟩ := mv_names h0 hm
  obtain ⟨t, ht, e⟩ := ty_in h1.t
  have hn := tp_name (mv_ok h0).1 ht
  rw [e] at hn
  have h2 := h1.d
  have h3 := h1.m
  have k1 := io_len (n := m.day) (by omega)
  have k2 := io_len (n := m.mi) (by omega)
  have a1 := nm_24 ha
  have a2 := nm_24 hf
  have a3 := nm_24 hn
  rw [prM_6]
  simp only [List.length_append, List.length_cons, List.length_nil, WM]
  omega
theorem e77_0 {r : Ru} {t : List UInt8} (h : chkR r = 0) (hl : t.length ≤ 4096) : e77 r t = 0 := by
  unfold e77
  rw [first_zero, first_zero, chk_eq]
  refine ⟨h, ?_, rfl⟩
  rw [decide_eq_false (by omega)]
  rfl
theorem bk_of {r : Ru} {l : List Mv} (hS : Sh r l) (h0 : chkMR r l = 0) (hl : l.length ≤ 12) : Bk r l (txM l) := by
  obtain ⟨b1, b2, b3⟩ := tx_back (mv_wd h0)
  have hn : (txM l).length ≤ 4096 := by
    have h := flat_len (b := 200) (L := l.map prM) (fun x hx => by
      obtain ⟨m, hm, rfl⟩ := List.mem_map.1 hx
      exact pr_24 h0 hm)
    rw [List.length_map] at h
    unfold txM
    omega
  have hE : e77 r (txM l) = 0 := e77_0 (mv_ok h0).1 hn
  have hM : eM r (txM l) = 0 := by rw [eM, b3, h0]
  refine ⟨?_, ?_, hn, fun _ _ => by rw [b3]; exact hS, ?_, ?_, ?_, ?_⟩
  · rw [tQ, dMs_e, tP, h0]; rfl
  · rw [cQ, dMs_e, h0]
  · rw [msP, hE, hM, b2, if_neg (by decide), if_neg (Nat.lt_irrefl _), if_neg (by decide), b3]
  · rw [kP, hE, hM, b2, if_neg (by decide), if_neg (Nat.lt_irrefl _), if_neg (by decide)]
  · rw [eP, hE, hM, b2, if_neg (by decide), if_neg (Nat.lt_irrefl _)]
  · rw [List.length_map, b1]
theorem ag_of {r : Ru} {s : List UInt8} (hr : shR r = true) (h4 : s.length ≤ 400) (he : eP r s = 0) : Sh r (msP r s) ∧ tQ r ((msP r s).map encMv) = s ∧ cQ r ((msP r s).map encMv) = 0 := by
  unfold eP at he
  by_cases h0 : (e77 r s != 0) = true
  · rw [if_pos h0] at he
    rw [he] at h0
    cases h0
  · rw [if_neg h0] at he
    by_cases h1 : k77 s < (lns s).length
    · rw [if_pos h1] at he
      cases he
    · rw [if_neg h1] at he
      have hk : k77 s = (lns s).length := by
        have := fi_le (p := fun i => badL ((lns s).getD i [])) (lns s).length
        unfold k77 at *
        omega
      have hm : msP r s = (lns s).map mvL := by rw [msP, if_neg h0, if_neg h1, if_neg (by rw [he]; decide)]
      have he : chkMR r ((lns s).map mvL) = 0 := he
      rw [hm]
      refine ⟨sh_ms hr (by omega) hk, ?_, ?_⟩
      · rw [tQ, dMs_e, tP, he]
        exact tx_again hk
      · rw [cQ, dMs_e, he]
theorem ct_of {r : Ru} {l : List Mv} (h0 : chkMR r l = 0) (hl : l.length ≤ 12) (hne : l.length ≠ 0) : (txM l) ≠ [] ∧ HP r ((txM l).take ((txM l).length - 1)) ∧ kP r ((txM l).take ((txM l).length - 1)) = (l.length : Int) - 1 ∧ eP r ((txM l).take ((txM l).length - 1)) = 25 := by
  have hw := mv_wd h0
  have hnil : l ≠ [] := fun q => by rw [q] at hne; exact hne rfl
  obtain ⟨l', m, rfl⟩ : ∃ l' m, l = l' ++ [m] := ⟨l.dropLast, l.getLast hnil, (List.dropLast_concat_getLast hnil).symm⟩
  have ht : txM (l' ++ [m]) = txM l' ++ jn 32 (wsM m) ++ [10] := by
    unfold txM
    rw [List.map_append, List.flatten_append, List.append_assoc]
    simp [prM]
  have hcut : (txM (l' ++ [m])).take ((txM (l' ++ [m])).length - 1) = txM l' ++ jn 32 (wsM m) := by
    rw [ht, List.length_append, List.length_singleton, Nat.add_sub_cancel, List.take_left' rfl]
  rw [hcut]
  obtain ⟨c1, c2, c3⟩ := tx_cut (l := l') (m := m) (fun x hx => hw x (List.mem_append_left _ hx)) (hw m (by simp))
  obtain ⟨d1, d2⟩ := k_1 c3
  rw [List.length_append, List.length_singleton] at hl ⊢
  have hn : (txM l' ++ jn 32 (wsM m)).length ≤ 4096 := by
    have h := flat_len (b := 200) (L := (l' ++ [m]).map prM) (fun x hx => by
      obtain ⟨m, hm, rfl⟩ := List.mem_map.1 hx
      exact pr_24 h0 hm)
    have h2 : (txM (l' ++ [m])).length ≤ 4096 := by
      rw [List.length_map, List.length_append, List.length_singleton] at h
      unfold txM
      omega
    rw [ht, List.length_append] at h2
    omega
  have hE : e77 r (txM l' ++ jn 32 (wsM m)) = 0 := e77_0 (mv_ok h0).1 hn
  have hlt : k77 (txM l' ++ jn 32 (wsM m)) < (lns (txM l' ++ jn 32 (wsM m))).length := by rw [d2, d1]; omega
  refine ⟨by rw [ht]; simp, fun _ h => by omega, ?_, ?_⟩
  · rw [kP, hE, if_neg (by decide), if_pos hlt, d2, c1]
    omega
  · rw [eP, hE, if_neg (by decide), if_pos hlt]
theorem cut_e (t : List UInt8) : List.take ((t.length : Int) - 1 - 0).toNat (List.drop 0 t) = t.take (t.length - 1) := by
  rw [List.drop_zero, show ((t.length : Int) - 1 - 0).toNat = t.length - 1 by omega]
theorem c15 (r : Ru) (l : List Mv) (s : List UInt8) (hA : PCall Tryz.prog G0 16 [] (.bool true)) (hl : r.ts.length ≤ maxLen) (hm : r.rs.length ≤ maxLen) (hn : l.length ≤ maxLen) : PCall Tryz.prog G0 15 [.agg (encRu r), .sl 5 (l.map encMv), .str s] (.bool true) := by
  have key :
   (true = true → true = true) ∧ (true = true → true = true) ∧ (false = false → true = true) ∧ ((!!shR r) = true → (!!shR r) = true) ∧ ((!!shR r) = true → (!!shR r) = true) ∧ ((!shR r) = false → (!!shR r) = true) ∧ ((!if (!shR r) =
   true then true else !shM l) = true → (!if (!shR r) = true then true else !shM l) = true) ∧ ((!if (!shR r) = true then true else !shM l) = true → (!if (!shR r) = true then true else !shM l) = true) ∧ ((if (!shR r) = true then true
   else !shM l) = false → (!if (!shR r) = true then true else !shM l) = true) ∧ ((!if (if (!shR r) = true then true else !shM l) = true then true else decide ((↑(List.map encMv l).length : Int) > 12)) = true → (!if (if (!shR r) = true
   then true else !shM l) = true then true else decide ((↑(List.map encMv l).length : Int) > 12)) = true) ∧ ((!if (if (!shR r) = true then true else !shM l) = true then true else decide ((↑(List.map encMv l).length : Int) > 12)) =
   true → (!if (if (!shR r) = true then true else !shM l) = true then true else decide ((↑(List.map encMv l).length : Int) > 12)) = true) ∧ ((!if (if (!shR r) = true then true else !shM l) = true then true else decide ((↑(List.map
   encMv l).length : Int) > 12)) = true → (!if (if (!shR r) = true then true else !shM l) = true then true else decide ((↑(List.map encMv l).length : Int) > 12)) = true) ∧ ((if (if (!shR r) = true then true else !shM l) = true then
   true else decide ((↑(List.map encMv l).length : Int) > 12)) = false → (!if (if (!shR r) = true then true else !shM l) = true then true else decide ((↑(List.map encMv l).length : Int) > 12)) = true) ∧ ((!if (if (if (!shR r) = true
   then true else !shM l) = true then true else decide ((↑(List.map encMv l).length : Int) > 12)) = true then true else chkMR r l != 0) = true → (!if (if (if (!shR r) = true then true else !shM l) = true then true else decide
   ((↑(List.map encMv l).length : Int) > 12)) = true then true else chkMR r l != 0) = true) ∧ ((!if (if (if (!shR r) = true then true else !shM l) = true then true else decide ((↑(List.map encMv l).length : Int) > 12)) = true then
   true else chkMR r l != 0) = true → (!if (if (if (!shR r) = true then true else !shM l) = true then true else decide ((↑(List.map encMv l).length : Int) > 12)) = true then true else chkMR r l != 0) = true) ∧ ((if (if (if (!shR r) =
   true then true else !shM l) = true then true else decide ((↑(List.map encMv l).length : Int) > 12)) = true then true else chkMR r l != 0) = false → (!if (if (if (!shR r) = true then true else !shM l) = true then true else decide
   ((↑(List.map encMv l).length : Int) > 12)) = true then true else chkMR r l != 0) = true) ∧ PCall Tryz.prog G0 16 [] (AV.bool true) ∧ PCall Tryz.prog G0 17 [AV.agg (encRu r)] (AV.bool (shR r)) ∧ impB (!!shR r) (PCall Tryz.prog G0 30
   [AV.sl 5 (List.map encMv l)] (AV.bool (shM l))) ∧ impB (!if (if (!shR r) = true then true else !shM l) = true then true else decide ((↑(List.map encMv l).length : Int) > 12)) (PCall Tryz.prog G0 36 [AV.agg (encRu r), AV.sl 5
   (List.map encMv l)] (AV.i (chkMR r l))) ∧ ((if (if (if (if (!shR r) = true then true else !shM l) = true then true else decide ((↑(List.map encMv l).length : Int) > 12)) = true then true else chkMR r l != 0) = true then true else
   decide ((↑s.length : Int) > 400)) = true → PCall Tryz.prog G0 16 [] (AV.bool true) ∧ AV.bool true = AV.bool true) ∧ ((if (if (if (if (!shR r) = true then true else !shM l) = true then true else decide ((↑(List.map encMv l).length :
   Int) > 12)) = true then true else chkMR r l != 0) = true then true else decide ((↑s.length : Int) > 400)) = false → PCall Tryz.prog G0 21 [AV.agg (encRu r)] (AV.agg (encRu r)) ∧ PCall Tryz.prog G0 32 [AV.sl 5 (List.map encMv l)]
   (AV.sl 5 (List.map encMv l)) ∧ PCall Tryz.prog G0 76 [AV.agg (encRu r), AV.sl 5 (List.map encMv l)] (AV.tup [AV.str (tQ r (List.map encMv l)), AV.i (cQ r (List.map encMv l))]) ∧ PCall Tryz.prog G0 21 [AV.agg (encRu r)] (AV.agg
   (encRu r)) ∧ PCall Tryz.prog G0 77 [AV.agg (encRu r), AV.str (tQ r (List.map encMv l))] (AV.tup [AV.sl 5 (List.map encMv (msP r (tQ r (List.map encMv l)))), AV.i (kP r (tQ r (List.map encMv l))), AV.i (eP r (tQ r (List.map encMv
   l)))]) ∧ In64 ((↑(List.map encMv l).length : Int) + 1) ∧ AV.bool (cQ r (List.map encMv l) != 0) = AV.bool false ∧ AV.bool (eP r (tQ r (List.map encMv l)) != 0) = AV.bool false ∧ AV.bool (kP r (tQ r (List.map encMv l)) != 0) =
   AV.bool false ∧ PCall Tryz.prog G0 81 [AV.sl 5 (List.map encMv (msP r (tQ r (List.map encMv l))))] (AV.sl 5 (List.map encMv (msP r (tQ r (List.map encMv l))))) ∧ PCall Tryz.prog G0 80 [AV.sl 5 (List.map encMv (msP r (tQ r (List.map
   encMv l)))), AV.sl 5 (List.map encMv l)] (AV.bool true) ∧ AV.bool false = AV.bool false ∧ PCall Tryz.prog G0 82 [AV.str (tQ r (List.map encMv l)), AV.int IntKind.u8 (10 : Int)] (AV.sl 1 (List.map encS (spl (10 : UInt8) (tQ r
   (List.map encMv l))))) ∧ AV.bool ((↑(List.map encS (spl (10 : UInt8) (tQ r (List.map encMv l)))).length : Int) != (↑(List.map encMv l).length : Int) + 1) = AV.bool false ∧ (false = true → AV.bool false = AV.bool true) ∧ (false =
   false → PCall Tryz.prog G0 21 [AV.agg (encRu r)] (AV.agg (encRu r)) ∧ PCall Tryz.prog G0 77 [AV.agg (encRu r), AV.str s] (AV.tup [AV.sl 5 (List.map encMv (msP r s)), AV.i (kP r s), AV.i (eP r s)]) ∧ ((eP r s == 0) = true → PCall
   Tryz.prog G0 21 [AV.agg (encRu r)] (AV.agg (encRu r)) ∧ PCall Tryz.prog G0 76 [AV.agg (encRu r), AV.sl 5 (List.map encMv (msP r s))] (AV.tup [AV.str (tQ r (List.map encMv (msP r s))), AV.i (cQ r (List.map encMv (msP r s)))]) ∧
   AV.bool (cQ r (List.map encMv (msP r s)) != 0) = AV.bool false ∧ (AV.bool !tQ r (List.map encMv (msP r s)) == s) = AV.bool false ∧ (false = true → AV.bool false = AV.bool true) ∧ (false = false → (((↑(List.map encMv l).length :
   Int) == 0) = true → AV.bool (tQ r (List.map encMv l) == []) = AV.bool true) ∧ (((↑(List.map encMv l).length : Int) == 0) = false → In64 ((↑(tQ r (List.map encMv l)).length : Int) - 1) ∧ (0 : Int) ≤ 0 ∧ (0 : Int) ≤ (↑(tQ r (List.map
   encMv l)).length : Int) - 1 ∧ (↑(tQ r (List.map encMv l)).length : Int) - 1 ≤ (↑(tQ r (List.map encMv l)).length : Int) ∧ PCall Tryz.prog G0 21 [AV.agg (encRu r)] (AV.agg (encRu r)) ∧ PCall Tryz.prog G0 77 [AV.agg (encRu r), AV.str
   (List.take ((↑(tQ r (List.map encMv l)).length : Int) - 1 - 0).toNat (List.drop 0 (tQ r (List.map encMv l))))] (AV.tup [AV.sl 5 (List.map encMv (msP r (List.take ((↑(tQ r (List.map encMv l)).length : Int) - 1 - 0).toNat (List.drop
   0 (tQ r (List.map encMv l)))))), AV.i (kP r (List.take ((↑(tQ r (List.map encMv l)).length : Int) - 1 - 0).toNat (List.drop 0 (tQ r (List.map encMv l))))), AV.i (eP r (List.take ((↑(tQ r (List.map encMv l)).length : Int) - 1 -
   0).toNat (List.drop 0 (tQ r (List.map encMv l)))))]) ∧ In64 ((↑(List.map encMv l).length : Int) - 1) ∧ AV.bool (eP r (List.take ((↑(tQ r (List.map encMv l)).length : Int) - 1 - 0).toNat (List.drop 0 (tQ r (List.map encMv l)))) ==
   25) = AV.bool true ∧ AV.bool (kP r (List.take ((↑(tQ r (List.map encMv l)).length : Int) - 1 - 0).toNat (List.drop 0 (tQ r (List.map encMv l)))) == (↑(List.map encMv l).length : Int) - 1) = AV.bool true ∧ AV.bool true = AV.bool
   true))) ∧ ((eP r s == 0) = false → (((↑(List.map encMv l).length : Int) == 0) = true → AV.bool (tQ r (List.map encMv l) == []) = AV.bool true) ∧ (((↑(List.map encMv l).length : Int) == 0) = false → In64 ((↑(tQ r (List.map encMv
   l)).length : Int) - 1) ∧ (0 : Int) ≤ 0 ∧ (0 : Int) ≤ (↑(tQ r (List.map encMv l)).length : Int) - 1 ∧ (↑(tQ r (List.map encMv l)).length : Int) - 1 ≤ (↑(tQ r (List.map encMv l)).length : Int) ∧ PCall Tryz.prog G0 21 [AV.agg (encRu
   r)] (AV.agg (encRu r)) ∧ PCall Tryz.prog G0 77 [AV.agg (encRu r), AV.str (List.take ((↑(tQ r (List.map encMv l)).length : Int) - 1 - 0).toNat (List.drop 0 (tQ r (List.map encMv l))))] (AV.tup [AV.sl 5 (List.map encMv (msP r
   (List.take ((↑(tQ r (List.map encMv l)).length : Int) - 1 - 0).toNat (List.drop 0 (tQ r (List.map encMv l)))))), AV.i (kP r (List.take ((↑(tQ r (List.map encMv l)).length : Int) - 1 - 0).toNat (List.drop 0 (tQ r (List.map encMv
   l))))), AV.i (eP r (List.take ((↑(tQ r (List.map encMv l)).length : Int) - 1 - 0).toNat (List.drop 0 (tQ r (List.map encMv l)))))]) ∧ In64 ((↑(List.map encMv l).length : Int) - 1) ∧ AV.bool (eP r (List.take ((↑(tQ r (List.map encMv
   l)).length : Int) - 1 - 0).toNat (List.drop 0 (tQ r (List.map encMv l)))) == 25) = AV.bool true ∧ AV.bool (kP r (List.take ((↑(tQ r (List.map encMv l)).length : Int) - 1 - 0).toNat (List.drop 0 (tQ r (List.map encMv l)))) ==
   (↑(List.map encMv l).length : Int) - 1) = AV.bool true ∧ AV.bool true = AV.bool true)))) := by
    have hlm : (List.map encMv l).length = l.length := List.length_map _
    have : (List.map encMv l).length = l.length := by simp only [List.length_map]
    have : (List.map encS (spl (10 : UInt8) (tQ r (List.map encMv l)))).length = (spl (10 : UInt8) (tQ r (List.map encMv l))).length := by simp only [List.length_map]
    refine ⟨fun h => h, fun h => h, fun h => by first | exact h | (rw [h]; rfl) | simp_all, fun h => h, fun h => h, fun h => by first | exact h | (rw [h]; rfl) | simp_all, fun h => h, fun h => h, fun h => by first | exact h | (rw [h]; rfl) | simp_all, fun h => h, fun h => h, fun h => h, fun h => by first | exact h | (rw [h]; rfl) | simp_all, fun h => h, fun h => h, fun h => by first | exact h | (rw [h]; rfl) | simp_all, hA, (c17 r hl hm), impB_iff.2 fun hb => (c30 l hn), impB_iff.2 fun hb => (c36s (sh_g hb)), fun h1 => ⟨hA, rfl⟩, fun h1 => ?_⟩
    · obtain ⟨hx, h400⟩ := or_f h1
      obtain ⟨hx, hck⟩ := or_f hx
      obtain ⟨hx, h12⟩ := or_f hx
      obtain ⟨hx1, hx2⟩ := or_f hx
      have hR : shR r = true := by simpa using hx1
      have hS : Sh r l := sh_mv hR (by simpa using hx2)
      have h0 : chkMR r l = 0 := by simpa using hck
      have h12 := of_decide_eq_false h12
      have h400 := of_decide_eq_false h400
      have hB := bk_of hS h0 (by omega)
      have hBs := hB.s
      have hBn := hB.n
      rw [hB.x]
      rw [hB.m, hB.k, hB.e, hB.c]
      refine ⟨(c21 r hS.t hS.s), ((c32 l hS.k).un), ((by have := c76q hS; rw [hB.x, hB.c] at this; exact this)), (c21 r hS.t hS.s), ((by have := c77r hR (by omega) hB.p; rw [hB.m, hB.k, hB.e] at this; exact this)), (by unfold In64; omega), ?_, ?_, ?_, ((c81 l hS.k).un), (c80 l hS.k), rfl, (c82 _ 10 (by omega) (by decide)), ?_, fun h2 => ?_, fun h2 => ⟨(c21 r hS.t hS.s), (c77r hR (by omega) (hp_of hR (.inl (by omega))).2), fun h3 => ?_, fun h3 => ⟨fun h4 => ?_, fun h4 => ?_⟩⟩⟩
      · first | rfl | trivial
      · first | rfl | trivial
      · first | rfl | trivial
      · rw [hBs, hlm]
        exact congrArg AV.bool (by rw [Int.natCast_add]; exact bne_self_eq_false _)
      · first | exact absurd h2 (by decide) | exact absurd h3 (by decide) | exact absurd h4 (by decide) | exact absurd h5 (by decide)
      · obtain ⟨a1, a2, a3⟩ := ag_of hR (s := s) (by omega) (by simpa using h3)
        rw [a2, a3]
        refine ⟨(c21 r hS.t hS.s), ((by have := c76q a1; rw [a2, a3] at this; exact this)), ?_, ?_, fun h4 => ?_, fun h4 => ⟨fun h5 => ?_, fun h5 => ?_⟩⟩
        · first | rfl | trivial
        · rw [beq_self_eq_true]; rfl
        · first | exact absurd h2 (by decide) | exact absurd h3 (by decide) | exact absurd h4 (by decide) | exact absurd h5 (by decide)
        · have hz : l.length = 0 := by
            first
              | (have := eq_of_beq h5; omega)
              | (have := eq_of_beq h4; omega)
          rw [List.length_eq_zero_iff.1 hz]
          rfl
        · have hne : l.length ≠ 0 := by
            have := h5
            simp only [beq_eq_false_iff_ne] at this
            omega
          obtain ⟨t1, t2, t3, t4⟩ := ct_of h0 (by omega) hne
          have hpos : 0 < (txM l).length := List.length_pos_iff.2 t1
          rw [cut_e]
          refine ⟨(by unfold In64; omega), (by omega), (by omega), (by omega), (c21 r hS.t hS.s), (c77r hR (by rw [List.length_take]; omega) t2), (by unfold In64; omega), ?_, ?_, rfl⟩
          · rw [t4]; rfl
          · rw [t3, hlm]; exact congrArg AV.bool (beq_self_eq_true _)
      · have hz : l.length = 0 := by
          first
            | (have := eq_of_beq h5; omega)
            | (have := eq_of_beq h4; omega)
        rw [List.length_eq_zero_iff.1 hz]
        rfl
      · have hne : l.length ≠ 0 := by
          have := h4
          simp only [beq_eq_false_iff_ne] at this
          omega
        obtain ⟨t1, t2, t3, t4⟩ := ct_of h0 (by omega) hne
        have hpos : 0 < (txM l).length := List.length_pos_iff.2 t1
        rw [cut_e]
        refine ⟨(by unfold In64; omega), (by omega), (by omega), (by omega), (c21 r hS.t hS.s), (c77r hR (by rw [List.length_take]; omega) t2), (by unfold In64; omega), ?_, ?_, rfl⟩
        · rw [t4]; rfl
        · rw [t3, hlm]; exact congrArg AV.bool (beq_self_eq_true _)
  exact c_of Tryz.f15 (noSyms [5, 10, 15] (fzB (mkB (sp15 r l) 15 (lits false [(5, 1), (5, 4), (5, 8), (5, 15), (5, 24), (10, 1), (10, 5)] ++ lits true [(15, 1), (15, 7)]) noLa))) (by kernel_rfl) (by kernel_rfl) (by kernel_rfl) (by kernel_rfl) key (by kernel_rfl)
end Go.Proofs.YtimgfogakgakhaaGreatDoor
namespace Go.Proofs.YtimgfogakgakhaaGreatDoor
open Go Go.Av Go.RowKit Go.ChangeShapes Go.WideShapes
theorem jp0_15 : (Rows.nightBackRow.inPlace == Tryz.prog.inPlace 15) = true := by kernel_rfl
theorem jp1_15 : (Rows.nightBackRow.unfollowed == Tryz.prog.unfollowed 15) = true := by kernel_rfl
theorem jp2_15 : (Rows.nightBackRow.recurses == Tryz.prog.recurses 15) = true := by kernel_rfl
theorem jp3_15 : (Rows.nightBackRow.named == Tryz.prog.varsNamed 15) = true := by kernel_rfl
theorem jfacts_15 : joinedFacts Tryz.prog 15 Tryz.f15 Rows.nightBackSpec Rows.nightBackRow = true := by
  unfold joinedFacts
  rw [jp0_15, jp1_15, jp2_15, jp3_15]
  kernel_rfl
end Go.Proofs.YtimgfogakgakhaaGreatDoor
