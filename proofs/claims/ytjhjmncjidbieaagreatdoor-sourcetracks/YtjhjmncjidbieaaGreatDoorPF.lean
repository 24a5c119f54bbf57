/-
  SourceTracks returns true. No condition but the theorems' own. What hearing hands over, tick by tick. No condition but the theorem's own. What loops over functions are handed in chapter 2, on concrete values. No condition but the theorem's own. Contracts of the library at this program, laid by the kit from its shelf: each is one application of a theorem of the library. No condition but what each theorem names. The library's strconv.Itoa and strings.Join, as contracts on abstract values. No condition but the theorems' own. The library's calls on concrete values, and what is known of the program for runs on concrete values. No condition but the theorems' own. Calls on concrete values. No condition: runs in the kernel. The arguments of chapter 2's statements, and the way from a contract of a statement to its row. No condition but the theorems' own. A type, and what is asked of it, as arguments. No condition but the theorems' own. A track, and ticks with a receiver, as arguments. No condition but the theorems' own.
-/
import Derived.Test.YtjhjmncjidbieaaGreatDoorPE
import Derived.Test.YtjhjmncjidbieaaGreatDoorAvC
import Derived.Test.YtjhjmncjidbieaaGreatDoorPA
import Derived.Shelf.Strings.OnBuilder
import Derived.Shelf.LaysM
import Derived.Shelf.Strconv.Itoa3
import Derived.Test.YtjhjmncjidbieaaGreatDoorProg
import Derived.Test.YtjhjmncjidbieaaGreatDoorPB
import Derived.Test.YtjhjmncjidbieaaGreatDoorAvD
import Derived.Test.YtjhjmncjidbieaaGreatDoorCards
import Derived.Test.YtjhjmncjidbieaaGreatDoorTie
import Derived.LaidMore
import Derived.LaidOnce
import Derived.Stop.Joined
import Derived.SevenTiedAt
namespace Go.Proofs.YtjhjmncjidbieaaGreatDoor
open Go Go.Av Go.RowKit
def rA (l : List Fx) (k : Int) (j : Nat) : Int := cJ [rAt l k] 0 j
def rA6 (l : List Fx) (k : Int) : List AV := [.i (rA l k 0), .i (rA l k 1), .i (rA l k 2), .i (rA l k 3), .i (rA l k 4), .i (rA l k 5)]
theorem rAt_eq (l : List Fx) (k : Int) : rAt l k = rA6 l k := by
  unfold rA6 rA rAt
  cases (sTrackS l != 0) <;> cases outT l k <;> rfl
theorem same_self (l : List Fx) : sSame l l = true := by
  unfold sSame
  rw [if_neg (by simp)]
  refine List.all_eq_true.2 fun i _ => ?_
  unfold eqFx
  simp
theorem repR_len (l : List Fx) (sp : Int) : (repR l sp).length ≤ l.length - 1 + 1 := by
  unfold repR
  have := (rep_len (l := l) (sp := sp) (l.length - 1)).2
  split
  · simp
  · exact this
theorem rRep_len (l : List Fx) (sp : Int) : (rRep l sp).length ≤ l.length - 1 + 1 := by
  unfold rRep
  split
  · simp
  · exact repR_len l sp
theorem rJ_len (l m : List Fx) : (rJ l m).length ≤ l.length + m.length := by
  unfold rJ jRes
  split
  · simp
  · split
    · simp
    · rw [List.length_append]; omega
theorem bne_of_beq {a : Int} (h : (a == 0) = false) : (a != 0) = true := by
  rw [bne, h]
  rfl
theorem nbne_of_beq {a : Int} (h : (a == 0) = true) : ¬ (a != 0) = true := by
  rw [bne, h]
  exact Bool.false_ne_true
def mdB (g : List GS) (l : List (Nat × AV)) (c : List AV) : Option (List GS × AS) := some (g ++ [.keep (l.map (·.1)) [1], .bound 2], ⟨l, [(1, .box c)], 2⟩)
def sp10 (l m : List Fx) (k0 k1 : Int) : Nat → List AV → Option AV
  | 13, _ => some (.bool true)
  | 26, [.sl _ rows] => some (.bool (decide (rows.length ≤ 17)))
  | 29, [.sl _ rows] => some (.sl 5 rows)
  | 56, _ => some (.tup [.agg (rA6 l k0), .i (chkAt l k0)])
  | 39, _ => some (.tup [.sl 5 ((rRep l k1).map encFx), .i (chkRep l k1)])
  | 71, _ => some (.tup [.sl 5 ((rJ l m).map encFx), .i (chkJ l m)])
  | 33, [.sl _ rows] => some (.i (sTrackR (trkS rows)))
  | 19, [.int _ p] => some (.i (sWithin p 1 1000))
  | 72, _ => some (.i (sWhen (outT l k0) 7))
  | 73, _ => some (.agg (rA6 l k0))
  | 74, _ => some (.tup [.sl 5 ((repR l k1).map encFx), .i (repE l k1)])
  | 75, _ => some (.tup [.sl 5 ((jRes l m).map encFx), .i (jChk l m)])
  | 76, [.sl _ rows] => some (.i (sTrackS (trkS rows)))
  | 24, [.sl _ rows] => some (.sl 5 rows)
  | 23, _ => some (.bool true)
  | n, w => spR n w
def b10 (l m : List Fx) (k0 k1 : Int) : List (Nat × AV) := [(0, .sl 5 (l.map encFx)), (1, .sl 5 (m.map encFx)), (5, .elt 2 [[.i k0, .i k1]] 0 0), (6, .bool false)]
def w10 (l m : List Fx) (k0 k1 : Int) : List (Nat × AV) := [(7, .elt 6 [rA6 l k0] 0 0), (8, .i (chkAt l k0)), (9, .sl 5 ((rRep l k1).map encFx)), (10, .i (chkRep l k1)), (11, .sl 5 ((rJ l m).map encFx)), (12, .i (chkJ l m)), (13, .i (sTrackR l))]
def y10 (a b c : Int) : List (Nat × AV) := [(14, .i a), (15, .i b), (16, .i c)]
def m10 (l m : List Fx) (k0 k1 : Int) : List (Option (List GS × AS)) :=
  let B := b10 l m k0 k1
  let W := w10 l m k0 k1
  let e2 := sFirst [sTrackR l, sWithin k1 1 1000]
  let e3 := sFirst [sTrackR l, sTrackR m]
  let z : List AV := [.i 0, .i 0, .i 0, .i 0, .i 0, .i 0]
  let n : List (Nat × AV) := [(18, .sl 5 []), (19, .sl 5 [])]
  let C := B ++ W ++ [(17, .ptr 1 0)]
  let n1 : List (Nat × AV) := [(18, .sl 5 ((rRep l k1).map encFx)), (19, .sl 5 [])]
  let n2 : List (Nat × AV) := [(18, .sl 5 ((rRep l k1).map encFx)), (19, .sl 5 ((rJ l m).map encFx))]
  [md [] B, md [] (B ++ [(27, .bool false)]), md [] B, md [] (B ++ W.take 2), md [] (B ++ W.take 4), md [] (B ++ W.take 6), md [] (B ++ W), md [] (B ++ W ++ y10 (sTrackR l) e2 e3),
   mdB [.reno 17 1] (C ++ y10 (sTrackR l) e2 e3) z,
   mdB [.nil 18 5, .nil 19 5] (C ++ y10 (sTrackR l) e2 e3 ++ n) z,
   mdB [] (C ++ y10 (sTrackR l) e2 e3 ++ n ++ [(68, .bool (sTrackR l == 0))]) z,
   mdB [] (C ++ y10 (chkAt l k0) e2 e3 ++ n) z,
   mdB [] (C ++ y10 (chkAt l k0) e2 e3 ++ n ++ [(74, .bool (chkAt l k0 == 0))]) z,
   mdB [] (C ++ y10 (chkAt l k0) e2 e3 ++ n) (rA6 l k0),
   mdB [] (C ++ y10 (chkAt l k0) e2 e3 ++ n ++ [(80, .bool (e2 == 0))]) (rA6 l k0),
   mdB [] (C ++ y10 (chkAt l k0) (chkRep l k1) e3 ++ n1) (rA6 l k0),
   mdB [] (C ++ y10 (chkAt l k0) (chkRep l k1) e3 ++ n1 ++ [(89, .bool (e3 == 0))]) (rA6 l k0),
   mdB [] (C ++ y10 (chkAt l k0) (chkRep l k1) (chkJ l m) ++ n2) (rA6 l k0)]
def f10 (l m : List Fx) (k0 k1 : Int) : List (Option (List GS × AS)) := [md [] (b10 l m k0 k1), md [] (b10 l m k0 k1 ++ [(27, .bool true)])]
def cl10 : Operand → Bool
  | .tmp t => t.beq 27
  | _ => false
def rds10 : List (Nat × Nat × (List AV → Option AV)) := [(18, 4, rdT), (18, 8, rdT), (18, 13, rdT), (18, 24, rdT), (18, 35, rdT)]
def B10 (l m : List Fx) (k0 k1 : Int) (r : List (Nat × Nat × (List AV → Option AV))) : BA := { noSym 1 (noSym 18 (fzB (mkB (sp10 l m k0 k1) 10 (r ++ rds10) noLa))) with cl := cl10 }
theorem c10_0 (l m : List Fx) (k0 k1 : Int) (hA : PCall Tryz.prog G0 13 [] (.bool true)) (h0 : (!decide (l.length ≤ 17)) = true) : PCall Tryz.prog G0 10 [.sl 5 (l.map encFx), .sl 5 (m.map encFx), .agg [.i k0, .i k1]] (.bool true) := by
  have key :
   AS.mk [(0, AV.sl 5 (List.map encFx l)), (1, AV.sl 5 (List.map encFx m)), (5, AV.elt 2 [[AV.i k0, AV.i k1]] 0 0), (6, AV.bool false)] [] 1 = AS.mk [(0, AV.sl 5 (List.map encFx l)), (1, AV.sl 5 (List.map encFx m)), (5, AV.elt 2
   [[AV.i k0, AV.i k1]] 0 0), (6, AV.bool false)] [] 1 ∧ ((true = false → false = true) ∧ PCall Tryz.prog G0 26 [AV.sl 5 (List.map encFx l)] (AV.bool (decide ((List.map encFx l).length ≤ 17))) ∧ (AV.bool !decide ((List.map encFx
   l).length ≤ 17)) = AV.bool true ∧ AS.mk [(0, AV.sl 5 (List.map encFx l)), (1, AV.sl 5 (List.map encFx m)), (5, AV.elt 2 [[AV.i k0, AV.i k1]] 0 0), (6, AV.bool false), (27, AV.bool true)] [] 1 = AS.mk [(0, AV.sl 5 (List.map encFx
   l)), (1, AV.sl 5 (List.map encFx m)), (5, AV.elt 2 [[AV.i k0, AV.i k1]] 0 0), (6, AV.bool false), (27, AV.bool true)] [] 1) ∧ PCall Tryz.prog G0 13 [] (AV.bool true) ∧ AV.bool true = AV.bool true := by
    exact ⟨rfl, ⟨(fun h => by cases h), by rw [List.length_map]; exact c26 l, by rw [List.length_map]; exact congrArg AV.bool h0, rfl⟩, hA, rfl⟩
  exact c_ofG Tryz.f10 (B10 l m k0 k1 [(1, 2, rdT)]) (f10 l m k0 k1) (by kernel_rfl) (by kernel_rfl) (by kernel_rfl) (by kernel_rfl) key (by kernel_rfl)
theorem c10_1 (l m : List Fx) (k0 k1 : Int) (hA : PCall Tryz.prog G0 13 [] (.bool true)) (h0 : (!decide (l.length ≤ 17)) = false) (h1 : (!decide (m.length ≤ 17)) = true) : PCall Tryz.prog G0 10 [.sl 5 (l.map encFx), .sl 5 (m.map encFx), .agg [.i k0, .i k1]] (.bool true) := by
  have key :
   AS.mk [(0, AV.sl 5 (List.map encFx l)), (1, AV.sl 5 (List.map encFx m)), (5, AV.elt 2 [[AV.i k0, AV.i k1]] 0 0), (6, AV.bool false)] [] 1 = AS.mk [(0, AV.sl 5 (List.map encFx l)), (1, AV.sl 5 (List.map encFx m)), (5, AV.elt 2
   [[AV.i k0, AV.i k1]] 0 0), (6, AV.bool false)] [] 1 ∧ (PCall Tryz.prog G0 26 [AV.sl 5 (List.map encFx l)] (AV.bool (decide ((List.map encFx l).length ≤ 17))) ∧ (AV.bool !decide ((List.map encFx l).length ≤ 17)) = AV.bool false ∧
   PCall Tryz.prog G0 26 [AV.sl 5 (List.map encFx m)] (AV.bool (decide ((List.map encFx m).length ≤ 17))) ∧ (AV.bool !decide ((List.map encFx m).length ≤ 17)) = AV.bool true ∧ AS.mk [(0, AV.sl 5 (List.map encFx l)), (1, AV.sl 5
   (List.map encFx m)), (5, AV.elt 2 [[AV.i k0, AV.i k1]] 0 0), (6, AV.bool false), (27, AV.bool true)] [] 1 = AS.mk [(0, AV.sl 5 (List.map encFx l)), (1, AV.sl 5 (List.map encFx m)), (5, AV.elt 2 [[AV.i k0, AV.i k1]] 0 0), (6,
   AV.bool false), (27, AV.bool true)] [] 1) ∧ PCall Tryz.prog G0 13 [] (AV.bool true) ∧ AV.bool true = AV.bool true := by
    exact ⟨rfl, ⟨by rw [List.length_map]; exact c26 l, by rw [List.length_map]; exact congrArg AV.bool h0, by rw [List.length_map]; exact c26 m, by rw [List.length_map]; exact congrArg AV.bool h1, rfl⟩, hA, rfl⟩
  exact c_ofG Tryz.f10 (B10 l m k0 k1 [(1, 2, rdF), (1, 6, rdT)]) (f10 l m k0 k1) (by kernel_rfl) (by kernel_rfl) (by kernel_rfl) (by kernel_rfl) key (by kernel_rfl)
theorem c10_ok (l m : List Fx) (k0 k1 : Int) (hA : PCall Tryz.prog G0 13 [] (.bool true)) (h0 : (!decide (l.length ≤ 17)) = false) (h1 : (!decide (m.length ≤ 17)) = false) : PCall Tryz.prog G0 10 [.sl 5 (l.map encFx), .sl 5 (m.map encFx), .agg [.i k0, .i k1]] (.bool true) := by
  have key :
   AS.mk [(0, AV.sl 5 (List.map encFx l)), (1, AV.sl 5 (List.map encFx m)), (5, AV.elt 2 [[AV.i k0, AV.i k1]] 0 0), (6, AV.bool false)] [] 1 = AS.mk [(0, AV.sl 5 (List.map encFx l)), (1, AV.sl 5 (List.map encFx m)), (5, AV.elt 2
   [[AV.i k0, AV.i k1]] 0 0), (6, AV.bool false)] [] 1 ∧ (PCall Tryz.prog G0 26 [AV.sl 5 (List.map encFx l)] (AV.bool (decide ((List.map encFx l).length ≤ 17))) ∧ (AV.bool !decide ((List.map encFx l).length ≤ 17)) = AV.bool false ∧
   PCall Tryz.prog G0 26 [AV.sl 5 (List.map encFx m)] (AV.bool (decide ((List.map encFx m).length ≤ 17))) ∧ (AV.bool !decide ((List.map encFx m).length ≤ 17)) = AV.bool false ∧ AS.mk [(0, AV.sl 5 (List.map encFx l)), (1, AV.sl 5
   (List.map encFx m)), (5, AV.elt 2 [[AV.i k0, AV.i k1]] 0 0), (6, AV.bool false), (27, AV.bool false)] [] 1 = AS.mk [(0, AV.sl 5 (List.map encFx l)), (1, AV.sl 5 (List.map encFx m)), (5, AV.elt 2 [[AV.i k0, AV.i k1]] 0 0), (6,
   AV.bool false), (27, AV.bool false)] [] 1) ∧ AS.mk [(0, AV.sl 5 (List.map encFx l)), (1, AV.sl 5 (List.map encFx m)), (5, AV.elt 2 [[AV.i k0, AV.i k1]] 0 0), (6, AV.bool false)] [] 1 = AS.mk [(0, AV.sl 5 (List.map encFx l)), (1,
   AV.sl 5 (List.map encFx m)), (5, AV.elt 2 [[AV.i k0, AV.i k1]] 0 0), (6, AV.bool false)] [] 1 ∧ ((0 : Int) ≤ 0 ∧ (0 : Int) < (↑2 : Int) ∧ PCall Tryz.prog G0 29 [AV.sl 5 (List.map encFx l)] (AV.sl 5 (List.map encFx l)) ∧ PCall
   Tryz.prog G0 56 [AV.sl 5 (List.map encFx l), AV.i k0] (AV.tup [AV.agg [AV.i (rA l k0 0), AV.i (rA l k0 1), AV.i (rA l k0 2), AV.i (rA l k0 3), AV.i (rA l k0 4), AV.i (rA l k0 5)], AV.i (chkAt l k0)]) ∧ AS.mk [(0, AV.sl 5 (List.map
   encFx l)), (1, AV.sl 5 (List.map encFx m)), (5, AV.elt 2 [[AV.i k0, AV.i k1]] 0 0), (6, AV.bool false), (7, AV.elt 6 [[AV.i (rA l k0 0), AV.i (rA l k0 1), AV.i (rA l k0 2), AV.i (rA l k0 3), AV.i (rA l k0 4), AV.i (rA l k0 5)]] 0
   0), (8, AV.i (chkAt l k0))] [] 1 = AS.mk [(0, AV.sl 5 (List.map encFx l)), (1, AV.sl 5 (List.map encFx m)), (5, AV.elt 2 [[AV.i k0, AV.i k1]] 0 0), (6, AV.bool false), (7, AV.elt 6 [[AV.i (rA l k0 0), AV.i (rA l k0 1), AV.i (rA l
   k0 2), AV.i (rA l k0 3), AV.i (rA l k0 4), AV.i (rA l k0 5)]] 0 0), (8, AV.i (chkAt l k0))] [] 1) ∧ ((0 : Int) ≤ 1 ∧ (1 : Int) < (↑2 : Int) ∧ PCall Tryz.prog G0 29 [AV.sl 5 (List.map encFx l)] (AV.sl 5 (List.map encFx l)) ∧ PCall
   Tryz.prog G0 39 [AV.sl 5 (List.map encFx l), AV.i k1] (AV.tup [AV.sl 5 (List.map encFx (rRep l k1)), AV.i (chkRep l k1)]) ∧ AS.mk [(0, AV.sl 5 (List.map encFx l)), (1, AV.sl 5 (List.map encFx m)), (5, AV.elt 2 [[AV.i k0, AV.i k1]]
   0 0), (6, AV.bool false), (7, AV.elt 6 [[AV.i (rA l k0 0), AV.i (rA l k0 1), AV.i (rA l k0 2), AV.i (rA l k0 3), AV.i (rA l k0 4), AV.i (rA l k0 5)]] 0 0), (8, AV.i (chkAt l k0)), (9, AV.sl 5 (List.map encFx (rRep l k1))), (10,
   AV.i (chkRep l k1))] [] 1 = AS.mk [(0, AV.sl 5 (List.map encFx l)), (1, AV.sl 5 (List.map encFx m)), (5, AV.elt 2 [[AV.i k0, AV.i k1]] 0 0), (6, AV.bool false), (7, AV.elt 6 [[AV.i (rA l k0 0), AV.i (rA l k0 1), AV.i (rA l k0 2),
   AV.i (rA l k0 3), AV.i (rA l k0 4), AV.i (rA l k0 5)]] 0 0), (8, AV.i (chkAt l k0)), (9, AV.sl 5 (List.map encFx (rRep l k1))), (10, AV.i (chkRep l k1))] [] 1) ∧ (PCall Tryz.prog G0 29 [AV.sl 5 (List.map encFx l)] (AV.sl 5
   (List.map encFx l)) ∧ PCall Tryz.prog G0 29 [AV.sl 5 (List.map encFx m)] (AV.sl 5 (List.map encFx m)) ∧ PCall Tryz.prog G0 71 [AV.sl 5 (List.map encFx l), AV.sl 5 (List.map encFx m)] (AV.tup [AV.sl 5 (List.map encFx (rJ l m)), AV.i
   (chkJ l m)]) ∧ AS.mk [(0, AV.sl 5 (List.map encFx l)), (1, AV.sl 5 (List.map encFx m)), (5, AV.elt 2 [[AV.i k0, AV.i k1]] 0 0), (6, AV.bool false), (7, AV.elt 6 [[AV.i (rA l k0 0), AV.i (rA l k0 1), AV.i (rA l k0 2), AV.i (rA l k0
   3), AV.i (rA l k0 4), AV.i (rA l k0 5)]] 0 0), (8, AV.i (chkAt l k0)), (9, AV.sl 5 (List.map encFx (rRep l k1))), (10, AV.i (chkRep l k1)), (11, AV.sl 5 (List.map encFx (rJ l m))), (12, AV.i (chkJ l m))] [] 1 = AS.mk [(0, AV.sl 5
   (List.map encFx l)), (1, AV.sl 5 (List.map encFx m)), (5, AV.elt 2 [[AV.i k0, AV.i k1]] 0 0), (6, AV.bool false), (7, AV.elt 6 [[AV.i (rA l k0 0), AV.i (rA l k0 1), AV.i (rA l k0 2), AV.i (rA l k0 3), AV.i (rA l k0 4), AV.i (rA l
   k0 5)]] 0 0), (8, AV.i (chkAt l k0)), (9, AV.sl 5 (List.map encFx (rRep l k1))), (10, AV.i (chkRep l k1)), (11, AV.sl 5 (List.map encFx (rJ l m))), (12, AV.i (chkJ l m))] [] 1) ∧ (PCall Tryz.prog G0 33 [AV.sl 5 (List.map encFx l)]
   (AV.i (sTrackR (trkS (List.map encFx l)))) ∧ AS.mk [(0, AV.sl 5 (List.map encFx l)), (1, AV.sl 5 (List.map encFx m)), (5, AV.elt 2 [[AV.i k0, AV.i k1]] 0 0), (6, AV.bool false), (7, AV.elt 6 [[AV.i (rA l k0 0), AV.i (rA l k0 1),
   AV.i (rA l k0 2), AV.i (rA l k0 3), AV.i (rA l k0 4), AV.i (rA l k0 5)]] 0 0), (8, AV.i (chkAt l k0)), (9, AV.sl 5 (List.map encFx (rRep l k1))), (10, AV.i (chkRep l k1)), (11, AV.sl 5 (List.map encFx (rJ l m))), (12, AV.i (chkJ l
   m)), (13, AV.i (sTrackR (trkS (List.map encFx l))))] [] 1 = AS.mk [(0, AV.sl 5 (List.map encFx l)), (1, AV.sl 5 (List.map encFx m)), (5, AV.elt 2 [[AV.i k0, AV.i k1]] 0 0), (6, AV.bool false), (7, AV.elt 6 [[AV.i (rA l k0 0), AV.i
   (rA l k0 1), AV.i (rA l k0 2), AV.i (rA l k0 3), AV.i (rA l k0 4), AV.i (rA l k0 5)]] 0 0), (8, AV.i (chkAt l k0)), (9, AV.sl 5 (List.map encFx (rRep l k1))), (10, AV.i (chkRep l k1)), (11, AV.sl 5 (List.map encFx (rJ l m))), (12,
   AV.i (chkJ l m)), (13, AV.i (sTrackR l))] [] 1) ∧ ((0 : Int) ≤ 1 ∧ (1 : Int) < (↑2 : Int) ∧ PCall Tryz.prog G0 19 [AV.i k1] (AV.i (sWithin k1 (1 : Int) (1000 : Int))) ∧ PCall Tryz.prog G0 16 [AV.sl 1 [[AV.i (sTrackR l)], [AV.i
   (sWithin k1 (1 : Int) (1000 : Int))]]] (AV.i (sFirst [hdI [AV.i (sTrackR l)], hdI [AV.i (sWithin k1 (1 : Int) (1000 : Int))]])) ∧ PCall Tryz.prog G0 33 [AV.sl 5 (List.map encFx m)] (AV.i (sTrackR (trkS (List.map encFx m)))) ∧ PCall
   Tryz.prog G0 16 [AV.sl 1 [[AV.i (sTrackR l)], [AV.i (sTrackR (trkS (List.map encFx m)))]]] (AV.i (sFirst [hdI [AV.i (sTrackR l)], hdI [AV.i (sTrackR (trkS (List.map encFx m)))]])) ∧ AS.mk [(0, AV.sl 5 (List.map encFx l)), (1, AV.sl
   5 (List.map encFx m)), (5, AV.elt 2 [[AV.i k0, AV.i k1]] 0 0), (6, AV.bool false), (7, AV.elt 6 [[AV.i (rA l k0 0), AV.i (rA l k0 1), AV.i (rA l k0 2), AV.i (rA l k0 3), AV.i (rA l k0 4), AV.i (rA l k0 5)]] 0 0), (8, AV.i (chkAt l
   k0)), (9, AV.sl 5 (List.map encFx (rRep l k1))), (10, AV.i (chkRep l k1)), (11, AV.sl 5 (List.map encFx (rJ l m))), (12, AV.i (chkJ l m)), (13, AV.i (sTrackR l)), (14, AV.i (sTrackR l)), (15, AV.i (sFirst [hdI [AV.i (sTrackR l)],
   hdI [AV.i (sWithin k1 (1 : Int) (1000 : Int))]])), (16, AV.i (sFirst [hdI [AV.i (sTrackR l)], hdI [AV.i (sTrackR (trkS (List.map encFx m)))]]))] [] 1 = AS.mk [(0, AV.sl 5 (List.map encFx l)), (1, AV.sl 5 (List.map encFx m)), (5,
   AV.elt 2 [[AV.i k0, AV.i k1]] 0 0), (6, AV.bool false), (7, AV.elt 6 [[AV.i (rA l k0 0), AV.i (rA l k0 1), AV.i (rA l k0 2), AV.i (rA l k0 3), AV.i (rA l k0 4), AV.i (rA l k0 5)]] 0 0), (8, AV.i (chkAt l k0)), (9, AV.sl 5 (List.map
   encFx (rRep l k1))), (10, AV.i (chkRep l k1)), (11, AV.sl 5 (List.map encFx (rJ l m))), (12, AV.i (chkJ l m)), (13, AV.i (sTrackR l)), (14, AV.i (sTrackR l)), (15, AV.i (sFirst [sTrackR l, sWithin k1 (1 : Int) (1000 : Int)])), (16,
   AV.i (sFirst [sTrackR l, sTrackR m]))] [] 1) ∧ AS.mk [(0, AV.sl 5 (List.map encFx l)), (1, AV.sl 5 (List.map encFx m)), (5, AV.elt 2 [[AV.i k0, AV.i k1]] 0 0), (6, AV.bool false), (7, AV.elt 6 [[AV.i (rA l k0 0), AV.i (rA l k0 1),
   AV.i (rA l k0 2), AV.i (rA l k0 3), AV.i (rA l k0 4), AV.i (rA l k0 5)]] 0 0), (8, AV.i (chkAt l k0)), (9, AV.sl 5 (List.map encFx (rRep l k1))), (10, AV.i (chkRep l k1)), (11, AV.sl 5 (List.map encFx (rJ l m))), (12, AV.i (chkJ l
   m)), (13, AV.i (sTrackR l)), (17, AV.ptr 1 0), (14, AV.i (sTrackR l)), (15, AV.i (sFirst [sTrackR l, sWithin k1 (1 : Int) (1000 : Int)])), (16, AV.i (sFirst [sTrackR l, sTrackR m]))] [(1, ABlk.box [AV.i 0, AV.i 0, AV.i 0, AV.i 0,
   AV.i 0, AV.i 0])] 2 = AS.mk [(0, AV.sl 5 (List.map encFx l)), (1, AV.sl 5 (List.map encFx m)), (5, AV.elt 2 [[AV.i k0, AV.i k1]] 0 0), (6, AV.bool false), (7, AV.elt 6 [[AV.i (rA l k0 0), AV.i (rA l k0 1), AV.i (rA l k0 2), AV.i
   (rA l k0 3), AV.i (rA l k0 4), AV.i (rA l k0 5)]] 0 0), (8, AV.i (chkAt l k0)), (9, AV.sl 5 (List.map encFx (rRep l k1))), (10, AV.i (chkRep l k1)), (11, AV.sl 5 (List.map encFx (rJ l m))), (12, AV.i (chkJ l m)), (13, AV.i (sTrackR
   l)), (17, AV.ptr 1 0), (14, AV.i (sTrackR l)), (15, AV.i (sFirst [sTrackR l, sWithin k1 (1 : Int) (1000 : Int)])), (16, AV.i (sFirst [sTrackR l, sTrackR m]))] [(1, ABlk.box [AV.i 0, AV.i 0, AV.i 0, AV.i 0, AV.i 0, AV.i 0])] 2 ∧
   AS.mk [(0, AV.sl 5 (List.map encFx l)), (1, AV.sl 5 (List.map encFx m)), (5, AV.elt 2 [[AV.i k0, AV.i k1]] 0 0), (6, AV.bool false), (7, AV.elt 6 [[AV.i (rA l k0 0), AV.i (rA l k0 1), AV.i (rA l k0 2), AV.i (rA l k0 3), AV.i (rA l
   k0 4), AV.i (rA l k0 5)]] 0 0), (8, AV.i (chkAt l k0)), (9, AV.sl 5 (List.map encFx (rRep l k1))), (10, AV.i (chkRep l k1)), (11, AV.sl 5 (List.map encFx (rJ l m))), (12, AV.i (chkJ l m)), (13, AV.i (sTrackR l)), (17, AV.ptr 1 0),
   (14, AV.i (sTrackR l)), (15, AV.i (sFirst [sTrackR l, sWithin k1 (1 : Int) (1000 : Int)])), (16, AV.i (sFirst [sTrackR l, sTrackR m])), (18, AV.sl 5 []), (19, AV.sl 5 [])] [(1, ABlk.box [AV.i 0, AV.i 0, AV.i 0, AV.i 0, AV.i 0, AV.i
   0])] 2 = AS.mk [(0, AV.sl 5 (List.map encFx l)), (1, AV.sl 5 (List.map encFx m)), (5, AV.elt 2 [[AV.i k0, AV.i k1]] 0 0), (6, AV.bool false), (7, AV.elt 6 [[AV.i (rA l k0 0), AV.i (rA l k0 1), AV.i (rA l k0 2), AV.i (rA l k0 3),
   AV.i (rA l k0 4), AV.i (rA l k0 5)]] 0 0), (8, AV.i (chkAt l k0)), (9, AV.sl 5 (List.map encFx (rRep l k1))), (10, AV.i (chkRep l k1)), (11, AV.sl 5 (List.map encFx (rJ l m))), (12, AV.i (chkJ l m)), (13, AV.i (sTrackR l)), (17,
   AV.ptr 1 0), (14, AV.i (sTrackR l)), (15, AV.i (sFirst [sTrackR l, sWithin k1 (1 : Int) (1000 : Int)])), (16, AV.i (sFirst [sTrackR l, sTrackR m])), (18, AV.sl 5 []), (19, AV.sl 5 [])] [(1, ABlk.box [AV.i 0, AV.i 0, AV.i 0, AV.i 0,
   AV.i 0, AV.i 0])] 2 ∧ AS.mk [(0, AV.sl 5 (List.map encFx l)), (1, AV.sl 5 (List.map encFx m)), (5, AV.elt 2 [[AV.i k0, AV.i k1]] 0 0), (6, AV.bool false), (7, AV.elt 6 [[AV.i (rA l k0 0), AV.i (rA l k0 1), AV.i (rA l k0 2), AV.i
   (rA l k0 3), AV.i (rA l k0 4), AV.i (rA l k0 5)]] 0 0), (8, AV.i (chkAt l k0)), (9, AV.sl 5 (List.map encFx (rRep l k1))), (10, AV.i (chkRep l k1)), (11, AV.sl 5 (List.map encFx (rJ l m))), (12, AV.i (chkJ l m)), (13, AV.i (sTrackR
   l)), (17, AV.ptr 1 0), (14, AV.i (sTrackR l)), (15, AV.i (sFirst [sTrackR l, sWithin k1 (1 : Int) (1000 : Int)])), (16, AV.i (sFirst [sTrackR l, sTrackR m])), (18, AV.sl 5 []), (19, AV.sl 5 []), (68, AV.bool (sTrackR l == 0))] [(1,
   ABlk.box [AV.i 0, AV.i 0, AV.i 0, AV.i 0, AV.i 0, AV.i 0])] 2 = AS.mk [(0, AV.sl 5 (List.map encFx l)), (1, AV.sl 5 (List.map encFx m)), (5, AV.elt 2 [[AV.i k0, AV.i k1]] 0 0), (6, AV.bool false), (7, AV.elt 6 [[AV.i (rA l k0 0),
   AV.i (rA l k0 1), AV.i (rA l k0 2), AV.i (rA l k0 3), AV.i (rA l k0 4), AV.i (rA l k0 5)]] 0 0), (8, AV.i (chkAt l k0)), (9, AV.sl 5 (List.map encFx (rRep l k1))), (10, AV.i (chkRep l k1)), (11, AV.sl 5 (List.map encFx (rJ l m))),
   (12, AV.i (chkJ l m)), (13, AV.i (sTrackR l)), (17, AV.ptr 1 0), (14, AV.i (sTrackR l)), (15, AV.i (sFirst [sTrackR l, sWithin k1 (1 : Int) (1000 : Int)])), (16, AV.i (sFirst [sTrackR l, sTrackR m])), (18, AV.sl 5 []), (19, AV.sl 5
   []), (68, AV.bool (sTrackR l == 0))] [(1, ABlk.box [AV.i 0, AV.i 0, AV.i 0, AV.i 0, AV.i 0, AV.i 0])] 2 ∧ (((sTrackR l == 0) = true → (0 : Int) ≤ 0 ∧ (0 : Int) < (↑2 : Int) ∧ PCall Tryz.prog G0 72 [AV.sl 5 (List.map encFx l), AV.i
   k0] (AV.i (sWhen (outT l k0) (7 : Int))) ∧ AS.mk [(0, AV.sl 5 (List.map encFx l)), (1, AV.sl 5 (List.map encFx m)), (5, AV.elt 2 [[AV.i k0, AV.i k1]] 0 0), (6, AV.bool false), (7, AV.elt 6 [[AV.i (rA l k0 0), AV.i (rA l k0 1), AV.i
   (rA l k0 2), AV.i (rA l k0 3), AV.i (rA l k0 4), AV.i (rA l k0 5)]] 0 0), (8, AV.i (chkAt l k0)), (9, AV.sl 5 (List.map encFx (rRep l k1))), (10, AV.i (chkRep l k1)), (11, AV.sl 5 (List.map encFx (rJ l m))), (12, AV.i (chkJ l m)),
   (13, AV.i (sTrackR l)), (17, AV.ptr 1 0), (14, AV.i (sWhen (outT l k0) (7 : Int))), (15, AV.i (sFirst [sTrackR l, sWithin k1 (1 : Int) (1000 : Int)])), (16, AV.i (sFirst [sTrackR l, sTrackR m])), (18, AV.sl 5 []), (19, AV.sl 5 [])]
   [(1, ABlk.box [AV.i 0, AV.i 0, AV.i 0, AV.i 0, AV.i 0, AV.i 0])] 2 = AS.mk [(0, AV.sl 5 (List.map encFx l)), (1, AV.sl 5 (List.map encFx m)), (5, AV.elt 2 [[AV.i k0, AV.i k1]] 0 0), (6, AV.bool false), (7, AV.elt 6 [[AV.i (rA l k0
   0), AV.i (rA l k0 1), AV.i (rA l k0 2), AV.i (rA l k0 3), AV.i (rA l k0 4), AV.i (rA l k0 5)]] 0 0), (8, AV.i (chkAt l k0)), (9, AV.sl 5 (List.map encFx (rRep l k1))), (10, AV.i (chkRep l k1)), (11, AV.sl 5 (List.map encFx (rJ l
   m))), (12, AV.i (chkJ l m)), (13, AV.i (sTrackR l)), (17, AV.ptr 1 0), (14, AV.i (chkAt l k0)), (15, AV.i (sFirst [sTrackR l, sWithin k1 (1 : Int) (1000 : Int)])), (16, AV.i (sFirst [sTrackR l, sTrackR m])), (18, AV.sl 5 []), (19,
   AV.sl 5 [])] [(1, ABlk.box [AV.i 0, AV.i 0, AV.i 0, AV.i 0, AV.i 0, AV.i 0])] 2) ∧ ((sTrackR l == 0) = false → AS.mk [(0, AV.sl 5 (List.map encFx l)), (1, AV.sl 5 (List.map encFx m)), (5, AV.elt 2 [[AV.i k0, AV.i k1]] 0 0), (6,
   AV.bool false), (7, AV.elt 6 [[AV.i (rA l k0 0), AV.i (rA l k0 1), AV.i (rA l k0 2), AV.i (rA l k0 3), AV.i (rA l k0 4), AV.i (rA l k0 5)]] 0 0), (8, AV.i (chkAt l k0)), (9, AV.sl 5 (List.map encFx (rRep l k1))), (10, AV.i (chkRep
   l k1)), (11, AV.sl 5 (List.map encFx (rJ l m))), (12, AV.i (chkJ l m)), (13, AV.i (sTrackR l)), (17, AV.ptr 1 0), (14, AV.i (sTrackR l)), (15, AV.i (sFirst [sTrackR l, sWithin k1 (1 : Int) (1000 : Int)])), (16, AV.i (sFirst
   [sTrackR l, sTrackR m])), (18, AV.sl 5 []), (19, AV.sl 5 [])] [(1, ABlk.box [AV.i 0, AV.i 0, AV.i 0, AV.i 0, AV.i 0, AV.i 0])] 2 = AS.mk [(0, AV.sl 5 (List.map encFx l)), (1, AV.sl 5 (List.map encFx m)), (5, AV.elt 2 [[AV.i k0,
   AV.i k1]] 0 0), (6, AV.bool false), (7, AV.elt 6 [[AV.i (rA l k0 0), AV.i (rA l k0 1), AV.i (rA l k0 2), AV.i (rA l k0 3), AV.i (rA l k0 4), AV.i (rA l k0 5)]] 0 0), (8, AV.i (chkAt l k0)), (9, AV.sl 5 (List.map encFx (rRep l
   k1))), (10, AV.i (chkRep l k1)), (11, AV.sl 5 (List.map encFx (rJ l m))), (12, AV.i (chkJ l m)), (13, AV.i (sTrackR l)), (17, AV.ptr 1 0), (14, AV.i (chkAt l k0)), (15, AV.i (sFirst [sTrackR l, sWithin k1 (1 : Int) (1000 : Int)])),
   (16, AV.i (sFirst [sTrackR l, sTrackR m])), (18, AV.sl 5 []), (19, AV.sl 5 [])] [(1, ABlk.box [AV.i 0, AV.i 0, AV.i 0, AV.i 0, AV.i 0, AV.i 0])] 2)) ∧ AS.mk [(0, AV.sl 5 (List.map encFx l)), (1, AV.sl 5 (List.map encFx m)), (5,
   AV.elt 2 [[AV.i k0, AV.i k1]] 0 0), (6, AV.bool false), (7, AV.elt 6 [[AV.i (rA l k0 0), AV.i (rA l k0 1), AV.i (rA l k0 2), AV.i (rA l k0 3), AV.i (rA l k0 4), AV.i (rA l k0 5)]] 0 0), (8, AV.i (chkAt l k0)), (9, AV.sl 5 (List.map
   encFx (rRep l k1))), (10, AV.i (chkRep l k1)), (11, AV.sl 5 (List.map encFx (rJ l m))), (12, AV.i (chkJ l m)), (13, AV.i (sTrackR l)), (17, AV.ptr 1 0), (14, AV.i (chkAt l k0)), (15, AV.i (sFirst [sTrackR l, sWithin k1 (1 : Int)
   (1000 : Int)])), (16, AV.i (sFirst [sTrackR l, sTrackR m])), (18, AV.sl 5 []), (19, AV.sl 5 []), (74, AV.bool (chkAt l k0 == 0))] [(1, ABlk.box [AV.i 0, AV.i 0, AV.i 0, AV.i 0, AV.i 0, AV.i 0])] 2 = AS.mk [(0, AV.sl 5 (List.map
   encFx l)), (1, AV.sl 5 (List.map encFx m)), (5, AV.elt 2 [[AV.i k0, AV.i k1]] 0 0), (6, AV.bool false), (7, AV.elt 6 [[AV.i (rA l k0 0), AV.i (rA l k0 1), AV.i (rA l k0 2), AV.i (rA l k0 3), AV.i (rA l k0 4), AV.i (rA l k0 5)]] 0
   0), (8, AV.i (chkAt l k0)), (9, AV.sl 5 (List.map encFx (rRep l k1))), (10, AV.i (chkRep l k1)), (11, AV.sl 5 (List.map encFx (rJ l m))), (12, AV.i (chkJ l m)), (13, AV.i (sTrackR l)), (17, AV.ptr 1 0), (14, AV.i (chkAt l k0)),
   (15, AV.i (sFirst [sTrackR l, sWithin k1 (1 : Int) (1000 : Int)])), (16, AV.i (sFirst [sTrackR l, sTrackR m])), (18, AV.sl 5 []), (19, AV.sl 5 []), (74, AV.bool (chkAt l k0 == 0))] [(1, ABlk.box [AV.i 0, AV.i 0, AV.i 0, AV.i 0,
   AV.i 0, AV.i 0])] 2 ∧ (((chkAt l k0 == 0) = true → (0 : Int) ≤ 0 ∧ (0 : Int) < (↑2 : Int) ∧ PCall Tryz.prog G0 73 [AV.sl 5 (List.map encFx l), AV.i k0] (AV.agg [AV.i (rA l k0 0), AV.i (rA l k0 1), AV.i (rA l k0 2), AV.i (rA l k0
   3), AV.i (rA l k0 4), AV.i (rA l k0 5)]) ∧ AS.mk [(0, AV.sl 5 (List.map encFx l)), (1, AV.sl 5 (List.map encFx m)), (5, AV.elt 2 [[AV.i k0, AV.i k1]] 0 0), (6, AV.bool false), (7, AV.elt 6 [[AV.i (rA l k0 0), AV.i (rA l k0 1), AV.i
   (rA l k0 2), AV.i (rA l k0 3), AV.i (rA l k0 4), AV.i (rA l k0 5)]] 0 0), (8, AV.i (chkAt l k0)), (9, AV.sl 5 (List.map encFx (rRep l k1))), (10, AV.i (chkRep l k1)), (11, AV.sl 5 (List.map encFx (rJ l m))), (12, AV.i (chkJ l m)),
   (13, AV.i (sTrackR l)), (17, AV.ptr 1 0), (14, AV.i (chkAt l k0)), (15, AV.i (sFirst [sTrackR l, sWithin k1 (1 : Int) (1000 : Int)])), (16, AV.i (sFirst [sTrackR l, sTrackR m])), (18, AV.sl 5 []), (19, AV.sl 5 [])] [(1, ABlk.box
   [AV.i (rA l k0 0), AV.i (rA l k0 1), AV.i (rA l k0 2), AV.i (rA l k0 3), AV.i (rA l k0 4), AV.i (rA l k0 5)])] 2 = AS.mk [(0, AV.sl 5 (List.map encFx l)), (1, AV.sl 5 (List.map encFx m)), (5, AV.elt 2 [[AV.i k0, AV.i k1]] 0 0), (6,
   AV.bool false), (7, AV.elt 6 [[AV.i (rA l k0 0), AV.i (rA l k0 1), AV.i (rA l k0 2), AV.i (rA l k0 3), AV.i (rA l k0 4), AV.i (rA l k0 5)]] 0 0), (8, AV.i (chkAt l k0)), (9, AV.sl 5 (List.map encFx (rRep l k1))), (10, AV.i (chkRep
   l k1)), (11, AV.sl 5 (List.map encFx (rJ l m))), (12, AV.i (chkJ l m)), (13, AV.i (sTrackR l)), (17, AV.ptr 1 0), (14, AV.i (chkAt l k0)), (15, AV.i (sFirst [sTrackR l, sWithin k1 (1 : Int) (1000 : Int)])), (16, AV.i (sFirst
   [sTrackR l, sTrackR m])), (18, AV.sl 5 []), (19, AV.sl 5 [])] [(1, ABlk.box [AV.i (rA l k0 0), AV.i (rA l k0 1), AV.i (rA l k0 2), AV.i (rA l k0 3), AV.i (rA l k0 4), AV.i (rA l k0 5)])] 2) ∧ ((chkAt l k0 == 0) = false → AS.mk [(0,
   AV.sl 5 (List.map encFx l)), (1, AV.sl 5 (List.map encFx m)), (5, AV.elt 2 [[AV.i k0, AV.i k1]] 0 0), (6, AV.bool false), (7, AV.elt 6 [[AV.i (rA l k0 0), AV.i (rA l k0 1), AV.i (rA l k0 2), AV.i (rA l k0 3), AV.i (rA l k0 4), AV.i
   (rA l k0 5)]] 0 0), (8, AV.i (chkAt l k0)), (9, AV.sl 5 (List.map encFx (rRep l k1))), (10, AV.i (chkRep l k1)), (11, AV.sl 5 (List.map encFx (rJ l m))), (12, AV.i (chkJ l m)), (13, AV.i (sTrackR l)), (17, AV.ptr 1 0), (14, AV.i
   (chkAt l k0)), (15, AV.i (sFirst [sTrackR l, sWithin k1 (1 : Int) (1000 : Int)])), (16, AV.i (sFirst [sTrackR l, sTrackR m])), (18, AV.sl 5 []), (19, AV.sl 5 [])] [(1, ABlk.box [AV.i 0, AV.i 0, AV.i 0, AV.i 0, AV.i 0, AV.i 0])] 2 =
   AS.mk [(0, AV.sl 5 (List.map encFx l)), (1, AV.sl 5 (List.map encFx m)), (5, AV.elt 2 [[AV.i k0, AV.i k1]] 0 0), (6, AV.bool false), (7, AV.elt 6 [[AV.i (rA l k0 0), AV.i (rA l k0 1), AV.i (rA l k0 2), AV.i (rA l k0 3), AV.i (rA l
   k0 4), AV.i (rA l k0 5)]] 0 0), (8, AV.i (chkAt l k0)), (9, AV.sl 5 (List.map encFx (rRep l k1))), (10, AV.i (chkRep l k1)), (11, AV.sl 5 (List.map encFx (rJ l m))), (12, AV.i (chkJ l m)), (13, AV.i (sTrackR l)), (17, AV.ptr 1 0),
   (14, AV.i (chkAt l k0)), (15, AV.i (sFirst [sTrackR l, sWithin k1 (1 : Int) (1000 : Int)])), (16, AV.i (sFirst [sTrackR l, sTrackR m])), (18, AV.sl 5 []), (19, AV.sl 5 [])] [(1, ABlk.box [AV.i (rA l k0 0), AV.i (rA l k0 1), AV.i
   (rA l k0 2), AV.i (rA l k0 3), AV.i (rA l k0 4), AV.i (rA l k0 5)])] 2)) ∧ AS.mk [(0, AV.sl 5 (List.map encFx l)), (1, AV.sl 5 (List.map encFx m)), (5, AV.elt 2 [[AV.i k0, AV.i k1]] 0 0), (6, AV.bool false), (7, AV.elt 6 [[AV.i (rA
   l k0 0), AV.i (rA l k0 1), AV.i (rA l k0 2), AV.i (rA l k0 3), AV.i (rA l k0 4), AV.i (rA l k0 5)]] 0 0), (8, AV.i (chkAt l k0)), (9, AV.sl 5 (List.map encFx (rRep l k1))), (10, AV.i (chkRep l k1)), (11, AV.sl 5 (List.map encFx (rJ
   l m))), (12, AV.i (chkJ l m)), (13, AV.i (sTrackR l)), (17, AV.ptr 1 0), (14, AV.i (chkAt l k0)), (15, AV.i (sFirst [sTrackR l, sWithin k1 (1 : Int) (1000 : Int)])), (16, AV.i (sFirst [sTrackR l, sTrackR m])), (18, AV.sl 5 []),
   (19, AV.sl 5 []), (80, AV.bool (sFirst [sTrackR l, sWithin k1 (1 : Int) (1000 : Int)] == 0))] [(1, ABlk.box [AV.i (rA l k0 0), AV.i (rA l k0 1), AV.i (rA l k0 2), AV.i (rA l k0 3), AV.i (rA l k0 4), AV.i (rA l k0 5)])] 2 = AS.mk
   [(0, AV.sl 5 (List.map encFx l)), (1, AV.sl 5 (List.map encFx m)), (5, AV.elt 2 [[AV.i k0, AV.i k1]] 0 0), (6, AV.bool false), (7, AV.elt 6 [[AV.i (rA l k0 0), AV.i (rA l k0 1), AV.i (rA l k0 2), AV.i (rA l k0 3), AV.i (rA l k0 4),
   AV.i (rA l k0 5)]] 0 0), (8, AV.i (chkAt l k0)), (9, AV.sl 5 (List.map encFx (rRep l k1))), (10, AV.i (chkRep l k1)), (11, AV.sl 5 (List.map encFx (rJ l m))), (12, AV.i (chkJ l m)), (13, AV.i (sTrackR l)), (17, AV.ptr 1 0), (14,
   AV.i (chkAt l k0)), (15, AV.i (sFirst [sTrackR l, sWithin k1 (1 : Int) (1000 : Int)])), (16, AV.i (sFirst [sTrackR l, sTrackR m])), (18, AV.sl 5 []), (19, AV.sl 5 []), (80, AV.bool (sFirst [sTrackR l, sWithin k1 (1 : Int) (1000 :
   Int)] == 0))] [(1, ABlk.box [AV.i (rA l k0 0), AV.i (rA l k0 1), AV.i (rA l k0 2), AV.i (rA l k0 3), AV.i (rA l k0 4), AV.i (rA l k0 5)])] 2 ∧ (((sFirst [sTrackR l, sWithin k1 (1 : Int) (1000 : Int)] == 0) = true → (0 : Int) ≤ 1 ∧
   (1 : Int) < (↑2 : Int) ∧ PCall Tryz.prog G0 74 [AV.sl 5 (List.map encFx l), AV.i k1] (AV.tup [AV.sl 5 (List.map encFx (repR l k1)), AV.i (repE l k1)]) ∧ AS.mk [(0, AV.sl 5 (List.map encFx l)), (1, AV.sl 5 (List.map encFx m)), (5,
   AV.elt 2 [[AV.i k0, AV.i k1]] 0 0), (6, AV.bool false), (7, AV.elt 6 [[AV.i (rA l k0 0), AV.i (rA l k0 1), AV.i (rA l k0 2), AV.i (rA l k0 3), AV.i (rA l k0 4), AV.i (rA l k0 5)]] 0 0), (8, AV.i (chkAt l k0)), (9, AV.sl 5 (List.map
   encFx (rRep l k1))), (10, AV.i (chkRep l k1)), (11, AV.sl 5 (List.map encFx (rJ l m))), (12, AV.i (chkJ l m)), (13, AV.i (sTrackR l)), (17, AV.ptr 1 0), (14, AV.i (chkAt l k0)), (15, AV.i (repE l k1)), (16, AV.i (sFirst [sTrackR l,
   sTrackR m])), (18, AV.sl 5 (List.map encFx (repR l k1))), (19, AV.sl 5 [])] [(1, ABlk.box [AV.i (rA l k0 0), AV.i (rA l k0 1), AV.i (rA l k0 2), AV.i (rA l k0 3), AV.i (rA l k0 4), AV.i (rA l k0 5)])] 2 = AS.mk [(0, AV.sl 5
   (List.map encFx l)), (1, AV.sl 5 (List.map encFx m)), (5, AV.elt 2 [[AV.i k0, AV.i k1]] 0 0), (6, AV.bool false), (7, AV.elt 6 [[AV.i (rA l k0 0), AV.i (rA l k0 1), AV.i (rA l k0 2), AV.i (rA l k0 3), AV.i (rA l k0 4), AV.i (rA l
   k0 5)]] 0 0), (8, AV.i (chkAt l k0)), (9, AV.sl 5 (List.map encFx (rRep l k1))), (10, AV.i (chkRep l k1)), (11, AV.sl 5 (List.map encFx (rJ l m))), (12, AV.i (chkJ l m)), (13, AV.i (sTrackR l)), (17, AV.ptr 1 0), (14, AV.i (chkAt l
   k0)), (15, AV.i (chkRep l k1)), (16, AV.i (sFirst [sTrackR l, sTrackR m])), (18, AV.sl 5 (List.map encFx (rRep l k1))), (19, AV.sl 5 [])] [(1, ABlk.box [AV.i (rA l k0 0), AV.i (rA l k0 1), AV.i (rA l k0 2), AV.i (rA l k0 3), AV.i
   (rA l k0 4), AV.i (rA l k0 5)])] 2) ∧ ((sFirst [sTrackR l, sWithin k1 (1 : Int) (1000 : Int)] == 0) = false → AS.mk [(0, AV.sl 5 (List.map encFx l)), (1, AV.sl 5 (List.map encFx m)), (5, AV.elt 2 [[AV.i k0, AV.i k1]] 0 0), (6,
   AV.bool false), (7, AV.elt 6 [[AV.i (rA l k0 0), AV.i (rA l k0 1), AV.i (rA l k0 2), AV.i (rA l k0 3), AV.i (rA l k0 4), AV.i (rA l k0 5)]] 0 0), (8, AV.i (chkAt l k0)), (9, AV.sl 5 (List.map encFx (rRep l k1))), (10, AV.i (chkRep
   l k1)), (11, AV.sl 5 (List.map encFx (rJ l m))), (12, AV.i (chkJ l m)), (13, AV.i (sTrackR l)), (17, AV.ptr 1 0), (14, AV.i (chkAt l k0)), (15, AV.i (sFirst [sTrackR l, sWithin k1 (1 : Int) (1000 : Int)])), (16, AV.i (sFirst
   [sTrackR l, sTrackR m])), (18, AV.sl 5 []), (19, AV.sl 5 [])] [(1, ABlk.box [AV.i (rA l k0 0), AV.i (rA l k0 1), AV.i (rA l k0 2), AV.i (rA l k0 3), AV.i (rA l k0 4), AV.i (rA l k0 5)])] 2 = AS.mk [(0, AV.sl 5 (List.map encFx l)),
   (1, AV.sl 5 (List.map encFx m)), (5, AV.elt 2 [[AV.i k0, AV.i k1]] 0 0), (6, AV.bool false), (7, AV.elt 6 [[AV.i (rA l k0 0), AV.i (rA l k0 1), AV.i (rA l k0 2), AV.i (rA l k0 3), AV.i (rA l k0 4), AV.i (rA l k0 5)]] 0 0), (8, AV.i
   (chkAt l k0)), (9, AV.sl 5 (List.map encFx (rRep l k1))), (10, AV.i (chkRep l k1)), (11, AV.sl 5 (List.map encFx (rJ l m))), (12, AV.i (chkJ l m)), (13, AV.i (sTrackR l)), (17, AV.ptr 1 0), (14, AV.i (chkAt l k0)), (15, AV.i
   (chkRep l k1)), (16, AV.i (sFirst [sTrackR l, sTrackR m])), (18, AV.sl 5 (List.map encFx (rRep l k1))), (19, AV.sl 5 [])] [(1, ABlk.box [AV.i (rA l k0 0), AV.i (rA l k0 1), AV.i (rA l k0 2), AV.i (rA l k0 3), AV.i (rA l k0 4), AV.i
   (rA l k0 5)])] 2)) ∧ AS.mk [(0, AV.sl 5 (List.map encFx l)), (1, AV.sl 5 (List.map encFx m)), (5, AV.elt 2 [[AV.i k0, AV.i k1]] 0 0), (6, AV.bool false), (7, AV.elt 6 [[AV.i (rA l k0 0), AV.i (rA l k0 1), AV.i (rA l k0 2), AV.i (rA
   l k0 3), AV.i (rA l k0 4), AV.i (rA l k0 5)]] 0 0), (8, AV.i (chkAt l k0)), (9, AV.sl 5 (List.map encFx (rRep l k1))), (10, AV.i (chkRep l k1)), (11, AV.sl 5 (List.map encFx (rJ l m))), (12, AV.i (chkJ l m)), (13, AV.i (sTrackR
   l)), (17, AV.ptr 1 0), (14, AV.i (chkAt l k0)), (15, AV.i (chkRep l k1)), (16, AV.i (sFirst [sTrackR l, sTrackR m])), (18, AV.sl 5 (List.map encFx (rRep l k1))), (19, AV.sl 5 []), (89, AV.bool (sFirst [sTrackR l, sTrackR m] == 0))]
   [(1, ABlk.box [AV.i (rA l k0 0), AV.i (rA l k0 1), AV.i (rA l k0 2), AV.i (rA l k0 3), AV.i (rA l k0 4), AV.i (rA l k0 5)])] 2 = AS.mk [(0, AV.sl 5 (List.map encFx l)), (1, AV.sl 5 (List.map encFx m)), (5, AV.elt 2 [[AV.i k0, AV.i
   k1]] 0 0), (6, AV.bool false), (7, AV.elt 6 [[AV.i (rA l k0 0), AV.i (rA l k0 1), AV.i (rA l k0 2), AV.i (rA l k0 3), AV.i (rA l k0 4), AV.i (rA l k0 5)]] 0 0), (8, AV.i (chkAt l k0)), (9, AV.sl 5 (List.map encFx (rRep l k1))),
   (10, AV.i (chkRep l k1)), (11, AV.sl 5 (List.map encFx (rJ l m))), (12, AV.i (chkJ l m)), (13, AV.i (sTrackR l)), (17, AV.ptr 1 0), (14, AV.i (chkAt l k0)), (15, AV.i (chkRep l k1)), (16, AV.i (sFirst [sTrackR l, sTrackR m])), (18,
   AV.sl 5 (List.map encFx (rRep l k1))), (19, AV.sl 5 []), (89, AV.bool (sFirst [sTrackR l, sTrackR m] == 0))] [(1, ABlk.box [AV.i (rA l k0 0), AV.i (rA l k0 1), AV.i (rA l k0 2), AV.i (rA l k0 3), AV.i (rA l k0 4), AV.i (rA l k0
   5)])] 2 ∧ (((sFirst [sTrackR l, sTrackR m] == 0) = true → PCall Tryz.prog G0 75 [AV.sl 5 (List.map encFx l), AV.sl 5 (List.map encFx m)] (AV.tup [AV.sl 5 (List.map encFx (jRes l m)), AV.i (jChk l m)]) ∧ AS.mk [(0, AV.sl 5 (List.map
   encFx l)), (1, AV.sl 5 (List.map encFx m)), (5, AV.elt 2 [[AV.i k0, AV.i k1]] 0 0), (6, AV.bool false), (7, AV.elt 6 [[AV.i (rA l k0 0), AV.i (rA l k0 1), AV.i (rA l k0 2), AV.i (rA l k0 3), AV.i (rA l k0 4), AV.i (rA l k0 5)]] 0
   0), (8, AV.i (chkAt l k0)), (9, AV.sl 5 (List.map encFx (rRep l k1))), (10, AV.i (chkRep l k1)), (11, AV.sl 5 (List.map encFx (rJ l m))), (12, AV.i (chkJ l m)), (13, AV.i (sTrackR l)), (17, AV.ptr 1 0), (14, AV.i (chkAt l k0)),
   (15, AV.i (chkRep l k1)), (16, AV.i (jChk l m)), (18, AV.sl 5 (List.map encFx (rRep l k1))), (19, AV.sl 5 (List.map encFx (jRes l m)))] [(1, ABlk.box [AV.i (rA l k0 0), AV.i (rA l k0 1), AV.i (rA l k0 2), AV.i (rA l k0 3), AV.i (rA
   l k0 4), AV.i (rA l k0 5)])] 2 = AS.mk [(0, AV.sl 5 (List.map encFx l)), (1, AV.sl 5 (List.map encFx m)), (5, AV.elt 2 [[AV.i k0, AV.i k1]] 0 0), (6, AV.bool false), (7, AV.elt 6 [[AV.i (rA l k0 0), AV.i (rA l k0 1), AV.i (rA l k0
   2), AV.i (rA l k0 3), AV.i (rA l k0 4), AV.i (rA l k0 5)]] 0 0), (8, AV.i (chkAt l k0)), (9, AV.sl 5 (List.map encFx (rRep l k1))), (10, AV.i (chkRep l k1)), (11, AV.sl 5 (List.map encFx (rJ l m))), (12, AV.i (chkJ l m)), (13, AV.i
   (sTrackR l)), (17, AV.ptr 1 0), (14, AV.i (chkAt l k0)), (15, AV.i (chkRep l k1)), (16, AV.i (chkJ l m)), (18, AV.sl 5 (List.map encFx (rRep l k1))), (19, AV.sl 5 (List.map encFx (rJ l m)))] [(1, ABlk.box [AV.i (rA l k0 0), AV.i
   (rA l k0 1), AV.i (rA l k0 2), AV.i (rA l k0 3), AV.i (rA l k0 4), AV.i (rA l k0 5)])] 2) ∧ ((sFirst [sTrackR l, sTrackR m] == 0) = false → AS.mk [(0, AV.sl 5 (List.map encFx l)), (1, AV.sl 5 (List.map encFx m)), (5, AV.elt 2
   [[AV.i k0, AV.i k1]] 0 0), (6, AV.bool false), (7, AV.elt 6 [[AV.i (rA l k0 0), AV.i (rA l k0 1), AV.i (rA l k0 2), AV.i (rA l k0 3), AV.i (rA l k0 4), AV.i (rA l k0 5)]] 0 0), (8, AV.i (chkAt l k0)), (9, AV.sl 5 (List.map encFx
   (rRep l k1))), (10, AV.i (chkRep l k1)), (11, AV.sl 5 (List.map encFx (rJ l m))), (12, AV.i (chkJ l m)), (13, AV.i (sTrackR l)), (17, AV.ptr 1 0), (14, AV.i (chkAt l k0)), (15, AV.i (chkRep l k1)), (16, AV.i (sFirst [sTrackR l,
   sTrackR m])), (18, AV.sl 5 (List.map encFx (rRep l k1))), (19, AV.sl 5 [])] [(1, ABlk.box [AV.i (rA l k0 0), AV.i (rA l k0 1), AV.i (rA l k0 2), AV.i (rA l k0 3), AV.i (rA l k0 4), AV.i (rA l k0 5)])] 2 = AS.mk [(0, AV.sl 5
   (List.map encFx l)), (1, AV.sl 5 (List.map encFx m)), (5, AV.elt 2 [[AV.i k0, AV.i k1]] 0 0), (6, AV.bool false), (7, AV.elt 6 [[AV.i (rA l k0 0), AV.i (rA l k0 1), AV.i (rA l k0 2), AV.i (rA l k0 3), AV.i (rA l k0 4), AV.i (rA l
   k0 5)]] 0 0), (8, AV.i (chkAt l k0)), (9, AV.sl 5 (List.map encFx (rRep l k1))), (10, AV.i (chkRep l k1)), (11, AV.sl 5 (List.map encFx (rJ l m))), (12, AV.i (chkJ l m)), (13, AV.i (sTrackR l)), (17, AV.ptr 1 0), (14, AV.i (chkAt l
   k0)), (15, AV.i (chkRep l k1)), (16, AV.i (chkJ l m)), (18, AV.sl 5 (List.map encFx (rRep l k1))), (19, AV.sl 5 (List.map encFx (rJ l m)))] [(1, ABlk.box [AV.i (rA l k0 0), AV.i (rA l k0 1), AV.i (rA l k0 2), AV.i (rA l k0 3), AV.i
   (rA l k0 4), AV.i (rA l k0 5)])] 2)) ∧ PCall Tryz.prog G0 29 [AV.sl 5 (List.map encFx l)] (AV.sl 5 (List.map encFx l)) ∧ PCall Tryz.prog G0 76 [AV.sl 5 (List.map encFx l)] (AV.i (sTrackS (trkS (List.map encFx l)))) ∧ AV.bool
   (sTrackS (trkS (List.map encFx l)) == sTrackR l) = AV.bool true ∧ AV.bool (rA l k0 0 == rA l k0 0 && true && (rA l k0 1 == rA l k0 1 && true && (rA l k0 2 == rA l k0 2 && true && true)) && (rA l k0 3 == rA l k0 3 && true && (rA l
   k0 4 == rA l k0 4 && true && true) && (rA l k0 5 == rA l k0 5 && true && true))) = AV.bool true ∧ AV.bool (chkAt l k0 == chkAt l k0) = AV.bool true ∧ PCall Tryz.prog G0 24 [AV.sl 5 (List.map encFx (rRep l k1))] (AV.sl 5 (List.map
   encFx (rRep l k1))) ∧ PCall Tryz.prog G0 23 [AV.sl 5 (List.map encFx (rRep l k1)), AV.sl 5 (List.map encFx (rRep l k1))] (AV.bool true) ∧ AV.bool (chkRep l k1 == chkRep l k1) = AV.bool true ∧ PCall Tryz.prog G0 24 [AV.sl 5
   (List.map encFx (rJ l m))] (AV.sl 5 (List.map encFx (rJ l m))) ∧ PCall Tryz.prog G0 23 [AV.sl 5 (List.map encFx (rJ l m)), AV.sl 5 (List.map encFx (rJ l m))] (AV.bool true) ∧ AV.bool (chkJ l m == chkJ l m) = AV.bool true ∧ PCall
   Tryz.prog G0 13 [] (AV.bool true) ∧ AV.bool true = AV.bool true := by
    have hlm : (List.map encFx l).length = l.length := List.length_map _
    have hmm : (List.map encFx m).length = m.length := List.length_map _
    have hl17 : l.length ≤ 17 := by simpa using h0
    have hm17 : m.length ≤ 17 := by simpa using h1
    have k29 := (c29 l (by omega)).un
    have k29m := (c29 m (by omega)).un
    have k56 := c56 l k0 (by omega)
    rw [rAt_eq] at k56
    have k39 := c39 l k1 (by omega)
    have k71 := c71 l m (by omega) (by omega)
    have n1 := rRep_len l k1
    have n2 := rJ_len l m
    have s23 : ∀ x : List Fx, x.length ≤ 1000 → PCall Tryz.prog G0 23 [.sl 5 (x.map encFx), .sl 5 (x.map encFx)] (.bool true) := fun x hx => by
      have := c23 x x hx
      rwa [same_self] at this
    have e2 : sFirst [sTrackS l, sWithin k1 1 1000] = sFirst [sTrackR l, sWithin k1 1 1000] := by rw [track_eq]
    have e3 : sFirst [sTrackS l, sTrackS m] = sFirst [sTrackR l, sTrackR m] := by rw [track_eq, track_eq]
    rw [trk_enc, trk_enc, hlm, hmm]
    refine ⟨rfl, ⟨c26 l, congrArg AV.bool h0, c26 m, congrArg AV.bool h1, rfl⟩, rfl, ⟨by omega, by omega, k29, k56, rfl⟩, ⟨by omega, by omega, k29, k39, rfl⟩, ⟨k29, k29m, k71, rfl⟩, ⟨c33 l (by omega), rfl⟩, ⟨by omega, by omega, c19 _, c16 [_, _] (by simp), c33 m (by omega), c16 [_, _] (by simp), rfl⟩, rfl, rfl, rfl, ⟨fun h => ?_, fun h => ?_⟩, rfl, ⟨fun h => ?_, fun h => ?_⟩, rfl, ⟨fun h => ?_, fun h => ?_⟩, rfl, ⟨fun h => ?_, fun h => ?_⟩, k29, c76 l (by omega), ?_, by simp, by simp, (c24 _ (by omega)).un, s23 _ (by omega), by simp, (c24 _ (by omega)).un, s23 _ (by omega), by simp, hA, rfl⟩
    · have hz : sTrackR l = 0 := by simpa using h
      obtain ⟨hO, _⟩ := track_ok hz
      have hn := hO.n1
      refine ⟨by omega, by omega, c72 l k0 (by omega) (by omega), ?_⟩
      rw [show chkAt l k0 = sWhen (outT l k0) 7 from if_neg (by rw [track_eq]; exact nbne_of_beq h)]
    · rw [show chkAt l k0 = sTrackR l by rw [chkAt, track_eq, if_pos (bne_of_beq h)]]
    · have hz : chkAt l k0 = 0 := by simpa using h
      by_cases ht : (sTrackS l != 0) = true
      · rw [chkAt, if_pos ht] at hz
        rw [hz] at ht
        cases ht
      · have hz2 : sTrackS l = 0 := by simpa using ht
        rw [track_eq] at hz2
        obtain ⟨hO, _⟩ := track_ok hz2
        rw [chkAt, if_neg ht] at hz
        have ho : outT l k0 = false := when_z (by decide) hz
        have hor := ho
        unfold outT at hor
        have h1 : ¬ k0 < firstT l ∧ ¬ k0 ≥ lastT l := by
          by_cases hx : k0 < firstT l
          · simp [hx] at hor
          · simp [hx] at hor
            exact ⟨hx, by omega⟩
        have hn := hO.n1
        have b0 := (hO.b 0 (by omega)).1
        have b1 := (hO.b (l.length - 1) (by omega)).1
        rw [show (l.getD 0 default).t = firstT l from rfl] at b0
        rw [show (l.getD (l.length - 1) default).t = lastT l from rfl] at b1
        have k73 := c73 l k0 hO ⟨by omega, by omega⟩
        rw [show atV (atA l k0) (atB l k0) k0 = rAt l k0 by rw [rAt, if_neg ht, if_neg (by rw [ho]; exact Bool.false_ne_true)], rAt_eq] at k73
        exact ⟨by omega, by omega, k73, rfl⟩
    · have hz : rAt l k0 = [.i 0, .i 0, .i 0, .i 0, .i 0, .i 0] := by
        by_cases ht : (sTrackS l != 0) = true
        · exact if_pos ht
        · by_cases ho : outT l k0 = true
          · rw [rAt, if_neg ht, if_pos ho]
          · rw [chkAt, if_neg ht, Bool.eq_false_iff.2 ho] at h
            cases h
      rw [rAt_eq] at hz
      unfold rA6 at hz
      rw [hz]
    · have hz : sFirst [sTrackR l, sWithin k1 1 1000] = 0 := by simpa using h
      have hz2 := hz
      simp only [first_zero, within_zero] at hz2
      obtain ⟨hz1, hs, _⟩ := hz2
      obtain ⟨hO, hsp⟩ := track_ok hz1
      refine ⟨by omega, by omega, c74 l k1 hO hsp hs, ?_⟩
      rw [rRep, chkRep, e2, if_neg (nbne_of_beq h), if_neg (nbne_of_beq h)]
    · rw [rRep, chkRep, e2, if_pos (bne_of_beq h), if_pos (bne_of_beq h)]
      rfl
    · have hz : sFirst [sTrackR l, sTrackR m] = 0 := by simpa using h
      have hz2 := hz
      simp only [first_zero] at hz2
      obtain ⟨hz1, hz3, _⟩ := hz2
      obtain ⟨hO, _⟩ := track_ok hz1
      obtain ⟨hM, _⟩ := track_ok hz3
      have a1 := hO.n1
      have a2 := hM.n1
      refine ⟨c75 l m hO hM (by omega) (by omega) (by omega) (by omega), ?_⟩
      rw [rJ, chkJ, e3, if_neg (nbne_of_beq h), if_neg (nbne_of_beq h)]
    · rw [rJ, chkJ, e3, if_pos (bne_of_beq h), if_pos (bne_of_beq h)]
      rfl
    · rw [track_eq]
      simp
  exact c_ofG Tryz.f10 (B10 l m k0 k1 [(1, 2, rdF), (1, 6, rdF)]) (m10 l m k0 k1) (by kernel_rfl) (by kernel_rfl) (by kernel_rfl) (by kernel_rfl) key (by kernel_rfl)
theorem c10 (l m : List Fx) (k0 k1 : Int) (hA : PCall Tryz.prog G0 13 [] (.bool true)) : PCall Tryz.prog G0 10 [.sl 5 (l.map encFx), .sl 5 (m.map encFx), .agg [.i k0, .i k1]] (.bool true) := by
  cases h0 : (!decide (l.length ≤ 17)) with
  | true => exact c10_0 l m k0 k1 hA h0
  | false =>
  cases h1 : (!decide (m.length ≤ 17)) with
  | true => exact c10_1 l m k0 k1 hA h0 h1
  | false => exact c10_ok l m k0 k1 hA h0 h1
end Go.Proofs.YtjhjmncjidbieaaGreatDoor
namespace Go.Proofs.YtjhjmncjidbieaaGreatDoor
open Go Go.Av Go.RowKit
def hrL (a : Int) (H : Nat → Int) (n : Nat) : List (List AV) := (List.range n).map fun (i : Nat) => [.i (a + i), .i (H i)]
def la144 (l : Nat) (a b : Int) (tc : List AV) (tr : AV) (rx ry rz : Int) (H : Nat → Int) : LA := {
  pre := [.keep [0, 1, 2, 3, 4, 6] [0], .bound 1], post := [.keep [0, 1, 2, 3, 4, 6] [0], .bound 1]
  Gh := Nat
  st := fun i => ⟨[(0, .yld l), (1, .elt 2 [[.i a, .i b]] 0 0), (2, .elt 13 [tc] 0 0), (3, .elt 1 [[tr]] 0 0), (4, .elt 3 [[.i rx, .i ry, .i rz]] 0 0), (6, .i (a + i))], [(0, .ready l (hrL a H i))], 1⟩
  ok := fun i => i ≤ (b - a).toNat
  ms := fun i => (b - a).toNat - i }
def sp144 (a : Int) (S : Nat → List AV) (hd : List AV → Int) : Nat → List AV → Option AV
  | 126, [_, .int _ t] => some (.agg (S (t - a).toNat))
  | 117, [_, .agg s, _] => some (.i (hd s))
  | _, _ => none
def B144 (a b : Int) (tc : List AV) (tr : AV) (rx ry rz : Int) (S : Nat → List AV) (hd : List AV → Int) (l : Nat) : BA :=
  mkB (sp144 a S hd) 144 [] (fun i => if i.beq 0 then some (la144 l a b tc tr rx ry rz fun i => hd (S i)) else none)
theorem s_of {f : Nat} {cap : List AV} {L : List (List AV)} (fn : Func) (B : Nat → BA) (hf : Tryz.prog.funcs[f]? = some fn) (hb : fn.body = some (bodyOf fn)) (hn : (fn.name == "runtime.NumGoroutine") = false) (hlen : Nat.ble (cap.length + 1) fn.ntmps = true) (hres : fn.results.toList = [])
    {q : Nat → Prop} (hq : ∀ l, q l) (h : ∀ l, VC (bodyE Tryz.prog T0 G0 fn.ntmps L) (B l) 10000 0 (bodyOf fn) (startI l cap) (seqQ l L) = q l) : PSeq Tryz.prog G0 f cap L :=
  seq_of_VC tok mix hf hb hn (Nat.le_of_ble_eq_true hlen) hres B fun l => vc_of (hq l) (h l)
theorem hr_succ (a : Int) (H : Nat → Int) (n : Nat) : hrL a H n ++ [[.i (a + n), .i (H n)]] = hrL a H (n + 1) := by
  simp [hrL, List.range_succ]
theorem hr_post (a : Int) (H : Nat → Int) : ∀ {n m : Nat}, n < m → ∃ post, hrL a H m = hrL a H n ++ [.i (a + n), .i (H n)] :: post
  | n, m, h => by
    refine ⟨(List.range' (n + 1) (m - (n + 1))).map fun (i : Nat) => [.i (a + i), .i (H i)], ?_⟩
    rw [← List.singleton_append, ← List.append_assoc, hr_succ]
    unfold hrL
    rw [← List.map_append, List.range_eq_range', List.range_eq_range', show List.range' (n + 1) (m - (n + 1)) = List.range' (0 + (n + 1)) (m - (n + 1)) by rw [Nat.zero_add], List.range'_append_1, show n + 1 + (m - (n + 1)) = m by omega]
theorem s144 (a b : Int) (c0 c1 c2 c3 c4 c5 c6 c7 c8 c9 c10 c11 c12 : AV) (rows : List (List AV)) (rx ry rz : Int) (S : Nat → List AV) (hd : List AV → Int) (ha : -1000000000 ≤ a) (hb : b ≤ 1000000000)
    (h1 : ∀ i : Nat, i < (b - a).toNat → PCall Tryz.prog G0 126 [.sl 5 rows, .i (a + i)] (.agg (S i)))
    (h2 : ∀ i : Nat, i < (b - a).toNat → PCall Tryz.prog G0 117 [.agg [c0, c1, c2, c3, c4, c5, c6, c7, c8, c9, c10, c11, c12], .agg (S i), .agg [.i rx, .i ry, .i rz]] (.i (hd (S i)))) :
    PSeq Tryz.prog G0 144 [.elt 2 [[.i a, .i b]] 0 0, .elt 13 [[c0, c1, c2, c3, c4, c5, c6, c7, c8, c9, c10, c11, c12]] 0 0, .elt 1 [[.sl 5 rows]] 0 0, .elt 3 [[.i rx, .i ry, .i rz]] 0 0] (hrL a (fun i => hd (S i)) (b - a).toNat) := by
  have key : ∀ l : Nat,
      (∃ (g : Nat),
      g ≤ (b - a).toNat ∧
      AS.mk
      [((0 : Nat), AV.yld l),
      ((1 : Nat), AV.elt (2 : Nat) [[AV.int IntKind.i64 a, AV.int IntKind.i64 b]] (0 : Nat) (0 : Nat)),
      ((2 : Nat),
      AV.elt (13 : Nat) [[c0, c1, c2, c3, c4, c5, c6, c7, c8, c9, c10, c11, c12]] (0 : Nat) (0 : Nat)),
      ((3 : Nat), AV.elt (1 : Nat) [[AV.sl (5 : Nat) rows]] (0 : Nat) (0 : Nat)),
      ((4 : Nat),
      AV.elt (3 : Nat) [[AV.int IntKind.i64 rx, AV.int IntKind.i64 ry, AV.int IntKind.i64 rz]] (0 : Nat)
      (0 : Nat)),
      ((6 : Nat), AV.int IntKind.i64 a)]
      [((0 : Nat), ABlk.ready l [])] (1 : Nat) =
      AS.mk
      [((0 : Nat), AV.yld l),
      ((1 : Nat), AV.elt (2 : Nat) [[AV.int IntKind.i64 a, AV.int IntKind.i64 b]] (0 : Nat) (0 : Nat)),
      ((2 : Nat),
      AV.elt (13 : Nat) [[c0, c1, c2, c3, c4, c5, c6, c7, c8, c9, c10, c11, c12]] (0 : Nat) (0 : Nat)),
      ((3 : Nat), AV.elt (1 : Nat) [[AV.sl (5 : Nat) rows]] (0 : Nat) (0 : Nat)),
      ((4 : Nat),
      AV.elt (3 : Nat) [[AV.int IntKind.i64 rx, AV.int IntKind.i64 ry, AV.int IntKind.i64 rz]] (0 : Nat)
      (0 : Nat)),
      ((6 : Nat), AV.int IntKind.i64 (a + (↑g : Int)))]
      [((0 : Nat), ABlk.ready l (hrL a (fun (i : Nat) => hd (S i)) g))] (1 : Nat)) ∧
      ∀ (g : Nat),
      g ≤ (b - a).toNat →
      (decide (a + (↑g : Int) < b) = true →
      l = l ∧
      PCall Tryz.prog G0 (126 : Nat) [AV.sl (5 : Nat) rows, AV.int IntKind.i64 (a + (↑g : Int))]
      (AV.agg (S (a + (↑g : Int) - a).toNat)) ∧
      PCall Tryz.prog G0 (117 : Nat)
      [AV.agg [c0, c1, c2, c3, c4, c5, c6, c7, c8, c9, c10, c11, c12],
      AV.agg (S (a + (↑g : Int) - a).toNat),
      AV.agg [AV.int IntKind.i64 rx, AV.int IntKind.i64 ry, AV.int IntKind.i64 rz]]
      (AV.int IntKind.i64 (hd (S (a + (↑g : Int) - a).toNat))) ∧
      (∃ (post : List (List AV)),
      hrL a (fun (i : Nat) => hd (S i)) (b - a).toNat =
      hrL a (fun (i : Nat) => hd (S i)) g ++
      [AV.int IntKind.i64 (a + (↑g : Int)),
      AV.int IntKind.i64 (hd (S (a + (↑g : Int) - a).toNat))] ::
      post) ∧
      l = l ∧
      (hrL a (fun (i : Nat) => hd (S i)) g ++
      [[AV.int IntKind.i64 (a + (↑g : Int)),
      AV.int IntKind.i64 (hd (S (a + (↑g : Int) - a).toNat))]]).length =
      (hrL a (fun (i : Nat) => hd (S i)) g).length + (1 : Nat) ∧
      (In64 (a + (↑g : Int) + (1 : Int)) ∧
      ∃ (g' : Nat),
      g' ≤ (b - a).toNat ∧
      (b - a).toNat - g' < (b - a).toNat - g ∧
      AS.mk
      [((0 : Nat), AV.yld l),
      ((1 : Nat),
      AV.elt (2 : Nat) [[AV.int IntKind.i64 a, AV.int IntKind.i64 b]] (0 : Nat)
      (0 : Nat)),
      ((2 : Nat),
      AV.elt (13 : Nat) [[c0, c1, c2, c3, c4, c5, c6, c7, c8, c9, c10, c11, c12]]
      (0 : Nat) (0 : Nat)),
      ((3 : Nat), AV.elt (1 : Nat) [[AV.sl (5 : Nat) rows]] (0 : Nat) (0 : Nat)),
      ((4 : Nat),
      AV.elt (3 : Nat)
      [[AV.int IntKind.i64 rx, AV.int IntKind.i64 ry, AV.int IntKind.i64 rz]]
      (0 : Nat) (0 : Nat)),
      ((6 : Nat), AV.int IntKind.i64 (a + (↑g : Int) + (1 : Int)))]
      [((0 : Nat),
      ABlk.ready l
      (hrL a (fun (i : Nat) => hd (S i)) g ++
      [[AV.int IntKind.i64 (a + (↑g : Int)),
      AV.int IntKind.i64 (hd (S (a + (↑g : Int) - a).toNat))]]))]
      (1 : Nat) =
      AS.mk
      [((0 : Nat), AV.yld l),
      ((1 : Nat),
      AV.elt (2 : Nat) [[AV.int IntKind.i64 a, AV.int IntKind.i64 b]] (0 : Nat)
      (0 : Nat)),
      ((2 : Nat),
      AV.elt (13 : Nat) [[c0, c1, c2, c3, c4, c5, c6, c7, c8, c9, c10, c11, c12]]
      (0 : Nat) (0 : Nat)),
      ((3 : Nat), AV.elt (1 : Nat) [[AV.sl (5 : Nat) rows]] (0 : Nat) (0 : Nat)),
      ((4 : Nat),
      AV.elt (3 : Nat)
      [[AV.int IntKind.i64 rx, AV.int IntKind.i64 ry, AV.int IntKind.i64 rz]]
      (0 : Nat) (0 : Nat)),
      ((6 : Nat), AV.int IntKind.i64 (a + (↑g' : Int)))]
      [((0 : Nat), ABlk.ready l (hrL a (fun (i : Nat) => hd (S i)) g'))] (1 : Nat)) ∧
      (ABlk.stop l = ABlk.ready l (hrL a (fun (i : Nat) => hd (S i)) (b - a).toNat) ∨
      ABlk.stop l = ABlk.stop l)) ∧
      (decide (a + (↑g : Int) < b) = false →
      ABlk.ready l (hrL a (fun (i : Nat) => hd (S i)) g) =
      ABlk.ready l (hrL a (fun (i : Nat) => hd (S i)) (b - a).toNat) ∨
      ABlk.ready l (hrL a (fun (i : Nat) => hd (S i)) g) = ABlk.stop l) := by
    intro l
    refine ⟨⟨0, by omega, by simp [hrL]⟩, fun g hg => ⟨fun hlt => ?_, fun hge => ?_⟩⟩
    · simp only [decide_eq_true_eq] at hlt
      have hl : g < (b - a).toNat := by omega
      have e : (a + (g : Int) - a).toNat = g := by omega
      simp only [e]
      have hs := hr_succ a (fun i => hd (S i)) g
      refine ⟨trivial, h1 g hl, h2 g hl, hr_post a (fun i => hd (S i)) hl, trivial, by simp, ⟨by unfold In64; omega, g + 1, hl, by omega, ?_⟩, .inr trivial⟩
      rw [hs, show a + (g : Int) + 1 = a + ((g + 1 : Nat) : Int) by omega]
    · simp only [decide_eq_false_iff_not] at hge
      have : g = (b - a).toNat := by omega
      subst this
      exact .inl rfl
  exact s_of Tryz.f144 (B144 a b [c0, c1, c2, c3, c4, c5, c6, c7, c8, c9, c10, c11, c12] (.sl 5 rows) rx ry rz S hd) (by kernel_rfl) (by kernel_rfl) (by kernel_rfl) (by kernel_rfl) (by kernel_rfl) key (fun l => by kernel_rfl)
end Go.Proofs.YtjhjmncjidbieaaGreatDoor
namespace Go.Proofs.YtjhjmncjidbieaaGreatDoor
open Go Go.Av Go.RowKit
def aggOf : Option AV → Option (List AV)
  | some (.agg s) => some s
  | _ => none
def intOf : Option AV → Option Int
  | some (.int .i64 n) => some n
  | _ => none
theorem aggOf_ok {x : Option AV} {s : List AV} (h : aggOf x = some s) : x = some (.agg s) := by
  cases x with
  | none => cases h
  | some v => cases v <;> simp [aggOf] at h; rw [h]
theorem intOf_ok {x : Option AV} {n : Int} (h : intOf x = some n) : x = some (.i n) := by
  cases x with
  | none => cases h
  | some v => cases v <;> simp [intOf] at h; rename_i k m; cases k <;> simp at h; rw [h]
def stOf (rec : Nat → List AV → Option AV) (rows : List (List AV)) (a : Int) (i : Nat) : Option (List AV) := aggOf (rec 126 [.sl 5 rows, .i (a + i)])
def hrOf (rec : Nat → List AV → Option AV) (tc r : List AV) (s : List AV) : Option Int := intOf (rec 117 [.agg tc, .agg s, .agg r])
def sqH (rec : Nat → List AV → Option AV) (f : Nat) (cap : List AV) : Option (List (List AV)) :=
  match cap with
  | [.elt 2 [[.int .i64 a, .int .i64 b]] 0 0, .elt 13 [[c0, c1, c2, c3, c4, c5, c6, c7, c8, c9, c10, c11, c12]] 0 0, .elt 1 [[.sl 5 rows]] 0 0, .elt 3 [[.int .i64 rx, .int .i64 ry, .int .i64 rz]] 0 0] =>
    if Nat.beq f 144 && (decide (-1000000000 ≤ a) && (decide (b ≤ 1000000000) && (List.range (b - a).toNat).all fun i => match stOf rec rows a i with
        | some s => (hrOf rec [c0, c1, c2, c3, c4, c5, c6, c7, c8, c9, c10, c11, c12] [.i rx, .i ry, .i rz] s).isSome
        | none => false)) then
      some (hrL a (fun i => (hrOf rec [c0, c1, c2, c3, c4, c5, c6, c7, c8, c9, c10, c11, c12] [.i rx, .i ry, .i rz] ((stOf rec rows a i).getD [])).getD 0) (b - a).toNat)
    else none
  | _ => none
theorem sqH_ok (rec : Nat → List AV → Option AV) (hrec : ∀ f args r, rec f args = some r → PCall Tryz.prog G0 f args r) (f : Nat) (cap : List AV) (L : List (List AV)) (h : sqH rec f cap = some L) : PSeq Tryz.prog G0 f cap L := by
  unfold sqH at h
  split at h
  · rename_i a b c0 c1 c2 c3 c4 c5 c6 c7 c8 c9 c10 c11 c12 rows rx ry rz
    split at h
    · rename_i hb
      simp only [Bool.and_eq_true, decide_eq_true_eq, List.all_eq_true, List.mem_range] at hb
      obtain ⟨h1, h2, h3, h4⟩ := hb
      have := Nat.eq_of_beq_eq_true h1
      subst this
      cases h
      have key : ∀ i : Nat, i < (b - a).toNat → ∃ s n, stOf rec rows a i = some s ∧ hrOf rec [c0, c1, c2, c3, c4, c5, c6, c7, c8, c9, c10, c11, c12] [.i rx, .i ry, .i rz] s = some n := fun i hi => by
        have := h4 i hi
        split at this
        · rename_i s hs
          obtain ⟨n, hn⟩ := Option.isSome_iff_exists.1 this
          exact ⟨s, n, hs, hn⟩
        · cases this
      refine s144 a b c0 c1 c2 c3 c4 c5 c6 c7 c8 c9 c10 c11 c12 rows rx ry rz (fun i => (stOf rec rows a i).getD []) (fun s => (hrOf rec [c0, c1, c2, c3, c4, c5, c6, c7, c8, c9, c10, c11, c12] [.i rx, .i ry, .i rz] s).getD 0) h2 h3 (fun i hi => ?_) (fun i hi => ?_)
      · obtain ⟨s, n, hs, hn⟩ := key i hi
        rw [hs]
        exact hrec _ _ _ (aggOf_ok hs)
      · obtain ⟨s, n, hs, hn⟩ := key i hi
        simp only [hs, Option.getD_some, hn]
        exact hrec _ _ _ (intOf_ok hn)
    · cases h
  · cases h
end Go.Proofs.YtjhjmncjidbieaaGreatDoor
namespace Go.Proofs
open Go.Shelf
def Tryz.lays156_ren : Go.Shelf.Ren := ⟨fun | 156 => 161 | 165 => 173 | 166 => 174 | 169 => 175 | 240 => 182 | 241 => 183 | 276 => 190 | 277 => 191 | n => n, fun | 31 => 160 | 9 => 9 | 3 => 3 | 4 => 4 | 0 => 0 | 20 => 20 | 72 => 261 | 76 => 265 | 70 => 258 | 37 => 259 | 75 => 264 | 127 => 270 | 164 => 274 | 5 => 5 | 80 => 229 | n => n, fun | n => n⟩
theorem Tryz.lays156 : Go.Proofs.Lays.n156 Tryz.prog Tryz.lays156_ren := {
  mixed := by kernel_rfl
  f156 := Tryz.func161.trans (congrArg some (by kernel_rfl))
  f165 := Tryz.func173.trans (congrArg some (by kernel_rfl))
  f166 := Tryz.func174.trans (congrArg some (by kernel_rfl))
  f169 := Tryz.func175.trans (congrArg some (by kernel_rfl))
  f240 := Tryz.func182.trans (congrArg some (by kernel_rfl))
  f241 := Tryz.func183.trans (congrArg some (by kernel_rfl))
  f276 := Tryz.func190.trans (congrArg some (by kernel_rfl))
  f277 := Tryz.func191.trans (congrArg some (by kernel_rfl))
  t0 := Tryz.underlying0
  a0 := Tryz.isAgg0
  z0 := Tryz.sizeOf0
  v0 := Tryz.zeroValue0
  t3 := Tryz.underlying3
  a3 := Tryz.isAgg3
  z3 := Tryz.sizeOf3
  v3 := Tryz.zeroValue3
  t4 := Tryz.underlying4
  a4 := Tryz.isAgg4
  z4 := Tryz.sizeOf4
  v4 := Tryz.zeroValue4
  t9 := Tryz.underlying9
  a9 := Tryz.isAgg9
  z9 := Tryz.sizeOf9
  v9 := Tryz.zeroValue9
  t20 := Tryz.underlying20
  a20 := Tryz.isAgg20
  z20 := Tryz.sizeOf20
  v20 := Tryz.zeroValue20
  t31 := Tryz.underlying160
  a31 := Tryz.isAgg160
  z31 := Tryz.sizeOf160
  v31 := Tryz.zeroValue160
  t37 := Tryz.underlying259
  a37 := Tryz.isAgg259
  z37 := Tryz.sizeOf259
  v37 := Tryz.zeroValue259
  t70 := Tryz.underlying258
  a70 := Tryz.isAgg258
  z70 := Tryz.sizeOf258
  v70 := Tryz.zeroValue258
  t72 := Tryz.underlying261
  a72 := Tryz.isAgg261
  z72 := Tryz.sizeOf261
  v72 := Tryz.zeroValue261
  t75 := Tryz.underlying264
  a75 := Tryz.isAgg264
  z75 := Tryz.sizeOf264
  v75 := Tryz.zeroValue264
  t76 := Tryz.underlying265
  a76 := Tryz.isAgg265
  z76 := Tryz.sizeOf265
  v76 := Tryz.zeroValue265
  t127 := Tryz.underlying270
  a127 := Tryz.isAgg270
  z127 := Tryz.sizeOf270
  v127 := Tryz.zeroValue270
  t164 := Tryz.underlying274
  a164 := Tryz.isAgg274
  z164 := Tryz.sizeOf274
  v164 := Tryz.zeroValue274 }
theorem Tryz.Builder_Extra_156 : Builder.Extra Tryz.prog Tryz.lays156_ren := {
  sizeBuilder := by kernel_rfl
  liesBuilder := by kernel_rfl
  t5 := Tryz.underlying5
  a5 := Tryz.isAgg5
  z5 := Tryz.sizeOf5
  v5 := Tryz.zeroValue5
  infoByte := by kernel_rfl
  cellsByte := by kernel_rfl
  sizeByte := by kernel_rfl
  neB5 := by decide }
open Go.RowKit in
theorem Tryz.strings_Join_none (a : Option Addr) (c : Nat) (sep : ByteArray) (w : World) :
    Calls Tryz.prog 161 #[.slice a 0 c, .string sep] w fun e w' => e = .returned (.string ⟨#[]⟩) ∧ w' = w := Any.strings_Join_none Tryz.lays156 Tryz.Builder_Extra_156 a c sep w
open Go.RowKit in
theorem Tryz.strings_Join (bk o c : Nat) (xs : List ByteArray) (sep : ByteArray) (w : World) (hcells : ∀ (j : Nat) x, xs[j]? = some x → w.cell? ⟨bk, o + j, none⟩ = some (.string x)) (hbk : bk < w.heap.size) (hN : xs.length ≤ 140737488355328) (hcap : xs.length ≤ c) (hlen : (Lib.join (xs.map (·.data.toList)) sep.data.toList).length ≤ 140737488355328) :
    Calls Tryz.prog 161 #[.slice (some ⟨bk, o, none⟩) xs.length c, .string sep] w fun e w' => e = .returned (.string ⟨(Lib.join (xs.map (·.data.toList)) sep.data.toList).toArray⟩) ∧ Below w.heap.size w w' := Any.strings_Join Tryz.lays156 Tryz.Builder_Extra_156 bk o c xs sep w hcells hbk hN hcap hlen
def Tryz.laysM171_ren : Go.Shelf.Ren := ⟨fun | 171 => 163 | 243 => 176 | 246 => 184 | 283 => 192 | 284 => 193 | 285 => 194 | 286 => 195 | 129 => 201 | 317 => 200 | 318 => 202 | 319 => 203 | 320 => 204 | 337 => 206 | 338 => 207 | n => n, fun | 3 => 3 | 9 => 9 | 2 => 2 | 4 => 4 | 171 => 277 | 0 => 0 | 53 => 278 | 37 => 259 | 5 => 5 | 173 => 281 | 212 => 285 | 51 => 78 | 20 => 20 | 213 => 286 | 46 => 283 | 232 => 295 | 233 => 296 | n => n, fun | 17 => 4 | 18 => 7 | 19 => 8 | n => n⟩
theorem Tryz.laysM171 : Go.Proofs.LaysM.n171 Tryz.prog Tryz.laysM171_ren := {
  mixed := by kernel_rfl
  f129 := Tryz.func201.trans (congrArg some (by kernel_rfl))
  f171 := Tryz.func163.trans (congrArg some (by kernel_rfl))
  f243 := Tryz.func176.trans (congrArg some (by kernel_rfl))
  f246 := Tryz.func184.trans (congrArg some (by kernel_rfl))
  f283 := Tryz.func192.trans (congrArg some (by kernel_rfl))
  f284 := Tryz.func193.trans (congrArg some (by kernel_rfl))
  f285 := Tryz.func194.trans (congrArg some (by kernel_rfl))
  f286 := Tryz.func195.trans (congrArg some (by kernel_rfl))
  f317 := Tryz.func200.trans (congrArg some (by kernel_rfl))
  f318 := Tryz.func202.trans (congrArg some (by kernel_rfl))
  f319 := Tryz.func203.trans (congrArg some (by kernel_rfl))
  f320 := Tryz.func204.trans (congrArg some (by kernel_rfl))
  f337 := Tryz.func206.trans (congrArg some (by kernel_rfl))
  f338 := Tryz.func207.trans (congrArg some (by kernel_rfl))
  t0 := Tryz.underlying0
  a0 := Tryz.isAgg0
  z0 := Tryz.sizeOf0
  v0 := Tryz.zeroValue0
  t2 := Tryz.underlying2
  a2 := Tryz.isAgg2
  z2 := Tryz.sizeOf2
  v2 := Tryz.zeroValue2
  t3 := Tryz.underlying3
  a3 := Tryz.isAgg3
  z3 := Tryz.sizeOf3
  v3 := Tryz.zeroValue3
  t4 := Tryz.underlying4
  a4 := Tryz.isAgg4
  z4 := Tryz.sizeOf4
  v4 := Tryz.zeroValue4
  t5 := Tryz.underlying5
  a5 := Tryz.isAgg5
  z5 := Tryz.sizeOf5
  v5 := Tryz.zeroValue5
  t9 := Tryz.underlying9
  a9 := Tryz.isAgg9
  z9 := Tryz.sizeOf9
  v9 := Tryz.zeroValue9
  t20 := Tryz.underlying20
  a20 := Tryz.isAgg20
  z20 := Tryz.sizeOf20
  v20 := Tryz.zeroValue20
  t37 := Tryz.underlying259
  a37 := Tryz.isAgg259
  z37 := Tryz.sizeOf259
  v37 := Tryz.zeroValue259
  t46 := Tryz.underlying283
  a46 := Tryz.isAgg283
  z46 := Tryz.sizeOf283
  v46 := Tryz.zeroValue283
  t51 := Tryz.underlying78
  a51 := Tryz.isAgg78
  z51 := Tryz.sizeOf78
  v51 := Tryz.zeroValue78
  t53 := Tryz.underlying278
  a53 := Tryz.isAgg278
  z53 := Tryz.sizeOf278
  v53 := Tryz.zeroValue278
  t171 := Tryz.underlying277
  a171 := Tryz.isAgg277
  z171 := Tryz.sizeOf277
  v171 := Tryz.zeroValue277
  t173 := Tryz.underlying281
  a173 := Tryz.isAgg281
  z173 := Tryz.sizeOf281
  v173 := Tryz.zeroValue281
  t212 := Tryz.underlying285
  a212 := Tryz.isAgg285
  z212 := Tryz.sizeOf285
  v212 := Tryz.zeroValue285
  t213 := Tryz.underlying286
  a213 := Tryz.isAgg286
  z213 := Tryz.sizeOf286
  t232 := Tryz.underlying295
  a232 := Tryz.isAgg295
  z232 := Tryz.sizeOf295
  v232 := Tryz.zeroValue295
  t233 := Tryz.underlying296
  a233 := Tryz.isAgg296
  z233 := Tryz.sizeOf296
  v233 := Tryz.zeroValue296
  g17 := by kernel_rfl
  g18 := by kernel_rfl
  g19 := by kernel_rfl
  i0 := by kernel_rfl
  i2 := by kernel_rfl
  i3 := by kernel_rfl
  i4 := by kernel_rfl
  i5 := by kernel_rfl
  i9 := by kernel_rfl
  i20 := by kernel_rfl
  i37 := by kernel_rfl
  i46 := by kernel_rfl
  i51 := by kernel_rfl
  i53 := by kernel_rfl
  i171 := by kernel_rfl
  i173 := by kernel_rfl
  i212 := by kernel_rfl
  i232 := by kernel_rfl
  i233 := by kernel_rfl
  m17 := by kernel_rfl
  m18 := by kernel_rfl
  m19 := by kernel_rfl }
open Go.RowKit Go.Sort Go.Lib in
theorem Tryz.strconv_Itoa (n : Int) (h0 : -9223372036854775808 ≤ n) (h1 : n ≤ 9223372036854775807) (w : World) (htab : Lib.TabIs Tryz.prog w "internal/strconv.uint64pow10" .u64 Lib.pow10Tab) :
    Calls Tryz.prog 163 #[.int .i64 n] w fun e w' => e = .returned (.string ⟨(Lib.itoa n).toArray⟩) ∧ ∃ k os, w' = grow (w.drewN k) os := Any.strconv_Itoa Tryz.laysM171 n h0 h1 w htab
end Go.Proofs
namespace Go.Proofs.YtjhjmncjidbieaaGreatDoor
open Go Go.Av Go.RowKit
theorem rep_int {X : Nat → Prop} {w : World} {v : Value} {k : IntKind} {n : Int} (h : Rep X w v (.int k n)) : v = .int k n := by cases h; rfl
theorem rep_str {X : Nat → Prop} {w : World} {v : Value} {l : List UInt8} (h : Rep X w v (.str l)) : v = .string ⟨l.toArray⟩ := by cases h; rfl
theorem elt_cells {X : Nat → Prop} {w : World} {pv : Value} {k i0 j0 : Nat} {rows : List (List AV)} (h : Rep X w pv (.elt k rows i0 j0)) : ∃ b o, pv = .pointer (some ⟨b, o + i0 * k + j0, none⟩) ∧ ∃ cv : Nat → Nat → Value,
    (∀ i, i < rows.length → ∀ j, j < k → w.cell? ⟨b, o + i * k + j, none⟩ = some (cv i j)) ∧ ∀ i, i < rows.length → ∀ j, j < k → Rep X w (cv i j) (nth (nthR rows i) j) := by
  cases h with
  | elt b o k rows i0 j0 cv hb hX hi hk hc hr h1 => exact ⟨b, o, rfl, cv, hc, hr⟩
theorem glob_ints {X : Nat → Prop} {w : World} {g : Nat} {zs : List Int} {q : IntKind} (h : GlobOK X w g (zs.map fun z => AV.int q z)) : ∃ cs T z, w.heap[g]? = some (.cells cs T z) ∧ cs = (zs.map fun z => Value.int q z).toArray := by
  obtain ⟨h1, cs, T, z, h2, h3⟩ := h
  refine ⟨cs, T, z, h2, ?_⟩
  rw [List.length_map] at h3
  obtain ⟨b, o, hp, cv, hc, hr⟩ := elt_cells h1
  simp only [Value.pointer.injEq, Option.some.injEq, Addr.mk.injEq, Nat.zero_mul, Nat.add_zero] at hp
  obtain ⟨rfl, rfl, -⟩ := hp
  refine Array.ext (by simp [h3]) fun i hi1 hi2 => ?_
  have hik : i < zs.length := by omega
  have e1 := hc 0 (by simp) i (by simpa using hik)
  have e2 := hr 0 (by simp) i (by simpa using hik)
  have e3 : nth (nthR [zs.map fun z => AV.int q z] 0) i = .int q zs[i] := by
    simp [nthR, nth, List.getD_eq_getElem?_getD, hik]
  rw [e3] at e2
  have e4 := rep_int e2
  rw [e4] at e1
  simp only [Nat.zero_mul, Nat.add_zero, Nat.zero_add] at e1
  have e5 : w.cell? ⟨g, i, none⟩ = cs[i]? := by unfold World.cell?; simp [h2]
  rw [e5, Array.getElem?_eq_getElem hi1] at e1
  simp only [Option.some.injEq] at e1
  rw [e1]
  simp
theorem tab_of {w : World} {X : Nat → Prop} (h : GlobOK X w 4 (Lib.pow10Tab.map fun z => AV.int .u64 z)) : Lib.TabIs Tryz.prog w "internal/strconv.uint64pow10" .u64 Lib.pow10Tab := by
  obtain ⟨cs, T, z, h2, h3⟩ := glob_ints h
  unfold Lib.TabIs World.var?
  rw [show Tryz.prog.globalNamed "internal/strconv.uint64pow10" = some 4 by kernel_rfl]
  simp only [Option.bind_some, h2, h3]
theorem c163 (n : Int) (h : In64 n) : PCall Tryz.prog G0 163 [.i n] (.str (Lib.itoa n)) := by
  refine ⟨⟨Tryz.f163, bodyOf Tryz.f163, by kernel_rfl, by kernel_rfl, by kernel_rfl⟩, fun w X vs hX hG hz => ?_⟩
  obtain ⟨h1, h2⟩ := hz
  obtain ⟨v, rfl⟩ : ∃ v, vs = #[v] := by
    obtain ⟨l⟩ := vs
    match l, h1 with
    | [v], _ => exact ⟨v, rfl⟩
  have hv := rep_int (h2 0 v (.i n) rfl rfl)
  subst hv
  refine (Tryz.strconv_Itoa n h.1 h.2 w (tab_of (hG 4 _ (by kernel_rfl)))).mono fun e w' ⟨he, k, os, hw⟩ => ⟨_, he, ?_, .str _⟩
  subst hw
  exact ⟨rfl, rfl, rfl, by show w.heap.size ≤ (w.heap ++ os).size; simp, fun i hi => by
    show (w.heap ++ os)[i]? = _
    rw [Array.getElem?_append_left hi]⟩
theorem c161 (xs : List (List UInt8)) (sep : List UInt8) (hn : xs.length ≤ 140737488355328) (hl : (Lib.join xs sep).length ≤ 140737488355328) : PCall Tryz.prog G0 161 [.sl 1 (xs.map fun x => [.str x]), .str sep] (.str (Lib.join xs sep)) := by
  refine ⟨⟨Tryz.f161, bodyOf Tryz.f161, by kernel_rfl, by kernel_rfl, by kernel_rfl⟩, fun w X vs hX hG hz => ?_⟩
  obtain ⟨h1, h2⟩ := hz
  obtain ⟨v, s, rfl⟩ : ∃ v s, vs = #[v, s] := by
    obtain ⟨l⟩ := vs
    match l, h1 with
    | [v, s], _ => exact ⟨v, s, rfl⟩
  have hs := rep_str (h2 1 s (.str sep) rfl rfl)
  subst hs
  have hv := h2 0 v _ rfl rfl
  clear h1 h2
  generalize hr : (xs.map fun x => [AV.str x]) = rows at hv
  have hlen : rows.length = xs.length := by rw [← hr]; simp
  cases hv with
  | slE a cap =>
    have : xs = [] := by simpa using hr
    subst this
    exact (Tryz.strings_Join_none a cap _ w).mono fun e w' ⟨he, hw⟩ => ⟨_, he, by rw [hw]; exact Below.refl _ _, .str _⟩
  | sl b o cap k rows cv hb hX2 hcap hmax hk hc hrr h1 =>
    have key := Tryz.strings_Join b o cap (xs.map fun x => ⟨x.toArray⟩) ⟨sep.toArray⟩ w (fun j x hx => ?_) hb (by simpa using hn) (by simp; omega) (by
      rw [List.map_map, show ((fun x : ByteArray => x.data.toList) ∘ fun x : List UInt8 => (⟨x.toArray⟩ : ByteArray)) = id by funext x; simp, List.map_id]
      exact hl)
    · rw [List.map_map, show ((fun x : ByteArray => x.data.toList) ∘ fun x : List UInt8 => (⟨x.toArray⟩ : ByteArray)) = id by funext x; simp, List.map_id] at key
      rw [List.length_map] at key
      rw [hlen]
      exact key.mono fun e w' ⟨he, hw⟩ => ⟨_, he, hw, .str _⟩
    · obtain ⟨y, hy, rfl⟩ : ∃ y, xs[j]? = some y ∧ (⟨y.toArray⟩ : ByteArray) = x := by
        rw [List.getElem?_map] at hx
        simpa using hx
      have hj : j < xs.length := (List.getElem?_eq_some_iff.1 hy).1
      have e1 := hc j (by omega) 0 (by omega)
      have e2 := hrr j (by omega) 0 (by omega)
      have e3 : nth (nthR rows j) 0 = .str y := by
        rw [← hr]
        simp [nthR, nth, List.getD_eq_getElem?_getD, hy]
      rw [e3] at e2
      rw [rep_str e2] at e1
      simpa using e1
end Go.Proofs.YtjhjmncjidbieaaGreatDoor
namespace Go.Proofs.YtjhjmncjidbieaaGreatDoor
open Go Go.Av Go.RowKit
def ddF : Nat → Nat → List UInt8
  | 0, u => [UInt8.ofNat (48 + u)]
  | k + 1, u => if u < 10 then [UInt8.ofNat (48 + u)] else ddF k (u / 10) ++ [UInt8.ofNat (48 + u % 10)]
theorem ddF_eq : ∀ (k u : Nat), u < 10 ^ (k + 1) → ddF k u = Lib.decDigits u
  | 0, u, h => by
    rw [Lib.decDigits, dif_pos (by simpa using h)]
    rfl
  | k + 1, u, h => by
    rw [Lib.decDigits, ddF]
    by_cases h10 : u < 10
    · rw [if_pos h10, dif_pos h10]
    · rw [if_neg h10, dif_neg h10, ddF_eq k (u / 10) (by rw [Nat.pow_succ] at h; omega)]
def strsOf : List (List AV) → Option (List (List UInt8))
  | [] => some []
  | [.str x] :: l => match strsOf l with
    | some m => some (x :: m)
    | none => none
  | _ => none
theorem strsOf_ok : ∀ {rows : List (List AV)} {xs : List (List UInt8)}, strsOf rows = some xs → rows = xs.map fun x => [.str x]
  | [], xs, h => by cases h; rfl
  | row :: l, xs, h => by
    unfold strsOf at h
    split at h
    · rename_i h1; cases h1
    · rename_i x m h1
      cases h1
      split at h
      · rename_i m hm
        cases h
        rw [strsOf_ok hm]
        rfl
      · cases h
    · cases h
def libO (f : Nat) : List AV → Option AV
  | [.int .i64 n] => if Nat.beq f 163 && (decide (0 ≤ n) && decide (n < 1000000000)) then some (.str (ddF 9 n.toNat)) else none
  | [.sl 1 rows, .str sep] => if Nat.beq f 161 then match strsOf rows with
      | some xs => if decide (xs.length ≤ 1000) && decide ((Lib.join xs sep).length ≤ 1000000) then some (.str (Lib.join xs sep)) else none
      | none => none
    else none
  | _ => none
theorem libO_ok (f : Nat) (a : List AV) (r : AV) (h : libO f a = some r) : PCall Tryz.prog G0 f a r := by
  unfold libO at h
  split at h
  · rename_i n
    split at h
    · rename_i hb
      simp only [Bool.and_eq_true, decide_eq_true_eq] at hb
      obtain ⟨h1, h2, h3⟩ := hb
      have := Nat.eq_of_beq_eq_true h1
      subst this
      cases h
      have := c163 n (by unfold In64; omega)
      rw [Lib.itoa, if_neg (by omega), ← ddF_eq 9 n.toNat (by omega)] at this
      exact this
    · cases h
  · rename_i rows sep
    split at h
    · rename_i h1
      have := Nat.eq_of_beq_eq_true h1
      subst this
      split at h
      · rename_i xs hxs
        split at h
        · rename_i hb
          simp only [Bool.and_eq_true, decide_eq_true_eq] at hb
          cases h
          rw [strsOf_ok hxs]
          exact c161 xs sep (by omega) (by omega)
        · cases h
      · cases h
    · cases h
  · cases h
def orcL (l : List Mem) (f : Nat) (a : List AV) : Option AV := match libO f a with
  | some r => some r
  | none => orcM l f a
theorem orcL_ok {l : List Mem} (hl : KnownM Tryz.prog G0 l) (f : Nat) (a : List AV) (r : AV) (h : orcL l f a = some r) : PCall Tryz.prog G0 f a r := by
  unfold orcL at h
  split at h
  · rename_i r' hr
    cases h
    exact libO_ok f a _ hr
  · exact orcM_ok hl f a r h
theorem ftok : FTOK Tryz.prog F0 := by unfold FTOK; kernel_rfl
theorem run_c {l : List Mem} (hl : KnownM Tryz.prog G0 l) {f : Nat} {a : List AV} {r : AV} (h : callM Tryz.prog T0 G0 F0 (orcL l) sqH 10000 60 f a = some r) : PCall Tryz.prog G0 f a r :=
  callM_ok tok mix ftok (orcL_ok hl) sqH_ok _ _ _ _ h
end Go.Proofs.YtjhjmncjidbieaaGreatDoor
namespace Go.Proofs.YtjhjmncjidbieaaGreatDoor
open Go Go.Av Go.RowKit
def awv0 : List (List AV) := [[.i 5, .i 0, .i 0, .i 0, .i 10], [.i 9, .i 8, .i 0, .i 0, .i 20]]
def awv1 : List (List AV) := [[.i 10, .sl 1 [[.i 1000], [.i 400]]], [.i 20, .sl 1 [[.i 2000], [.i 600]]]]
def awv2 : List AV := [.sl 5 awv0, .i 6]
def awv3 : List (List AV) := [[.i 1000], [.i 1000], [.i 1000], [.i 1000], [.i 500], [.i 500], [.i 500], [.i 500]]
def awv4 : List AV := [.sl 1 awv3]
def awv5 : List (List AV) := [[.i 100, .i 0, .i 0, .i 0, .i 100], [.i 103, .i 10, .i 0, .i 50, .i 80], [.i 104, .i 10, .i 5, .i 50, .i 80]]
def awv6 : List AV := [.str [111, 110, 101], .str [106, 101, 116], .sl 5 awv0]
def awv7 : List AV := [.str [116, 119, 111], .str [106, 101, 116], .sl 5 awv0]
def awv8 : List AV := [.str [111, 110, 101], .str [106, 101, 116], .sl 5 awv0, .i 2700]
def awv9 : List AV := [.str [116, 119, 111], .str [106, 101, 116], .sl 5 awv0, .i 2700]
def awv10 : List AV := [.str [106, 101, 116], .sl 1 [[.i 600], [.i 400]], .i 1000, .i 1000, .i 1000, .i 1000, .i 500, .i 500, .i 500, .i 500, .i 500, .sl 1 [[.i 0], [.i 100]], .sl 2 awv1]
def awv11 : List (List AV) := [awv10]
def awv12 : List (List AV) := [awv6, awv7]
def awv13 : List AV := [.agg awv10]
def awv14 : List AV := [.sl 13 awv11]
def awv15 : List (List AV) := [awv14]
def awv16 : List AV := [.agg awv10, .i 30, .i 0]
def awv17 : List AV := [.agg awv10, .i 15, .i 99]
def awv18 : List AV := [.agg awv10, .i 15, .i 100]
def awv19 : List (List AV) := [awv8, awv9]
def awv20 : List AV := [.agg awv10, .sl 5 awv0, .agg [.i 6, .i 8], .agg [.i 4, .i 2, .i 0]]
def awv21 : List AV := [.agg awv10, .sl 5 awv0, .agg [.i 0, .i 100000000], .agg [.i 4, .i 2, .i 0]]
def awv22 : List AV := [.sl 13 awv11, .sl 3 awv12, .agg [.i 4, .i 2, .i 0]]
def awM0 : List Mem := []
theorem awK0 : KnownM Tryz.prog G0 awM0 := KnownM.nil
theorem awc1 : PCall Tryz.prog G0 122 ([.str [106, 101, 116]]) (.bool true) := run_c awK0 (by kernel_rfl)
def awM1 : List Mem := ⟨122, [.str [106, 101, 116]], .bool true⟩ :: awM0
theorem awK1 : KnownM Tryz.prog G0 awM1 := KnownM.cons awc1 awK0
theorem awc2 : PCall Tryz.prog G0 123 ([.i 2, .i 8]) (.i 0) := run_c awK1 (by kernel_rfl)
def awM2 : List Mem := ⟨123, [.i 2, .i 8], .i 0⟩ :: awM1
theorem awK2 : KnownM Tryz.prog G0 awM2 := KnownM.cons awc2 awK1
theorem awc3 : PCall Tryz.prog G0 124 ([.sl 1 [[.i 600], [.i 400]], .i 1000]) (.i 0) := run_c awK2 (by kernel_rfl)
def awM3 : List Mem := ⟨124, [.sl 1 [[.i 600], [.i 400]], .i 1000], .i 0⟩ :: awM2
theorem awK3 : KnownM Tryz.prog G0 awM3 := KnownM.cons awc3 awK2
theorem awc4 : PCall Tryz.prog G0 87 ([.sl 1 [[.i 0], [.i 0], [.i 0], [.i 0]]]) (.i 0) := run_c awK3 (by kernel_rfl)
def awM4 : List Mem := ⟨87, [.sl 1 [[.i 0], [.i 0], [.i 0], [.i 0]]], .i 0⟩ :: awM3
theorem awK4 : KnownM Tryz.prog G0 awM4 := KnownM.cons awc4 awK3
theorem awc5 : PCall Tryz.prog G0 87 ([.sl 1 [[.i 0], [.i 0], [.i 0], [.i 0], [.i 0], [.i 0], [.i 0], [.i 0]]]) (.i 0) := run_c awK4 (by kernel_rfl)
def awM5 : List Mem := ⟨87, [.sl 1 [[.i 0], [.i 0], [.i 0], [.i 0], [.i 0], [.i 0], [.i 0], [.i 0]]], .i 0⟩ :: awM4
theorem awK5 : KnownM Tryz.prog G0 awM5 := KnownM.cons awc5 awK4
theorem awc6 : PCall Tryz.prog G0 124 ([.sl 1 awv3, .i 2000]) (.i 0) := run_c awK5 (by kernel_rfl)
def awM6 : List Mem := ⟨124, [.sl 1 awv3, .i 2000], .i 0⟩ :: awM5
theorem awK6 : KnownM Tryz.prog G0 awM6 := KnownM.cons awc6 awK5
theorem awc7 : PCall Tryz.prog G0 124 ([.sl 1 [[.i 0], [.i 100]], .i 100000000000]) (.i 0) := run_c awK6 (by kernel_rfl)
def awM7 : List Mem := ⟨124, [.sl 1 [[.i 0], [.i 100]], .i 100000000000], .i 0⟩ :: awM6
theorem awK7 : KnownM Tryz.prog G0 awM7 := KnownM.cons awc7 awK6
theorem awc8 : PCall Tryz.prog G0 123 ([.i 2, .i 6]) (.i 0) := run_c awK7 (by kernel_rfl)
def awM8 : List Mem := ⟨123, [.i 2, .i 6], .i 0⟩ :: awM7
theorem awK8 : KnownM Tryz.prog G0 awM8 := KnownM.cons awc8 awK7
theorem awc9 : PCall Tryz.prog G0 124 ([.sl 1 [[.i 1000], [.i 400]], .i 100000000]) (.i 0) := run_c awK8 (by kernel_rfl)
def awM9 : List Mem := ⟨124, [.sl 1 [[.i 1000], [.i 400]], .i 100000000], .i 0⟩ :: awM8
theorem awK9 : KnownM Tryz.prog G0 awM9 := KnownM.cons awc9 awK8
theorem awc10 : PCall Tryz.prog G0 124 ([.sl 1 [[.i 2000], [.i 600]], .i 100000000]) (.i 0) := run_c awK9 (by kernel_rfl)
def awM10 : List Mem := ⟨124, [.sl 1 [[.i 2000], [.i 600]], .i 100000000], .i 0⟩ :: awM9
theorem awK10 : KnownM Tryz.prog G0 awM10 := KnownM.cons awc10 awK9
theorem awc11 : PCall Tryz.prog G0 125 (awv13) (.i 0) := run_c awK10 (by kernel_rfl)
def awM11 : List Mem := ⟨125, awv13, .i 0⟩ :: awM10
theorem awK11 : KnownM Tryz.prog G0 awM11 := KnownM.cons awc11 awK10
theorem awc12 : PCall Tryz.prog G0 53 (awv13) (.i 0) := run_c awK11 (by kernel_rfl)
def awM12 : List Mem := ⟨53, awv13, .i 0⟩ :: awM11
theorem awK12 : KnownM Tryz.prog G0 awM12 := KnownM.cons awc12 awK11
theorem awc13 : PCall Tryz.prog G0 87 ([.sl 1 [[.i 0], [.i 0], [.i 0]]]) (.i 0) := run_c awK12 (by kernel_rfl)
def awM13 : List Mem := ⟨87, [.sl 1 [[.i 0], [.i 0], [.i 0]]], .i 0⟩ :: awM12
theorem awK13 : KnownM Tryz.prog G0 awM13 := KnownM.cons awc13 awK12
theorem awc14 : PCall Tryz.prog G0 114 (awv17) (.i 1500) := run_c awK13 (by kernel_rfl)
def awM14 : List Mem := ⟨114, awv17, .i 1500⟩ :: awM13
theorem awK14 : KnownM Tryz.prog G0 awM14 := KnownM.cons awc14 awK13
theorem awc15 : PCall Tryz.prog G0 40 (awv17) (.tup [.i 1500, .i 0]) := run_c awK14 (by kernel_rfl)
def awM15 : List Mem := ⟨40, awv17, .tup [.i 1500, .i 0]⟩ :: awM14
theorem awK15 : KnownM Tryz.prog G0 awM15 := KnownM.cons awc15 awK14
theorem awc16 : PCall Tryz.prog G0 114 (awv18) (.i 500) := run_c awK15 (by kernel_rfl)
def awM16 : List Mem := ⟨114, awv18, .i 500⟩ :: awM15
theorem awK16 : KnownM Tryz.prog G0 awM16 := KnownM.cons awc16 awK15
theorem awc17 : PCall Tryz.prog G0 40 (awv18) (.tup [.i 500, .i 0]) := run_c awK16 (by kernel_rfl)
def awM17 : List Mem := ⟨40, awv18, .tup [.i 500, .i 0]⟩ :: awM16
theorem awK17 : KnownM Tryz.prog G0 awM17 := KnownM.cons awc17 awK16
theorem awc18 : PCall Tryz.prog G0 114 (awv16) (.i 2000) := run_c awK17 (by kernel_rfl)
def awM18 : List Mem := ⟨114, awv16, .i 2000⟩ :: awM17
theorem awK18 : KnownM Tryz.prog G0 awM18 := KnownM.cons awc18 awK17
theorem awc19 : PCall Tryz.prog G0 40 (awv16) (.tup [.i 2000, .i 0]) := run_c awK18 (by kernel_rfl)
def awM19 : List Mem := ⟨40, awv16, .tup [.i 2000, .i 0]⟩ :: awM18
theorem awK19 : KnownM Tryz.prog G0 awM19 := KnownM.cons awc19 awK18
theorem awc20 : PCall Tryz.prog G0 104 ([.agg [.i 0, .i 0, .i 0]]) (.i 0) := run_c awK19 (by kernel_rfl)
def awM20 : List Mem := ⟨104, [.agg [.i 0, .i 0, .i 0]], .i 0⟩ :: awM19
theorem awK20 : KnownM Tryz.prog G0 awM20 := KnownM.cons awc20 awK19
theorem awc21 : PCall Tryz.prog G0 134 ([.agg [.i 5, .i 0, .i 0, .i 0, .i 10]]) (.i 0) := run_c awK20 (by kernel_rfl)
def awM21 : List Mem := ⟨134, [.agg [.i 5, .i 0, .i 0, .i 0, .i 10]], .i 0⟩ :: awM20
theorem awK21 : KnownM Tryz.prog G0 awM21 := KnownM.cons awc21 awK20
theorem awc22 : PCall Tryz.prog G0 104 ([.agg [.i 8, .i 0, .i 0]]) (.i 0) := run_c awK21 (by kernel_rfl)
def awM22 : List Mem := ⟨104, [.agg [.i 8, .i 0, .i 0]], .i 0⟩ :: awM21
theorem awK22 : KnownM Tryz.prog G0 awM22 := KnownM.cons awc22 awK21
theorem awc23 : PCall Tryz.prog G0 134 ([.agg [.i 9, .i 8, .i 0, .i 0, .i 20]]) (.i 0) := run_c awK22 (by kernel_rfl)
def awM23 : List Mem := ⟨134, [.agg [.i 9, .i 8, .i 0, .i 0, .i 20]], .i 0⟩ :: awM22
theorem awK23 : KnownM Tryz.prog G0 awM23 := KnownM.cons awc23 awK22
theorem awc24 : PCall Tryz.prog G0 76 ([.sl 5 awv0]) (.i 0) := run_c awK23 (by kernel_rfl)
def awM24 : List Mem := ⟨76, [.sl 5 awv0], .i 0⟩ :: awM23
theorem awK24 : KnownM Tryz.prog G0 awM24 := KnownM.cons awc24 awK23
theorem awc25 : PCall Tryz.prog G0 126 (awv2) (.agg [.i 2, .i 0, .i 0, .i 8, .i 0, .i 12]) := run_c awK24 (by kernel_rfl)
def awM25 : List Mem := ⟨126, awv2, .agg [.i 2, .i 0, .i 0, .i 8, .i 0, .i 12]⟩ :: awM24
theorem awK25 : KnownM Tryz.prog G0 awM25 := KnownM.cons awc25 awK24
theorem awc26 : PCall Tryz.prog G0 56 (awv2) (.tup [.agg [.i 2, .i 0, .i 0, .i 8, .i 0, .i 12], .i 0]) := run_c awK25 (by kernel_rfl)
def awM26 : List Mem := ⟨56, awv2, .tup [.agg [.i 2, .i 0, .i 0, .i 8, .i 0, .i 12], .i 0]⟩ :: awM25
theorem awK26 : KnownM Tryz.prog G0 awM26 := KnownM.cons awc26 awK25
theorem awc27 : PCall Tryz.prog G0 104 ([.agg [.i 4, .i 2, .i 0]]) (.i 0) := run_c awK26 (by kernel_rfl)
def awM27 : List Mem := ⟨104, [.agg [.i 4, .i 2, .i 0]], .i 0⟩ :: awM26
theorem awK27 : KnownM Tryz.prog G0 awM27 := KnownM.cons awc27 awK26
theorem awc28 : PCall Tryz.prog G0 99 (awv21) (.i 0) := run_c awK27 (by kernel_rfl)
def awM28 : List Mem := ⟨99, awv21, .i 0⟩ :: awM27
theorem awK28 : KnownM Tryz.prog G0 awM28 := KnownM.cons awc28 awK27
theorem awc29 : PCall Tryz.prog G0 126 ([.sl 5 awv0, .i 5]) (.agg [.i 0, .i 0, .i 0, .i 8, .i 0, .i 10]) := run_c awK28 (by kernel_rfl)
def awM29 : List Mem := ⟨126, [.sl 5 awv0, .i 5], .agg [.i 0, .i 0, .i 0, .i 8, .i 0, .i 10]⟩ :: awM28
theorem awK29 : KnownM Tryz.prog G0 awM29 := KnownM.cons awc29 awK28
theorem awc30 : PCall Tryz.prog G0 116 ([.agg [.i 8, .i 0], .agg [.i 4, .i 2]]) (.i 0) := run_c awK29 (by kernel_rfl)
def awM30 : List Mem := ⟨116, [.agg [.i 8, .i 0], .agg [.i 4, .i 2]], .i 0⟩ :: awM29
theorem awK30 : KnownM Tryz.prog G0 awM30 := KnownM.cons awc30 awK29
theorem awc31 : PCall Tryz.prog G0 114 ([.agg awv10, .i 10, .i 20]) (.i 1000) := run_c awK30 (by kernel_rfl)
def awM31 : List Mem := ⟨114, [.agg awv10, .i 10, .i 20], .i 1000⟩ :: awM30
theorem awK31 : KnownM Tryz.prog G0 awM31 := KnownM.cons awc31 awK30
theorem awc32 : PCall Tryz.prog G0 117 ([.agg awv10, .agg [.i 0, .i 0, .i 0, .i 8, .i 0, .i 10], .agg [.i 4, .i 2, .i 0]]) (.i 500) := run_c awK31 (by kernel_rfl)
def awM32 : List Mem := ⟨117, [.agg awv10, .agg [.i 0, .i 0, .i 0, .i 8, .i 0, .i 10], .agg [.i 4, .i 2, .i 0]], .i 500⟩ :: awM31
theorem awK32 : KnownM Tryz.prog G0 awM32 := KnownM.cons awc32 awK31
theorem awc33 : PCall Tryz.prog G0 116 ([.agg [.i 8, .i 0], .agg [.i 2, .i 2]]) (.i 1) := run_c awK32 (by kernel_rfl)
def awM33 : List Mem := ⟨116, [.agg [.i 8, .i 0], .agg [.i 2, .i 2]], .i 1⟩ :: awM32
theorem awK33 : KnownM Tryz.prog G0 awM33 := KnownM.cons awc33 awK32
theorem awc34 : PCall Tryz.prog G0 114 ([.agg awv10, .i 12, .i 8]) (.i 1200) := run_c awK33 (by kernel_rfl)
def awM34 : List Mem := ⟨114, [.agg awv10, .i 12, .i 8], .i 1200⟩ :: awM33
theorem awK34 : KnownM Tryz.prog G0 awM34 := KnownM.cons awc34 awK33
theorem awc35 : PCall Tryz.prog G0 117 ([.agg awv10, .agg [.i 2, .i 0, .i 0, .i 8, .i 0, .i 12], .agg [.i 4, .i 2, .i 0]]) (.i 600) := run_c awK34 (by kernel_rfl)
def awM35 : List Mem := ⟨117, [.agg awv10, .agg [.i 2, .i 0, .i 0, .i 8, .i 0, .i 12], .agg [.i 4, .i 2, .i 0]], .i 600⟩ :: awM34
theorem awK35 : KnownM Tryz.prog G0 awM35 := KnownM.cons awc35 awK34
theorem awc36 : PCall Tryz.prog G0 126 ([.sl 5 awv0, .i 7]) (.agg [.i 4, .i 0, .i 0, .i 8, .i 0, .i 15]) := run_c awK35 (by kernel_rfl)
def awM36 : List Mem := ⟨126, [.sl 5 awv0, .i 7], .agg [.i 4, .i 0, .i 0, .i 8, .i 0, .i 15]⟩ :: awM35
theorem awK36 : KnownM Tryz.prog G0 awM36 := KnownM.cons awc36 awK35
theorem awc37 : PCall Tryz.prog G0 116 ([.agg [.i 8, .i 0], .agg [.i 0, .i 2]]) (.i 2) := run_c awK36 (by kernel_rfl)
def awM37 : List Mem := ⟨116, [.agg [.i 8, .i 0], .agg [.i 0, .i 2]], .i 2⟩ :: awM36
theorem awK37 : KnownM Tryz.prog G0 awM37 := KnownM.cons awc37 awK36
theorem awc38 : PCall Tryz.prog G0 114 ([.agg awv10, .i 15, .i 4]) (.i 1500) := run_c awK37 (by kernel_rfl)
def awM38 : List Mem := ⟨114, [.agg awv10, .i 15, .i 4], .i 1500⟩ :: awM37
theorem awK38 : KnownM Tryz.prog G0 awM38 := KnownM.cons awc38 awK37
theorem awc39 : PCall Tryz.prog G0 117 ([.agg awv10, .agg [.i 4, .i 0, .i 0, .i 8, .i 0, .i 15], .agg [.i 4, .i 2, .i 0]]) (.i 750) := run_c awK38 (by kernel_rfl)
def awM39 : List Mem := ⟨117, [.agg awv10, .agg [.i 4, .i 0, .i 0, .i 8, .i 0, .i 15], .agg [.i 4, .i 2, .i 0]], .i 750⟩ :: awM38
theorem awK39 : KnownM Tryz.prog G0 awM39 := KnownM.cons awc39 awK38
theorem awc40 : PCall Tryz.prog G0 126 ([.sl 5 awv0, .i 8]) (.agg [.i 6, .i 0, .i 0, .i 8, .i 0, .i 17]) := run_c awK39 (by kernel_rfl)
def awM40 : List Mem := ⟨126, [.sl 5 awv0, .i 8], .agg [.i 6, .i 0, .i 0, .i 8, .i 0, .i 17]⟩ :: awM39
theorem awK40 : KnownM Tryz.prog G0 awM40 := KnownM.cons awc40 awK39
theorem awc41 : PCall Tryz.prog G0 116 ([.agg [.i 8, .i 0], .agg [.i (-2), .i 2]]) (.i 3) := run_c awK40 (by kernel_rfl)
def awM41 : List Mem := ⟨116, [.agg [.i 8, .i 0], .agg [.i (-2), .i 2]], .i 3⟩ :: awM40
theorem awK41 : KnownM Tryz.prog G0 awM41 := KnownM.cons awc41 awK40
theorem awc42 : PCall Tryz.prog G0 114 ([.agg awv10, .i 17, .i 8]) (.i 1700) := run_c awK41 (by kernel_rfl)
def awM42 : List Mem := ⟨114, [.agg awv10, .i 17, .i 8], .i 1700⟩ :: awM41
theorem awK42 : KnownM Tryz.prog G0 awM42 := KnownM.cons awc42 awK41
theorem awc43 : PCall Tryz.prog G0 117 ([.agg awv10, .agg [.i 6, .i 0, .i 0, .i 8, .i 0, .i 17], .agg [.i 4, .i 2, .i 0]]) (.i 850) := run_c awK42 (by kernel_rfl)
def awM43 : List Mem := ⟨117, [.agg awv10, .agg [.i 6, .i 0, .i 0, .i 8, .i 0, .i 17], .agg [.i 4, .i 2, .i 0]], .i 850⟩ :: awM42
theorem awK43 : KnownM Tryz.prog G0 awM43 := KnownM.cons awc43 awK42
theorem awc44 : PCall Tryz.prog G0 100 (awv21) (.i 2700) := run_c awK43 (by kernel_rfl)
def awM44 : List Mem := ⟨100, awv21, .i 2700⟩ :: awM43
theorem awK44 : KnownM Tryz.prog G0 awM44 := KnownM.cons awc44 awK43
theorem awc45 : PCall Tryz.prog G0 27 (awv21) (.tup [.i 2700, .i 0]) := run_c awK44 (by kernel_rfl)
def awM45 : List Mem := ⟨27, awv21, .tup [.i 2700, .i 0]⟩ :: awM44
theorem awK45 : KnownM Tryz.prog G0 awM45 := KnownM.cons awc45 awK44
theorem awc46 : PCall Tryz.prog G0 99 (awv20) (.i 0) := run_c awK45 (by kernel_rfl)
def awM46 : List Mem := ⟨99, awv20, .i 0⟩ :: awM45
theorem awK46 : KnownM Tryz.prog G0 awM46 := KnownM.cons awc46 awK45
theorem awc47 : PCall Tryz.prog G0 100 (awv20) (.i 1350) := run_c awK46 (by kernel_rfl)
def awM47 : List Mem := ⟨100, awv20, .i 1350⟩ :: awM46
theorem awK47 : KnownM Tryz.prog G0 awM47 := KnownM.cons awc47 awK46
theorem awc48 : PCall Tryz.prog G0 27 (awv20) (.tup [.i 1350, .i 0]) := run_c awK47 (by kernel_rfl)
def awM48 : List Mem := ⟨27, awv20, .tup [.i 1350, .i 0]⟩ :: awM47
theorem awK48 : KnownM Tryz.prog G0 awM48 := KnownM.cons awc48 awK47
theorem awc49 : PCall Tryz.prog G0 30 (awv21) (.tup [.i 850, .i 8, .i 0]) := run_c awK48 (by kernel_rfl)
def awM49 : List Mem := ⟨30, awv21, .tup [.i 850, .i 8, .i 0]⟩ :: awM48
theorem awK49 : KnownM Tryz.prog G0 awM49 := KnownM.cons awc49 awK48
theorem awc50 : PCall Tryz.prog G0 146 (awv4) (.i 500) := run_c awK49 (by kernel_rfl)
def awM50 : List Mem := ⟨146, awv4, .i 500⟩ :: awM49
theorem awK50 : KnownM Tryz.prog G0 awM50 := KnownM.cons awc50 awK49
theorem awc51 : PCall Tryz.prog G0 114 ([.agg awv10, .i 20, .i 4]) (.i 2000) := run_c awK50 (by kernel_rfl)
def awM51 : List Mem := ⟨114, [.agg awv10, .i 20, .i 4], .i 2000⟩ :: awM50
theorem awK51 : KnownM Tryz.prog G0 awM51 := KnownM.cons awc51 awK50
theorem awc52 : PCall Tryz.prog G0 147 (awv4) (.i 1000) := run_c awK51 (by kernel_rfl)
def awM52 : List Mem := ⟨147, awv4, .i 1000⟩ :: awM51
theorem awK52 : KnownM Tryz.prog G0 awM52 := KnownM.cons awc52 awK51
theorem awc53 : PCall Tryz.prog G0 105 ([.agg awv10, .agg [.i 5, .i 0, .i 0, .i 0, .i 10], .agg [.i 9, .i 8, .i 0, .i 0, .i 20], .agg [.i 4, .i 2, .i 0]]) (.agg [.i 1000, .i 8000]) := run_c awK52 (by kernel_rfl)
def awM53 : List Mem := ⟨105, [.agg awv10, .agg [.i 5, .i 0, .i 0, .i 0, .i 10], .agg [.i 9, .i 8, .i 0, .i 0, .i 20], .agg [.i 4, .i 2, .i 0]], .agg [.i 1000, .i 8000]⟩ :: awM52
theorem awK53 : KnownM Tryz.prog G0 awM53 := KnownM.cons awc53 awK52
theorem awc54 : PCall Tryz.prog G0 31 ([.agg awv10, .sl 5 awv0, .agg [.i 4, .i 2, .i 0]]) (.tup [.agg [.i 1000, .i 8000], .i 0]) := run_c awK53 (by kernel_rfl)
def awM54 : List Mem := ⟨31, [.agg awv10, .sl 5 awv0, .agg [.i 4, .i 2, .i 0]], .tup [.agg [.i 1000, .i 8000], .i 0]⟩ :: awM53
theorem awK54 : KnownM Tryz.prog G0 awM54 := KnownM.cons awc54 awK53
theorem awc55 : PCall Tryz.prog G0 43 ([.agg awv10, .i 101]) (.tup [.sl 1 [[.i 61], [.i 40]], .i 0]) := run_c awK54 (by kernel_rfl)
def awM55 : List Mem := ⟨43, [.agg awv10, .i 101], .tup [.sl 1 [[.i 61], [.i 40]], .i 0]⟩ :: awM54
theorem awK55 : KnownM Tryz.prog G0 awM55 := KnownM.cons awc55 awK54
theorem awc56 : PCall Tryz.prog G0 39 ([.sl 5 awv0, .i 2]) (.tup [.sl 5 awv0, .i 0]) := run_c awK55 (by kernel_rfl)
def awM56 : List Mem := ⟨39, [.sl 5 awv0, .i 2], .tup [.sl 5 awv0, .i 0]⟩ :: awM55
theorem awK56 : KnownM Tryz.prog G0 awM56 := KnownM.cons awc56 awK55
theorem awc57 : PCall Tryz.prog G0 39 ([.sl 5 awv0, .i 1]) (.tup [.ex (.slice none 0 0), .i 16]) := run_c awK56 (by kernel_rfl)
def awM57 : List Mem := ⟨39, [.sl 5 awv0, .i 1], .tup [.ex (.slice none 0 0), .i 16]⟩ :: awM56
theorem awK57 : KnownM Tryz.prog G0 awM57 := KnownM.cons awc57 awK56
theorem awc58 : PCall Tryz.prog G0 54 ([.sl 1 [[.i 61], [.i 40]], .sl 1 [[.i 61], [.i 40]]]) (.bool true) := run_c awK57 (by kernel_rfl)
def awM58 : List Mem := ⟨54, [.sl 1 [[.i 61], [.i 40]], .sl 1 [[.i 61], [.i 40]]], .bool true⟩ :: awM57
theorem awK58 : KnownM Tryz.prog G0 awM58 := KnownM.cons awc58 awK57
theorem awc59 : PCall Tryz.prog G0 115 ([.agg [.i 1, .i 0]]) (.i 0) := run_c awK58 (by kernel_rfl)
def awM59 : List Mem := ⟨115, [.agg [.i 1, .i 0]], .i 0⟩ :: awM58
theorem awK59 : KnownM Tryz.prog G0 awM59 := KnownM.cons awc59 awK58
theorem awc60 : PCall Tryz.prog G0 115 ([.agg [.i 3, .i 1]]) (.i 0) := run_c awK59 (by kernel_rfl)
def awM60 : List Mem := ⟨115, [.agg [.i 3, .i 1]], .i 0⟩ :: awM59
theorem awK60 : KnownM Tryz.prog G0 awM60 := KnownM.cons awc60 awK59
theorem awc61 : PCall Tryz.prog G0 116 ([.agg [.i 1, .i 0], .agg [.i 3, .i 1]]) (.i 0) := run_c awK60 (by kernel_rfl)
def awM61 : List Mem := ⟨116, [.agg [.i 1, .i 0], .agg [.i 3, .i 1]], .i 0⟩ :: awM60
theorem awK61 : KnownM Tryz.prog G0 awM61 := KnownM.cons awc61 awK60
theorem awc62 : PCall Tryz.prog G0 41 ([.agg [.i 1, .i 0], .agg [.i 3, .i 1]]) (.tup [.i 0, .i 0]) := run_c awK61 (by kernel_rfl)
def awM62 : List Mem := ⟨41, [.agg [.i 1, .i 0], .agg [.i 3, .i 1]], .tup [.i 0, .i 0]⟩ :: awM61
theorem awK62 : KnownM Tryz.prog G0 awM62 := KnownM.cons awc62 awK61
theorem awc63 : PCall Tryz.prog G0 115 ([.agg [.i 2, .i 2]]) (.i 0) := run_c awK62 (by kernel_rfl)
def awM63 : List Mem := ⟨115, [.agg [.i 2, .i 2]], .i 0⟩ :: awM62
theorem awK63 : KnownM Tryz.prog G0 awM63 := KnownM.cons awc63 awK62
theorem awc64 : PCall Tryz.prog G0 116 ([.agg [.i 1, .i 0], .agg [.i 2, .i 2]]) (.i 1) := run_c awK63 (by kernel_rfl)
def awM64 : List Mem := ⟨116, [.agg [.i 1, .i 0], .agg [.i 2, .i 2]], .i 1⟩ :: awM63
theorem awK64 : KnownM Tryz.prog G0 awM64 := KnownM.cons awc64 awK63
theorem awc65 : PCall Tryz.prog G0 41 ([.agg [.i 1, .i 0], .agg [.i 2, .i 2]]) (.tup [.i 1, .i 0]) := run_c awK64 (by kernel_rfl)
def awM65 : List Mem := ⟨41, [.agg [.i 1, .i 0], .agg [.i 2, .i 2]], .tup [.i 1, .i 0]⟩ :: awM64
theorem awK65 : KnownM Tryz.prog G0 awM65 := KnownM.cons awc65 awK64
theorem awc66 : PCall Tryz.prog G0 115 ([.agg [.i 0, .i 5]]) (.i 0) := run_c awK65 (by kernel_rfl)
def awM66 : List Mem := ⟨115, [.agg [.i 0, .i 5]], .i 0⟩ :: awM65
theorem awK66 : KnownM Tryz.prog G0 awM66 := KnownM.cons awc66 awK65
theorem awc67 : PCall Tryz.prog G0 116 ([.agg [.i 1, .i 0], .agg [.i 0, .i 5]]) (.i 2) := run_c awK66 (by kernel_rfl)
def awM67 : List Mem := ⟨116, [.agg [.i 1, .i 0], .agg [.i 0, .i 5]], .i 2⟩ :: awM66
theorem awK67 : KnownM Tryz.prog G0 awM67 := KnownM.cons awc67 awK66
theorem awc68 : PCall Tryz.prog G0 41 ([.agg [.i 1, .i 0], .agg [.i 0, .i 5]]) (.tup [.i 2, .i 0]) := run_c awK67 (by kernel_rfl)
def awM68 : List Mem := ⟨41, [.agg [.i 1, .i 0], .agg [.i 0, .i 5]], .tup [.i 2, .i 0]⟩ :: awM67
theorem awK68 : KnownM Tryz.prog G0 awM68 := KnownM.cons awc68 awK67
theorem awc69 : PCall Tryz.prog G0 115 ([.agg [.i (-2), .i 2]]) (.i 0) := run_c awK68 (by kernel_rfl)
def awM69 : List Mem := ⟨115, [.agg [.i (-2), .i 2]], .i 0⟩ :: awM68
theorem awK69 : KnownM Tryz.prog G0 awM69 := KnownM.cons awc69 awK68
theorem awc70 : PCall Tryz.prog G0 116 ([.agg [.i 1, .i 0], .agg [.i (-2), .i 2]]) (.i 3) := run_c awK69 (by kernel_rfl)
def awM70 : List Mem := ⟨116, [.agg [.i 1, .i 0], .agg [.i (-2), .i 2]], .i 3⟩ :: awM69
theorem awK70 : KnownM Tryz.prog G0 awM70 := KnownM.cons awc70 awK69
theorem awc71 : PCall Tryz.prog G0 41 ([.agg [.i 1, .i 0], .agg [.i (-2), .i 2]]) (.tup [.i 3, .i 0]) := run_c awK70 (by kernel_rfl)
def awM71 : List Mem := ⟨41, [.agg [.i 1, .i 0], .agg [.i (-2), .i 2]], .tup [.i 3, .i 0]⟩ :: awM70
theorem awK71 : KnownM Tryz.prog G0 awM71 := KnownM.cons awc71 awK70
theorem awc72 : PCall Tryz.prog G0 115 ([.agg [.i (-3), .i 0]]) (.i 0) := run_c awK71 (by kernel_rfl)
def awM72 : List Mem := ⟨115, [.agg [.i (-3), .i 0]], .i 0⟩ :: awM71
theorem awK72 : KnownM Tryz.prog G0 awM72 := KnownM.cons awc72 awK71
theorem awc73 : PCall Tryz.prog G0 116 ([.agg [.i 1, .i 0], .agg [.i (-3), .i 0]]) (.i 4) := run_c awK72 (by kernel_rfl)
def awM73 : List Mem := ⟨116, [.agg [.i 1, .i 0], .agg [.i (-3), .i 0]], .i 4⟩ :: awM72
theorem awK73 : KnownM Tryz.prog G0 awM73 := KnownM.cons awc73 awK72
theorem awc74 : PCall Tryz.prog G0 41 ([.agg [.i 1, .i 0], .agg [.i (-3), .i 0]]) (.tup [.i 4, .i 0]) := run_c awK73 (by kernel_rfl)
def awM74 : List Mem := ⟨41, [.agg [.i 1, .i 0], .agg [.i (-3), .i 0]], .tup [.i 4, .i 0]⟩ :: awM73
theorem awK74 : KnownM Tryz.prog G0 awM74 := KnownM.cons awc74 awK73
theorem awc75 : PCall Tryz.prog G0 115 ([.agg [.i (-1), .i (-1)]]) (.i 0) := run_c awK74 (by kernel_rfl)
def awM75 : List Mem := ⟨115, [.agg [.i (-1), .i (-1)]], .i 0⟩ :: awM74
theorem awK75 : KnownM Tryz.prog G0 awM75 := KnownM.cons awc75 awK74
theorem awc76 : PCall Tryz.prog G0 116 ([.agg [.i 1, .i 0], .agg [.i (-1), .i (-1)]]) (.i 5) := run_c awK75 (by kernel_rfl)
def awM76 : List Mem := ⟨116, [.agg [.i 1, .i 0], .agg [.i (-1), .i (-1)]], .i 5⟩ :: awM75
theorem awK76 : KnownM Tryz.prog G0 awM76 := KnownM.cons awc76 awK75
theorem awc77 : PCall Tryz.prog G0 41 ([.agg [.i 1, .i 0], .agg [.i (-1), .i (-1)]]) (.tup [.i 5, .i 0]) := run_c awK76 (by kernel_rfl)
def awM77 : List Mem := ⟨41, [.agg [.i 1, .i 0], .agg [.i (-1), .i (-1)]], .tup [.i 5, .i 0]⟩ :: awM76
theorem awK77 : KnownM Tryz.prog G0 awM77 := KnownM.cons awc77 awK76
theorem awc78 : PCall Tryz.prog G0 115 ([.agg [.i 0, .i (-4)]]) (.i 0) := run_c awK77 (by kernel_rfl)
def awM78 : List Mem := ⟨115, [.agg [.i 0, .i (-4)]], .i 0⟩ :: awM77
theorem awK78 : KnownM Tryz.prog G0 awM78 := KnownM.cons awc78 awK77
theorem awc79 : PCall Tryz.prog G0 116 ([.agg [.i 1, .i 0], .agg [.i 0, .i (-4)]]) (.i 6) := run_c awK78 (by kernel_rfl)
def awM79 : List Mem := ⟨116, [.agg [.i 1, .i 0], .agg [.i 0, .i (-4)]], .i 6⟩ :: awM78
theorem awK79 : KnownM Tryz.prog G0 awM79 := KnownM.cons awc79 awK78
theorem awc80 : PCall Tryz.prog G0 41 ([.agg [.i 1, .i 0], .agg [.i 0, .i (-4)]]) (.tup [.i 6, .i 0]) := run_c awK79 (by kernel_rfl)
def awM80 : List Mem := ⟨41, [.agg [.i 1, .i 0], .agg [.i 0, .i (-4)]], .tup [.i 6, .i 0]⟩ :: awM79
theorem awK80 : KnownM Tryz.prog G0 awM80 := KnownM.cons awc80 awK79
theorem awc81 : PCall Tryz.prog G0 115 ([.agg [.i 2, .i (-2)]]) (.i 0) := run_c awK80 (by kernel_rfl)
def awM81 : List Mem := ⟨115, [.agg [.i 2, .i (-2)]], .i 0⟩ :: awM80
theorem awK81 : KnownM Tryz.prog G0 awM81 := KnownM.cons awc81 awK80
theorem awc82 : PCall Tryz.prog G0 116 ([.agg [.i 1, .i 0], .agg [.i 2, .i (-2)]]) (.i 7) := run_c awK81 (by kernel_rfl)
def awM82 : List Mem := ⟨116, [.agg [.i 1, .i 0], .agg [.i 2, .i (-2)]], .i 7⟩ :: awM81
theorem awK82 : KnownM Tryz.prog G0 awM82 := KnownM.cons awc82 awK81
theorem awc83 : PCall Tryz.prog G0 41 ([.agg [.i 1, .i 0], .agg [.i 2, .i (-2)]]) (.tup [.i 7, .i 0]) := run_c awK82 (by kernel_rfl)
def awM83 : List Mem := ⟨41, [.agg [.i 1, .i 0], .agg [.i 2, .i (-2)]], .tup [.i 7, .i 0]⟩ :: awM82
theorem awK83 : KnownM Tryz.prog G0 awM83 := KnownM.cons awc83 awK82
theorem awc84 : PCall Tryz.prog G0 88 ([.sl 2 [[.i 0, .i 0], [.i 10, .i 0], [.i 10, .i 5]]]) (.i 0) := run_c awK83 (by kernel_rfl)
def awM84 : List Mem := ⟨88, [.sl 2 [[.i 0, .i 0], [.i 10, .i 0], [.i 10, .i 5]]], .i 0⟩ :: awM83
theorem awK84 : KnownM Tryz.prog G0 awM84 := KnownM.cons awc84 awK83
theorem awc85 : PCall Tryz.prog G0 22 ([.sl 3 [[.i 0, .i 0, .i 100], [.i 10, .i 50, .i 80]]]) (.i 0) := run_c awK84 (by kernel_rfl)
def awM85 : List Mem := ⟨22, [.sl 3 [[.i 0, .i 0, .i 100], [.i 10, .i 50, .i 80]]], .i 0⟩ :: awM84
theorem awK85 : KnownM Tryz.prog G0 awM85 := KnownM.cons awc85 awK84
theorem awc86 : PCall Tryz.prog G0 90 ([.sl 3 [[.i 0, .i 0, .i 100], [.i 10, .i 50, .i 80]], .i 0]) (.agg [.i 0, .i 0, .i 100]) := run_c awK85 (by kernel_rfl)
def awM86 : List Mem := ⟨90, [.sl 3 [[.i 0, .i 0, .i 100], [.i 10, .i 50, .i 80]], .i 0], .agg [.i 0, .i 0, .i 100]⟩ :: awM85
theorem awK86 : KnownM Tryz.prog G0 awM86 := KnownM.cons awc86 awK85
theorem awc87 : PCall Tryz.prog G0 90 ([.sl 3 [[.i 0, .i 0, .i 100], [.i 10, .i 50, .i 80]], .i 10]) (.agg [.i 10, .i 50, .i 80]) := run_c awK86 (by kernel_rfl)
def awM87 : List Mem := ⟨90, [.sl 3 [[.i 0, .i 0, .i 100], [.i 10, .i 50, .i 80]], .i 10], .agg [.i 10, .i 50, .i 80]⟩ :: awM86
theorem awK87 : KnownM Tryz.prog G0 awM87 := KnownM.cons awc87 awK86
theorem awc88 : PCall Tryz.prog G0 90 ([.sl 3 [[.i 0, .i 0, .i 100], [.i 10, .i 50, .i 80]], .i 15]) (.agg [.i 10, .i 50, .i 80]) := run_c awK87 (by kernel_rfl)
def awM88 : List Mem := ⟨90, [.sl 3 [[.i 0, .i 0, .i 100], [.i 10, .i 50, .i 80]], .i 15], .agg [.i 10, .i 50, .i 80]⟩ :: awM87
theorem awK88 : KnownM Tryz.prog G0 awM88 := KnownM.cons awc88 awK87
theorem awc89 : PCall Tryz.prog G0 134 ([.agg [.i 100, .i 0, .i 0, .i 0, .i 100]]) (.i 0) := run_c awK88 (by kernel_rfl)
def awM89 : List Mem := ⟨134, [.agg [.i 100, .i 0, .i 0, .i 0, .i 100]], .i 0⟩ :: awM88
theorem awK89 : KnownM Tryz.prog G0 awM89 := KnownM.cons awc89 awK88
theorem awc90 : PCall Tryz.prog G0 104 ([.agg [.i 10, .i 0, .i 50]]) (.i 0) := run_c awK89 (by kernel_rfl)
def awM90 : List Mem := ⟨104, [.agg [.i 10, .i 0, .i 50]], .i 0⟩ :: awM89
theorem awK90 : KnownM Tryz.prog G0 awM90 := KnownM.cons awc90 awK89
theorem awc91 : PCall Tryz.prog G0 134 ([.agg [.i 103, .i 10, .i 0, .i 50, .i 80]]) (.i 0) := run_c awK90 (by kernel_rfl)
def awM91 : List Mem := ⟨134, [.agg [.i 103, .i 10, .i 0, .i 50, .i 80]], .i 0⟩ :: awM90
theorem awK91 : KnownM Tryz.prog G0 awM91 := KnownM.cons awc91 awK90
theorem awc92 : PCall Tryz.prog G0 104 ([.agg [.i 10, .i 5, .i 50]]) (.i 0) := run_c awK91 (by kernel_rfl)
def awM92 : List Mem := ⟨104, [.agg [.i 10, .i 5, .i 50]], .i 0⟩ :: awM91
theorem awK92 : KnownM Tryz.prog G0 awM92 := KnownM.cons awc92 awK91
theorem awc93 : PCall Tryz.prog G0 134 ([.agg [.i 104, .i 10, .i 5, .i 50, .i 80]]) (.i 0) := run_c awK92 (by kernel_rfl)
def awM93 : List Mem := ⟨134, [.agg [.i 104, .i 10, .i 5, .i 50, .i 80]], .i 0⟩ :: awM92
theorem awK93 : KnownM Tryz.prog G0 awM93 := KnownM.cons awc93 awK92
theorem awc94 : PCall Tryz.prog G0 76 ([.sl 5 awv5]) (.i 0) := run_c awK93 (by kernel_rfl)
def awM94 : List Mem := ⟨76, [.sl 5 awv5], .i 0⟩ :: awM93
theorem awK94 : KnownM Tryz.prog G0 awM94 := KnownM.cons awc94 awK93
theorem awc95 : PCall Tryz.prog G0 14 ([.sl 2 [[.i 0, .i 0], [.i 10, .i 0], [.i 10, .i 5]], .sl 3 [[.i 0, .i 0, .i 100], [.i 10, .i 50, .i 80]], .i 4, .i 100]) (.tup [.sl 5 awv5, .i 0]) := run_c awK94 (by kernel_rfl)
def awM95 : List Mem := ⟨14, [.sl 2 [[.i 0, .i 0], [.i 10, .i 0], [.i 10, .i 5]], .sl 3 [[.i 0, .i 0, .i 100], [.i 10, .i 50, .i 80]], .i 4, .i 100], .tup [.sl 5 awv5, .i 0]⟩ :: awM94
theorem awK95 : KnownM Tryz.prog G0 awM95 := KnownM.cons awc95 awK94
theorem awc96 : PCall Tryz.prog G0 122 ([.str [111, 110, 101]]) (.bool true) := run_c awK95 (by kernel_rfl)
def awM96 : List Mem := ⟨122, [.str [111, 110, 101]], .bool true⟩ :: awM95
theorem awK96 : KnownM Tryz.prog G0 awM96 := KnownM.cons awc96 awK95
theorem awc97 : PCall Tryz.prog G0 122 ([.str [116, 119, 111]]) (.bool true) := run_c awK96 (by kernel_rfl)
def awM97 : List Mem := ⟨122, [.str [116, 119, 111]], .bool true⟩ :: awM96
theorem awK97 : KnownM Tryz.prog G0 awM97 := KnownM.cons awc97 awK96
theorem awc98 : PCall Tryz.prog G0 70 ([.sl 13 awv11, .sl 3 awv12]) (.i 0) := run_c awK97 (by kernel_rfl)
def awM98 : List Mem := ⟨70, [.sl 13 awv11, .sl 3 awv12], .i 0⟩ :: awM97
theorem awK98 : KnownM Tryz.prog G0 awM98 := KnownM.cons awc98 awK97
theorem awc99 : PCall Tryz.prog G0 100 ([.agg awv10, .sl 5 awv0, .agg [.i 5, .i 9], .agg [.i 4, .i 2, .i 0]]) (.i 2700) := run_c awK98 (by kernel_rfl)
def awM99 : List Mem := ⟨100, [.agg awv10, .sl 5 awv0, .agg [.i 5, .i 9], .agg [.i 4, .i 2, .i 0]], .i 2700⟩ :: awM98
theorem awK99 : KnownM Tryz.prog G0 awM99 := KnownM.cons awc99 awK98
theorem awc100 : PCall Tryz.prog G0 155 ([.agg awv6, .elt 1 awv15 0 0, .elt 3 [[.i 4, .i 2, .i 0]] 0 0]) (.agg awv8) := run_c awK99 (by kernel_rfl)
def awM100 : List Mem := ⟨155, [.agg awv6, .elt 1 awv15 0 0, .elt 3 [[.i 4, .i 2, .i 0]] 0 0], .agg awv8⟩ :: awM99
theorem awK100 : KnownM Tryz.prog G0 awM100 := KnownM.cons awc100 awK99
theorem awc101 : PCall Tryz.prog G0 155 ([.agg awv7, .elt 1 awv15 0 0, .elt 3 [[.i 4, .i 2, .i 0]] 0 0]) (.agg awv9) := run_c awK100 (by kernel_rfl)
def awM101 : List Mem := ⟨155, [.agg awv7, .elt 1 awv15 0 0, .elt 3 [[.i 4, .i 2, .i 0]] 0 0], .agg awv9⟩ :: awM100
theorem awK101 : KnownM Tryz.prog G0 awM101 := KnownM.cons awc101 awK100
theorem awc102 : PCall Tryz.prog G0 127 (awv22) (.tup [.sl 4 awv19, .i 0]) := run_c awK101 (by kernel_rfl)
def awM102 : List Mem := ⟨127, awv22, .tup [.sl 4 awv19, .i 0]⟩ :: awM101
theorem awK102 : KnownM Tryz.prog G0 awM102 := KnownM.cons awc102 awK101
theorem awc103 : PCall Tryz.prog G0 128 ([.sl 4 awv19]) (.sl 1 [[.i 2700], [.i 2700]]) := run_c awK102 (by kernel_rfl)
def awM103 : List Mem := ⟨128, [.sl 4 awv19], .sl 1 [[.i 2700], [.i 2700]]⟩ :: awM102
theorem awK103 : KnownM Tryz.prog G0 awM103 := KnownM.cons awc103 awK102
theorem awc104 : PCall Tryz.prog G0 61 (awv22) (.tup [.i 5400, .i 0]) := run_c awK103 (by kernel_rfl)
def awM104 : List Mem := ⟨61, awv22, .tup [.i 5400, .i 0]⟩ :: awM103
theorem awK104 : KnownM Tryz.prog G0 awM104 := KnownM.cons awc104 awK103
theorem awc105 : PCall Tryz.prog G0 130 ([.agg awv9, .agg awv8]) (.i 0) := run_c awK104 (by kernel_rfl)
def awM105 : List Mem := ⟨130, [.agg awv9, .agg awv8], .i 0⟩ :: awM104
theorem awK105 : KnownM Tryz.prog G0 awM105 := KnownM.cons awc105 awK104
theorem awc106 : PCall Tryz.prog G0 65 (awv22) (.tup [.str [111, 110, 101], .i 0]) := run_c awK105 (by kernel_rfl)
def awM106 : List Mem := ⟨65, awv22, .tup [.str [111, 110, 101], .i 0]⟩ :: awM105
theorem awK106 : KnownM Tryz.prog G0 awM106 := KnownM.cons awc106 awK105
theorem awc107 : PCall Tryz.prog G0 135 ([.str [116, 121, 112, 101, 32, 106, 101, 116], .sl 1 [[.i 500]]]) (.str [116, 121, 112, 101, 32, 106, 101, 116, 32, 53, 48, 48, 10]) := run_c awK106 (by kernel_rfl)
def awM107 : List Mem := ⟨135, [.str [116, 121, 112, 101, 32, 106, 101, 116], .sl 1 [[.i 500]]], .str [116, 121, 112, 101, 32, 106, 101, 116, 32, 53, 48, 48, 10]⟩ :: awM106
theorem awK107 : KnownM Tryz.prog G0 awM107 := KnownM.cons awc107 awK106
theorem awc108 : PCall Tryz.prog G0 135 ([.str [115, 104, 97, 114, 101, 115], .sl 1 [[.i 600], [.i 400]]]) (.str [115, 104, 97, 114, 101, 115, 32, 54, 48, 48, 32, 52, 48, 48, 10]) := run_c awK107 (by kernel_rfl)
def awM108 : List Mem := ⟨135, [.str [115, 104, 97, 114, 101, 115], .sl 1 [[.i 600], [.i 400]]], .str [115, 104, 97, 114, 101, 115, 32, 54, 48, 48, 32, 52, 48, 48, 10]⟩ :: awM107
theorem awK108 : KnownM Tryz.prog G0 awM108 := KnownM.cons awc108 awK107
theorem awc109 : PCall Tryz.prog G0 135 ([.str [100, 105, 114, 101, 99, 116], .sl 1 awv3]) (.str [100, 105, 114, 101, 99, 116, 32, 49, 48, 48, 48, 32, 49, 48, 48, 48, 32, 49, 48, 48, 48, 32, 49, 48, 48, 48, 32, 53, 48, 48, 32, 53, 48, 48, 32, 53, 48, 48, 32, 53, 48, 48, 10]) := run_c awK108 (by kernel_rfl)
def awM109 : List Mem := ⟨135, [.str [100, 105, 114, 101, 99, 116], .sl 1 awv3], .str [100, 105, 114, 101, 99, 116, 32, 49, 48, 48, 48, 32, 49, 48, 48, 48, 32, 49, 48, 48, 48, 32, 49, 48, 48, 48, 32, 53, 48, 48, 32, 53, 48, 48, 32, 53, 48, 48, 32, 53, 48, 48, 10]⟩ :: awM108
theorem awK109 : KnownM Tryz.prog G0 awM109 := KnownM.cons awc109 awK108
theorem awc110 : PCall Tryz.prog G0 135 ([.str [115, 113, 117, 97, 114, 101, 115], .sl 1 [[.i 0], [.i 100]]]) (.str [115, 113, 117, 97, 114, 101, 115, 32, 48, 32, 49, 48, 48, 10]) := run_c awK109 (by kernel_rfl)
def awM110 : List Mem := ⟨135, [.str [115, 113, 117, 97, 114, 101, 115], .sl 1 [[.i 0], [.i 100]]], .str [115, 113, 117, 97, 114, 101, 115, 32, 48, 32, 49, 48, 48, 10]⟩ :: awM109
theorem awK110 : KnownM Tryz.prog G0 awM110 := KnownM.cons awc110 awK109
theorem awc111 : PCall Tryz.prog G0 135 ([.str [112, 111, 119, 101, 114], .sl 1 [[.i 10], [.i 1000], [.i 400]]]) (.str [112, 111, 119, 101, 114, 32, 49, 48, 32, 49, 48, 48, 48, 32, 52, 48, 48, 10]) := run_c awK110 (by kernel_rfl)
def awM111 : List Mem := ⟨135, [.str [112, 111, 119, 101, 114], .sl 1 [[.i 10], [.i 1000], [.i 400]]], .str [112, 111, 119, 101, 114, 32, 49, 48, 32, 49, 48, 48, 48, 32, 52, 48, 48, 10]⟩ :: awM110
theorem awK111 : KnownM Tryz.prog G0 awM111 := KnownM.cons awc111 awK110
theorem awc112 : PCall Tryz.prog G0 135 ([.str [112, 111, 119, 101, 114], .sl 1 [[.i 20], [.i 2000], [.i 600]]]) (.str [112, 111, 119, 101, 114, 32, 50, 48, 32, 50, 48, 48, 48, 32, 54, 48, 48, 10]) := run_c awK111 (by kernel_rfl)
def awM112 : List Mem := ⟨135, [.str [112, 111, 119, 101, 114], .sl 1 [[.i 20], [.i 2000], [.i 600]]], .str [112, 111, 119, 101, 114, 32, 50, 48, 32, 50, 48, 48, 48, 32, 54, 48, 48, 10]⟩ :: awM111
theorem awK112 : KnownM Tryz.prog G0 awM112 := KnownM.cons awc112 awK111
theorem awc113 : PCall Tryz.prog G0 77 (awv13) (.tup [.str [116, 121, 112, 101, 32, 106, 101, 116, 32, 53, 48, 48, 10, 115, 104, 97, 114, 101, 115, 32, 54, 48, 48, 32, 52, 48, 48, 10, 100, 105, 114, 101, 99, 116, 32, 49, 48, 48, 48, 32, 49, 48, 48, 48, 32, 49, 48, 48, 48, 32, 49, 48, 48, 48, 32, 53, 48, 48, 32, 53, 48, 48, 32, 53, 48, 48, 32, 53, 48, 48, 10, 115, 113, 117, 97, 114, 101, 115, 32, 48, 32, 49, 48, 48, 10, 112, 111, 119, 101, 114, 32, 49, 48, 32, 49, 48, 48, 48, 32, 52, 48, 48, 10, 112, 111, 119, 101, 114, 32, 50, 48, 32, 50, 48, 48, 48, 32, 54, 48, 48, 10], .i 0]) := run_c awK112 (by kernel_rfl)
def awM113 : List Mem := ⟨77, awv13, .tup [.str [116, 121, 112, 101, 32, 106, 101, 116, 32, 53, 48, 48, 10, 115, 104, 97, 114, 101, 115, 32, 54, 48, 48, 32, 52, 48, 48, 10, 100, 105, 114, 101, 99, 116, 32, 49, 48, 48, 48, 32, 49, 48, 48, 48, 32, 49, 48, 48, 48, 32, 49, 48, 48, 48, 32, 53, 48, 48, 32, 53, 48, 48, 32, 53, 48, 48, 32, 53, 48, 48, 10, 115, 113, 117, 97, 114, 101, 115, 32, 48, 32, 49, 48, 48, 10, 112, 111, 119, 101, 114, 32, 49, 48, 32, 49, 48, 48, 48, 32, 52, 48, 48, 10, 112, 111, 119, 101, 114, 32, 50, 48, 32, 50, 48, 48, 48, 32, 54, 48, 48, 10], .i 0]⟩ :: awM112
theorem awK113 : KnownM Tryz.prog G0 awM113 := KnownM.cons awc113 awK112
theorem awc114 : PCall Tryz.prog G0 56 ([.sl 5 awv0, .i 9]) (.tup [.agg [.i 0, .i 0, .i 0, .i 0, .i 0, .i 0], .i 7]) := run_c awK113 (by kernel_rfl)
def awM114 : List Mem := ⟨56, [.sl 5 awv0, .i 9], .tup [.agg [.i 0, .i 0, .i 0, .i 0, .i 0, .i 0], .i 7]⟩ :: awM113
theorem awK114 : KnownM Tryz.prog G0 awM114 := KnownM.cons awc114 awK113
theorem awc115 : PCall Tryz.prog G0 13 ([]) (.bool true) := run_c awK114 (by kernel_rfl)
end Go.Proofs.YtjhjmncjidbieaaGreatDoor
namespace Go.Proofs.YtjhjmncjidbieaaGreatDoor
open Go Go.Av Go.RowKit Go.ChangeShapes Go.WideShapes
theorem hA : PCall Tryz.prog G0 13 [] (.bool true) := awc115
theorem laidOut : laidOutB Tryz.prog = true := by kernel_rfl
theorem own : ownKnob Tryz.prog.godebug = none := by kernel_rfl
def laid5 : List (String × DataW Unit) := Rows.sourcePathsRow.laid
theorem door_met (os : Os) (args : Array Value) : laidMetH Tryz.prog laid5 ((World.doorLaid Tryz.prog 400 os).forCall (fun _ _ => 0) ⟨#[], args, []⟩).memory :=
  laidMetH_of_parts3 (fuel := 8) (laidMet_of_run' 8 (by kernel_rfl) (by kernel_rfl)) (by kernel_rfl) (by kernel_rfl)
theorem globs {W : World} (h : laidMetH Tryz.prog laid5 W) : ∀ g cells, lk g G0 = some cells → GlobOK NoX W g cells := by
  rw [MakeChecks.laidMetH_plain _ _ _ (by kernel_rfl)] at h
  obtain ⟨ps, hl, _⟩ := h
  have m0 := laid_glob (T := T0) tok (n := 8) (name := "flyover/flyoverlaw02.turned") (d := Rows.laid_flyover_flyoverlaw02_turned) (g := 0) (t := 165) (cells := nthR (G0.map (·.2)) 0) (by kernel_rfl) (by kernel_rfl) (by kernel_rfl) (by kernel_rfl) (by kernel_rfl) (by simp [nthR, G0]) (laid := laid5) (ps := ps) (by simp [laid5, Rows.sourcePathsRow]) hl
  have m1 := laid_glob (T := T0) tok (n := 8) (name := "flyover/source.words") (d := Rows.laid_flyover_source_words) (g := 1) (t := 219) (cells := nthR (G0.map (·.2)) 1) (by kernel_rfl) (by kernel_rfl) (by kernel_rfl) (by kernel_rfl) (by kernel_rfl) (by simp [nthR, G0]) (laid := laid5) (ps := ps) (by simp [laid5, Rows.sourcePathsRow]) hl
  have m4 := laid_glob (T := T0) tok (n := 8) (name := "internal/strconv.uint64pow10") (d := Rows.laid_internal_strconv_uint64pow10) (g := 4) (t := 285) (cells := nthR (G0.map (·.2)) 2) (by kernel_rfl) (by kernel_rfl) (by kernel_rfl) (by kernel_rfl) (by kernel_rfl) (by simp [nthR, G0]) (laid := laid5) (ps := ps) (by simp [laid5, Rows.sourcePathsRow]) hl
  intro g cells hg
  obtain ⟨u, hu, e1⟩ := lk_mem hg
  subst e1
  simp only [G0, List.mem_cons, List.not_mem_nil, or_false, Prod.mk.injEq] at hu
  rcases hu with ⟨rfl, rfl⟩ | ⟨rfl, rfl⟩ | ⟨rfl, rfl⟩
  · exact m0
  · exact m1
  · exact m4
theorem wf64 {x : Int} (h : (Lit.int .i64 x).wf = true) : In64 x := by
  simp only [Lit.wf, Bool.and_eq_true, decide_eq_true_eq] at h
  exact h
theorem two_arg {a : AV} (h : ASh1 T0 8 24 a) : ∃ x y : Int, a = .agg [.i x, .i y] ∧ In64 x ∧ In64 y := by
  obtain ⟨l, rfl, h2⟩ := ash1_agg (cs := [.int .i64, .int .i64]) (ti := ⟨(.arr 2 3 1), 2, 16, true, [.int .i64 0, .int .i64 0], true⟩) (by kernel_rfl) rfl (by kernel_rfl) (by kernel_rfl) h
  obtain ⟨_, _, rfl, ⟨x, rfl, hx⟩, _, _, rfl, ⟨y, rfl, hy⟩, rfl⟩ := h2
  exact ⟨x, y, rfl, wf64 hx, wf64 hy⟩
end Go.Proofs.YtjhjmncjidbieaaGreatDoor
namespace Go.Proofs.YtjhjmncjidbieaaGreatDoor
open Go Go.Av Go.RowKit Go.ChangeShapes Go.WideShapes
end Go.Proofs.YtjhjmncjidbieaaGreatDoor
namespace Go.Proofs.YtjhjmncjidbieaaGreatDoor
open Go Go.Av Go.RowKit Go.ChangeShapes Go.WideShapes
theorem fx_of {n : Nat} {r : List AV} (hn : shapeT T0 n 110 = [.int .i64, .int .i64, .int .i64, .int .i64, .int .i64]) (hp : plainT T0 n 110 = true) (h : ASh T0 n 110 r) : ∃ x : Fx, r = encFx x ∧ True := by
  have := ash_shape n 110 r hp h
  rw [hn] at this
  obtain ⟨_, _, rfl, ⟨a, rfl, _⟩, _, _, rfl, ⟨b, rfl, _⟩, _, _, rfl, ⟨c, rfl, _⟩, _, _, rfl, ⟨d, rfl, _⟩, _, _, rfl, ⟨e, rfl, _⟩, rfl⟩ := this
  exact ⟨⟨a, b, c, d, e⟩, rfl, trivial⟩
theorem track_arg {a : AV} (h : ASh1 T0 8 36 a) : ∃ l : List Fx, a = .sl 5 (l.map encFx) := by
  obtain ⟨rows, rfl, _, hr⟩ := ash1_one (c := .sl 7 110 5) (ti := ⟨(.slice 110 5 40), 1, 24, false, [.ex (.slice none 0 0)], false⟩) (by kernel_rfl) rfl (by kernel_rfl) (by kernel_rfl) h
  obtain ⟨l, rfl, _⟩ := rows_enc (enc := encFx) (Q := fun _ => True) (fun r hm => fx_of (by kernel_rfl) (by kernel_rfl) (hr r hm))
  exact ⟨l, rfl⟩
end Go.Proofs.YtjhjmncjidbieaaGreatDoor
