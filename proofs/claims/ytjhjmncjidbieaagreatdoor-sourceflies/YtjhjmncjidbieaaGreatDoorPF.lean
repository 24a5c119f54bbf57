/-
  SourceTracks returns true. No condition but the theorems' own. SourceFlies returns true. No condition but the theorems' own. What hearing hands over, tick by tick. No condition but the theorem's own. What loops over functions are handed in chapter 2, on concrete values. No condition but the theorem's own. Contracts of the library at this program, laid by the kit from its shelf: each is one application of a theorem of the library. No condition but what each theorem names. The library's strconv.Itoa and strings.Join, as contracts on abstract values. No condition but the theorems' own. The library's calls on concrete values, and what is known of the program for runs on concrete values. No condition but the theorems' own.
-/
import Derived.Test.YtjhjmncjidbieaaGreatDoorPE
import Derived.Test.YtjhjmncjidbieaaGreatDoorAvC
import Derived.Test.YtjhjmncjidbieaaGreatDoorPA
import Derived.Shelf.Strings.OnBuilder
import Derived.Shelf.LaysM
import Derived.Shelf.Strconv.Itoa3
import Derived.Test.YtjhjmncjidbieaaGreatDoorProg
namespace Go.Proofs.YtjhjmncjidbieaaGreatDoor
open Go Go.Av Go.RowKit
def rA (l : List Fx) (k : Int) (j : Nat) : Int := cJ [rAt l k] 0 j
def rA6 (l : List Fx) (k : Int) : List AV := [.i (rA l k 0), .i (rA l k 1), .i (rA l k 2), .i (rA l k 3), .i (rA l k 4), .i (rA l k 5)]
theorem rAt_eq (l : List Fx) (k : Int) : rAt l k = rA6 l k := by
  unfold rA6 rA rAt
  cases (sTrackS l != 0) <;> cases outT l k <;> rfl
theorem same_self (l : List Fx) : sSame l l = true := by
  unfold sSame
  rw [if_neg (by simp)]
  refine List.all_eq_true.2 fun i _ => ?_
  unfold eqFx
  simp
theorem repR_len (l : List Fx) (sp : Int) : (repR l sp).length ≤ l.length - 1 + 1 := by
  unfold repR
  have := (rep_len (l := l) (sp := sp) (l.length - 1)).2
  split
  · simp
  · exact this
theorem rRep_len (l : List Fx) (sp : Int) : (rRep l sp).length ≤ l.length - 1 + 1 := by
  unfold rRep
  split
  · simp
  · exact repR_len l sp
theorem rJ_len (l m : List Fx) : (rJ l m).length ≤ l.length + m.length := by
  unfold rJ jRes
  split
  · simp
  · split
    · simp
    · rw [List.length_append]; omega
theorem bne_of_beq {a : Int} (h : (a == 0) = false) : (a != 0) = true := by
  rw [bne, h]
  rfl
theorem nbne_of_beq {a : Int} (h : (a == 0) = true) : ¬ (a != 0) = true := by
  rw [bne, h]
  exact Bool.false_ne_true
def mdB (g : List GS) (l : List (Nat × AV)) (c : List AV) : Option (List GS × AS) := some (g ++ [.keep (l.map (·.1)) [1], .bound 2], ⟨l, [(1, .box c)], 2⟩)
def sp10 (l m : List Fx) (k0 k1 : Int) : Nat → List AV → Option AV
  | 13, _ => some (.bool true)
  | 26, [.sl _ rows] => some (.bool (decide (rows.length ≤ 17)))
  | 29, [.sl _ rows] => some (.sl 5 rows)
  | 56, _ => some (.tup [.agg (rA6 l k0), .i (chkAt l k0)])
  | 39, _ => some (.tup [.sl 5 ((rRep l k1).map encFx), .i (chkRep l k1)])
  | 71, _ => some (.tup [.sl 5 ((rJ l m).map encFx), .i (chkJ l m)])
  | 33, [.sl _ rows] => some (.i (sTrackR (trkS rows)))
  | 19, [.int _ p] => some (.i (sWithin p 1 1000))
  | 72, _ => some (.i (sWhen (outT l k0) 7))
  | 73, _ => some (.agg (rA6 l k0))
  | 74, _ => some (.tup [.sl 5 ((repR l k1).map encFx), .i (repE l k1)])
  | 75, _ => some (.tup [.sl 5 ((jRes l m).map encFx), .i (jChk l m)])
  | 76, [.sl _ rows] => some (.i (sTrackS (trkS rows)))
  | 24, [.sl _ rows] => some (.sl 5 rows)
  | 23, _ => some (.bool true)
  | n, w => spR n w
def b10 (l m : List Fx) (k0 k1 : Int) : List (Nat × AV) := [(0, .sl 5 (l.map encFx)), (1, .sl 5 (m.map encFx)), (5, .elt 2 [[.i k0, .i k1]] 0 0), (6, .bool false)]
def w10 (l m : List Fx) (k0 k1 : Int) : List (Nat × AV) := [(7, .elt 6 [rA6 l k0] 0 0), (8, .i (chkAt l k0)), (9, .sl 5 ((rRep l k1).map encFx)), (10, .i (chkRep l k1)), (11, .sl 5 ((rJ l m).map encFx)), (12, .i (chkJ l m)), (13, .i (sTrackR l))]
def y10 (a b c : Int) : List (Nat × AV) := [(14, .i a), (15, .i b), (16, .i c)]
def m10 (l m : List Fx) (k0 k1 : Int) : List (Option (List GS × AS)) :=
  let B := b10 l m k0 k1
  let W := w10 l m k0 k1
  let e2 := sFirst [sTrackR l, sWithin k1 1 1000]
  let e3 := sFirst [sTrackR l, sTrackR m]
  let z : List AV := [.i 0, .i 0, .i 0, .i 0, .i 0, .i 0]
  let n : List (Nat × AV) := [(18, .sl 5 []), (19, .sl 5 [])]
  let C := B ++ W ++ [(17, .ptr 1 0)]
  let n1 : List (Nat × AV) := [(18, .sl 5 ((rRep l k1).map encFx)), (19, .sl 5 [])]
  let n2 : List (Nat × AV) := [(18, .sl 5 ((rRep l k1).map encFx)), (19, .sl 5 ((rJ l m).map encFx))]
  [md [] B, md [] (B ++ [(27, .bool false)]), md [] B, md [] (B ++ W.take 2), md [] (B ++ W.take 4), md [] (B ++ W.take 6), md [] (B ++ W), md [] (B ++ W ++ y10 (sTrackR l) e2 e3),
   mdB [.reno 17 1] (C ++ y10 (sTrackR l) e2 e3) z,
   mdB [.nil 18 5, .nil 19 5] (C ++ y10 (sTrackR l) e2 e3 ++ n) z,
   mdB [] (C ++ y10 (sTrackR l) e2 e3 ++ n ++ [(68, .bool (sTrackR l == 0))]) z,
   mdB [] (C ++ y10 (chkAt l k0) e2 e3 ++ n) z,
   mdB [] (C ++ y10 (chkAt l k0) e2 e3 ++ n ++ [(74, .bool (chkAt l k0 == 0))]) z,
   mdB [] (C ++ y10 (chkAt l k0) e2 e3 ++ n) (rA6 l k0),
   mdB [] (C ++ y10 (chkAt l k0) e2 e3 ++ n ++ [(80, .bool (e2 == 0))]) (rA6 l k0),
   mdB [] (C ++ y10 (chkAt l k0) (chkRep l k1) e3 ++ n1) (rA6 l k0),
   mdB [] (C ++ y10 (chkAt l k0) (chkRep l k1) e3 ++ n1 ++ [(89, .bool (e3 == 0))]) (rA6 l k0),
   mdB [] (C ++ y10 (chkAt l k0) (chkRep l k1) (chkJ l m) ++ n2) (rA6 l k0)]
def f10 (l m : List Fx) (k0 k1 : Int) : List (Option (List GS × AS)) := [md [] (b10 l m k0 k1), md [] (b10 l m k0 k1 ++ [(27, .bool true)])]
def cl10 : Operand → Bool
  | .tmp t => t.beq 27
  | _ => false
def rds10 : List (Nat × Nat × (List AV → Option AV)) := [(18, 4, rdT), (18, 8, rdT), (18, 13, rdT), (18, 24, rdT), (18, 35, rdT)]
def B10 (l m : List Fx) (k0 k1 : Int) (r : List (Nat × Nat × (List AV → Option AV))) : BA := { noSym 1 (noSym 18 (fzB (mkB (sp10 l m k0 k1) 10 (r ++ rds10) noLa))) with cl := cl10 }
theorem c10_0 (l m : List Fx) (k0 k1 : Int) (hA : PCall Tryz.prog G0 13 [] (.bool true)) (h0 : (!decide (l.length ≤ 17)) = true) : PCall Tryz.prog G0 10 [.sl 5 (l.map encFx), .sl 5 (m.map encFx), .agg [.i k0, .i k1]] (.bool true) := by
  have key :
   AS.mk [(0, AV.sl 5 (List.map encFx l)), (1, AV.sl 5 (List.map encFx m)), (5, AV.elt 2 [[AV.i k0, AV.i k1]] 0 0), (6, AV.bool false)] [] 1 = AS.mk [(0, AV.sl 5 (List.map encFx l)), (1, AV.sl 5 (List.map encFx m)), (5, AV.elt 2
   [[AV.i k0, AV.i k1]] 0 0), (6, AV.bool false)] [] 1 ∧ ((true = false → false = true) ∧ PCall Tryz.prog G0 26 [AV.sl 5 (List.map encFx l)] (AV.bool (decide ((List.map encFx l).length ≤ 17))) ∧ (AV.bool !decide ((List.map encFx
   l).length ≤ 17)) = AV.bool true ∧ AS.mk [(0, AV.sl 5 (List.map encFx l)), (1, AV.sl 5 (List.map encFx m)), (5, AV.elt 2 [[AV.i k0, AV.i k1]] 0 0), (6, AV.bool false), (27, AV.bool true)] [] 1 = AS.mk [(0, AV.sl 5 (List.map encFx
   l)), (1, AV.sl 5 (List.map encFx m)), (5, AV.elt 2 [[AV.i k0, AV.i k1]] 0 0), (6, AV.bool false), (27, AV.bool true)] [] 1) ∧ PCall Tryz.prog G0 13 [] (AV.bool true) ∧ AV.bool true = AV.bool true := by
    exact ⟨rfl, ⟨(fun h => by cases h), by rw [List.length_map]; exact c26 l, by rw [List.length_map]; exact congrArg AV.bool h0, rfl⟩, hA, rfl⟩
  exact c_ofG Tryz.f10 (B10 l m k0 k1 [(1, 2, rdT)]) (f10 l m k0 k1) (by kernel_rfl) (by kernel_rfl) (by kernel_rfl) (by kernel_rfl) key (by kernel_rfl)
theorem c10_1 (l m : List Fx) (k0 k1 : Int) (hA : PCall Tryz.prog G0 13 [] (.bool true)) (h0 : (!decide (l.length ≤ 17)) = false) (h1 : (!decide (m.length ≤ 17)) = true) : PCall Tryz.prog G0 10 [.sl 5 (l.map encFx), .sl 5 (m.map encFx), .agg [.i k0, .i k1]] (.bool true) := by
  have key :
   AS.mk [(0, AV.sl 5 (List.map encFx l)), (1, AV.sl 5 (List.map encFx m)), (5, AV.elt 2 [[AV.i k0, AV.i k1]] 0 0), (6, AV.bool false)] [] 1 = AS.mk [(0, AV.sl 5 (List.map encFx l)), (1, AV.sl 5 (List.map encFx m)), (5, AV.elt 2
   [[AV.i k0, AV.i k1]] 0 0), (6, AV.bool false)] [] 1 ∧ (PCall Tryz.prog G0 26 [AV.sl 5 (List.map encFx l)] (AV.bool (decide ((List.map encFx l).length ≤ 17))) ∧ (AV.bool !decide ((List.map encFx l).length ≤ 17)) = AV.bool false ∧
   PCall Tryz.prog G0 26 [AV.sl 5 (List.map encFx m)] (AV.bool (decide ((List.map encFx m).length ≤ 17))) ∧ (AV.bool !decide ((List.map encFx m).length ≤ 17)) = AV.bool true ∧ AS.mk [(0, AV.sl 5 (List.map encFx l)), (1, AV.sl 5
   (List.map encFx m)), (5, AV.elt 2 [[AV.i k0, AV.i k1]] 0 0), (6, AV.bool false), (27, AV.bool true)] [] 1 = AS.mk [(0, AV.sl 5 (List.map encFx l)), (1, AV.sl 5 (List.map encFx m)), (5, AV.elt 2 [[AV.i k0, AV.i k1]] 0 0), (6,
   AV.bool false), (27, AV.bool true)] [] 1) ∧ PCall Tryz.prog G0 13 [] (AV.bool true) ∧ AV.bool true = AV.bool true := by
    exact ⟨rfl, ⟨by rw [List.length_map]; exact c26 l, by rw [List.length_map]; exact congrArg AV.bool h0, by rw [List.length_map]; exact c26 m, by rw [List.length_map]; exact congrArg AV.bool h1, rfl⟩, hA, rfl⟩
  exact c_ofG Tryz.f10 (B10 l m k0 k1 [(1, 2, rdF), (1, 6, rdT)]) (f10 l m k0 k1) (by kernel_rfl) (by kernel_rfl) (by kernel_rfl) (by kernel_rfl) key (by kernel_rfl)
theorem c10_ok (l m : List Fx) (k0 k1 : Int) (hA : PCall Tryz.prog G0 13 [] (.bool true)) (h0 : (!decide (l.length ≤ 17)) = false) (h1 : (!decide (m.length ≤ 17)) = false) : PCall Tryz.prog G0 10 [.sl 5 (l.map encFx), .sl 5 (m.map encFx), .agg [.i k0, .i k1]] (.bool true) := by
  have key :
   AS.mk [(0, AV.sl 5 (List.map encFx l)), (1, AV.sl 5 (List.map encFx m)), (5, AV.elt 2 [[AV.i k0, AV.i k1]] 0 0), (6, AV.bool false)] [] 1 = AS.mk [(0, AV.sl 5 (List.map encFx l)), (1, AV.sl 5 (List.map encFx m)), (5, AV.elt 2
   [[AV.i k0, AV.i k1]] 0 0), (6, AV.bool false)] [] 1 ∧ (PCall Tryz.prog G0 26 [AV.sl 5 (List.map encFx l)] (AV.bool (decide ((List.map encFx l).length ≤ 17))) ∧ (AV.bool !decide ((List.map encFx l).length ≤ 17)) = AV.bool false ∧
   PCall Tryz.prog G0 26 [AV.sl 5 (List.map encFx m)] (AV.bool (decide ((List.map encFx m).length ≤ 17))) ∧ (AV.bool !decide ((List.map encFx m).length ≤ 17)) = AV.bool false ∧ AS.mk [(0, AV.sl 5 (List.map encFx l)), (1, AV.sl 5
   (List.map encFx m)), (5, AV.elt 2 [[AV.i k0, AV.i k1]] 0 0), (6, AV.bool false), (27, AV.bool false)] [] 1 = AS.mk [(0, AV.sl 5 (List.map encFx l)), (1, AV.sl 5 (List.map encFx m)), (5, AV.elt 2 [[AV.i k0, AV.i k1]] 0 0), (6,
   AV.bool false), (27, AV.bool false)] [] 1) ∧ AS.mk [(0, AV.sl 5 (List.map encFx l)), (1, AV.sl 5 (List.map encFx m)), (5, AV.elt 2 [[AV.i k0, AV.i k1]] 0 0), (6, AV.bool false)] [] 1 = AS.mk [(0, AV.sl 5 (List.map encFx l)), (1,
   AV.sl 5 (List.map encFx m)), (5, AV.elt 2 [[AV.i k0, AV.i k1]] 0 0), (6, AV.bool false)] [] 1 ∧ ((0 : Int) ≤ 0 ∧ (0 : Int) < (↑2 : Int) ∧ PCall Tryz.prog G0 29 [AV.sl 5 (List.map encFx l)] (AV.sl 5 (List.map encFx l)) ∧ PCall
   Tryz.prog G0 56 [AV.sl 5 (List.map encFx l), AV.i k0] (AV.tup [AV.agg [AV.i (rA l k0 0), AV.i (rA l k0 1), AV.i (rA l k0 2), AV.i (rA l k0 3), AV.i (rA l k0 4), AV.i (rA l k0 5)], AV.i (chkAt l k0)]) ∧ AS.mk [(0, AV.sl 5 (List.map
   encFx l)), (1, AV.sl 5 (List.map encFx m)), (5, AV.elt 2 [[AV.i k0, AV.i k1]] 0 0), (6, AV.bool false), (7, AV.elt 6 [[AV.i (rA l k0 0), AV.i (rA l k0 1), AV.i (rA l k0 2), AV.i (rA l k0 3), AV.i (rA l k0 4), AV.i (rA l k0 5)]] 0
   0), (8, AV.i (chkAt l k0))] [] 1 = AS.mk [(0, AV.sl 5 (List.map encFx l)), (1, AV.sl 5 (List.map encFx m)), (5, AV.elt 2 [[AV.i k0, AV.i k1]] 0 0), (6, AV.bool false), (7, AV.elt 6 [[AV.i (rA l k0 0), AV.i (rA l k0 1), AV.i (rA l
   k0 2), AV.i (rA l k0 3), AV.i (rA l k0 4), AV.i (rA l k0 5)]] 0 0), (8, AV.i (chkAt l k0))] [] 1) ∧ ((0 : Int) ≤ 1 ∧ (1 : Int) < (↑2 : Int) ∧ PCall Tryz.prog G0 29 [AV.sl 5 (List.map encFx l)] (AV.sl 5 (List.map encFx l)) ∧ PCall
   Tryz.prog G0 39 [AV.sl 5 (List.map encFx l), AV.i k1] (AV.tup [AV.sl 5 (List.map encFx (rRep l k1)), AV.i (chkRep l k1)]) ∧ AS.mk [(0, AV.sl 5 (List.map encFx l)), (1, AV.sl 5 (List.map encFx m)), (5, AV.elt 2 [[AV.i k0, AV.i k1]]
   0 0), (6, AV.bool false), (7, AV.elt 6 [[AV.i (rA l k0 0), AV.i (rA l k0 1), AV.i (rA l k0 2), AV.i (rA l k0 3), AV.i (rA l k0 4), AV.i (rA l k0 5)]] 0 0), (8, AV.i (chkAt l k0)), (9, AV.sl 5 (List.map encFx (rRep l k1))), (10,
   AV.i (chkRep l k1))] [] 1 = AS.mk [(0, AV.sl 5 (List.map encFx l)), (1, AV.sl 5 (List.map encFx m)), (5, AV.elt 2 [[AV.i k0, AV.i k1]] 0 0), (6, AV.bool false), (7, AV.elt 6 [[AV.i (rA l k0 0), AV.i (rA l k0 1), AV.i (rA l k0 2),
   AV.i (rA l k0 3), AV.i (rA l k0 4), AV.i (rA l k0 5)]] 0 0), (8, AV.i (chkAt l k0)), (9, AV.sl 5 (List.map encFx (rRep l k1))), (10, AV.i (chkRep l k1))] [] 1) ∧ (PCall Tryz.prog G0 29 [AV.sl 5 (List.map encFx l)] (AV.sl 5
   (List.map encFx l)) ∧ PCall Tryz.prog G0 29 [AV.sl 5 (List.map encFx m)] (AV.sl 5 (List.map encFx m)) ∧ PCall Tryz.prog G0 71 [AV.sl 5 (List.map encFx l), AV.sl 5 (List.map encFx m)] (AV.tup [AV.sl 5 (List.map encFx (rJ l m)), AV.i
   (chkJ l m)]) ∧ AS.mk [(0, AV.sl 5 (List.map encFx l)), (1, AV.sl 5 (List.map encFx m)), (5, AV.elt 2 [[AV.i k0, AV.i k1]] 0 0), (6, AV.bool false), (7, AV.elt 6 [[AV.i (rA l k0 0), AV.i (rA l k0 1), AV.i (rA l k0 2), AV.i (rA l k0
   3), AV.i (rA l k0 4), AV.i (rA l k0 5)]] 0 0), (8, AV.i (chkAt l k0)), (9, AV.sl 5 (List.map encFx (rRep l k1))), (10, AV.i (chkRep l k1)), (11, AV.sl 5 (List.map encFx (rJ l m))), (12, AV.i (chkJ l m))] [] 1 = AS.mk [(0, AV.sl 5
   (List.map encFx l)), (1, AV.sl 5 (List.map encFx m)), (5, AV.elt 2 [[AV.i k0, AV.i k1]] 0 0), (6, AV.bool false), (7, AV.elt 6 [[AV.i (rA l k0 0), AV.i (rA l k0 1), AV.i (rA l k0 2), AV.i (rA l k0 3), AV.i (rA l k0 4), AV.i (rA l
   k0 5)]] 0 0), (8, AV.i (chkAt l k0)), (9, AV.sl 5 (List.map encFx (rRep l k1))), (10, AV.i (chkRep l k1)), (11, AV.sl 5 (List.map encFx (rJ l m))), (12, AV.i (chkJ l m))] [] 1) ∧ (PCall Tryz.prog G0 33 [AV.sl 5 (List.map encFx l)]
   (AV.i (sTrackR (trkS (List.map encFx l)))) ∧ AS.mk [(0, AV.sl 5 (List.map encFx l)), (1, AV.sl 5 (List.map encFx m)), (5, AV.elt 2 [[AV.i k0, AV.i k1]] 0 0), (6, AV.bool false), (7, AV.elt 6 [[AV.i (rA l k0 0), AV.i (rA l k0 1),
   AV.i (rA l k0 2), AV.i (rA l k0 3), AV.i (rA l k0 4), AV.i (rA l k0 5)]] 0 0), (8, AV.i (chkAt l k0)), (9, AV.sl 5 (List.map encFx (rRep l k1))), (10, AV.i (chkRep l k1)), (11, AV.sl 5 (List.map encFx (rJ l m))), (12, AV.i (chkJ l
   m)), (13, AV.i (sTrackR (trkS (List.map encFx l))))] [] 1 = AS.mk [(0, AV.sl 5 (List.map encFx l)), (1, AV.sl 5 (List.map encFx m)), (5, AV.elt 2 [[AV.i k0, AV.i k1]] 0 0), (6, AV.bool false), (7, AV.elt 6 [[AV.i (rA l k0 0), AV.i
   (rA l k0 1), AV.i (rA l k0 2), AV.i (rA l k0 3), AV.i (rA l k0 4), AV.i (rA l k0 5)]] 0 0), (8, AV.i (chkAt l k0)), (9, AV.sl 5 (List.map encFx (rRep l k1))), (10, AV.i (chkRep l k1)), (11, AV.sl 5 (List.map encFx (rJ l m))), (12,
   AV.i (chkJ l m)), (13, AV.i (sTrackR l))] [] 1) ∧ ((0 : Int) ≤ 1 ∧ (1 : Int) < (↑2 : Int) ∧ PCall Tryz.prog G0 19 [AV.i k1] (AV.i (sWithin k1 (1 : Int) (1000 : Int))) ∧ PCall Tryz.prog G0 16 [AV.sl 1 [[AV.i (sTrackR l)], [AV.i
   (sWithin k1 (1 : Int) (1000 : Int))]]] (AV.i (sFirst [hdI [AV.i (sTrackR l)], hdI [AV.i (sWithin k1 (1 : Int) (1000 : Int))]])) ∧ PCall Tryz.prog G0 33 [AV.sl 5 (List.map encFx m)] (AV.i (sTrackR (trkS (List.map encFx m)))) ∧ PCall
   Tryz.prog G0 16 [AV.sl 1 [[AV.i (sTrackR l)], [AV.i (sTrackR (trkS (List.map encFx m)))]]] (AV.i (sFirst [hdI [AV.i (sTrackR l)], hdI [AV.i (sTrackR (trkS (List.map encFx m)))]])) ∧ AS.mk [(0, AV.sl 5 (List.map encFx l)), (1, AV.sl
   5 (List.map encFx m)), (5, AV.elt 2 [[AV.i k0, AV.i k1]] 0 0), (6, AV.bool false), (7, AV.elt 6 [[AV.i (rA l k0 0), AV.i (rA l k0 1), AV.i (rA l k0 2), AV.i (rA l k0 3), AV.i (rA l k0 4), AV.i (rA l k0 5)]] 0 0), (8, AV.i (chkAt l
   k0)), (9, AV.sl 5 (List.map encFx (rRep l k1))), (10, AV.i (chkRep l k1)), (11, AV.sl 5 (List.map encFx (rJ l m))), (12, AV.i (chkJ l m)), (13, AV.i (sTrackR l)), (14, AV.i (sTrackR l)), (15, AV.i (sFirst [hdI [AV.i (sTrackR l)],
   hdI [AV.i (sWithin k1 (1 : Int) (1000 : Int))]])), (16, AV.i (sFirst [hdI [AV.i (sTrackR l)], hdI [AV.i (sTrackR (trkS (List.map encFx m)))]]))] [] 1 = AS.mk [(0, AV.sl 5 (List.map encFx l)), (1, AV.sl 5 (List.map encFx m)), (5,
   AV.elt 2 [[AV.i k0, AV.i k1]] 0 0), (6, AV.bool false), (7, AV.elt 6 [[AV.i (rA l k0 0), AV.i (rA l k0 1), AV.i (rA l k0 2), AV.i (rA l k0 3), AV.i (rA l k0 4), AV.i (rA l k0 5)]] 0 0), (8, AV.i (chkAt l k0)), (9, AV.sl 5 (List.map
   encFx (rRep l k1))), (10, AV.i (chkRep l k1)), (11, AV.sl 5 (List.map encFx (rJ l m))), (12, AV.i (chkJ l m)), (13, AV.i (sTrackR l)), (14, AV.i (sTrackR l)), (15, AV.i (sFirst [sTrackR l, sWithin k1 (1 : Int) (1000 : Int)])), (16,
   AV.i (sFirst [sTrackR l, sTrackR m]))] [] 1) ∧ AS.mk [(0, AV.sl 5 (List.map encFx l)), (1, AV.sl 5 (List.map encFx m)), (5, AV.elt 2 [[AV.i k0, AV.i k1]] 0 0), (6, AV.bool false), (7, AV.elt 6 [[AV.i (rA l k0 0), AV.i (rA l k0 1),
   AV.i (rA l k0 2), AV.i (rA l k0 3), AV.i (rA l k0 4), AV.i (rA l k0 5)]] 0 0), (8, AV.i (chkAt l k0)), (9, AV.sl 5 (List.map encFx (rRep l k1))), (10, AV.i (chkRep l k1)), (11, AV.sl 5 (List.map encFx (rJ l m))), (12, AV.i (chkJ l
   m)), (13, AV.i (sTrackR l)), (17, AV.ptr 1 0), (14, AV.i (sTrackR l)), (15, AV.i (sFirst [sTrackR l, sWithin k1 (1 : Int) (1000 : Int)])), (16, AV.i (sFirst [sTrackR l, sTrackR m]))] [(1, ABlk.box [AV.i 0, AV.i 0, AV.i 0, AV.i 0,
   AV.i 0, AV.i 0])] 2 = AS.mk [(0, AV.sl 5 (List.map encFx l)), (1, AV.sl 5 (List.map encFx m)), (5, AV.elt 2 [[AV.i k0, AV.i k1]] 0 0), (6, AV.bool false), (7, AV.elt 6 [[AV.i (rA l k0 0), AV.i (rA l k0 1), AV.i (rA l k0 2), AV.i
   (rA l k0 3), AV.i (rA l k0 4), AV.i (rA l k0 5)]] 0 0), (8, AV.i (chkAt l k0)), (9, AV.sl 5 (List.map encFx (rRep l k1))), (10, AV.i (chkRep l k1)), (11, AV.sl 5 (List.map encFx (rJ l m))), (12, AV.i (chkJ l m)), (13, AV.i (sTrackR
   l)), (17, AV.ptr 1 0), (14, AV.i (sTrackR l)), (15, AV.i (sFirst [sTrackR l, sWithin k1 (1 : Int) (1000 : Int)])), (16, AV.i (sFirst [sTrackR l, sTrackR m]))] [(1, ABlk.box [AV.i 0, AV.i 0, AV.i 0, AV.i 0, AV.i 0, AV.i 0])] 2 ∧
   AS.mk [(0, AV.sl 5 (List.map encFx l)), (1, AV.sl 5 (List.map encFx m)), (5, AV.elt 2 [[AV.i k0, AV.i k1]] 0 0), (6, AV.bool false), (7, AV.elt 6 [[AV.i (rA l k0 0), AV.i (rA l k0 1), AV.i (rA l k0 2), AV.i (rA l k0 3), AV.i (rA l
   k0 4), AV.i (rA l k0 5)]] 0 0), (8, AV.i (chkAt l k0)), (9, AV.sl 5 (List.map encFx (rRep l k1))), (10, AV.i (chkRep l k1)), (11, AV.sl 5 (List.map encFx (rJ l m))), (12, AV.i (chkJ l m)), (13, AV.i (sTrackR l)), (17, AV.ptr 1 0),
   (14, AV.i (sTrackR l)), (15, AV.i (sFirst [sTrackR l, sWithin k1 (1 : Int) (1000 : Int)])), (16, AV.i (sFirst [sTrackR l, sTrackR m])), (18, AV.sl 5 []), (19, AV.sl 5 [])] [(1, ABlk.box [AV.i 0, AV.i 0, AV.i 0, AV.i 0, AV.i 0, AV.i
   0])] 2 = AS.mk [(0, AV.sl 5 (List.map encFx l)), (1, AV.sl 5 (List.map encFx m)), (5, AV.elt 2 [[AV.i k0, AV.i k1]] 0 0), (6, AV.bool false), (7, AV.elt 6 [[AV.i (rA l k0 0), AV.i (rA l k0 1), AV.i (rA l k0 2), AV.i (rA l k0 3),
   AV.i (rA l k0 4), AV.i (rA l k0 5)]] 0 0), (8, AV.i (chkAt l k0)), (9, AV.sl 5 (List.map encFx (rRep l k1))), (10, AV.i (chkRep l k1)), (11, AV.sl 5 (List.map encFx (rJ l m))), (12, AV.i (chkJ l m)), (13, AV.i (sTrackR l)), (17,
   AV.ptr 1 0), (14, AV.i (sTrackR l)), (15, AV.i (sFirst [sTrackR l, sWithin k1 (1 : Int) (1000 : Int)])), (16, AV.i (sFirst [sTrackR l, sTrackR m])), (18, AV.sl 5 []), (19, AV.sl 5 [])] [(1, ABlk.box [AV.i 0, AV.i 0, AV.i 0, AV.i 0,
   AV.i 0, AV.i 0])] 2 ∧ AS.mk [(0, AV.sl 5 (List.map encFx l)), (1, AV.sl 5 (List.map encFx m)), (5, AV.elt 2 [[AV.i k0, AV.i k1]] 0 0), (6, AV.bool false), (7, AV.elt 6 [[AV.i (rA l k0 0), AV.i (rA l k0 1), AV.i (rA l k0 2), AV.i
   (rA l k0 3), AV.i (rA l k0 4), AV.i (rA l k0 5)]] 0 0), (8, AV.i (chkAt l k0)), (9, AV.sl 5 (List.map encFx (rRep l k1))), (10, AV.i (chkRep l k1)), (11, AV.sl 5 (List.map encFx (rJ l m))), (12, AV.i (chkJ l m)), (13, AV.i (sTrackR
   l)), (17, AV.ptr 1 0), (14, AV.i (sTrackR l)), (15, AV.i (sFirst [sTrackR l, sWithin k1 (1 : Int) (1000 : Int)])), (16, AV.i (sFirst [sTrackR l, sTrackR m])), (18, AV.sl 5 []), (19, AV.sl 5 []), (68, AV.bool (sTrackR l == 0))] [(1,
   ABlk.box [AV.i 0, AV.i 0, AV.i 0, AV.i 0, AV.i 0, AV.i 0])] 2 = AS.mk [(0, AV.sl 5 (List.map encFx l)), (1, AV.sl 5 (List.map encFx m)), (5, AV.elt 2 [[AV.i k0, AV.i k1]] 0 0), (6, AV.bool false), (7, AV.elt 6 [[AV.i (rA l k0 0),
   AV.i (rA l k0 1), AV.i (rA l k0 2), AV.i (rA l k0 3), AV.i (rA l k0 4), AV.i (rA l k0 5)]] 0 0), (8, AV.i (chkAt l k0)), (9, AV.sl 5 (List.map encFx (rRep l k1))), (10, AV.i (chkRep l k1)), (11, AV.sl 5 (List.map encFx (rJ l m))),
   (12, AV.i (chkJ l m)), (13, AV.i (sTrackR l)), (17, AV.ptr 1 0), (14, AV.i (sTrackR l)), (15, AV.i (sFirst [sTrackR l, sWithin k1 (1 : Int) (1000 : Int)])), (16, AV.i (sFirst [sTrackR l, sTrackR m])), (18, AV.sl 5 []), (19, AV.sl 5
   []), (68, AV.bool (sTrackR l == 0))] [(1, ABlk.box [AV.i 0, AV.i 0, AV.i 0, AV.i 0, AV.i 0, AV.i 0])] 2 ∧ (((sTrackR l == 0) = true → (0 : Int) ≤ 0 ∧ (0 : Int) < (↑2 : Int) ∧ PCall Tryz.prog G0 72 [AV.sl 5 (List.map encFx l), AV.i
   k0] (AV.i (sWhen (outT l k0) (7 : Int))) ∧ AS.mk [(0, AV.sl 5 (List.map encFx l)), (1, AV.sl 5 (List.map encFx m)), (5, AV.elt 2 [[AV.i k0, AV.i k1]] 0 0), (6, AV.bool false), (7, AV.elt 6 [[AV.i (rA l k0 0), AV.i (rA l k0 1), AV.i
   (rA l k0 2), AV.i (rA l k0 3), AV.i (rA l k0 4), AV.i (rA l k0 5)]] 0 0), (8, AV.i (chkAt l k0)), (9, AV.sl 5 (List.map encFx (rRep l k1))), (10, AV.i (chkRep l k1)), (11, AV.sl 5 (List.map encFx (rJ l m))), (12, AV.i (chkJ l m)),
   (13, AV.i (sTrackR l)), (17, AV.ptr 1 0), (14, AV.i (sWhen (outT l k0) (7 : Int))), (15, AV.i (sFirst [sTrackR l, sWithin k1 (1 : Int) (1000 : Int)])), (16, AV.i (sFirst [sTrackR l, sTrackR m])), (18, AV.sl 5 []), (19, AV.sl 5 [])]
   [(1, ABlk.box [AV.i 0, AV.i 0, AV.i 0, AV.i 0, AV.i 0, AV.i 0])] 2 = AS.mk [(0, AV.sl 5 (List.map encFx l)), (1, AV.sl 5 (List.map encFx m)), (5, AV.elt 2 [[AV.i k0, AV.i k1]] 0 0), (6, AV.bool false), (7, AV.elt 6 [[AV.i (rA l k0
   0), AV.i (rA l k0 1), AV.i (rA l k0 2), AV.i (rA l k0 3), AV.i (rA l k0 4), AV.i (rA l k0 5)]] 0 0), (8, AV.i (chkAt l k0)), (9, AV.sl 5 (List.map encFx (rRep l k1))), (10, AV.i (chkRep l k1)), (11, AV.sl 5 (List.map encFx (rJ l
   m))), (12, AV.i (chkJ l m)), (13, AV.i (sTrackR l)), (17, AV.ptr 1 0), (14, AV.i (chkAt l k0)), (15, AV.i (sFirst [sTrackR l, sWithin k1 (1 : Int) (1000 : Int)])), (16, AV.i (sFirst [sTrackR l, sTrackR m])), (18, AV.sl 5 []), (19,
   AV.sl 5 [])] [(1, ABlk.box [AV.i 0, AV.i 0, AV.i 0, AV.i 0, AV.i 0, AV.i 0])] 2) ∧ ((sTrackR l == 0) = false → AS.mk [(0, AV.sl 5 (List.map encFx l)), (1, AV.sl 5 (List.map encFx m)), (5, AV.elt 2 [[AV.i k0, AV.i k1]] 0 0), (6,
   AV.bool false), (7, AV.elt 6 [[AV.i (rA l k0 0), AV.i (rA l k0 1), AV.i (rA l k0 2), AV.i (rA l k0 3), AV.i (rA l k0 4), AV.i (rA l k0 5)]] 0 0), (8, AV.i (chkAt l k0)), (9, AV.sl 5 (List.map encFx (rRep l k1))), (10, AV.i (chkRep
   l k1)), (11, AV.sl 5 (List.map encFx (rJ l m))), (12, AV.i (chkJ l m)), (13, AV.i (sTrackR l)), (17, AV.ptr 1 0), (14, AV.i (sTrackR l)), (15, AV.i (sFirst [sTrackR l, sWithin k1 (1 : Int) (1000 : Int)])), (16, AV.i (sFirst
   [sTrackR l, sTrackR m])), (18, AV.sl 5 []), (19, AV.sl 5 [])] [(1, ABlk.box [AV.i 0, AV.i 0, AV.i 0, AV.i 0, AV.i 0, AV.i 0])] 2 = AS.mk [(0, AV.sl 5 (List.map encFx l)), (1, AV.sl 5 (List.map encFx m)), (5, AV.elt 2 [[AV.i k0,
   AV.i k1]] 0 0), (6, AV.bool false), (7, AV.elt 6 [[AV.i (rA l k0 0), AV.i (rA l k0 1), AV.i (rA l k0 2), AV.i (rA l k0 3), AV.i (rA l k0 4), AV.i (rA l k0 5)]] 0 0), (8, AV.i (chkAt l k0)), (9, AV.sl 5 (List.map encFx (rRep l
   k1))), (10, AV.i (chkRep l k1)), (11, AV.sl 5 (List.map encFx (rJ l m))), (12, AV.i (chkJ l m)), (13, AV.i (sTrackR l)), (17, AV.ptr 1 0), (14, AV.i (chkAt l k0)), (15, AV.i (sFirst [sTrackR l, sWithin k1 (1 : Int) (1000 : Int)])),
   (16, AV.i (sFirst [sTrackR l, sTrackR m])), (18, AV.sl 5 []), (19, AV.sl 5 [])] [(1, ABlk.box [AV.i 0, AV.i 0, AV.i 0, AV.i 0, AV.i 0, AV.i 0])] 2)) ∧ AS.mk [(0, AV.sl 5 (List.map encFx l)), (1, AV.sl 5 (List.map encFx m)), (5,
   AV.elt 2 [[AV.i k0, AV.i k1]] 0 0), (6, AV.bool false), (7, AV.elt 6 [[AV.i (rA l k0 0), AV.i (rA l k0 1), AV.i (rA l k0 2), AV.i (rA l k0 3), AV.i (rA l k0 4), AV.i (rA l k0 5)]] 0 0), (8, AV.i (chkAt l k0)), (9, AV.sl 5 (List.map
   encFx (rRep l k1))), (10, AV.i (chkRep l k1)), (11, AV.sl 5 (List.map encFx (rJ l m))), (12, AV.i (chkJ l m)), (13, AV.i (sTrackR l)), (17, AV.ptr 1 0), (14, AV.i (chkAt l k0)), (15, AV.i (sFirst [sTrackR l, sWithin k1 (1 : Int)
   (1000 : Int)])), (16, AV.i (sFirst [sTrackR l, sTrackR m])), (18, AV.sl 5 []), (19, AV.sl 5 []), (74, AV.bool (chkAt l k0 == 0))] [(1, ABlk.box [AV.i 0, AV.i 0, AV.i 0, AV.i 0, AV.i 0, AV.i 0])] 2 = AS.mk [(0, AV.sl 5 (List.map
   encFx l)), (1, AV.sl 5 (List.map encFx m)), (5, AV.elt 2 [[AV.i k0, AV.i k1]] 0 0), (6, AV.bool false), (7, AV.elt 6 [[AV.i (rA l k0 0), AV.i (rA l k0 1), AV.i (rA l k0 2), AV.i (rA l k0 3), AV.i (rA l k0 4), AV.i (rA l k0 5)]] 0
   0), (8, AV.i (chkAt l k0)), (9, AV.sl 5 (List.map encFx (rRep l k1))), (10, AV.i (chkRep l k1)), (11, AV.sl 5 (List.map encFx (rJ l m))), (12, AV.i (chkJ l m)), (13, AV.i (sTrackR l)), (17, AV.ptr 1 0), (14, AV.i (chkAt l k0)),
   (15, AV.i (sFirst [sTrackR l, sWithin k1 (1 : Int) (1000 : Int)])), (16, AV.i (sFirst [sTrackR l, sTrackR m])), (18, AV.sl 5 []), (19, AV.sl 5 []), (74, AV.bool (chkAt l k0 == 0))] [(1, ABlk.box [AV.i 0, AV.i 0, AV.i 0, AV.i 0,
   AV.i 0, AV.i 0])] 2 ∧ (((chkAt l k0 == 0) = true → (0 : Int) ≤ 0 ∧ (0 : Int) < (↑2 : Int) ∧ PCall Tryz.prog G0 73 [AV.sl 5 (List.map encFx l), AV.i k0] (AV.agg [AV.i (rA l k0 0), AV.i (rA l k0 1), AV.i (rA l k0 2), AV.i (rA l k0
   3), AV.i (rA l k0 4), AV.i (rA l k0 5)]) ∧ AS.mk [(0, AV.sl 5 (List.map encFx l)), (1, AV.sl 5 (List.map encFx m)), (5, AV.elt 2 [[AV.i k0, AV.i k1]] 0 0), (6, AV.bool false), (7, AV.elt 6 [[AV.i (rA l k0 0), AV.i (rA l k0 1), AV.i
   (rA l k0 2), AV.i (rA l k0 3), AV.i (rA l k0 4), AV.i (rA l k0 5)]] 0 0), (8, AV.i (chkAt l k0)), (9, AV.sl 5 (List.map encFx (rRep l k1))), (10, AV.i (chkRep l k1)), (11, AV.sl 5 (List.map encFx (rJ l m))), (12, AV.i (chkJ l m)),
   (13, AV.i (sTrackR l)), (17, AV.ptr 1 0), (14, AV.i (chkAt l k0)), (15, AV.i (sFirst [sTrackR l, sWithin k1 (1 : Int) (1000 : Int)])), (16, AV.i (sFirst [sTrackR l, sTrackR m])), (18, AV.sl 5 []), (19, AV.sl 5 [])] [(1, ABlk.box
   [AV.i (rA l k0 0), AV.i (rA l k0 1), AV.i (rA l k0 2), AV.i (rA l k0 3), AV.i (rA l k0 4), AV.i (rA l k0 5)])] 2 = AS.mk [(0, AV.sl 5 (List.map encFx l)), (1, AV.sl 5 (List.map encFx m)), (5, AV.elt 2 [[AV.i k0, AV.i k1]] 0 0), (6,
   AV.bool false), (7, AV.elt 6 [[AV.i (rA l k0 0), AV.i (rA l k0 1), AV.i (rA l k0 2), AV.i (rA l k0 3), AV.i (rA l k0 4), AV.i (rA l k0 5)]] 0 0), (8, AV.i (chkAt l k0)), (9, AV.sl 5 (List.map encFx (rRep l k1))), (10, AV.i (chkRep
   l k1)), (11, AV.sl 5 (List.map encFx (rJ l m))), (12, AV.i (chkJ l m)), (13, AV.i (sTrackR l)), (17, AV.ptr 1 0), (14, AV.i (chkAt l k0)), (15, AV.i (sFirst [sTrackR l, sWithin k1 (1 : Int) (1000 : Int)])), (16, AV.i (sFirst
   [sTrackR l, sTrackR m])), (18, AV.sl 5 []), (19, AV.sl 5 [])] [(1, ABlk.box [AV.i (rA l k0 0), AV.i (rA l k0 1), AV.i (rA l k0 2), AV.i (rA l k0 3), AV.i (rA l k0 4), AV.i (rA l k0 5)])] 2) ∧ ((chkAt l k0 == 0) = false → AS.mk [(0,
   AV.sl 5 (List.map encFx l)), (1, AV.sl 5 (List.map encFx m)), (5, AV.elt 2 [[AV.i k0, AV.i k1]] 0 0), (6, AV.bool false), (7, AV.elt 6 [[AV.i (rA l k0 0), AV.i (rA l k0 1), AV.i (rA l k0 2), AV.i (rA l k0 3), AV.i (rA l k0 4), AV.i
   (rA l k0 5)]] 0 0), (8, AV.i (chkAt l k0)), (9, AV.sl 5 (List.map encFx (rRep l k1))), (10, AV.i (chkRep l k1)), (11, AV.sl 5 (List.map encFx (rJ l m))), (12, AV.i (chkJ l m)), (13, AV.i (sTrackR l)), (17, AV.ptr 1 0), (14, AV.i
   (chkAt l k0)), (15, AV.i (sFirst [sTrackR l, sWithin k1 (1 : Int) (1000 : Int)])), (16, AV.i (sFirst [sTrackR l, sTrackR m])), (18, AV.sl 5 []), (19, AV.sl 5 [])] [(1, ABlk.box [AV.i 0, AV.i 0, AV.i 0, AV.i 0, AV.i 0, AV.i 0])] 2 =
   AS.mk [(0, AV.sl 5 (List.map encFx l)), (1, AV.sl 5 (List.map encFx m)), (5, AV.elt 2 [[AV.i k0, AV.i k1]] 0 0), (6, AV.bool false), (7, AV.elt 6 [[AV.i (rA l k0 0), AV.i (rA l k0 1), AV.i (rA l k0 2), AV.i (rA l k0 3), AV.i (rA l
   k0 4), AV.i (rA l k0 5)]] 0 0), (8, AV.i (chkAt l k0)), (9, AV.sl 5 (List.map encFx (rRep l k1))), (10, AV.i (chkRep l k1)), (11, AV.sl 5 (List.map encFx (rJ l m))), (12, AV.i (chkJ l m)), (13, AV.i (sTrackR l)), (17, AV.ptr 1 0),
   (14, AV.i (chkAt l k0)), (15, AV.i (sFirst [sTrackR l, sWithin k1 (1 : Int) (1000 : Int)])), (16, AV.i (sFirst [sTrackR l, sTrackR m])), (18, AV.sl 5 []), (19, AV.sl 5 [])] [(1, ABlk.box [AV.i (rA l k0 0), AV.i (rA l k0 1), AV.i
   (rA l k0 2), AV.i (rA l k0 3), AV.i (rA l k0 4), AV.i (rA l k0 5)])] 2)) ∧ AS.mk [(0, AV.sl 5 (List.map encFx l)), (1, AV.sl 5 (List.map encFx m)), (5, AV.elt 2 [[AV.i k0, AV.i k1]] 0 0), (6, AV.bool false), (7, AV.elt 6 [[AV.i (rA
   l k0 0), AV.i (rA l k0 1), AV.i (rA l k0 2), AV.i (rA l k0 3), AV.i (rA l k0 4), AV.i (rA l k0 5)]] 0 0), (8, AV.i (chkAt l k0)), (9, AV.sl 5 (List.map encFx (rRep l k1))), (10, AV.i (chkRep l k1)), (11, AV.sl 5 (List.map encFx (rJ
   l m))), (12, AV.i (chkJ l m)), (13, AV.i (sTrackR l)), (17, AV.ptr 1 0), (14, AV.i (chkAt l k0)), (15, AV.i (sFirst [sTrackR l, sWithin k1 (1 : Int) (1000 : Int)])), (16, AV.i (sFirst [sTrackR l, sTrackR m])), (18, AV.sl 5 []),
   (19, AV.sl 5 []), (80, AV.bool (sFirst [sTrackR l, sWithin k1 (1 : Int) (1000 : Int)] == 0))] [(1, ABlk.box [AV.i (rA l k0 0), AV.i (rA l k0 1), AV.i (rA l k0 2), AV.i (rA l k0 3), AV.i (rA l k0 4), AV.i (rA l k0 5)])] 2 = AS.mk
   [(0, AV.sl 5 (List.map encFx l)), (1, AV.sl 5 (List.map encFx m)), (5, AV.elt 2 [[AV.i k0, AV.i k1]] 0 0), (6, AV.bool false), (7, AV.elt 6 [[AV.i (rA l k0 0), AV.i (rA l k0 1), AV.i (rA l k0 2), AV.i (rA l k0 3), AV.i (rA l k0 4),
   AV.i (rA l k0 5)]] 0 0), (8, AV.i (chkAt l k0)), (9, AV.sl 5 (List.map encFx (rRep l k1))), (10, AV.i (chkRep l k1)), (11, AV.sl 5 (List.map encFx (rJ l m))), (12, AV.i (chkJ l m)), (13, AV.i (sTrackR l)), (17, AV.ptr 1 0), (14,
   AV.i (chkAt l k0)), (15, AV.i (sFirst [sTrackR l, sWithin k1 (1 : Int) (1000 : Int)])), (16, AV.i (sFirst [sTrackR l, sTrackR m])), (18, AV.sl 5 []), (19, AV.sl 5 []), (80, AV.bool (sFirst [sTrackR l, sWithin k1 (1 : Int) (1000 :
   Int)] == 0))] [(1, ABlk.box [AV.i (rA l k0 0), AV.i (rA l k0 1), AV.i (rA l k0 2), AV.i (rA l k0 3), AV.i (rA l k0 4), AV.i (rA l k0 5)])] 2 ∧ (((sFirst [sTrackR l, sWithin k1 (1 : Int) (1000 : Int)] == 0) = true → (0 : Int) ≤ 1 ∧
   (1 : Int) < (↑2 : Int) ∧ PCall Tryz.prog G0 74 [AV.sl 5 (List.map encFx l), AV.i k1] (AV.tup [AV.sl 5 (List.map encFx (repR l k1)), AV.i (repE l k1)]) ∧ AS.mk [(0, AV.sl 5 (List.map encFx l)), (1, AV.sl 5 (List.map encFx m)), (5,
   AV.elt 2 [[AV.i k0, AV.i k1]] 0 0), (6, AV.bool false), (7, AV.elt 6 [[AV.i (rA l k0 0), AV.i (rA l k0 1), AV.i (rA l k0 2), AV.i (rA l k0 3), AV.i (rA l k0 4), AV.i (rA l k0 5)]] 0 0), (8, AV.i (chkAt l k0)), (9, AV.sl 5 (List.map
   encFx (rRep l k1))), (10, AV.i (chkRep l k1)), (11, AV.sl 5 (List.map encFx (rJ l m))), (12, AV.i (chkJ l m)), (13, AV.i (sTrackR l)), (17, AV.ptr 1 0), (14, AV.i (chkAt l k0)), (15, AV.i (repE l k1)), (16, AV.i (sFirst [sTrackR l,
   sTrackR m])), (18, AV.sl 5 (List.map encFx (repR l k1))), (19, AV.sl 5 [])] [(1, ABlk.box [AV.i (rA l k0 0), AV.i (rA l k0 1), AV.i (rA l k0 2), AV.i (rA l k0 3), AV.i (rA l k0 4), AV.i (rA l k0 5)])] 2 = AS.mk [(0, AV.sl 5
   (List.map encFx l)), (1, AV.sl 5 (List.map encFx m)), (5, AV.elt 2 [[AV.i k0, AV.i k1]] 0 0), (6, AV.bool false), (7, AV.elt 6 [[AV.i (rA l k0 0), AV.i (rA l k0 1), AV.i (rA l k0 2), AV.i (rA l k0 3), AV.i (rA l k0 4), AV.i (rA l
   k0 5)]] 0 0), (8, AV.i (chkAt l k0)), (9, AV.sl 5 (List.map encFx (rRep l k1))), (10, AV.i (chkRep l k1)), (11, AV.sl 5 (List.map encFx (rJ l m))), (12, AV.i (chkJ l m)), (13, AV.i (sTrackR l)), (17, AV.ptr 1 0), (14, AV.i (chkAt l
   k0)), (15, AV.i (chkRep l k1)), (16, AV.i (sFirst [sTrackR l, sTrackR m])), (18, AV.sl 5 (List.map encFx (rRep l k1))), (19, AV.sl 5 [])] [(1, ABlk.box [AV.i (rA l k0 0), AV.i (rA l k0 1), AV.i (rA l k0 2), AV.i (rA l k0 3), AV.i
   (rA l k0 4), AV.i (rA l k0 5)])] 2) ∧ ((sFirst [sTrackR l, sWithin k1 (1 : Int) (1000 : Int)] == 0) = false → AS.mk [(0, AV.sl 5 (List.map encFx l)), (1, AV.sl 5 (List.map encFx m)), (5, AV.elt 2 [[AV.i k0, AV.i k1]] 0 0), (6,
   AV.bool false), (7, AV.elt 6 [[AV.i (rA l k0 0), AV.i (rA l k0 1), AV.i (rA l k0 2), AV.i (rA l k0 3), AV.i (rA l k0 4), AV.i (rA l k0 5)]] 0 0), (8, AV.i (chkAt l k0)), (9, AV.sl 5 (List.map encFx (rRep l k1))), (10, AV.i (chkRep
   l k1)), (11, AV.sl 5 (List.map encFx (rJ l m))), (12, AV.i (chkJ l m)), (13, AV.i (sTrackR l)), (17, AV.ptr 1 0), (14, AV.i (chkAt l k0)), (15, AV.i (sFirst [sTrackR l, sWithin k1 (1 : Int) (1000 : Int)])), (16, AV.i (sFirst
   [sTrackR l, sTrackR m])), (18, AV.sl 5 []), (19, AV.sl 5 [])] [(1, ABlk.box [AV.i (rA l k0 0), AV.i (rA l k0 1), AV.i (rA l k0 2), AV.i (rA l k0 3), AV.i (rA l k0 4), AV.i (rA l k0 5)])] 2 = AS.mk [(0, AV.sl 5 (List.map encFx l)),
   (1, AV.sl 5 (List.map encFx m)), (5, AV.elt 2 [[AV.i k0, AV.i k1]] 0 0), (6, AV.bool false), (7, AV.elt 6 [[AV.i (rA l k0 0), AV.i (rA l k0 1), AV.i (rA l k0 2), AV.i (rA l k0 3), AV.i (rA l k0 4), AV.i (rA l k0 5)]] 0 0), (8, AV.i
   (chkAt l k0)), (9, AV.sl 5 (List.map encFx (rRep l k1))), (10, AV.i (chkRep l k1)), (11, AV.sl 5 (List.map encFx (rJ l m))), (12, AV.i (chkJ l m)), (13, AV.i (sTrackR l)), (17, AV.ptr 1 0), (14, AV.i (chkAt l k0)), (15, AV.i
   (chkRep l k1)), (16, AV.i (sFirst [sTrackR l, sTrackR m])), (18, AV.sl 5 (List.map encFx (rRep l k1))), (19, AV.sl 5 [])] [(1, ABlk.box [AV.i (rA l k0 0), AV.i (rA l k0 1), AV.i (rA l k0 2), AV.i (rA l k0 3), AV.i (rA l k0 4), AV.i
   (rA l k0 5)])] 2)) ∧ AS.mk [(0, AV.sl 5 (List.map encFx l)), (1, AV.sl 5 (List.map encFx m)), (5, AV.elt 2 [[AV.i k0, AV.i k1]] 0 0), (6, AV.bool false), (7, AV.elt 6 [[AV.i (rA l k0 0), AV.i (rA l k0 1), AV.i (rA l k0 2), AV.i (rA
   l k0 3), AV.i (rA l k0 4), AV.i (rA l k0 5)]] 0 0), (8, AV.i (chkAt l k0)), (9, AV.sl 5 (List.map encFx (rRep l k1))), (10, AV.i (chkRep l k1)), (11, AV.sl 5 (List.map encFx (rJ l m))), (12, AV.i (chkJ l m)), (13, AV.i (sTrackR
   l)), (17, AV.ptr 1 0), (14, AV.i (chkAt l k0)), (15, AV.i (chkRep l k1)), (16, AV.i (sFirst [sTrackR l, sTrackR m])), (18, AV.sl 5 (List.map encFx (rRep l k1))), (19, AV.sl 5 []), (89, AV.bool (sFirst [sTrackR l, sTrackR m] == 0))]
   [(1, ABlk.box [AV.i (rA l k0 0), AV.i (rA l k0 1), AV.i (rA l k0 2), AV.i (rA l k0 3), AV.i (rA l k0 4), AV.i (rA l k0 5)])] 2 = AS.mk [(0, AV.sl 5 (List.map encFx l)), (1, AV.sl 5 (List.map encFx m)), (5, AV.elt 2 [[AV.i k0, AV.i
   k1]] 0 0), (6, AV.bool false), (7, AV.elt 6 [[AV.i (rA l k0 0), AV.i (rA l k0 1), AV.i (rA l k0 2), AV.i (rA l k0 3), AV.i (rA l k0 4), AV.i (rA l k0 5)]] 0 0), (8, AV.i (chkAt l k0)), (9, AV.sl 5 (List.map encFx (rRep l k1))),
   (10, AV.i (chkRep l k1)), (11, AV.sl 5 (List.map encFx (rJ l m))), (12, AV.i (chkJ l m)), (13, AV.i (sTrackR l)), (17, AV.ptr 1 0), (14, AV.i (chkAt l k0)), (15, AV.i (chkRep l k1)), (16, AV.i (sFirst [sTrackR l, sTrackR m])), (18,
   AV.sl 5 (List.map encFx (rRep l k1))), (19, AV.sl 5 []), (89, AV.bool (sFirst [sTrackR l, sTrackR m] == 0))] [(1, ABlk.box [AV.i (rA l k0 0), AV.i (rA l k0 1), AV.i (rA l k0 2), AV.i (rA l k0 3), AV.i (rA l k0 4), AV.i (rA l k0
   5)])] 2 ∧ (((sFirst [sTrackR l, sTrackR m] == 0) = true → PCall Tryz.prog G0 75 [AV.sl 5 (List.map encFx l), AV.sl 5 (List.map encFx m)] (AV.tup [AV.sl 5 (List.map encFx (jRes l m)), AV.i (jChk l m)]) ∧ AS.mk [(0, AV.sl 5 (List.map
   encFx l)), (1, AV.sl 5 (List.map encFx m)), (5, AV.elt 2 [[AV.i k0, AV.i k1]] 0 0), (6, AV.bool false), (7, AV.elt 6 [[AV.i (rA l k0 0), AV.i (rA l k0 1), AV.i (rA l k0 2), AV.i (rA l k0 3), AV.i (rA l k0 4), AV.i (rA l k0 5)]] 0
   0), (8, AV.i (chkAt l k0)), (9, AV.sl 5 (List.map encFx (rRep l k1))), (10, AV.i (chkRep l k1)), (11, AV.sl 5 (List.map encFx (rJ l m))), (12, AV.i (chkJ l m)), (13, AV.i (sTrackR l)), (17, AV.ptr 1 0), (14, AV.i (chkAt l k0)),
   (15, AV.i (chkRep l k1)), (16, AV.i (jChk l m)), (18, AV.sl 5 (List.map encFx (rRep l k1))), (19, AV.sl 5 (List.map encFx (jRes l m)))] [(1, ABlk.box [AV.i (rA l k0 0), AV.i (rA l k0 1), AV.i (rA l k0 2), AV.i (rA l k0 3), AV.i (rA
   l k0 4), AV.i (rA l k0 5)])] 2 = AS.mk [(0, AV.sl 5 (List.map encFx l)), (1, AV.sl 5 (List.map encFx m)), (5, AV.elt 2 [[AV.i k0, AV.i k1]] 0 0), (6, AV.bool false), (7, AV.elt 6 [[AV.i (rA l k0 0), AV.i (rA l k0 1), AV.i (rA l k0
   2), AV.i (rA l k0 3), AV.i (rA l k0 4), AV.i (rA l k0 5)]] 0 0), (8, AV.i (chkAt l k0)), (9, AV.sl 5 (List.map encFx (rRep l k1))), (10, AV.i (chkRep l k1)), (11, AV.sl 5 (List.map encFx (rJ l m))), (12, AV.i (chkJ l m)), (13, AV.i
   (sTrackR l)), (17, AV.ptr 1 0), (14, AV.i (chkAt l k0)), (15, AV.i (chkRep l k1)), (16, AV.i (chkJ l m)), (18, AV.sl 5 (List.map encFx (rRep l k1))), (19, AV.sl 5 (List.map encFx (rJ l m)))] [(1, ABlk.box [AV.i (rA l k0 0), AV.i
   (rA l k0 1), AV.i (rA l k0 2), AV.i (rA l k0 3), AV.i (rA l k0 4), AV.i (rA l k0 5)])] 2) ∧ ((sFirst [sTrackR l, sTrackR m] == 0) = false → AS.mk [(0, AV.sl 5 (List.map encFx l)), (1, AV.sl 5 (List.map encFx m)), (5, AV.elt 2
   [[AV.i k0, AV.i k1]] 0 0), (6, AV.bool false), (7, AV.elt 6 [[AV.i (rA l k0 0), AV.i (rA l k0 1), AV.i (rA l k0 2), AV.i (rA l k0 3), AV.i (rA l k0 4), AV.i (rA l k0 5)]] 0 0), (8, AV.i (chkAt l k0)), (9, AV.sl 5 (List.map encFx
   (rRep l k1))), (10, AV.i (chkRep l k1)), (11, AV.sl 5 (List.map encFx (rJ l m))), (12, AV.i (chkJ l m)), (13, AV.i (sTrackR l)), (17, AV.ptr 1 0), (14, AV.i (chkAt l k0)), (15, AV.i (chkRep l k1)), (16, AV.i (sFirst [sTrackR l,
   sTrackR m])), (18, AV.sl 5 (List.map encFx (rRep l k1))), (19, AV.sl 5 [])] [(1, ABlk.box [AV.i (rA l k0 0), AV.i (rA l k0 1), AV.i (rA l k0 2), AV.i (rA l k0 3), AV.i (rA l k0 4), AV.i (rA l k0 5)])] 2 = AS.mk [(0, AV.sl 5
   (List.map encFx l)), (1, AV.sl 5 (List.map encFx m)), (5, AV.elt 2 [[AV.i k0, AV.i k1]] 0 0), (6, AV.bool false), (7, AV.elt 6 [[AV.i (rA l k0 0), AV.i (rA l k0 1), AV.i (rA l k0 2), AV.i (rA l k0 3), AV.i (rA l k0 4), AV.i (rA l
   k0 5)]] 0 0), (8, AV.i (chkAt l k0)), (9, AV.sl 5 (List.map encFx (rRep l k1))), (10, AV.i (chkRep l k1)), (11, AV.sl 5 (List.map encFx (rJ l m))), (12, AV.i (chkJ l m)), (13, AV.i (sTrackR l)), (17, AV.ptr 1 0), (14, AV.i (chkAt l
   k0)), (15, AV.i (chkRep l k1)), (16, AV.i (chkJ l m)), (18, AV.sl 5 (List.map encFx (rRep l k1))), (19, AV.sl 5 (List.map encFx (rJ l m)))] [(1, ABlk.box [AV.i (rA l k0 0), AV.i (rA l k0 1), AV.i (rA l k0 2), AV.i (rA l k0 3), AV.i
   (rA l k0 4), AV.i (rA l k0 5)])] 2)) ∧ PCall Tryz.prog G0 29 [AV.sl 5 (List.map encFx l)] (AV.sl 5 (List.map encFx l)) ∧ PCall Tryz.prog G0 76 [AV.sl 5 (List.map encFx l)] (AV.i (sTrackS (trkS (List.map encFx l)))) ∧ AV.bool
   (sTrackS (trkS (List.map encFx l)) == sTrackR l) = AV.bool true ∧ AV.bool (rA l k0 0 == rA l k0 0 && true && (rA l k0 1 == rA l k0 1 && true && (rA l k0 2 == rA l k0 2 && true && true)) && (rA l k0 3 == rA l k0 3 && true && (rA l
   k0 4 == rA l k0 4 && true && true) && (rA l k0 5 == rA l k0 5 && true && true))) = AV.bool true ∧ AV.bool (chkAt l k0 == chkAt l k0) = AV.bool true ∧ PCall Tryz.prog G0 24 [AV.sl 5 (List.map encFx (rRep l k1))] (AV.sl 5 (List.map
   encFx (rRep l k1))) ∧ PCall Tryz.prog G0 23 [AV.sl 5 (List.map encFx (rRep l k1)), AV.sl 5 (List.map encFx (rRep l k1))] (AV.bool true) ∧ AV.bool (chkRep l k1 == chkRep l k1) = AV.bool true ∧ PCall Tryz.prog G0 24 [AV.sl 5
   (List.map encFx (rJ l m))] (AV.sl 5 (List.map encFx (rJ l m))) ∧ PCall Tryz.prog G0 23 [AV.sl 5 (List.map encFx (rJ l m)), AV.sl 5 (List.map encFx (rJ l m))] (AV.bool true) ∧ AV.bool (chkJ l m == chkJ l m) = AV.bool true ∧ PCall
   Tryz.prog G0 13 [] (AV.bool true) ∧ AV.bool true = AV.bool true := by
    have hlm : (List.map encFx l).length = l.length := List.length_map _
    have hmm : (List.map encFx m).length = m.length := List.length_map _
    have hl17 : l.length ≤ 17 := by simpa using h0
    have hm17 : m.length ≤ 17 := by simpa using h1
    have k29 := (c29 l (by omega)).un
    have k29m := (c29 m (by omega)).un
    have k56 := c56 l k0 (by omega)
    rw [rAt_eq] at k56
    have k39 := c39 l k1 (by omega)
    have k71 := c71 l m (by omega) (by omega)
    have n1 := rRep_len l k1
    have n2 := rJ_len l m
    have s23 : ∀ x : List Fx, x.length ≤ 1000 → PCall Tryz.prog G0 23 [.sl 5 (x.map encFx), .sl 5 (x.map encFx)] (.bool true) := fun x hx => by
      have := c23 x x hx
      rwa [same_self] at this
    have e2 : sFirst [sTrackS l, sWithin k1 1 1000] = sFirst [sTrackR l, sWithin k1 1 1000] := by rw [track_eq]
    have e3 : sFirst [sTrackS l, sTrackS m] = sFirst [sTrackR l, sTrackR m] := by rw [track_eq, track_eq]
    rw [trk_enc, trk_enc, hlm, hmm]
    refine ⟨rfl, ⟨c26 l, congrArg AV.bool h0, c26 m, congrArg AV.bool h1, rfl⟩, rfl, ⟨by omega, by omega, k29, k56, rfl⟩, ⟨by omega, by omega, k29, k39, rfl⟩, ⟨k29, k29m, k71, rfl⟩, ⟨c33 l (by omega), rfl⟩, ⟨by omega, by omega, c19 _, c16 [_, _] (by simp), c33 m (by omega), c16 [_, _] (by simp), rfl⟩, rfl, rfl, rfl, ⟨fun h => ?_, fun h => ?_⟩, rfl, ⟨fun h => ?_, fun h => ?_⟩, rfl, ⟨fun h => ?_, fun h => ?_⟩, rfl, ⟨fun h => ?_, fun h => ?_⟩, k29, c76 l (by omega), ?_, by simp, by simp, (c24 _ (by omega)).un, s23 _ (by omega), by simp, (c24 _ (by omega)).un, s23 _ (by omega), by simp, hA, rfl⟩
    · have hz : sTrackR l = 0 := by simpa using h
      obtain ⟨hO, _⟩ := track_ok hz
      have hn := hO.n1
      refine ⟨by omega, by omega, c72 l k0 (by omega) (by omega), ?_⟩
      rw [show chkAt l k0 = sWhen (outT l k0) 7 from if_neg (by rw [track_eq]; exact nbne_of_beq h)]
    · rw [show chkAt l k0 = sTrackR l by rw [chkAt, track_eq, if_pos (bne_of_beq h)]]
    · have hz : chkAt l k0 = 0 := by simpa using h
      by_cases ht : (sTrackS l != 0) = true
      · rw [chkAt, if_pos ht] at hz
        rw [hz] at ht
        cases ht
      · have hz2 : sTrackS l = 0 := by simpa using ht
        rw [track_eq] at hz2
        obtain ⟨hO, _⟩ := track_ok hz2
        rw [chkAt, if_neg ht] at hz
        have ho : outT l k0 = false := when_z (by decide) hz
        have hor := ho
        unfold outT at hor
        have h1 : ¬ k0 < firstT l ∧ ¬ k0 ≥ lastT l := by
          by_cases hx : k0 < firstT l
          · simp [hx] at hor
          · simp [hx] at hor
            exact ⟨hx, by omega⟩
        have hn := hO.n1
        have b0 := (hO.b 0 (by omega)).1
        have b1 := (hO.b (l.length - 1) (by omega)).1
        rw [show (l.getD 0 default).t = firstT l from rfl] at b0
        rw [show (l.getD (l.length - 1) default).t = lastT l from rfl] at b1
        have k73 := c73 l k0 hO ⟨by omega, by omega⟩
        rw [show atV (atA l k0) (atB l k0) k0 = rAt l k0 by rw [rAt, if_neg ht, if_neg (by rw [ho]; exact Bool.false_ne_true)], rAt_eq] at k73
        exact ⟨by omega, by omega, k73, rfl⟩
    · have hz : rAt l k0 = [.i 0, .i 0, .i 0, .i 0, .i 0, .i 0] := by
        by_cases ht : (sTrackS l != 0) = true
        · exact if_pos ht
        · by_cases ho : outT l k0 = true
          · rw [rAt, if_neg ht, if_pos ho]
          · rw [chkAt, if_neg ht, Bool.eq_false_iff.2 ho] at h
            cases h
      rw [rAt_eq] at hz
      unfold rA6 at hz
      rw [hz]
    · have hz : sFirst [sTrackR l, sWithin k1 1 1000] = 0 := by simpa using h
      have hz2 := hz
      simp only [first_zero, within_zero] at hz2
      obtain ⟨hz1, hs, _⟩ := hz2
      obtain ⟨hO, hsp⟩ := track_ok hz1
      refine ⟨by omega, by omega, c74 l k1 hO hsp hs, ?_⟩
      rw [rRep, chkRep, e2, if_neg (nbne_of_beq h), if_neg (nbne_of_beq h)]
    · rw [rRep, chkRep, e2, if_pos (bne_of_beq h), if_pos (bne_of_beq h)]
      rfl
    · have hz : sFirst [sTrackR l, sTrackR m] = 0 := by simpa using h
      have hz2 := hz
      simp only [first_zero] at hz2
      obtain ⟨hz1, hz3, _⟩ := hz2
      obtain ⟨hO, _⟩ := track_ok hz1
      obtain ⟨hM, _⟩ := track_ok hz3
      have a1 := hO.n1
      have a2 := hM.n1
      refine ⟨c75 l m hO hM (by omega) (by omega) (by omega) (by omega), ?_⟩
      rw [rJ, chkJ, e3, if_neg (nbne_of_beq h), if_neg (nbne_of_beq h)]
    · rw [rJ, chkJ, e3, if_pos (bne_of_beq h), if_pos (bne_of_beq h)]
      rfl
    · rw [track_eq]
      simp
  exact c_ofG Tryz.f10 (B10 l m k0 k1 [(1, 2, rdF), (1, 6, rdF)]) (m10 l m k0 k1) (by kernel_rfl) (by kernel_rfl) (by kernel_rfl) (by kernel_rfl) key (by kernel_rfl)
theorem c10 (l m : List Fx) (k0 k1 : Int) (hA : PCall Tryz.prog G0 13 [] (.bool true)) : PCall Tryz.prog G0 10 [.sl 5 (l.map encFx), .sl 5 (m.map encFx), .agg [.i k0, .i k1]] (.bool true) := by
  cases h0 : (!decide (l.length ≤ 17)) with
  | true => exact c10_0 l m k0 k1 hA h0
  | false =>
  cases h1 : (!decide (m.length ≤ 17)) with
  | true => exact c10_1 l m k0 k1 hA h0 h1
  | false => exact c10_ok l m k0 k1 hA h0 h1
end Go.Proofs.YtjhjmncjidbieaaGreatDoor
namespace Go.Proofs.YtjhjmncjidbieaaGreatDoor
open Go Go.Av Go.RowKit
def mdK (g : List GS) (l : List (Nat × AV)) (b : ABlk) : Option (List GS × AS) := some (g ++ [.keep (l.map (·.1)) [1], .bound 2], ⟨l, [(1, b)], 2⟩)
def sp5c (u v : Int) : Nat → List AV → Option AV
  | 13, _ => some (.bool true)
  | 15, [.sl _ rows] => some (.sl 3 rows)
  | 17, [.sl _ rows] => some (.i (sPath (ptsS rows)))
  | 18, [.sl _ rows] => some (.i (sProcR (stpS rows)))
  | 24, [.sl _ rows] => some (.sl 5 rows)
  | 23, _ => some (.bool true)
  | n, w => spR n w
def sp5e (E u v : Int) : Nat → List AV → Option AV
  | 14, _ => some (.tup [.sl 5 [], .i E])
  | n, w => sp5c u v n w
def sp5 (l : List Pt) (u v : Int) : Nat → List AV → Option AV
  | 14, [_, .sl _ rows, .int _ s, .int _ t] => some (.tup [.sl 5 ((flL l (stpS rows) s t l.length).map encFx), .i 0])
  | 39, [.sl _ rows, _] => some (.tup [.sl 5 rows, .i 0])
  | n, w => sp5c u v n w
def b5 (l : List Pt) (p : List St) (u v : Int) : List (Nat × AV) := [(0, .sl 2 (l.map encPt)), (1, .sl 3 (p.map encSt)), (5, .elt 2 [[.int .u32 u, .int .u32 v]] 0 0), (6, .bool false)]
def cB5 (l : List Pt) (p : List St) (u v : Int) : List (Nat × AV) := b5 l p u v ++ [(7, .i (vSp u)), (8, .i (vTk v))]
def la5 (l : List Pt) (p : List St) (u v : Int) (X : List (Nat × AV)) (A : List Fx) (i : Nat) : Option LA :=
  if i.beq 0 then
    let ts := [0, 1, 5, 6, 7, 8, 9, 60, 61]
    some { pre := [.reno 9 1, .keep ts [1], .bound 2], post := [.reno 9 1, .keep ts [1], .bound 2]
           Gh := Nat
           st := fun i => ⟨cB5 l p u v ++ [(9, .own 1 p.length), (60, .i (p.length : Int)), (61, .i i)], [(1, .buf 81 3 ((lvl p i).map encSt))], 2⟩
           ok := fun i => i ≤ p.length
           ms := fun i => p.length - i }
  else if i.beq 2 then
    let ts := X.map (·.1) ++ [17, 18, 19, 20, 180, 181, 182]
    some { pre := [.keep ts [], .bound 1], post := [.keep ts [], .bound 1]
           Gh := Nat
           st := fun i => ⟨X ++ [(17, .i (loF (·.h) p i)), (18, .i (hiF (·.h) p i)), (19, .i (loF (·.p) p i)), (20, .i (hiF (·.p) p i)), (180, .sl 3 (p.map encSt)), (181, .i (p.length : Int)), (182, .i i)], [], 1⟩
           ok := fun i => i ≤ p.length
           ms := fun i => p.length - i }
  else if i.beq 4 then
    let ts := X.map (·.1) ++ [17, 18, 19, 20, 203, 204, 205]
    some { pre := [.keep ts [], .bound 1], post := [.keep ts [], .bound 1]
           Gh := Nat
           st := fun i => ⟨X ++ [(17, .i (loF (·.h) p p.length)), (18, .i (hiF (·.h) p p.length)), (19, .i (loF (·.p) p p.length)), (20, .i (hiF (·.p) p p.length)), (203, .sl 5 (A.map encFx)), (204, .i (l.length : Int)), (205, .i i)], [], 1⟩
           ok := fun i => i ≤ l.length
           ms := fun i => l.length - i }
  else none
def cl5 : Operand → Bool
  | .tmp t => t.beq 45 || (t.beq 133 || (t.beq 135 || (t.beq 163 || t.beq 292)))
  | _ => false
def ld5 (p : List St) : List (Nat × Nat × (List AV → Option AV)) := [(8, 8, rdL 3 encSt p 1 false)]
def f5 (l : List Pt) (p : List St) (u v : Int) : List (Option (List GS × AS)) := [md [] (b5 l p u v), md [] (b5 l p u v ++ [(45, .bool true)])]
def h5 (l : List Pt) (p : List St) (u v : Int) : List (Option (List GS × AS)) :=
  let C := cB5 l p u v
  [md [] (b5 l p u v), md [] (b5 l p u v ++ [(45, .bool false)]), md [] (b5 l p u v), md [] C,
   mdK [.reno 9 1] (C ++ [(9, .own 1 p.length)]) (.buf 81 3 (p.map encSt)),
   mdK [] (C ++ [(9, .own 1 p.length), (60, .i (p.length : Int)), (61, .i 0)]) (.buf 81 3 (p.map encSt)),
   md [.frzo 9] (C ++ [(9, .sl 3 ((lev p).map encSt))])]
def e5 (l : List Pt) (p : List St) (u v E : Int) : List (Option (List GS × AS)) :=
  let D := cB5 l p u v ++ [(9, .sl 3 ((lev p).map encSt))]
  let W : List (Nat × AV) := [(11, .sl 5 []), (12, .i E), (13, .sl 5 []), (14, .i E), (15, .sl 5 []), (16, .i E)]
  h5 l p u v ++ [md [] (D ++ W.take 2), md [] (D ++ W.take 4), md [] (D ++ W), md [] (D ++ W ++ [(133, .bool false)]), md [] (D ++ W), md [] (D ++ W ++ [(135, .bool true)])]
def x5 (l : List Pt) (p : List St) (u v : Int) : List (Nat × AV) :=
  cB5 l p u v ++ [(9, .sl 3 ((lev p).map encSt)), (11, .sl 5 ((fl0 l p u v).map encFx)), (12, .i 0), (13, .sl 5 ((fl7 l p u v).map encFx)), (14, .i 0), (15, .sl 5 ((flC l p u v).map encFx)), (16, .i 0)]
def m5 (l : List Pt) (p : List St) (u v : Int) : List (Option (List GS × AS)) :=
  let X := x5 l p u v
  let y (i : Nat) : List (Nat × AV) := [(17, .i (loF (·.h) p i)), (18, .i (hiF (·.h) p i)), (19, .i (loF (·.p) p i)), (20, .i (hiF (·.p) p i))]
  h5 l p u v ++ [md [] (X.take 9), md [] (X.take 11), md [] X, md [] (X ++ [(133, .bool false)]), md [] X, md [] (X ++ [(135, .bool false)]), md [] X, md [] (X ++ [(163, .bool false)]), md [] X,
    md [] (X ++ y 0), md [] (X ++ y 0 ++ [(180, .sl 3 (p.map encSt)), (181, .i (p.length : Int)), (182, .i 0)]), md [] (X ++ y p.length),
    md [] (X ++ y p.length ++ [(203, .sl 5 ((fl0 l p u v).map encFx)), (204, .i (l.length : Int)), (205, .i 0)]), md [] X, md [] (X ++ [(26, .sl 5 ((fl0 l p u v).map encFx)), (27, .i 0)])]
def rds5 (l : List Pt) (p : List St) (u v : Int) : List (Nat × Nat × (List AV → Option AV)) :=
  [(13, 2, rdF), (13, 6, rdF), (13, 10, rdF), (15, 1, rdF), (17, 4, rdF), (17, 10, rdF), (17, 17, rdF), (17, 23, rdX (fl0 l p u v)), (17, 25, rdF),
   (19, 3, rdL 3 encSt p 1 false), (19, 7, rdL 3 encSt p 1 false), (19, 11, rdL 3 encSt p 1 false), (19, 15, rdL 3 encSt p 1 false), (22, 1, rdL 3 encSt p 3 true), (27, 2, rdL 5 encFx (fl0 l p u v) 5 true), (28, 3, rdL 5 encFx (fl7 l p u v) 5 true),
   (30, 2, rdF), (30, 10, rdL 2 encPt l 1 false), (30, 15, rdL 2 encPt l 1 false), (30, 19, rdL 3 encSt (lev p) 1 false), (30, 21, rdF), (30, 27, rdF), (30, 33, rdF), (30, 41, rdL 5 encFx (flC l p u v) 1 false), (30, 43, rdF), (30, 51, rdL 5 encFx (flC l p u v) 1 false), (30, 53, rdF),
   (30, 60, rdL 5 encFx (flC l p u v) 1 false), (30, 63, rdF), (30, 70, rdL 5 encFx (flC l p u v) 1 false), (30, 73, rdF), (34, 1, rdT)]
def B5 (l : List Pt) (p : List St) (u v : Int) (sp : Nat → List AV → Option AV) (r : List (Nat × Nat × (List AV → Option AV))) : BA :=
  { noSym 13 (noSym 17 (noSym 30 (noSym 34 (fzB (mkB sp 5 (ld5 p ++ r) (la5 l p u v (x5 l p u v) (fl0 l p u v))))))) with cl := cl5 }
theorem c5_a (l : List Pt) (p : List St) (u v : Int) (hA : PCall Tryz.prog G0 13 [] (.bool true)) (h : gd5 l p = true) : PCall Tryz.prog G0 5 [.sl 2 (l.map encPt), .sl 3 (p.map encSt), .agg [.int .u32 u, .int .u32 v]] (.bool true) := by
  have key :
   AS.mk [(0, AV.sl 2 (List.map encPt l)), (1, AV.sl 3 (List.map encSt p)), (5, AV.elt 2 [[AV.int IntKind.u32 u, AV.int IntKind.u32 v]] 0 0), (6, AV.bool false)] [] 1 = AS.mk [(0, AV.sl 2 (List.map encPt l)), (1, AV.sl 3 (List.map
   encSt p)), (5, AV.elt 2 [[AV.int IntKind.u32 u, AV.int IntKind.u32 v]] 0 0), (6, AV.bool false)] [] 1 ∧ (((!decide ((↑(List.map encPt l).length : Int) > 6)) = true → (!decide ((↑(List.map encPt l).length : Int) > 6)) = true) ∧
   ((!decide ((↑(List.map encPt l).length : Int) > 6)) = true → (!decide ((↑(List.map encPt l).length : Int) > 6)) = true) ∧ (decide ((↑(List.map encPt l).length : Int) > 6) = false → (!decide ((↑(List.map encPt l).length : Int) > 6))
   = true) ∧ ((!if decide ((↑(List.map encPt l).length : Int) > 6) = true then true else sPath (ptsS (List.map encPt l)) != 0) = true → (!if decide ((↑(List.map encPt l).length : Int) > 6) = true then true else sPath (ptsS (List.map
   encPt l)) != 0) = true) ∧ ((!if decide ((↑(List.map encPt l).length : Int) > 6) = true then true else sPath (ptsS (List.map encPt l)) != 0) = true → (!if decide ((↑(List.map encPt l).length : Int) > 6) = true then true else sPath
   (ptsS (List.map encPt l)) != 0) = true) ∧ ((if decide ((↑(List.map encPt l).length : Int) > 6) = true then true else sPath (ptsS (List.map encPt l)) != 0) = false → (!if decide ((↑(List.map encPt l).length : Int) > 6) = true then
   true else sPath (ptsS (List.map encPt l)) != 0) = true) ∧ ((!if (if decide ((↑(List.map encPt l).length : Int) > 6) = true then true else sPath (ptsS (List.map encPt l)) != 0) = true then true else decide ((↑(List.map encSt
   p).length : Int) > 8)) = true → (!if (if decide ((↑(List.map encPt l).length : Int) > 6) = true then true else sPath (ptsS (List.map encPt l)) != 0) = true then true else decide ((↑(List.map encSt p).length : Int) > 8)) = true) ∧
   ((!if (if decide ((↑(List.map encPt l).length : Int) > 6) = true then true else sPath (ptsS (List.map encPt l)) != 0) = true then true else decide ((↑(List.map encSt p).length : Int) > 8)) = true → (!if (if decide ((↑(List.map
   encPt l).length : Int) > 6) = true then true else sPath (ptsS (List.map encPt l)) != 0) = true then true else decide ((↑(List.map encSt p).length : Int) > 8)) = true) ∧ ((if (if decide ((↑(List.map encPt l).length : Int) > 6) =
   true then true else sPath (ptsS (List.map encPt l)) != 0) = true then true else decide ((↑(List.map encSt p).length : Int) > 8)) = false → (!if (if decide ((↑(List.map encPt l).length : Int) > 6) = true then true else sPath (ptsS
   (List.map encPt l)) != 0) = true then true else decide ((↑(List.map encSt p).length : Int) > 8)) = true) ∧ impB (!decide ((↑(List.map encPt l).length : Int) > 6)) (PCall Tryz.prog G0 17 [AV.sl 2 (List.map encPt l)] (AV.i (sPath
   (ptsS (List.map encPt l))))) ∧ impB (!if (if decide ((↑(List.map encPt l).length : Int) > 6) = true then true else sPath (ptsS (List.map encPt l)) != 0) = true then true else decide ((↑(List.map encSt p).length : Int) > 8)) (PCall
   Tryz.prog G0 18 [AV.sl 3 (List.map encSt p)] (AV.i (sProcR (stpS (List.map encSt p))))) ∧ AV.bool (if (if (if decide ((↑(List.map encPt l).length : Int) > 6) = true then true else sPath (ptsS (List.map encPt l)) != 0) = true then
   true else decide ((↑(List.map encSt p).length : Int) > 8)) = true then true else sProcR (stpS (List.map encSt p)) != 0) = AV.bool true ∧ AS.mk [(0, AV.sl 2 (List.map encPt l)), (1, AV.sl 3 (List.map encSt p)), (5, AV.elt 2 [[AV.int
   IntKind.u32 u, AV.int IntKind.u32 v]] 0 0), (6, AV.bool false), (45, AV.bool true)] [] 1 = AS.mk [(0, AV.sl 2 (List.map encPt l)), (1, AV.sl 3 (List.map encSt p)), (5, AV.elt 2 [[AV.int IntKind.u32 u, AV.int IntKind.u32 v]] 0 0),
   (6, AV.bool false), (45, AV.bool true)] [] 1) ∧ PCall Tryz.prog G0 13 [] (AV.bool true) ∧ AV.bool true = AV.bool true := by
    have hlm : (List.map encPt l).length = l.length := List.length_map _
    have hpm : (List.map encSt p).length = p.length := List.length_map _
    rw [pts_enc, stp_enc, hlm, hpm]
    have g6 : (!decide ((l.length : Int) > 6)) = true → l.length ≤ 6 := fun hh => by
      by_cases hx : (l.length : Int) > 6
      · rw [decide_eq_true hx] at hh
        cases hh
      · omega
    have g8 : (!if (if decide ((l.length : Int) > 6) = true then true else sPath l != 0) = true then true else decide ((p.length : Int) > 8)) = true → p.length ≤ 8 := fun hh => by
      by_cases hx : (p.length : Int) > 8
      · rw [decide_eq_true hx] at hh
        have hb : ∀ b : Bool, (!if b = true then true else true) = true → False := by decide
        exact (hb _ hh).elim
      · omega
    exact ⟨rfl, ⟨fun h => h, fun h => h, fun h => by rw [h]; rfl, fun h => h, fun h => h, fun h => by rw [h]; rfl, fun h => h, fun h => h, fun h => by rw [h]; rfl, impB_iff.2 fun hh => c17 l (by have := g6 hh; omega), impB_iff.2 fun hh => c18 p (by have := g8 hh; omega), congrArg AV.bool h, rfl⟩, hA, rfl⟩
  exact c_ofG Tryz.f5 (B5 l p u v (sp5e 0 u v) [(1, 17, rdT)]) (f5 l p u v) (by kernel_rfl) (by kernel_rfl) (by kernel_rfl) (by kernel_rfl) key (by kernel_rfl)
theorem c5_4 (l : List Pt) (p : List St) (u v : Int) (hA : PCall Tryz.prog G0 13 [] (.bool true)) (hu : 0 ≤ u ∧ u ≤ 4294967295) (hv : 0 ≤ v ∧ v ≤ 4294967295) (h : gd5 l p = false) (hE : errE l (vSp u) = 4) : PCall Tryz.prog G0 5 [.sl 2 (l.map encPt), .sl 3 (p.map encSt), .agg [.int .u32 u, .int .u32 v]] (.bool true) := by
  have key :
   AS.mk [(0, AV.sl 2 (List.map encPt l)), (1, AV.sl 3 (List.map encSt p)), (5, AV.elt 2 [[AV.int IntKind.u32 u, AV.int IntKind.u32 v]] 0 0), (6, AV.bool false)] [] 1 = AS.mk [(0, AV.sl 2 (List.map encPt l)), (1, AV.sl 3 (List.map
   encSt p)), (5, AV.elt 2 [[AV.int IntKind.u32 u, AV.int IntKind.u32 v]] 0 0), (6, AV.bool false)] [] 1 ∧ (((!decide ((↑(List.map encPt l).length : Int) > 6)) = true → (!decide ((↑(List.map encPt l).length : Int) > 6)) = true) ∧
   ((!decide ((↑(List.map encPt l).length : Int) > 6)) = true → (!decide ((↑(List.map encPt l).length : Int) > 6)) = true) ∧ (decide ((↑(List.map encPt l).length : Int) > 6) = false → (!decide ((↑(List.map encPt l).length : Int) > 6))
   = true) ∧ ((!if decide ((↑(List.map encPt l).length : Int) > 6) = true then true else sPath (ptsS (List.map encPt l)) != 0) = true → (!if decide ((↑(List.map encPt l).length : Int) > 6) = true then true else sPath (ptsS (List.map
   encPt l)) != 0) = true) ∧ ((!if decide ((↑(List.map encPt l).length : Int) > 6) = true then true else sPath (ptsS (List.map encPt l)) != 0) = true → (!if decide ((↑(List.map encPt l).length : Int) > 6) = true then true else sPath
   (ptsS (List.map encPt l)) != 0) = true) ∧ ((if decide ((↑(List.map encPt l).length : Int) > 6) = true then true else sPath (ptsS (List.map encPt l)) != 0) = false → (!if decide ((↑(List.map encPt l).length : Int) > 6) = true then
   true else sPath (ptsS (List.map encPt l)) != 0) = true) ∧ ((!if (if decide ((↑(List.map encPt l).length : Int) > 6) = true then true else sPath (ptsS (List.map encPt l)) != 0) = true then true else decide ((↑(List.map encSt
   p).length : Int) > 8)) = true → (!if (if decide ((↑(List.map encPt l).length : Int) > 6) = true then true else sPath (ptsS (List.map encPt l)) != 0) = true then true else decide ((↑(List.map encSt p).length : Int) > 8)) = true) ∧
   ((!if (if decide ((↑(List.map encPt l).length : Int) > 6) = true then true else sPath (ptsS (List.map encPt l)) != 0) = true then true else decide ((↑(List.map encSt p).length : Int) > 8)) = true → (!if (if decide ((↑(List.map
   encPt l).length : Int) > 6) = true then true else sPath (ptsS (List.map encPt l)) != 0) = true then true else decide ((↑(List.map encSt p).length : Int) > 8)) = true) ∧ ((if (if decide ((↑(List.map encPt l).length : Int) > 6) =
   true then true else sPath (ptsS (List.map encPt l)) != 0) = true then true else decide ((↑(List.map encSt p).length : Int) > 8)) = false → (!if (if decide ((↑(List.map encPt l).length : Int) > 6) = true then true else sPath (ptsS
   (List.map encPt l)) != 0) = true then true else decide ((↑(List.map encSt p).length : Int) > 8)) = true) ∧ impB (!decide ((↑(List.map encPt l).length : Int) > 6)) (PCall Tryz.prog G0 17 [AV.sl 2 (List.map encPt l)] (AV.i (sPath
   (ptsS (List.map encPt l))))) ∧ impB (!if (if decide ((↑(List.map encPt l).length : Int) > 6) = true then true else sPath (ptsS (List.map encPt l)) != 0) = true then true else decide ((↑(List.map encSt p).length : Int) > 8)) (PCall
   Tryz.prog G0 18 [AV.sl 3 (List.map encSt p)] (AV.i (sProcR (stpS (List.map encSt p))))) ∧ AV.bool (if (if (if decide ((↑(List.map encPt l).length : Int) > 6) = true then true else sPath (ptsS (List.map encPt l)) != 0) = true then
   true else decide ((↑(List.map encSt p).length : Int) > 8)) = true then true else sProcR (stpS (List.map encSt p)) != 0) = AV.bool false ∧ AS.mk [(0, AV.sl 2 (List.map encPt l)), (1, AV.sl 3 (List.map encSt p)), (5, AV.elt 2
   [[AV.int IntKind.u32 u, AV.int IntKind.u32 v]] 0 0), (6, AV.bool false), (45, AV.bool false)] [] 1 = AS.mk [(0, AV.sl 2 (List.map encPt l)), (1, AV.sl 3 (List.map encSt p)), (5, AV.elt 2 [[AV.int IntKind.u32 u, AV.int IntKind.u32
   v]] 0 0), (6, AV.bool false), (45, AV.bool false)] [] 1) ∧ AS.mk [(0, AV.sl 2 (List.map encPt l)), (1, AV.sl 3 (List.map encSt p)), (5, AV.elt 2 [[AV.int IntKind.u32 u, AV.int IntKind.u32 v]] 0 0), (6, AV.bool false)] [] 1 = AS.mk
   [(0, AV.sl 2 (List.map encPt l)), (1, AV.sl 3 (List.map encSt p)), (5, AV.elt 2 [[AV.int IntKind.u32 u, AV.int IntKind.u32 v]] 0 0), (6, AV.bool false)] [] 1 ∧ ((0 : Int) ≤ 0 ∧ (0 : Int) < (↑2 : Int) ∧ ¬(100 : Int) = (0 : Int) ∧
   In64 ((1 : Int) + (IntKind.i64.wrap u).tmod (100 : Int)) ∧ (0 : Int) ≤ 1 ∧ (1 : Int) < (↑2 : Int) ∧ ¬(100001 : Int) = (0 : Int) ∧ AS.mk [(0, AV.sl 2 (List.map encPt l)), (1, AV.sl 3 (List.map encSt p)), (5, AV.elt 2 [[AV.int
   IntKind.u32 u, AV.int IntKind.u32 v]] 0 0), (6, AV.bool false), (7, AV.i ((1 : Int) + (IntKind.i64.wrap u).tmod (100 : Int))), (8, AV.i ((IntKind.i64.wrap v).tmod (100001 : Int)))] [] 1 = AS.mk [(0, AV.sl 2 (List.map encPt l)), (1,
   AV.sl 3 (List.map encSt p)), (5, AV.elt 2 [[AV.int IntKind.u32 u, AV.int IntKind.u32 v]] 0 0), (6, AV.bool false), (7, AV.i (vSp u)), (8, AV.i (vTk v))] [] 1) ∧ (0 + (List.map encSt p).length ≤ 9223372036854775807 ∧ (0 + (List.map
   encSt p).length) * 24 ≤ 140737488355328 ∧ AS.mk [(0, AV.sl 2 (List.map encPt l)), (1, AV.sl 3 (List.map encSt p)), (5, AV.elt 2 [[AV.int IntKind.u32 u, AV.int IntKind.u32 v]] 0 0), (6, AV.bool false), (7, AV.i (vSp u)), (8, AV.i
   (vTk v)), (9, AV.own 1 (0 + (List.map encSt p).length))] [(1, ABlk.buf 81 3 ([] ++ List.map encSt p))] 2 = AS.mk [(0, AV.sl 2 (List.map encPt l)), (1, AV.sl 3 (List.map encSt p)), (5, AV.elt 2 [[AV.int IntKind.u32 u, AV.int
   IntKind.u32 v]] 0 0), (6, AV.bool false), (7, AV.i (vSp u)), (8, AV.i (vTk v)), (9, AV.own 1 p.length)] [(1, ABlk.buf 81 3 (List.map encSt p))] 2) ∧ AS.mk [(0, AV.sl 2 (List.map encPt l)), (1, AV.sl 3 (List.map encSt p)), (5,
   AV.elt 2 [[AV.int IntKind.u32 u, AV.int IntKind.u32 v]] 0 0), (6, AV.bool false), (7, AV.i (vSp u)), (8, AV.i (vTk v)), (9, AV.own 1 p.length), (60, AV.i (↑p.length : Int)), (61, AV.i 0)] [(1, ABlk.buf 81 3 (List.map encSt p))] 2 =
   AS.mk [(0, AV.sl 2 (List.map encPt l)), (1, AV.sl 3 (List.map encSt p)), (5, AV.elt 2 [[AV.int IntKind.u32 u, AV.int IntKind.u32 v]] 0 0), (6, AV.bool false), (7, AV.i (vSp u)), (8, AV.i (vTk v)), (9, AV.own 1 p.length), (60, AV.i
   (↑p.length : Int)), (61, AV.i 0)] [(1, ABlk.buf 81 3 (List.map encSt p))] 2 ∧ ((∃ (g : Nat), g ≤ p.length ∧ AS.mk [(0, AV.sl 2 (List.map encPt l)), (1, AV.sl 3 (List.map encSt p)), (5, AV.elt 2 [[AV.int IntKind.u32 u, AV.int
   IntKind.u32 v]] 0 0), (6, AV.bool false), (7, AV.i (vSp u)), (8, AV.i (vTk v)), (9, AV.own 1 p.length), (60, AV.i (↑p.length : Int)), (61, AV.i 0)] [(1, ABlk.buf 81 3 (List.map encSt p))] 2 = AS.mk [(0, AV.sl 2 (List.map encPt l)),
   (1, AV.sl 3 (List.map encSt p)), (5, AV.elt 2 [[AV.int IntKind.u32 u, AV.int IntKind.u32 v]] 0 0), (6, AV.bool false), (7, AV.i (vSp u)), (8, AV.i (vTk v)), (9, AV.own 1 p.length), (60, AV.i (↑p.length : Int)), (61, AV.i (↑g :
   Int))] [(1, ABlk.buf 81 3 (List.map encSt (lvl p g)))] 2) ∧ ∀ (g : Nat), g ≤ p.length → (decide ((↑g : Int) < (↑p.length : Int)) = true → In64 ((↑(List.map encSt p).length : Int) - 1) ∧ (0 : Int) ≤ (↑(List.map encSt p).length :
   Int) - 1 ∧ (↑(List.map encSt p).length : Int) - 1 < (↑(List.map encSt p).length : Int) ∧ (0 : Int) ≤ (↑g : Int) ∧ (↑g : Int) < (↑p.length : Int) ∧ (↑g : Int).toNat < (List.map encSt (lvl p g)).length ∧ nth (nthR (List.map encSt p)
   ((↑(List.map encSt p).length : Int) - 1).toNat) 1 = AV.i (p.getD ((↑(List.map encSt p).length : Int) - 1).toNat default).h ∧ In64 ((↑g : Int) + 1) ∧ ∃ (g' : Nat), g' ≤ p.length ∧ p.length - g' < p.length - g ∧ AS.mk [(0, AV.sl 2
   (List.map encPt l)), (1, AV.sl 3 (List.map encSt p)), (5, AV.elt 2 [[AV.int IntKind.u32 u, AV.int IntKind.u32 v]] 0 0), (6, AV.bool false), (7, AV.i (vSp u)), (8, AV.i (vTk v)), (9, AV.own 1 p.length), (60, AV.i (↑p.length : Int)),
   (61, AV.i ((↑g : Int) + 1))] [(1, ABlk.buf 81 3 (putRow (List.map encSt (lvl p g)) (↑g : Int).toNat 1 [AV.i (p.getD ((↑(List.map encSt p).length : Int) - 1).toNat default).h]))] 2 = AS.mk [(0, AV.sl 2 (List.map encPt l)), (1, AV.sl
   3 (List.map encSt p)), (5, AV.elt 2 [[AV.int IntKind.u32 u, AV.int IntKind.u32 v]] 0 0), (6, AV.bool false), (7, AV.i (vSp u)), (8, AV.i (vTk v)), (9, AV.own 1 p.length), (60, AV.i (↑p.length : Int)), (61, AV.i (↑g' : Int))] [(1,
   ABlk.buf 81 3 (List.map encSt (lvl p g')))] 2) ∧ (decide ((↑g : Int) < (↑p.length : Int)) = false → AS.mk [(0, AV.sl 2 (List.map encPt l)), (1, AV.sl 3 (List.map encSt p)), (5, AV.elt 2 [[AV.int IntKind.u32 u, AV.int IntKind.u32
   v]] 0 0), (6, AV.bool false), (7, AV.i (vSp u)), (8, AV.i (vTk v)), (9, AV.sl 3 (List.map encSt (lvl p g)))] [] 1 = AS.mk [(0, AV.sl 2 (List.map encPt l)), (1, AV.sl 3 (List.map encSt p)), (5, AV.elt 2 [[AV.int IntKind.u32 u,
   AV.int IntKind.u32 v]] 0 0), (6, AV.bool false), (7, AV.i (vSp u)), (8, AV.i (vTk v)), (9, AV.sl 3 (List.map encSt (lev p)))] [] 1)) ∧ (0 + (List.map encPt l).length ≤ 9223372036854775807 ∧ (0 + (List.map encPt l).length) * 16 ≤
   140737488355328 ∧ PCall Tryz.prog G0 15 [AV.sl 3 (List.map encSt (lev p))] (AV.sl 3 (List.map encSt (lev p))) ∧ PCall Tryz.prog G0 14 [AV.sl 2 ([] ++ List.map encPt l), AV.sl 3 (List.map encSt (lev p)), AV.i (vSp u), AV.i (vTk v)]
   (AV.tup [AV.sl 5 [], AV.i 4]) ∧ AS.mk [(0, AV.sl 2 (List.map encPt l)), (1, AV.sl 3 (List.map encSt p)), (5, AV.elt 2 [[AV.int IntKind.u32 u, AV.int IntKind.u32 v]] 0 0), (6, AV.bool false), (7, AV.i (vSp u)), (8, AV.i (vTk v)),
   (9, AV.sl 3 (List.map encSt (lev p))), (11, AV.sl 5 []), (12, AV.i 4)] [] 1 = AS.mk [(0, AV.sl 2 (List.map encPt l)), (1, AV.sl 3 (List.map encSt p)), (5, AV.elt 2 [[AV.int IntKind.u32 u, AV.int IntKind.u32 v]] 0 0), (6, AV.bool
   false), (7, AV.i (vSp u)), (8, AV.i (vTk v)), (9, AV.sl 3 (List.map encSt (lev p))), (11, AV.sl 5 []), (12, AV.i 4)] [] 1) ∧ (0 + (List.map encPt l).length ≤ 9223372036854775807 ∧ (0 + (List.map encPt l).length) * 16 ≤
   140737488355328 ∧ In64 (vTk v + 7) ∧ PCall Tryz.prog G0 15 [AV.sl 3 (List.map encSt (lev p))] (AV.sl 3 (List.map encSt (lev p))) ∧ PCall Tryz.prog G0 14 [AV.sl 2 ([] ++ List.map encPt l), AV.sl 3 (List.map encSt (lev p)), AV.i (vSp
   u), AV.i (vTk v + 7)] (AV.tup [AV.sl 5 [], AV.i 4]) ∧ AS.mk [(0, AV.sl 2 (List.map encPt l)), (1, AV.sl 3 (List.map encSt p)), (5, AV.elt 2 [[AV.int IntKind.u32 u, AV.int IntKind.u32 v]] 0 0), (6, AV.bool false), (7, AV.i (vSp u)),
   (8, AV.i (vTk v)), (9, AV.sl 3 (List.map encSt (lev p))), (11, AV.sl 5 []), (12, AV.i 4), (13, AV.sl 5 []), (14, AV.i 4)] [] 1 = AS.mk [(0, AV.sl 2 (List.map encPt l)), (1, AV.sl 3 (List.map encSt p)), (5, AV.elt 2 [[AV.int
   IntKind.u32 u, AV.int IntKind.u32 v]] 0 0), (6, AV.bool false), (7, AV.i (vSp u)), (8, AV.i (vTk v)), (9, AV.sl 3 (List.map encSt (lev p))), (11, AV.sl 5 []), (12, AV.i 4), (13, AV.sl 5 []), (14, AV.i 4)] [] 1) ∧ (0 + (List.map
   encPt l).length ≤ 9223372036854775807 ∧ (0 + (List.map encPt l).length) * 16 ≤ 140737488355328 ∧ PCall Tryz.prog G0 15 [AV.sl 3 (List.map encSt p)] (AV.sl 3 (List.map encSt p)) ∧ PCall Tryz.prog G0 14 [AV.sl 2 ([] ++ List.map encPt
   l), AV.sl 3 (List.map encSt p), AV.i (vSp u), AV.i (vTk v)] (AV.tup [AV.sl 5 [], AV.i 4]) ∧ AS.mk [(0, AV.sl 2 (List.map encPt l)), (1, AV.sl 3 (List.map encSt p)), (5, AV.elt 2 [[AV.int IntKind.u32 u, AV.int IntKind.u32 v]] 0 0),
   (6, AV.bool false), (7, AV.i (vSp u)), (8, AV.i (vTk v)), (9, AV.sl 3 (List.map encSt (lev p))), (11, AV.sl 5 []), (12, AV.i 4), (13, AV.sl 5 []), (14, AV.i 4), (15, AV.sl 5 []), (16, AV.i 4)] [] 1 = AS.mk [(0, AV.sl 2 (List.map
   encPt l)), (1, AV.sl 3 (List.map encSt p)), (5, AV.elt 2 [[AV.int IntKind.u32 u, AV.int IntKind.u32 v]] 0 0), (6, AV.bool false), (7, AV.i (vSp u)), (8, AV.i (vTk v)), (9, AV.sl 3 (List.map encSt (lev p))), (11, AV.sl 5 []), (12,
   AV.i 4), (13, AV.sl 5 []), (14, AV.i 4), (15, AV.sl 5 []), (16, AV.i 4)] [] 1) ∧ ((false = true → false = true) ∧ (false = true → false = true) ∧ AV.bool false = AV.bool false ∧ AV.bool false = AV.bool false ∧ AV.bool true =
   AV.bool true ∧ AV.bool false = AV.bool false ∧ AS.mk [(0, AV.sl 2 (List.map encPt l)), (1, AV.sl 3 (List.map encSt p)), (5, AV.elt 2 [[AV.int IntKind.u32 u, AV.int IntKind.u32 v]] 0 0), (6, AV.bool false), (7, AV.i (vSp u)), (8,
   AV.i (vTk v)), (9, AV.sl 3 (List.map encSt (lev p))), (11, AV.sl 5 []), (12, AV.i 4), (13, AV.sl 5 []), (14, AV.i 4), (15, AV.sl 5 []), (16, AV.i 4), (133, AV.bool false)] [] 1 = AS.mk [(0, AV.sl 2 (List.map encPt l)), (1, AV.sl 3
   (List.map encSt p)), (5, AV.elt 2 [[AV.int IntKind.u32 u, AV.int IntKind.u32 v]] 0 0), (6, AV.bool false), (7, AV.i (vSp u)), (8, AV.i (vTk v)), (9, AV.sl 3 (List.map encSt (lev p))), (11, AV.sl 5 []), (12, AV.i 4), (13, AV.sl 5
   []), (14, AV.i 4), (15, AV.sl 5 []), (16, AV.i 4), (133, AV.bool false)] [] 1) ∧ AS.mk [(0, AV.sl 2 (List.map encPt l)), (1, AV.sl 3 (List.map encSt p)), (5, AV.elt 2 [[AV.int IntKind.u32 u, AV.int IntKind.u32 v]] 0 0), (6, AV.bool
   false), (7, AV.i (vSp u)), (8, AV.i (vTk v)), (9, AV.sl 3 (List.map encSt (lev p))), (11, AV.sl 5 []), (12, AV.i 4), (13, AV.sl 5 []), (14, AV.i 4), (15, AV.sl 5 []), (16, AV.i 4)] [] 1 = AS.mk [(0, AV.sl 2 (List.map encPt l)), (1,
   AV.sl 3 (List.map encSt p)), (5, AV.elt 2 [[AV.int IntKind.u32 u, AV.int IntKind.u32 v]] 0 0), (6, AV.bool false), (7, AV.i (vSp u)), (8, AV.i (vTk v)), (9, AV.sl 3 (List.map encSt (lev p))), (11, AV.sl 5 []), (12, AV.i 4), (13,
   AV.sl 5 []), (14, AV.i 4), (15, AV.sl 5 []), (16, AV.i 4)] [] 1 ∧ (AV.bool true = AV.bool true ∧ AS.mk [(0, AV.sl 2 (List.map encPt l)), (1, AV.sl 3 (List.map encSt p)), (5, AV.elt 2 [[AV.int IntKind.u32 u, AV.int IntKind.u32 v]] 0
   0), (6, AV.bool false), (7, AV.i (vSp u)), (8, AV.i (vTk v)), (9, AV.sl 3 (List.map encSt (lev p))), (11, AV.sl 5 []), (12, AV.i 4), (13, AV.sl 5 []), (14, AV.i 4), (15, AV.sl 5 []), (16, AV.i 4), (135, AV.bool true)] [] 1 = AS.mk
   [(0, AV.sl 2 (List.map encPt l)), (1, AV.sl 3 (List.map encSt p)), (5, AV.elt 2 [[AV.int IntKind.u32 u, AV.int IntKind.u32 v]] 0 0), (6, AV.bool false), (7, AV.i (vSp u)), (8, AV.i (vTk v)), (9, AV.sl 3 (List.map encSt (lev p))),
   (11, AV.sl 5 []), (12, AV.i 4), (13, AV.sl 5 []), (14, AV.i 4), (15, AV.sl 5 []), (16, AV.i 4), (135, AV.bool true)] [] 1) ∧ PCall Tryz.prog G0 13 [] (AV.bool true) ∧ AV.bool true = AV.bool true := by
    have hlm : (List.map encPt l).length = l.length := List.length_map _
    have hpm : (List.map encSt p).length = p.length := List.length_map _
    rw [pts_enc, stp_enc, hlm, hpm]
    have g6 : (!decide ((l.length : Int) > 6)) = true → l.length ≤ 6 := fun hh => by
      by_cases hx : (l.length : Int) > 6
      · rw [decide_eq_true hx] at hh
        cases hh
      · omega
    have g8 : (!if (if decide ((l.length : Int) > 6) = true then true else sPath l != 0) = true then true else decide ((p.length : Int) > 8)) = true → p.length ≤ 8 := fun hh => by
      by_cases hx : (p.length : Int) > 8
      · rw [decide_eq_true hx] at hh
        have hb : ∀ b : Bool, (!if b = true then true else true) = true → False := by decide
        exact (hb _ hh).elim
      · omega
    obtain ⟨hl6, hpath, hproc⟩ := gd5_f h
    have hP := path_ok hpath
    have hO := proc_ok hproc
    have hlp := lev_proc hproc
    have hn1 := hP.n1
    have ho1 := hO.n1
    have ho2 := hO.n2
    have hs := vSp_b hu
    have ht := vTk_b hv
    have hll := lev_len p
    have i3 : In64 (1 + (IntKind.wrap .i64 u).tmod 100) := by
      have := hs
      unfold vSp at this
      unfold In64
      omega
    have k15 := fun (q : List St) (hq : q.length ≤ 1000) => (c15 q hq).un
    have k14 := fun (q : List St) (h1 : sProcS q = 0) (hq : q.length ≤ 1000) (t : Int) (h2 : 0 ≤ t ∧ t ≤ 1000000) => show PCall Tryz.prog G0 14 [.sl 2 (l.map encPt), .sl 3 (q.map encSt), .i (vSp u), .i t] (.tup [.sl 5 [], .i 4]) by
      have := c14 l q (vSp u) t (by omega) hq
      rwa [flown_e hpath h1 ⟨hs.1, by omega⟩ h2, hE] at this
    refine ⟨rfl, ⟨fun h => h, fun h => h, fun h => by rw [h]; rfl, fun h => h, fun h => h, fun h => by rw [h]; rfl, fun h => h, fun h => h, fun h => by rw [h]; rfl, impB_iff.2 fun hh => c17 l (by have := g6 hh; omega), impB_iff.2 fun hh => c18 p (by have := g8 hh; omega), congrArg AV.bool h, rfl⟩, rfl, ⟨by omega, by omega, by omega, i3, by omega, by omega, by omega, rfl⟩, ⟨by omega, by omega, by rw [Nat.zero_add]; rfl⟩, rfl, ⟨⟨0, by omega, rfl⟩, fun g hg => ⟨fun hd => by
      have hlt := lt_of_dec hd
      have e1 : ((p.length : Int) - 1).toNat = p.length - 1 := by omega
      have hm : (List.map encSt (lvl p g)).length = p.length := by rw [List.length_map, lvl_len]
      have r1 : nthR (List.map encSt p) (p.length - 1) = encSt (p.getD (p.length - 1) default) := row_at encSt (by omega)
      rw [e1, Int.toNat_natCast, r1]
      exact ⟨by unfold In64; omega, by omega, by omega, by omega, by omega, by omega, rfl, by unfold In64; omega, g + 1, by omega, by omega, by rw [show (p.getD (p.length - 1) default).h = lvH p from rfl, put_lvl hlt]; rfl⟩, fun hd => by
      rw [ge_of_dec hd hg, lvl_end]⟩⟩, ⟨by omega, by omega, k15 _ (by omega), k14 _ hlp (by omega) _ (by omega), rfl⟩, ⟨by omega, by omega, by unfold In64; omega, k15 _ (by omega), k14 _ hlp (by omega) _ (by omega), rfl⟩, ⟨by omega, by omega, k15 _ (by omega), k14 _ hproc (by omega) _ (by omega), rfl⟩, ⟨fun h => h, fun h => h, rfl, rfl, rfl, rfl, rfl⟩, rfl, ⟨rfl, rfl⟩, hA, rfl⟩
  exact c_ofG Tryz.f5 (B5 l p u v (sp5e 4 u v) [(1, 17, rdF), (13, 2, rdF), (13, 6, rdF), (13, 10, rdT), (13, 13, rdF), (15, 1, rdT)]) (e5 l p u v 4) (by kernel_rfl) (by kernel_rfl) (by kernel_rfl) (by kernel_rfl) key (by kernel_rfl)
theorem c5_11 (l : List Pt) (p : List St) (u v : Int) (hA : PCall Tryz.prog G0 13 [] (.bool true)) (hu : 0 ≤ u ∧ u ≤ 4294967295) (hv : 0 ≤ v ∧ v ≤ 4294967295) (h : gd5 l p = false) (hE : errE l (vSp u) = 11) : PCall Tryz.prog G0 5 [.sl 2 (l.map encPt), .sl 3 (p.map encSt), .agg [.int .u32 u, .int .u32 v]] (.bool true) := by
  have key :
   AS.mk [(0, AV.sl 2 (List.map encPt l)), (1, AV.sl 3 (List.map encSt p)), (5, AV.elt 2 [[AV.int IntKind.u32 u, AV.int IntKind.u32 v]] 0 0), (6, AV.bool false)] [] 1 = AS.mk [(0, AV.sl 2 (List.map encPt l)), (1, AV.sl 3 (List.map
   encSt p)), (5, AV.elt 2 [[AV.int IntKind.u32 u, AV.int IntKind.u32 v]] 0 0), (6, AV.bool false)] [] 1 ∧ (((!decide ((↑(List.map encPt l).length : Int) > 6)) = true → (!decide ((↑(List.map encPt l).length : Int) > 6)) = true) ∧
   ((!decide ((↑(List.map encPt l).length : Int) > 6)) = true → (!decide ((↑(List.map encPt l).length : Int) > 6)) = true) ∧ (decide ((↑(List.map encPt l).length : Int) > 6) = false → (!decide ((↑(List.map encPt l).length : Int) > 6))
   = true) ∧ ((!if decide ((↑(List.map encPt l).length : Int) > 6) = true then true else sPath (ptsS (List.map encPt l)) != 0) = true → (!if decide ((↑(List.map encPt l).length : Int) > 6) = true then true else sPath (ptsS (List.map
   encPt l)) != 0) = true) ∧ ((!if decide ((↑(List.map encPt l).length : Int) > 6) = true then true else sPath (ptsS (List.map encPt l)) != 0) = true → (!if decide ((↑(List.map encPt l).length : Int) > 6) = true then true else sPath
   (ptsS (List.map encPt l)) != 0) = true) ∧ ((if decide ((↑(List.map encPt l).length : Int) > 6) = true then true else sPath (ptsS (List.map encPt l)) != 0) = false → (!if decide ((↑(List.map encPt l).length : Int) > 6) = true then
   true else sPath (ptsS (List.map encPt l)) != 0) = true) ∧ ((!if (if decide ((↑(List.map encPt l).length : Int) > 6) = true then true else sPath (ptsS (List.map encPt l)) != 0) = true then true else decide ((↑(List.map encSt
   p).length : Int) > 8)) = true → (!if (if decide ((↑(List.map encPt l).length : Int) > 6) = true then true else sPath (ptsS (List.map encPt l)) != 0) = true then true else decide ((↑(List.map encSt p).length : Int) > 8)) = true) ∧
   ((!if (if decide ((↑(List.map encPt l).length : Int) > 6) = true then true else sPath (ptsS (List.map encPt l)) != 0) = true then true else decide ((↑(List.map encSt p).length : Int) > 8)) = true → (!if (if decide ((↑(List.map
   encPt l).length : Int) > 6) = true then true else sPath (ptsS (List.map encPt l)) != 0) = true then true else decide ((↑(List.map encSt p).length : Int) > 8)) = true) ∧ ((if (if decide ((↑(List.map encPt l).length : Int) > 6) =
   true then true else sPath (ptsS (List.map encPt l)) != 0) = true then true else decide ((↑(List.map encSt p).length : Int) > 8)) = false → (!if (if decide ((↑(List.map encPt l).length : Int) > 6) = true then true else sPath (ptsS
   (List.map encPt l)) != 0) = true then true else decide ((↑(List.map encSt p).length : Int) > 8)) = true) ∧ impB (!decide ((↑(List.map encPt l).length : Int) > 6)) (PCall Tryz.prog G0 17 [AV.sl 2 (List.map encPt l)] (AV.i (sPath
   (ptsS (List.map encPt l))))) ∧ impB (!if (if decide ((↑(List.map encPt l).length : Int) > 6) = true then true else sPath (ptsS (List.map encPt l)) != 0) = true then true else decide ((↑(List.map encSt p).length : Int) > 8)) (PCall
   Tryz.prog G0 18 [AV.sl 3 (List.map encSt p)] (AV.i (sProcR (stpS (List.map encSt p))))) ∧ AV.bool (if (if (if decide ((↑(List.map encPt l).length : Int) > 6) = true then true else sPath (ptsS (List.map encPt l)) != 0) = true then
   true else decide ((↑(List.map encSt p).length : Int) > 8)) = true then true else sProcR (stpS (List.map encSt p)) != 0) = AV.bool false ∧ AS.mk [(0, AV.sl 2 (List.map encPt l)), (1, AV.sl 3 (List.map encSt p)), (5, AV.elt 2
   [[AV.int IntKind.u32 u, AV.int IntKind.u32 v]] 0 0), (6, AV.bool false), (45, AV.bool false)] [] 1 = AS.mk [(0, AV.sl 2 (List.map encPt l)), (1, AV.sl 3 (List.map encSt p)), (5, AV.elt 2 [[AV.int IntKind.u32 u, AV.int IntKind.u32
   v]] 0 0), (6, AV.bool false), (45, AV.bool false)] [] 1) ∧ AS.mk [(0, AV.sl 2 (List.map encPt l)), (1, AV.sl 3 (List.map encSt p)), (5, AV.elt 2 [[AV.int IntKind.u32 u, AV.int IntKind.u32 v]] 0 0), (6, AV.bool false)] [] 1 = AS.mk
   [(0, AV.sl 2 (List.map encPt l)), (1, AV.sl 3 (List.map encSt p)), (5, AV.elt 2 [[AV.int IntKind.u32 u, AV.int IntKind.u32 v]] 0 0), (6, AV.bool false)] [] 1 ∧ ((0 : Int) ≤ 0 ∧ (0 : Int) < (↑2 : Int) ∧ ¬(100 : Int) = (0 : Int) ∧
   In64 ((1 : Int) + (IntKind.i64.wrap u).tmod (100 : Int)) ∧ (0 : Int) ≤ 1 ∧ (1 : Int) < (↑2 : Int) ∧ ¬(100001 : Int) = (0 : Int) ∧ AS.mk [(0, AV.sl 2 (List.map encPt l)), (1, AV.sl 3 (List.map encSt p)), (5, AV.elt 2 [[AV.int
   IntKind.u32 u, AV.int IntKind.u32 v]] 0 0), (6, AV.bool false), (7, AV.i ((1 : Int) + (IntKind.i64.wrap u).tmod (100 : Int))), (8, AV.i ((IntKind.i64.wrap v).tmod (100001 : Int)))] [] 1 = AS.mk [(0, AV.sl 2 (List.map encPt l)), (1,
   AV.sl 3 (List.map encSt p)), (5, AV.elt 2 [[AV.int IntKind.u32 u, AV.int IntKind.u32 v]] 0 0), (6, AV.bool false), (7, AV.i (vSp u)), (8, AV.i (vTk v))] [] 1) ∧ (0 + (List.map encSt p).length ≤ 9223372036854775807 ∧ (0 + (List.map
   encSt p).length) * 24 ≤ 140737488355328 ∧ AS.mk [(0, AV.sl 2 (List.map encPt l)), (1, AV.sl 3 (List.map encSt p)), (5, AV.elt 2 [[AV.int IntKind.u32 u, AV.int IntKind.u32 v]] 0 0), (6, AV.bool false), (7, AV.i (vSp u)), (8, AV.i
   (vTk v)), (9, AV.own 1 (0 + (List.map encSt p).length))] [(1, ABlk.buf 81 3 ([] ++ List.map encSt p))] 2 = AS.mk [(0, AV.sl 2 (List.map encPt l)), (1, AV.sl 3 (List.map encSt p)), (5, AV.elt 2 [[AV.int IntKind.u32 u, AV.int
   IntKind.u32 v]] 0 0), (6, AV.bool false), (7, AV.i (vSp u)), (8, AV.i (vTk v)), (9, AV.own 1 p.length)] [(1, ABlk.buf 81 3 (List.map encSt p))] 2) ∧ AS.mk [(0, AV.sl 2 (List.map encPt l)), (1, AV.sl 3 (List.map encSt p)), (5,
   AV.elt 2 [[AV.int IntKind.u32 u, AV.int IntKind.u32 v]] 0 0), (6, AV.bool false), (7, AV.i (vSp u)), (8, AV.i (vTk v)), (9, AV.own 1 p.length), (60, AV.i (↑p.length : Int)), (61, AV.i 0)] [(1, ABlk.buf 81 3 (List.map encSt p))] 2 =
   AS.mk [(0, AV.sl 2 (List.map encPt l)), (1, AV.sl 3 (List.map encSt p)), (5, AV.elt 2 [[AV.int IntKind.u32 u, AV.int IntKind.u32 v]] 0 0), (6, AV.bool false), (7, AV.i (vSp u)), (8, AV.i (vTk v)), (9, AV.own 1 p.length), (60, AV.i
   (↑p.length : Int)), (61, AV.i 0)] [(1, ABlk.buf 81 3 (List.map encSt p))] 2 ∧ ((∃ (g : Nat), g ≤ p.length ∧ AS.mk [(0, AV.sl 2 (List.map encPt l)), (1, AV.sl 3 (List.map encSt p)), (5, AV.elt 2 [[AV.int IntKind.u32 u, AV.int
   IntKind.u32 v]] 0 0), (6, AV.bool false), (7, AV.i (vSp u)), (8, AV.i (vTk v)), (9, AV.own 1 p.length), (60, AV.i (↑p.length : Int)), (61, AV.i 0)] [(1, ABlk.buf 81 3 (List.map encSt p))] 2 = AS.mk [(0, AV.sl 2 (List.map encPt l)),
   (1, AV.sl 3 (List.map encSt p)), (5, AV.elt 2 [[AV.int IntKind.u32 u, AV.int IntKind.u32 v]] 0 0), (6, AV.bool false), (7, AV.i (vSp u)), (8, AV.i (vTk v)), (9, AV.own 1 p.length), (60, AV.i (↑p.length : Int)), (61, AV.i (↑g :
   Int))] [(1, ABlk.buf 81 3 (List.map encSt (lvl p g)))] 2) ∧ ∀ (g : Nat), g ≤ p.length → (decide ((↑g : Int) < (↑p.length : Int)) = true → In64 ((↑(List.map encSt p).length : Int) - 1) ∧ (0 : Int) ≤ (↑(List.map encSt p).length :
   Int) - 1 ∧ (↑(List.map encSt p).length : Int) - 1 < (↑(List.map encSt p).length : Int) ∧ (0 : Int) ≤ (↑g : Int) ∧ (↑g : Int) < (↑p.length : Int) ∧ (↑g : Int).toNat < (List.map encSt (lvl p g)).length ∧ nth (nthR (List.map encSt p)
   ((↑(List.map encSt p).length : Int) - 1).toNat) 1 = AV.i (p.getD ((↑(List.map encSt p).length : Int) - 1).toNat default).h ∧ In64 ((↑g : Int) + 1) ∧ ∃ (g' : Nat), g' ≤ p.length ∧ p.length - g' < p.length - g ∧ AS.mk [(0, AV.sl 2
   (List.map encPt l)), (1, AV.sl 3 (List.map encSt p)), (5, AV.elt 2 [[AV.int IntKind.u32 u, AV.int IntKind.u32 v]] 0 0), (6, AV.bool false), (7, AV.i (vSp u)), (8, AV.i (vTk v)), (9, AV.own 1 p.length), (60, AV.i (↑p.length : Int)),
   (61, AV.i ((↑g : Int) + 1))] [(1, ABlk.buf 81 3 (putRow (List.map encSt (lvl p g)) (↑g : Int).toNat 1 [AV.i (p.getD ((↑(List.map encSt p).length : Int) - 1).toNat default).h]))] 2 = AS.mk [(0, AV.sl 2 (List.map encPt l)), (1, AV.sl
   3 (List.map encSt p)), (5, AV.elt 2 [[AV.int IntKind.u32 u, AV.int IntKind.u32 v]] 0 0), (6, AV.bool false), (7, AV.i (vSp u)), (8, AV.i (vTk v)), (9, AV.own 1 p.length), (60, AV.i (↑p.length : Int)), (61, AV.i (↑g' : Int))] [(1,
   ABlk.buf 81 3 (List.map encSt (lvl p g')))] 2) ∧ (decide ((↑g : Int) < (↑p.length : Int)) = false → AS.mk [(0, AV.sl 2 (List.map encPt l)), (1, AV.sl 3 (List.map encSt p)), (5, AV.elt 2 [[AV.int IntKind.u32 u, AV.int IntKind.u32
   v]] 0 0), (6, AV.bool false), (7, AV.i (vSp u)), (8, AV.i (vTk v)), (9, AV.sl 3 (List.map encSt (lvl p g)))] [] 1 = AS.mk [(0, AV.sl 2 (List.map encPt l)), (1, AV.sl 3 (List.map encSt p)), (5, AV.elt 2 [[AV.int IntKind.u32 u,
   AV.int IntKind.u32 v]] 0 0), (6, AV.bool false), (7, AV.i (vSp u)), (8, AV.i (vTk v)), (9, AV.sl 3 (List.map encSt (lev p)))] [] 1)) ∧ (0 + (List.map encPt l).length ≤ 9223372036854775807 ∧ (0 + (List.map encPt l).length) * 16 ≤
   140737488355328 ∧ PCall Tryz.prog G0 15 [AV.sl 3 (List.map encSt (lev p))] (AV.sl 3 (List.map encSt (lev p))) ∧ PCall Tryz.prog G0 14 [AV.sl 2 ([] ++ List.map encPt l), AV.sl 3 (List.map encSt (lev p)), AV.i (vSp u), AV.i (vTk v)]
   (AV.tup [AV.sl 5 [], AV.i 11]) ∧ AS.mk [(0, AV.sl 2 (List.map encPt l)), (1, AV.sl 3 (List.map encSt p)), (5, AV.elt 2 [[AV.int IntKind.u32 u, AV.int IntKind.u32 v]] 0 0), (6, AV.bool false), (7, AV.i (vSp u)), (8, AV.i (vTk v)),
   (9, AV.sl 3 (List.map encSt (lev p))), (11, AV.sl 5 []), (12, AV.i 11)] [] 1 = AS.mk [(0, AV.sl 2 (List.map encPt l)), (1, AV.sl 3 (List.map encSt p)), (5, AV.elt 2 [[AV.int IntKind.u32 u, AV.int IntKind.u32 v]] 0 0), (6, AV.bool
   false), (7, AV.i (vSp u)), (8, AV.i (vTk v)), (9, AV.sl 3 (List.map encSt (lev p))), (11, AV.sl 5 []), (12, AV.i 11)] [] 1) ∧ (0 + (List.map encPt l).length ≤ 9223372036854775807 ∧ (0 + (List.map encPt l).length) * 16 ≤
   140737488355328 ∧ In64 (vTk v + 7) ∧ PCall Tryz.prog G0 15 [AV.sl 3 (List.map encSt (lev p))] (AV.sl 3 (List.map encSt (lev p))) ∧ PCall Tryz.prog G0 14 [AV.sl 2 ([] ++ List.map encPt l), AV.sl 3 (List.map encSt (lev p)), AV.i (vSp
   u), AV.i (vTk v + 7)] (AV.tup [AV.sl 5 [], AV.i 11]) ∧ AS.mk [(0, AV.sl 2 (List.map encPt l)), (1, AV.sl 3 (List.map encSt p)), (5, AV.elt 2 [[AV.int IntKind.u32 u, AV.int IntKind.u32 v]] 0 0), (6, AV.bool false), (7, AV.i (vSp
   u)), (8, AV.i (vTk v)), (9, AV.sl 3 (List.map encSt (lev p))), (11, AV.sl 5 []), (12, AV.i 11), (13, AV.sl 5 []), (14, AV.i 11)] [] 1 = AS.mk [(0, AV.sl 2 (List.map encPt l)), (1, AV.sl 3 (List.map encSt p)), (5, AV.elt 2 [[AV.int
   IntKind.u32 u, AV.int IntKind.u32 v]] 0 0), (6, AV.bool false), (7, AV.i (vSp u)), (8, AV.i (vTk v)), (9, AV.sl 3 (List.map encSt (lev p))), (11, AV.sl 5 []), (12, AV.i 11), (13, AV.sl 5 []), (14, AV.i 11)] [] 1) ∧ (0 + (List.map
   encPt l).length ≤ 9223372036854775807 ∧ (0 + (List.map encPt l).length) * 16 ≤ 140737488355328 ∧ PCall Tryz.prog G0 15 [AV.sl 3 (List.map encSt p)] (AV.sl 3 (List.map encSt p)) ∧ PCall Tryz.prog G0 14 [AV.sl 2 ([] ++ List.map encPt
   l), AV.sl 3 (List.map encSt p), AV.i (vSp u), AV.i (vTk v)] (AV.tup [AV.sl 5 [], AV.i 11]) ∧ AS.mk [(0, AV.sl 2 (List.map encPt l)), (1, AV.sl 3 (List.map encSt p)), (5, AV.elt 2 [[AV.int IntKind.u32 u, AV.int IntKind.u32 v]] 0 0),
   (6, AV.bool false), (7, AV.i (vSp u)), (8, AV.i (vTk v)), (9, AV.sl 3 (List.map encSt (lev p))), (11, AV.sl 5 []), (12, AV.i 11), (13, AV.sl 5 []), (14, AV.i 11), (15, AV.sl 5 []), (16, AV.i 11)] [] 1 = AS.mk [(0, AV.sl 2 (List.map
   encPt l)), (1, AV.sl 3 (List.map encSt p)), (5, AV.elt 2 [[AV.int IntKind.u32 u, AV.int IntKind.u32 v]] 0 0), (6, AV.bool false), (7, AV.i (vSp u)), (8, AV.i (vTk v)), (9, AV.sl 3 (List.map encSt (lev p))), (11, AV.sl 5 []), (12,
   AV.i 11), (13, AV.sl 5 []), (14, AV.i 11), (15, AV.sl 5 []), (16, AV.i 11)] [] 1) ∧ ((false = true → false = true) ∧ AV.bool false = AV.bool false ∧ AV.bool false = AV.bool false ∧ AV.bool true = AV.bool true ∧ AV.bool true =
   AV.bool true ∧ AV.bool false = AV.bool false ∧ AS.mk [(0, AV.sl 2 (List.map encPt l)), (1, AV.sl 3 (List.map encSt p)), (5, AV.elt 2 [[AV.int IntKind.u32 u, AV.int IntKind.u32 v]] 0 0), (6, AV.bool false), (7, AV.i (vSp u)), (8,
   AV.i (vTk v)), (9, AV.sl 3 (List.map encSt (lev p))), (11, AV.sl 5 []), (12, AV.i 11), (13, AV.sl 5 []), (14, AV.i 11), (15, AV.sl 5 []), (16, AV.i 11), (133, AV.bool false)] [] 1 = AS.mk [(0, AV.sl 2 (List.map encPt l)), (1, AV.sl
   3 (List.map encSt p)), (5, AV.elt 2 [[AV.int IntKind.u32 u, AV.int IntKind.u32 v]] 0 0), (6, AV.bool false), (7, AV.i (vSp u)), (8, AV.i (vTk v)), (9, AV.sl 3 (List.map encSt (lev p))), (11, AV.sl 5 []), (12, AV.i 11), (13, AV.sl 5
   []), (14, AV.i 11), (15, AV.sl 5 []), (16, AV.i 11), (133, AV.bool false)] [] 1) ∧ AS.mk [(0, AV.sl 2 (List.map encPt l)), (1, AV.sl 3 (List.map encSt p)), (5, AV.elt 2 [[AV.int IntKind.u32 u, AV.int IntKind.u32 v]] 0 0), (6,
   AV.bool false), (7, AV.i (vSp u)), (8, AV.i (vTk v)), (9, AV.sl 3 (List.map encSt (lev p))), (11, AV.sl 5 []), (12, AV.i 11), (13, AV.sl 5 []), (14, AV.i 11), (15, AV.sl 5 []), (16, AV.i 11)] [] 1 = AS.mk [(0, AV.sl 2 (List.map
   encPt l)), (1, AV.sl 3 (List.map encSt p)), (5, AV.elt 2 [[AV.int IntKind.u32 u, AV.int IntKind.u32 v]] 0 0), (6, AV.bool false), (7, AV.i (vSp u)), (8, AV.i (vTk v)), (9, AV.sl 3 (List.map encSt (lev p))), (11, AV.sl 5 []), (12,
   AV.i 11), (13, AV.sl 5 []), (14, AV.i 11), (15, AV.sl 5 []), (16, AV.i 11)] [] 1 ∧ (AV.bool true = AV.bool true ∧ AS.mk [(0, AV.sl 2 (List.map encPt l)), (1, AV.sl 3 (List.map encSt p)), (5, AV.elt 2 [[AV.int IntKind.u32 u, AV.int
   IntKind.u32 v]] 0 0), (6, AV.bool false), (7, AV.i (vSp u)), (8, AV.i (vTk v)), (9, AV.sl 3 (List.map encSt (lev p))), (11, AV.sl 5 []), (12, AV.i 11), (13, AV.sl 5 []), (14, AV.i 11), (15, AV.sl 5 []), (16, AV.i 11), (135, AV.bool
   true)] [] 1 = AS.mk [(0, AV.sl 2 (List.map encPt l)), (1, AV.sl 3 (List.map encSt p)), (5, AV.elt 2 [[AV.int IntKind.u32 u, AV.int IntKind.u32 v]] 0 0), (6, AV.bool false), (7, AV.i (vSp u)), (8, AV.i (vTk v)), (9, AV.sl 3
   (List.map encSt (lev p))), (11, AV.sl 5 []), (12, AV.i 11), (13, AV.sl 5 []), (14, AV.i 11), (15, AV.sl 5 []), (16, AV.i 11), (135, AV.bool true)] [] 1) ∧ PCall Tryz.prog G0 13 [] (AV.bool true) ∧ AV.bool true = AV.bool true := by
    have hlm : (List.map encPt l).length = l.length := List.length_map _
    have hpm : (List.map encSt p).length = p.length := List.length_map _
    rw [pts_enc, stp_enc, hlm, hpm]
    have g6 : (!decide ((l.length : Int) > 6)) = true → l.length ≤ 6 := fun hh => by
      by_cases hx : (l.length : Int) > 6
      · rw [decide_eq_true hx] at hh
        cases hh
      · omega
    have g8 : (!if (if decide ((l.length : Int) > 6) = true then true else sPath l != 0) = true then true else decide ((p.length : Int) > 8)) = true → p.length ≤ 8 := fun hh => by
      by_cases hx : (p.length : Int) > 8
      · rw [decide_eq_true hx] at hh
        have hb : ∀ b : Bool, (!if b = true then true else true) = true → False := by decide
        exact (hb _ hh).elim
      · omega
    obtain ⟨hl6, hpath, hproc⟩ := gd5_f h
    have hP := path_ok hpath
    have hO := proc_ok hproc
    have hlp := lev_proc hproc
    have hn1 := hP.n1
    have ho1 := hO.n1
    have ho2 := hO.n2
    have hs := vSp_b hu
    have ht := vTk_b hv
    have hll := lev_len p
    have i3 : In64 (1 + (IntKind.wrap .i64 u).tmod 100) := by
      have := hs
      unfold vSp at this
      unfold In64
      omega
    have k15 := fun (q : List St) (hq : q.length ≤ 1000) => (c15 q hq).un
    have k14 := fun (q : List St) (h1 : sProcS q = 0) (hq : q.length ≤ 1000) (t : Int) (h2 : 0 ≤ t ∧ t ≤ 1000000) => show PCall Tryz.prog G0 14 [.sl 2 (l.map encPt), .sl 3 (q.map encSt), .i (vSp u), .i t] (.tup [.sl 5 [], .i 11]) by
      have := c14 l q (vSp u) t (by omega) hq
      rwa [flown_e hpath h1 ⟨hs.1, by omega⟩ h2, hE] at this
    refine ⟨rfl, ⟨fun h => h, fun h => h, fun h => by rw [h]; rfl, fun h => h, fun h => h, fun h => by rw [h]; rfl, fun h => h, fun h => h, fun h => by rw [h]; rfl, impB_iff.2 fun hh => c17 l (by have := g6 hh; omega), impB_iff.2 fun hh => c18 p (by have := g8 hh; omega), congrArg AV.bool h, rfl⟩, rfl, ⟨by omega, by omega, by omega, i3, by omega, by omega, by omega, rfl⟩, ⟨by omega, by omega, by rw [Nat.zero_add]; rfl⟩, rfl, ⟨⟨0, by omega, rfl⟩, fun g hg => ⟨fun hd => by
      have hlt := lt_of_dec hd
      have e1 : ((p.length : Int) - 1).toNat = p.length - 1 := by omega
      have hm : (List.map encSt (lvl p g)).length = p.length := by rw [List.length_map, lvl_len]
      have r1 : nthR (List.map encSt p) (p.length - 1) = encSt (p.getD (p.length - 1) default) := row_at encSt (by omega)
      rw [e1, Int.toNat_natCast, r1]
      exact ⟨by unfold In64; omega, by omega, by omega, by omega, by omega, by omega, rfl, by unfold In64; omega, g + 1, by omega, by omega, by rw [show (p.getD (p.length - 1) default).h = lvH p from rfl, put_lvl hlt]; rfl⟩, fun hd => by
      rw [ge_of_dec hd hg, lvl_end]⟩⟩, ⟨by omega, by omega, k15 _ (by omega), k14 _ hlp (by omega) _ (by omega), rfl⟩, ⟨by omega, by omega, by unfold In64; omega, k15 _ (by omega), k14 _ hlp (by omega) _ (by omega), rfl⟩, ⟨by omega, by omega, k15 _ (by omega), k14 _ hproc (by omega) _ (by omega), rfl⟩, ⟨fun h => h, rfl, rfl, rfl, rfl, rfl, rfl⟩, rfl, ⟨rfl, rfl⟩, hA, rfl⟩
  exact c_ofG Tryz.f5 (B5 l p u v (sp5e 11 u v) [(1, 17, rdF), (13, 2, rdF), (13, 6, rdF), (13, 10, rdT), (13, 13, rdT), (13, 17, rdF), (15, 1, rdT)]) (e5 l p u v 11) (by kernel_rfl) (by kernel_rfl) (by kernel_rfl) (by kernel_rfl) key (by kernel_rfl)
theorem c5_14 (l : List Pt) (p : List St) (u v : Int) (hA : PCall Tryz.prog G0 13 [] (.bool true)) (hu : 0 ≤ u ∧ u ≤ 4294967295) (hv : 0 ≤ v ∧ v ≤ 4294967295) (h : gd5 l p = false) (hE : errE l (vSp u) = 14) : PCall Tryz.prog G0 5 [.sl 2 (l.map encPt), .sl 3 (p.map encSt), .agg [.int .u32 u, .int .u32 v]] (.bool true) := by
  have key :
   AS.mk [(0, AV.sl 2 (List.map encPt l)), (1, AV.sl 3 (List.map encSt p)), (5, AV.elt 2 [[AV.int IntKind.u32 u, AV.int IntKind.u32 v]] 0 0), (6, AV.bool false)] [] 1 = AS.mk [(0, AV.sl 2 (List.map encPt l)), (1, AV.sl 3 (List.map
   encSt p)), (5, AV.elt 2 [[AV.int IntKind.u32 u, AV.int IntKind.u32 v]] 0 0), (6, AV.bool false)] [] 1 ∧ (((!decide ((↑(List.map encPt l).length : Int) > 6)) = true → (!decide ((↑(List.map encPt l).length : Int) > 6)) = true) ∧
   ((!decide ((↑(List.map encPt l).length : Int) > 6)) = true → (!decide ((↑(List.map encPt l).length : Int) > 6)) = true) ∧ (decide ((↑(List.map encPt l).length : Int) > 6) = false → (!decide ((↑(List.map encPt l).length : Int) > 6))
   = true) ∧ ((!if decide ((↑(List.map encPt l).length : Int) > 6) = true then true else sPath (ptsS (List.map encPt l)) != 0) = true → (!if decide ((↑(List.map encPt l).length : Int) > 6) = true then true else sPath (ptsS (List.map
   encPt l)) != 0) = true) ∧ ((!if decide ((↑(List.map encPt l).length : Int) > 6) = true then true else sPath (ptsS (List.map encPt l)) != 0) = true → (!if decide ((↑(List.map encPt l).length : Int) > 6) = true then true else sPath
   (ptsS (List.map encPt l)) != 0) = true) ∧ ((if decide ((↑(List.map encPt l).length : Int) > 6) = true then true else sPath (ptsS (List.map encPt l)) != 0) = false → (!if decide ((↑(List.map encPt l).length : Int) > 6) = true then
   true else sPath (ptsS (List.map encPt l)) != 0) = true) ∧ ((!if (if decide ((↑(List.map encPt l).length : Int) > 6) = true then true else sPath (ptsS (List.map encPt l)) != 0) = true then true else decide ((↑(List.map encSt
   p).length : Int) > 8)) = true → (!if (if decide ((↑(List.map encPt l).length : Int) > 6) = true then true else sPath (ptsS (List.map encPt l)) != 0) = true then true else decide ((↑(List.map encSt p).length : Int) > 8)) = true) ∧
   ((!if (if decide ((↑(List.map encPt l).length : Int) > 6) = true then true else sPath (ptsS (List.map encPt l)) != 0) = true then true else decide ((↑(List.map encSt p).length : Int) > 8)) = true → (!if (if decide ((↑(List.map
   encPt l).length : Int) > 6) = true then true else sPath (ptsS (List.map encPt l)) != 0) = true then true else decide ((↑(List.map encSt p).length : Int) > 8)) = true) ∧ ((if (if decide ((↑(List.map encPt l).length : Int) > 6) =
   true then true else sPath (ptsS (List.map encPt l)) != 0) = true then true else decide ((↑(List.map encSt p).length : Int) > 8)) = false → (!if (if decide ((↑(List.map encPt l).length : Int) > 6) = true then true else sPath (ptsS
   (List.map encPt l)) != 0) = true then true else decide ((↑(List.map encSt p).length : Int) > 8)) = true) ∧ impB (!decide ((↑(List.map encPt l).length : Int) > 6)) (PCall Tryz.prog G0 17 [AV.sl 2 (List.map encPt l)] (AV.i (sPath
   (ptsS (List.map encPt l))))) ∧ impB (!if (if decide ((↑(List.map encPt l).length : Int) > 6) = true then true else sPath (ptsS (List.map encPt l)) != 0) = true then true else decide ((↑(List.map encSt p).length : Int) > 8)) (PCall
   Tryz.prog G0 18 [AV.sl 3 (List.map encSt p)] (AV.i (sProcR (stpS (List.map encSt p))))) ∧ AV.bool (if (if (if decide ((↑(List.map encPt l).length : Int) > 6) = true then true else sPath (ptsS (List.map encPt l)) != 0) = true then
   true else decide ((↑(List.map encSt p).length : Int) > 8)) = true then true else sProcR (stpS (List.map encSt p)) != 0) = AV.bool false ∧ AS.mk [(0, AV.sl 2 (List.map encPt l)), (1, AV.sl 3 (List.map encSt p)), (5, AV.elt 2
   [[AV.int IntKind.u32 u, AV.int IntKind.u32 v]] 0 0), (6, AV.bool false), (45, AV.bool false)] [] 1 = AS.mk [(0, AV.sl 2 (List.map encPt l)), (1, AV.sl 3 (List.map encSt p)), (5, AV.elt 2 [[AV.int IntKind.u32 u, AV.int IntKind.u32
   v]] 0 0), (6, AV.bool false), (45, AV.bool false)] [] 1) ∧ AS.mk [(0, AV.sl 2 (List.map encPt l)), (1, AV.sl 3 (List.map encSt p)), (5, AV.elt 2 [[AV.int IntKind.u32 u, AV.int IntKind.u32 v]] 0 0), (6, AV.bool false)] [] 1 = AS.mk
   [(0, AV.sl 2 (List.map encPt l)), (1, AV.sl 3 (List.map encSt p)), (5, AV.elt 2 [[AV.int IntKind.u32 u, AV.int IntKind.u32 v]] 0 0), (6, AV.bool false)] [] 1 ∧ ((0 : Int) ≤ 0 ∧ (0 : Int) < (↑2 : Int) ∧ ¬(100 : Int) = (0 : Int) ∧
   In64 ((1 : Int) + (IntKind.i64.wrap u).tmod (100 : Int)) ∧ (0 : Int) ≤ 1 ∧ (1 : Int) < (↑2 : Int) ∧ ¬(100001 : Int) = (0 : Int) ∧ AS.mk [(0, AV.sl 2 (List.map encPt l)), (1, AV.sl 3 (List.map encSt p)), (5, AV.elt 2 [[AV.int
   IntKind.u32 u, AV.int IntKind.u32 v]] 0 0), (6, AV.bool false), (7, AV.i ((1 : Int) + (IntKind.i64.wrap u).tmod (100 : Int))), (8, AV.i ((IntKind.i64.wrap v).tmod (100001 : Int)))] [] 1 = AS.mk [(0, AV.sl 2 (List.map encPt l)), (1,
   AV.sl 3 (List.map encSt p)), (5, AV.elt 2 [[AV.int IntKind.u32 u, AV.int IntKind.u32 v]] 0 0), (6, AV.bool false), (7, AV.i (vSp u)), (8, AV.i (vTk v))] [] 1) ∧ (0 + (List.map encSt p).length ≤ 9223372036854775807 ∧ (0 + (List.map
   encSt p).length) * 24 ≤ 140737488355328 ∧ AS.mk [(0, AV.sl 2 (List.map encPt l)), (1, AV.sl 3 (List.map encSt p)), (5, AV.elt 2 [[AV.int IntKind.u32 u, AV.int IntKind.u32 v]] 0 0), (6, AV.bool false), (7, AV.i (vSp u)), (8, AV.i
   (vTk v)), (9, AV.own 1 (0 + (List.map encSt p).length))] [(1, ABlk.buf 81 3 ([] ++ List.map encSt p))] 2 = AS.mk [(0, AV.sl 2 (List.map encPt l)), (1, AV.sl 3 (List.map encSt p)), (5, AV.elt 2 [[AV.int IntKind.u32 u, AV.int
   IntKind.u32 v]] 0 0), (6, AV.bool false), (7, AV.i (vSp u)), (8, AV.i (vTk v)), (9, AV.own 1 p.length)] [(1, ABlk.buf 81 3 (List.map encSt p))] 2) ∧ AS.mk [(0, AV.sl 2 (List.map encPt l)), (1, AV.sl 3 (List.map encSt p)), (5,
   AV.elt 2 [[AV.int IntKind.u32 u, AV.int IntKind.u32 v]] 0 0), (6, AV.bool false), (7, AV.i (vSp u)), (8, AV.i (vTk v)), (9, AV.own 1 p.length), (60, AV.i (↑p.length : Int)), (61, AV.i 0)] [(1, ABlk.buf 81 3 (List.map encSt p))] 2 =
   AS.mk [(0, AV.sl 2 (List.map encPt l)), (1, AV.sl 3 (List.map encSt p)), (5, AV.elt 2 [[AV.int IntKind.u32 u, AV.int IntKind.u32 v]] 0 0), (6, AV.bool false), (7, AV.i (vSp u)), (8, AV.i (vTk v)), (9, AV.own 1 p.length), (60, AV.i
   (↑p.length : Int)), (61, AV.i 0)] [(1, ABlk.buf 81 3 (List.map encSt p))] 2 ∧ ((∃ (g : Nat), g ≤ p.length ∧ AS.mk [(0, AV.sl 2 (List.map encPt l)), (1, AV.sl 3 (List.map encSt p)), (5, AV.elt 2 [[AV.int IntKind.u32 u, AV.int
   IntKind.u32 v]] 0 0), (6, AV.bool false), (7, AV.i (vSp u)), (8, AV.i (vTk v)), (9, AV.own 1 p.length), (60, AV.i (↑p.length : Int)), (61, AV.i 0)] [(1, ABlk.buf 81 3 (List.map encSt p))] 2 = AS.mk [(0, AV.sl 2 (List.map encPt l)),
   (1, AV.sl 3 (List.map encSt p)), (5, AV.elt 2 [[AV.int IntKind.u32 u, AV.int IntKind.u32 v]] 0 0), (6, AV.bool false), (7, AV.i (vSp u)), (8, AV.i (vTk v)), (9, AV.own 1 p.length), (60, AV.i (↑p.length : Int)), (61, AV.i (↑g :
   Int))] [(1, ABlk.buf 81 3 (List.map encSt (lvl p g)))] 2) ∧ ∀ (g : Nat), g ≤ p.length → (decide ((↑g : Int) < (↑p.length : Int)) = true → In64 ((↑(List.map encSt p).length : Int) - 1) ∧ (0 : Int) ≤ (↑(List.map encSt p).length :
   Int) - 1 ∧ (↑(List.map encSt p).length : Int) - 1 < (↑(List.map encSt p).length : Int) ∧ (0 : Int) ≤ (↑g : Int) ∧ (↑g : Int) < (↑p.length : Int) ∧ (↑g : Int).toNat < (List.map encSt (lvl p g)).length ∧ nth (nthR (List.map encSt p)
   ((↑(List.map encSt p).length : Int) - 1).toNat) 1 = AV.i (p.getD ((↑(List.map encSt p).length : Int) - 1).toNat default).h ∧ In64 ((↑g : Int) + 1) ∧ ∃ (g' : Nat), g' ≤ p.length ∧ p.length - g' < p.length - g ∧ AS.mk [(0, AV.sl 2
   (List.map encPt l)), (1, AV.sl 3 (List.map encSt p)), (5, AV.elt 2 [[AV.int IntKind.u32 u, AV.int IntKind.u32 v]] 0 0), (6, AV.bool false), (7, AV.i (vSp u)), (8, AV.i (vTk v)), (9, AV.own 1 p.length), (60, AV.i (↑p.length : Int)),
   (61, AV.i ((↑g : Int) + 1))] [(1, ABlk.buf 81 3 (putRow (List.map encSt (lvl p g)) (↑g : Int).toNat 1 [AV.i (p.getD ((↑(List.map encSt p).length : Int) - 1).toNat default).h]))] 2 = AS.mk [(0, AV.sl 2 (List.map encPt l)), (1, AV.sl
   3 (List.map encSt p)), (5, AV.elt 2 [[AV.int IntKind.u32 u, AV.int IntKind.u32 v]] 0 0), (6, AV.bool false), (7, AV.i (vSp u)), (8, AV.i (vTk v)), (9, AV.own 1 p.length), (60, AV.i (↑p.length : Int)), (61, AV.i (↑g' : Int))] [(1,
   ABlk.buf 81 3 (List.map encSt (lvl p g')))] 2) ∧ (decide ((↑g : Int) < (↑p.length : Int)) = false → AS.mk [(0, AV.sl 2 (List.map encPt l)), (1, AV.sl 3 (List.map encSt p)), (5, AV.elt 2 [[AV.int IntKind.u32 u, AV.int IntKind.u32
   v]] 0 0), (6, AV.bool false), (7, AV.i (vSp u)), (8, AV.i (vTk v)), (9, AV.sl 3 (List.map encSt (lvl p g)))] [] 1 = AS.mk [(0, AV.sl 2 (List.map encPt l)), (1, AV.sl 3 (List.map encSt p)), (5, AV.elt 2 [[AV.int IntKind.u32 u,
   AV.int IntKind.u32 v]] 0 0), (6, AV.bool false), (7, AV.i (vSp u)), (8, AV.i (vTk v)), (9, AV.sl 3 (List.map encSt (lev p)))] [] 1)) ∧ (0 + (List.map encPt l).length ≤ 9223372036854775807 ∧ (0 + (List.map encPt l).length) * 16 ≤
   140737488355328 ∧ PCall Tryz.prog G0 15 [AV.sl 3 (List.map encSt (lev p))] (AV.sl 3 (List.map encSt (lev p))) ∧ PCall Tryz.prog G0 14 [AV.sl 2 ([] ++ List.map encPt l), AV.sl 3 (List.map encSt (lev p)), AV.i (vSp u), AV.i (vTk v)]
   (AV.tup [AV.sl 5 [], AV.i 14]) ∧ AS.mk [(0, AV.sl 2 (List.map encPt l)), (1, AV.sl 3 (List.map encSt p)), (5, AV.elt 2 [[AV.int IntKind.u32 u, AV.int IntKind.u32 v]] 0 0), (6, AV.bool false), (7, AV.i (vSp u)), (8, AV.i (vTk v)),
   (9, AV.sl 3 (List.map encSt (lev p))), (11, AV.sl 5 []), (12, AV.i 14)] [] 1 = AS.mk [(0, AV.sl 2 (List.map encPt l)), (1, AV.sl 3 (List.map encSt p)), (5, AV.elt 2 [[AV.int IntKind.u32 u, AV.int IntKind.u32 v]] 0 0), (6, AV.bool
   false), (7, AV.i (vSp u)), (8, AV.i (vTk v)), (9, AV.sl 3 (List.map encSt (lev p))), (11, AV.sl 5 []), (12, AV.i 14)] [] 1) ∧ (0 + (List.map encPt l).length ≤ 9223372036854775807 ∧ (0 + (List.map encPt l).length) * 16 ≤
   140737488355328 ∧ In64 (vTk v + 7) ∧ PCall Tryz.prog G0 15 [AV.sl 3 (List.map encSt (lev p))] (AV.sl 3 (List.map encSt (lev p))) ∧ PCall Tryz.prog G0 14 [AV.sl 2 ([] ++ List.map encPt l), AV.sl 3 (List.map encSt (lev p)), AV.i (vSp
   u), AV.i (vTk v + 7)] (AV.tup [AV.sl 5 [], AV.i 14]) ∧ AS.mk [(0, AV.sl 2 (List.map encPt l)), (1, AV.sl 3 (List.map encSt p)), (5, AV.elt 2 [[AV.int IntKind.u32 u, AV.int IntKind.u32 v]] 0 0), (6, AV.bool false), (7, AV.i (vSp
   u)), (8, AV.i (vTk v)), (9, AV.sl 3 (List.map encSt (lev p))), (11, AV.sl 5 []), (12, AV.i 14), (13, AV.sl 5 []), (14, AV.i 14)] [] 1 = AS.mk [(0, AV.sl 2 (List.map encPt l)), (1, AV.sl 3 (List.map encSt p)), (5, AV.elt 2 [[AV.int
   IntKind.u32 u, AV.int IntKind.u32 v]] 0 0), (6, AV.bool false), (7, AV.i (vSp u)), (8, AV.i (vTk v)), (9, AV.sl 3 (List.map encSt (lev p))), (11, AV.sl 5 []), (12, AV.i 14), (13, AV.sl 5 []), (14, AV.i 14)] [] 1) ∧ (0 + (List.map
   encPt l).length ≤ 9223372036854775807 ∧ (0 + (List.map encPt l).length) * 16 ≤ 140737488355328 ∧ PCall Tryz.prog G0 15 [AV.sl 3 (List.map encSt p)] (AV.sl 3 (List.map encSt p)) ∧ PCall Tryz.prog G0 14 [AV.sl 2 ([] ++ List.map encPt
   l), AV.sl 3 (List.map encSt p), AV.i (vSp u), AV.i (vTk v)] (AV.tup [AV.sl 5 [], AV.i 14]) ∧ AS.mk [(0, AV.sl 2 (List.map encPt l)), (1, AV.sl 3 (List.map encSt p)), (5, AV.elt 2 [[AV.int IntKind.u32 u, AV.int IntKind.u32 v]] 0 0),
   (6, AV.bool false), (7, AV.i (vSp u)), (8, AV.i (vTk v)), (9, AV.sl 3 (List.map encSt (lev p))), (11, AV.sl 5 []), (12, AV.i 14), (13, AV.sl 5 []), (14, AV.i 14), (15, AV.sl 5 []), (16, AV.i 14)] [] 1 = AS.mk [(0, AV.sl 2 (List.map
   encPt l)), (1, AV.sl 3 (List.map encSt p)), (5, AV.elt 2 [[AV.int IntKind.u32 u, AV.int IntKind.u32 v]] 0 0), (6, AV.bool false), (7, AV.i (vSp u)), (8, AV.i (vTk v)), (9, AV.sl 3 (List.map encSt (lev p))), (11, AV.sl 5 []), (12,
   AV.i 14), (13, AV.sl 5 []), (14, AV.i 14), (15, AV.sl 5 []), (16, AV.i 14)] [] 1) ∧ (AV.bool false = AV.bool false ∧ AV.bool false = AV.bool false ∧ AV.bool true = AV.bool true ∧ AV.bool true = AV.bool true ∧ AV.bool true = AV.bool
   true ∧ AV.bool false = AV.bool false ∧ AS.mk [(0, AV.sl 2 (List.map encPt l)), (1, AV.sl 3 (List.map encSt p)), (5, AV.elt 2 [[AV.int IntKind.u32 u, AV.int IntKind.u32 v]] 0 0), (6, AV.bool false), (7, AV.i (vSp u)), (8, AV.i (vTk
   v)), (9, AV.sl 3 (List.map encSt (lev p))), (11, AV.sl 5 []), (12, AV.i 14), (13, AV.sl 5 []), (14, AV.i 14), (15, AV.sl 5 []), (16, AV.i 14), (133, AV.bool false)] [] 1 = AS.mk [(0, AV.sl 2 (List.map encPt l)), (1, AV.sl 3
   (List.map encSt p)), (5, AV.elt 2 [[AV.int IntKind.u32 u, AV.int IntKind.u32 v]] 0 0), (6, AV.bool false), (7, AV.i (vSp u)), (8, AV.i (vTk v)), (9, AV.sl 3 (List.map encSt (lev p))), (11, AV.sl 5 []), (12, AV.i 14), (13, AV.sl 5
   []), (14, AV.i 14), (15, AV.sl 5 []), (16, AV.i 14), (133, AV.bool false)] [] 1) ∧ AS.mk [(0, AV.sl 2 (List.map encPt l)), (1, AV.sl 3 (List.map encSt p)), (5, AV.elt 2 [[AV.int IntKind.u32 u, AV.int IntKind.u32 v]] 0 0), (6,
   AV.bool false), (7, AV.i (vSp u)), (8, AV.i (vTk v)), (9, AV.sl 3 (List.map encSt (lev p))), (11, AV.sl 5 []), (12, AV.i 14), (13, AV.sl 5 []), (14, AV.i 14), (15, AV.sl 5 []), (16, AV.i 14)] [] 1 = AS.mk [(0, AV.sl 2 (List.map
   encPt l)), (1, AV.sl 3 (List.map encSt p)), (5, AV.elt 2 [[AV.int IntKind.u32 u, AV.int IntKind.u32 v]] 0 0), (6, AV.bool false), (7, AV.i (vSp u)), (8, AV.i (vTk v)), (9, AV.sl 3 (List.map encSt (lev p))), (11, AV.sl 5 []), (12,
   AV.i 14), (13, AV.sl 5 []), (14, AV.i 14), (15, AV.sl 5 []), (16, AV.i 14)] [] 1 ∧ (AV.bool true = AV.bool true ∧ AS.mk [(0, AV.sl 2 (List.map encPt l)), (1, AV.sl 3 (List.map encSt p)), (5, AV.elt 2 [[AV.int IntKind.u32 u, AV.int
   IntKind.u32 v]] 0 0), (6, AV.bool false), (7, AV.i (vSp u)), (8, AV.i (vTk v)), (9, AV.sl 3 (List.map encSt (lev p))), (11, AV.sl 5 []), (12, AV.i 14), (13, AV.sl 5 []), (14, AV.i 14), (15, AV.sl 5 []), (16, AV.i 14), (135, AV.bool
   true)] [] 1 = AS.mk [(0, AV.sl 2 (List.map encPt l)), (1, AV.sl 3 (List.map encSt p)), (5, AV.elt 2 [[AV.int IntKind.u32 u, AV.int IntKind.u32 v]] 0 0), (6, AV.bool false), (7, AV.i (vSp u)), (8, AV.i (vTk v)), (9, AV.sl 3
   (List.map encSt (lev p))), (11, AV.sl 5 []), (12, AV.i 14), (13, AV.sl 5 []), (14, AV.i 14), (15, AV.sl 5 []), (16, AV.i 14), (135, AV.bool true)] [] 1) ∧ PCall Tryz.prog G0 13 [] (AV.bool true) ∧ AV.bool true = AV.bool true := by
    have hlm : (List.map encPt l).length = l.length := List.length_map _
    have hpm : (List.map encSt p).length = p.length := List.length_map _
    rw [pts_enc, stp_enc, hlm, hpm]
    have g6 : (!decide ((l.length : Int) > 6)) = true → l.length ≤ 6 := fun hh => by
      by_cases hx : (l.length : Int) > 6
      · rw [decide_eq_true hx] at hh
        cases hh
      · omega
    have g8 : (!if (if decide ((l.length : Int) > 6) = true then true else sPath l != 0) = true then true else decide ((p.length : Int) > 8)) = true → p.length ≤ 8 := fun hh => by
      by_cases hx : (p.length : Int) > 8
      · rw [decide_eq_true hx] at hh
        have hb : ∀ b : Bool, (!if b = true then true else true) = true → False := by decide
        exact (hb _ hh).elim
      · omega
    obtain ⟨hl6, hpath, hproc⟩ := gd5_f h
    have hP := path_ok hpath
    have hO := proc_ok hproc
    have hlp := lev_proc hproc
    have hn1 := hP.n1
    have ho1 := hO.n1
    have ho2 := hO.n2
    have hs := vSp_b hu
    have ht := vTk_b hv
    have hll := lev_len p
    have i3 : In64 (1 + (IntKind.wrap .i64 u).tmod 100) := by
      have := hs
      unfold vSp at this
      unfold In64
      omega
    have k15 := fun (q : List St) (hq : q.length ≤ 1000) => (c15 q hq).un
    have k14 := fun (q : List St) (h1 : sProcS q = 0) (hq : q.length ≤ 1000) (t : Int) (h2 : 0 ≤ t ∧ t ≤ 1000000) => show PCall Tryz.prog G0 14 [.sl 2 (l.map encPt), .sl 3 (q.map encSt), .i (vSp u), .i t] (.tup [.sl 5 [], .i 14]) by
      have := c14 l q (vSp u) t (by omega) hq
      rwa [flown_e hpath h1 ⟨hs.1, by omega⟩ h2, hE] at this
    refine ⟨rfl, ⟨fun h => h, fun h => h, fun h => by rw [h]; rfl, fun h => h, fun h => h, fun h => by rw [h]; rfl, fun h => h, fun h => h, fun h => by rw [h]; rfl, impB_iff.2 fun hh => c17 l (by have := g6 hh; omega), impB_iff.2 fun hh => c18 p (by have := g8 hh; omega), congrArg AV.bool h, rfl⟩, rfl, ⟨by omega, by omega, by omega, i3, by omega, by omega, by omega, rfl⟩, ⟨by omega, by omega, by rw [Nat.zero_add]; rfl⟩, rfl, ⟨⟨0, by omega, rfl⟩, fun g hg => ⟨fun hd => by
      have hlt := lt_of_dec hd
      have e1 : ((p.length : Int) - 1).toNat = p.length - 1 := by omega
      have hm : (List.map encSt (lvl p g)).length = p.length := by rw [List.length_map, lvl_len]
      have r1 : nthR (List.map encSt p) (p.length - 1) = encSt (p.getD (p.length - 1) default) := row_at encSt (by omega)
      rw [e1, Int.toNat_natCast, r1]
      exact ⟨by unfold In64; omega, by omega, by omega, by omega, by omega, by omega, rfl, by unfold In64; omega, g + 1, by omega, by omega, by rw [show (p.getD (p.length - 1) default).h = lvH p from rfl, put_lvl hlt]; rfl⟩, fun hd => by
      rw [ge_of_dec hd hg, lvl_end]⟩⟩, ⟨by omega, by omega, k15 _ (by omega), k14 _ hlp (by omega) _ (by omega), rfl⟩, ⟨by omega, by omega, by unfold In64; omega, k15 _ (by omega), k14 _ hlp (by omega) _ (by omega), rfl⟩, ⟨by omega, by omega, k15 _ (by omega), k14 _ hproc (by omega) _ (by omega), rfl⟩, ⟨rfl, rfl, rfl, rfl, rfl, rfl, rfl⟩, rfl, ⟨rfl, rfl⟩, hA, rfl⟩
  exact c_ofG Tryz.f5 (B5 l p u v (sp5e 14 u v) [(1, 17, rdF), (13, 2, rdF), (13, 6, rdF), (13, 10, rdT), (13, 13, rdT), (13, 17, rdT), (13, 21, rdF), (15, 1, rdT)]) (e5 l p u v 14) (by kernel_rfl) (by kernel_rfl) (by kernel_rfl) (by kernel_rfl) key (by kernel_rfl)
theorem c5_ok (l : List Pt) (p : List St) (u v : Int) (hA : PCall Tryz.prog G0 13 [] (.bool true)) (hu : 0 ≤ u ∧ u ≤ 4294967295) (hv : 0 ≤ v ∧ v ≤ 4294967295) (h : gd5 l p = false) (hE : errE l (vSp u) = 0) : PCall Tryz.prog G0 5 [.sl 2 (l.map encPt), .sl 3 (p.map encSt), .agg [.int .u32 u, .int .u32 v]] (.bool true) := by
  have key :
   AS.mk [(0, AV.sl 2 (List.map encPt l)), (1, AV.sl 3 (List.map encSt p)), (5, AV.elt 2 [[AV.int IntKind.u32 u, AV.int IntKind.u32 v]] 0 0), (6, AV.bool false)] [] 1 = AS.mk [(0, AV.sl 2 (List.map encPt l)), (1, AV.sl 3 (List.map
   encSt p)), (5, AV.elt 2 [[AV.int IntKind.u32 u, AV.int IntKind.u32 v]] 0 0), (6, AV.bool false)] [] 1 ∧ (((!decide ((↑(List.map encPt l).length : Int) > 6)) = true → (!decide ((↑(List.map encPt l).length : Int) > 6)) = true) ∧
   ((!decide ((↑(List.map encPt l).length : Int) > 6)) = true → (!decide ((↑(List.map encPt l).length : Int) > 6)) = true) ∧ (decide ((↑(List.map encPt l).length : Int) > 6) = false → (!decide ((↑(List.map encPt l).length : Int) > 6))
   = true) ∧ ((!if decide ((↑(List.map encPt l).length : Int) > 6) = true then true else sPath (ptsS (List.map encPt l)) != 0) = true → (!if decide ((↑(List.map encPt l).length : Int) > 6) = true then true else sPath (ptsS (List.map
   encPt l)) != 0) = true) ∧ ((!if decide ((↑(List.map encPt l).length : Int) > 6) = true then true else sPath (ptsS (List.map encPt l)) != 0) = true → (!if decide ((↑(List.map encPt l).length : Int) > 6) = true then true else sPath
   (ptsS (List.map encPt l)) != 0) = true) ∧ ((if decide ((↑(List.map encPt l).length : Int) > 6) = true then true else sPath (ptsS (List.map encPt l)) != 0) = false → (!if decide ((↑(List.map encPt l).length : Int) > 6) = true then
   true else sPath (ptsS (List.map encPt l)) != 0) = true) ∧ ((!if (if decide ((↑(List.map encPt l).length : Int) > 6) = true then true else sPath (ptsS (List.map encPt l)) != 0) = true then true else decide ((↑(List.map encSt
   p).length : Int) > 8)) = true → (!if (if decide ((↑(List.map encPt l).length : Int) > 6) = true then true else sPath (ptsS (List.map encPt l)) != 0) = true then true else decide ((↑(List.map encSt p).length : Int) > 8)) = true) ∧
   ((!if (if decide ((↑(List.map encPt l).length : Int) > 6) = true then true else sPath (ptsS (List.map encPt l)) != 0) = true then true else decide ((↑(List.map encSt p).length : Int) > 8)) = true → (!if (if decide ((↑(List.map
   encPt l).length : Int) > 6) = true then true else sPath (ptsS (List.map encPt l)) != 0) = true then true else decide ((↑(List.map encSt p).length : Int) > 8)) = true) ∧ ((if (if decide ((↑(List.map encPt l).length : Int) > 6) =
   true then true else sPath (ptsS (List.map encPt l)) != 0) = true then true else decide ((↑(List.map encSt p).length : Int) > 8)) = false → (!if (if decide ((↑(List.map encPt l).length : Int) > 6) = true then true else sPath (ptsS
   (List.map encPt l)) != 0) = true then true else decide ((↑(List.map encSt p).length : Int) > 8)) = true) ∧ impB (!decide ((↑(List.map encPt l).length : Int) > 6)) (PCall Tryz.prog G0 17 [AV.sl 2 (List.map encPt l)] (AV.i (sPath
   (ptsS (List.map encPt l))))) ∧ impB (!if (if decide ((↑(List.map encPt l).length : Int) > 6) = true then true else sPath (ptsS (List.map encPt l)) != 0) = true then true else decide ((↑(List.map encSt p).length : Int) > 8)) (PCall
   Tryz.prog G0 18 [AV.sl 3 (List.map encSt p)] (AV.i (sProcR (stpS (List.map encSt p))))) ∧ AV.bool (if (if (if decide ((↑(List.map encPt l).length : Int) > 6) = true then true else sPath (ptsS (List.map encPt l)) != 0) = true then
   true else decide ((↑(List.map encSt p).length : Int) > 8)) = true then true else sProcR (stpS (List.map encSt p)) != 0) = AV.bool false ∧ AS.mk [(0, AV.sl 2 (List.map encPt l)), (1, AV.sl 3 (List.map encSt p)), (5, AV.elt 2
   [[AV.int IntKind.u32 u, AV.int IntKind.u32 v]] 0 0), (6, AV.bool false), (45, AV.bool false)] [] 1 = AS.mk [(0, AV.sl 2 (List.map encPt l)), (1, AV.sl 3 (List.map encSt p)), (5, AV.elt 2 [[AV.int IntKind.u32 u, AV.int IntKind.u32
   v]] 0 0), (6, AV.bool false), (45, AV.bool false)] [] 1) ∧ AS.mk [(0, AV.sl 2 (List.map encPt l)), (1, AV.sl 3 (List.map encSt p)), (5, AV.elt 2 [[AV.int IntKind.u32 u, AV.int IntKind.u32 v]] 0 0), (6, AV.bool false)] [] 1 = AS.mk
   [(0, AV.sl 2 (List.map encPt l)), (1, AV.sl 3 (List.map encSt p)), (5, AV.elt 2 [[AV.int IntKind.u32 u, AV.int IntKind.u32 v]] 0 0), (6, AV.bool false)] [] 1 ∧ ((0 : Int) ≤ 0 ∧ (0 : Int) < (↑2 : Int) ∧ ¬(100 : Int) = (0 : Int) ∧
   In64 ((1 : Int) + (IntKind.i64.wrap u).tmod (100 : Int)) ∧ (0 : Int) ≤ 1 ∧ (1 : Int) < (↑2 : Int) ∧ ¬(100001 : Int) = (0 : Int) ∧ AS.mk [(0, AV.sl 2 (List.map encPt l)), (1, AV.sl 3 (List.map encSt p)), (5, AV.elt 2 [[AV.int
   IntKind.u32 u, AV.int IntKind.u32 v]] 0 0), (6, AV.bool false), (7, AV.i ((1 : Int) + (IntKind.i64.wrap u).tmod (100 : Int))), (8, AV.i ((IntKind.i64.wrap v).tmod (100001 : Int)))] [] 1 = AS.mk [(0, AV.sl 2 (List.map encPt l)), (1,
   AV.sl 3 (List.map encSt p)), (5, AV.elt 2 [[AV.int IntKind.u32 u, AV.int IntKind.u32 v]] 0 0), (6, AV.bool false), (7, AV.i (vSp u)), (8, AV.i (vTk v))] [] 1) ∧ (0 + (List.map encSt p).length ≤ 9223372036854775807 ∧ (0 + (List.map
   encSt p).length) * 24 ≤ 140737488355328 ∧ AS.mk [(0, AV.sl 2 (List.map encPt l)), (1, AV.sl 3 (List.map encSt p)), (5, AV.elt 2 [[AV.int IntKind.u32 u, AV.int IntKind.u32 v]] 0 0), (6, AV.bool false), (7, AV.i (vSp u)), (8, AV.i
   (vTk v)), (9, AV.own 1 (0 + (List.map encSt p).length))] [(1, ABlk.buf 81 3 ([] ++ List.map encSt p))] 2 = AS.mk [(0, AV.sl 2 (List.map encPt l)), (1, AV.sl 3 (List.map encSt p)), (5, AV.elt 2 [[AV.int IntKind.u32 u, AV.int
   IntKind.u32 v]] 0 0), (6, AV.bool false), (7, AV.i (vSp u)), (8, AV.i (vTk v)), (9, AV.own 1 p.length)] [(1, ABlk.buf 81 3 (List.map encSt p))] 2) ∧ AS.mk [(0, AV.sl 2 (List.map encPt l)), (1, AV.sl 3 (List.map encSt p)), (5,
   AV.elt 2 [[AV.int IntKind.u32 u, AV.int IntKind.u32 v]] 0 0), (6, AV.bool false), (7, AV.i (vSp u)), (8, AV.i (vTk v)), (9, AV.own 1 p.length), (60, AV.i (↑p.length : Int)), (61, AV.i 0)] [(1, ABlk.buf 81 3 (List.map encSt p))] 2 =
   AS.mk [(0, AV.sl 2 (List.map encPt l)), (1, AV.sl 3 (List.map encSt p)), (5, AV.elt 2 [[AV.int IntKind.u32 u, AV.int IntKind.u32 v]] 0 0), (6, AV.bool false), (7, AV.i (vSp u)), (8, AV.i (vTk v)), (9, AV.own 1 p.length), (60, AV.i
   (↑p.length : Int)), (61, AV.i 0)] [(1, ABlk.buf 81 3 (List.map encSt p))] 2 ∧ ((∃ (g : Nat), g ≤ p.length ∧ AS.mk [(0, AV.sl 2 (List.map encPt l)), (1, AV.sl 3 (List.map encSt p)), (5, AV.elt 2 [[AV.int IntKind.u32 u, AV.int
   IntKind.u32 v]] 0 0), (6, AV.bool false), (7, AV.i (vSp u)), (8, AV.i (vTk v)), (9, AV.own 1 p.length), (60, AV.i (↑p.length : Int)), (61, AV.i 0)] [(1, ABlk.buf 81 3 (List.map encSt p))] 2 = AS.mk [(0, AV.sl 2 (List.map encPt l)),
   (1, AV.sl 3 (List.map encSt p)), (5, AV.elt 2 [[AV.int IntKind.u32 u, AV.int IntKind.u32 v]] 0 0), (6, AV.bool false), (7, AV.i (vSp u)), (8, AV.i (vTk v)), (9, AV.own 1 p.length), (60, AV.i (↑p.length : Int)), (61, AV.i (↑g :
   Int))] [(1, ABlk.buf 81 3 (List.map encSt (lvl p g)))] 2) ∧ ∀ (g : Nat), g ≤ p.length → (decide ((↑g : Int) < (↑p.length : Int)) = true → In64 ((↑(List.map encSt p).length : Int) - 1) ∧ (0 : Int) ≤ (↑(List.map encSt p).length :
   Int) - 1 ∧ (↑(List.map encSt p).length : Int) - 1 < (↑(List.map encSt p).length : Int) ∧ (0 : Int) ≤ (↑g : Int) ∧ (↑g : Int) < (↑p.length : Int) ∧ (↑g : Int).toNat < (List.map encSt (lvl p g)).length ∧ nth (nthR (List.map encSt p)
   ((↑(List.map encSt p).length : Int) - 1).toNat) 1 = AV.i (p.getD ((↑(List.map encSt p).length : Int) - 1).toNat default).h ∧ In64 ((↑g : Int) + 1) ∧ ∃ (g' : Nat), g' ≤ p.length ∧ p.length - g' < p.length - g ∧ AS.mk [(0, AV.sl 2
   (List.map encPt l)), (1, AV.sl 3 (List.map encSt p)), (5, AV.elt 2 [[AV.int IntKind.u32 u, AV.int IntKind.u32 v]] 0 0), (6, AV.bool false), (7, AV.i (vSp u)), (8, AV.i (vTk v)), (9, AV.own 1 p.length), (60, AV.i (↑p.length : Int)),
   (61, AV.i ((↑g : Int) + 1))] [(1, ABlk.buf 81 3 (putRow (List.map encSt (lvl p g)) (↑g : Int).toNat 1 [AV.i (p.getD ((↑(List.map encSt p).length : Int) - 1).toNat default).h]))] 2 = AS.mk [(0, AV.sl 2 (List.map encPt l)), (1, AV.sl
   3 (List.map encSt p)), (5, AV.elt 2 [[AV.int IntKind.u32 u, AV.int IntKind.u32 v]] 0 0), (6, AV.bool false), (7, AV.i (vSp u)), (8, AV.i (vTk v)), (9, AV.own 1 p.length), (60, AV.i (↑p.length : Int)), (61, AV.i (↑g' : Int))] [(1,
   ABlk.buf 81 3 (List.map encSt (lvl p g')))] 2) ∧ (decide ((↑g : Int) < (↑p.length : Int)) = false → AS.mk [(0, AV.sl 2 (List.map encPt l)), (1, AV.sl 3 (List.map encSt p)), (5, AV.elt 2 [[AV.int IntKind.u32 u, AV.int IntKind.u32
   v]] 0 0), (6, AV.bool false), (7, AV.i (vSp u)), (8, AV.i (vTk v)), (9, AV.sl 3 (List.map encSt (lvl p g)))] [] 1 = AS.mk [(0, AV.sl 2 (List.map encPt l)), (1, AV.sl 3 (List.map encSt p)), (5, AV.elt 2 [[AV.int IntKind.u32 u,
   AV.int IntKind.u32 v]] 0 0), (6, AV.bool false), (7, AV.i (vSp u)), (8, AV.i (vTk v)), (9, AV.sl 3 (List.map encSt (lev p)))] [] 1)) ∧ (0 + (List.map encPt l).length ≤ 9223372036854775807 ∧ (0 + (List.map encPt l).length) * 16 ≤
   140737488355328 ∧ PCall Tryz.prog G0 15 [AV.sl 3 (List.map encSt (lev p))] (AV.sl 3 (List.map encSt (lev p))) ∧ PCall Tryz.prog G0 14 [AV.sl 2 ([] ++ List.map encPt l), AV.sl 3 (List.map encSt (lev p)), AV.i (vSp u), AV.i (vTk v)]
   (AV.tup [AV.sl 5 (List.map encFx (flL l (stpS (List.map encSt (lev p))) (vSp u) (vTk v) l.length)), AV.i 0]) ∧ AS.mk [(0, AV.sl 2 (List.map encPt l)), (1, AV.sl 3 (List.map encSt p)), (5, AV.elt 2 [[AV.int IntKind.u32 u, AV.int
   IntKind.u32 v]] 0 0), (6, AV.bool false), (7, AV.i (vSp u)), (8, AV.i (vTk v)), (9, AV.sl 3 (List.map encSt (lev p))), (11, AV.sl 5 (List.map encFx (flL l (stpS (List.map encSt (lev p))) (vSp u) (vTk v) l.length))), (12, AV.i 0)]
   [] 1 = AS.mk [(0, AV.sl 2 (List.map encPt l)), (1, AV.sl 3 (List.map encSt p)), (5, AV.elt 2 [[AV.int IntKind.u32 u, AV.int IntKind.u32 v]] 0 0), (6, AV.bool false), (7, AV.i (vSp u)), (8, AV.i (vTk v)), (9, AV.sl 3 (List.map encSt
   (lev p))), (11, AV.sl 5 (List.map encFx (fl0 l p u v))), (12, AV.i 0)] [] 1) ∧ (0 + (List.map encPt l).length ≤ 9223372036854775807 ∧ (0 + (List.map encPt l).length) * 16 ≤ 140737488355328 ∧ In64 (vTk v + 7) ∧ PCall Tryz.prog G0 15
   [AV.sl 3 (List.map encSt (lev p))] (AV.sl 3 (List.map encSt (lev p))) ∧ PCall Tryz.prog G0 14 [AV.sl 2 ([] ++ List.map encPt l), AV.sl 3 (List.map encSt (lev p)), AV.i (vSp u), AV.i (vTk v + 7)] (AV.tup [AV.sl 5 (List.map encFx
   (flL l (stpS (List.map encSt (lev p))) (vSp u) (vTk v + 7) l.length)), AV.i 0]) ∧ AS.mk [(0, AV.sl 2 (List.map encPt l)), (1, AV.sl 3 (List.map encSt p)), (5, AV.elt 2 [[AV.int IntKind.u32 u, AV.int IntKind.u32 v]] 0 0), (6,
   AV.bool false), (7, AV.i (vSp u)), (8, AV.i (vTk v)), (9, AV.sl 3 (List.map encSt (lev p))), (11, AV.sl 5 (List.map encFx (fl0 l p u v))), (12, AV.i 0), (13, AV.sl 5 (List.map encFx (flL l (stpS (List.map encSt (lev p))) (vSp u)
   (vTk v + 7) l.length))), (14, AV.i 0)] [] 1 = AS.mk [(0, AV.sl 2 (List.map encPt l)), (1, AV.sl 3 (List.map encSt p)), (5, AV.elt 2 [[AV.int IntKind.u32 u, AV.int IntKind.u32 v]] 0 0), (6, AV.bool false), (7, AV.i (vSp u)), (8,
   AV.i (vTk v)), (9, AV.sl 3 (List.map encSt (lev p))), (11, AV.sl 5 (List.map encFx (fl0 l p u v))), (12, AV.i 0), (13, AV.sl 5 (List.map encFx (fl7 l p u v))), (14, AV.i 0)] [] 1) ∧ (0 + (List.map encPt l).length ≤
   9223372036854775807 ∧ (0 + (List.map encPt l).length) * 16 ≤ 140737488355328 ∧ PCall Tryz.prog G0 15 [AV.sl 3 (List.map encSt p)] (AV.sl 3 (List.map encSt p)) ∧ PCall Tryz.prog G0 14 [AV.sl 2 ([] ++ List.map encPt l), AV.sl 3
   (List.map encSt p), AV.i (vSp u), AV.i (vTk v)] (AV.tup [AV.sl 5 (List.map encFx (flL l (stpS (List.map encSt p)) (vSp u) (vTk v) l.length)), AV.i 0]) ∧ AS.mk [(0, AV.sl 2 (List.map encPt l)), (1, AV.sl 3 (List.map encSt p)), (5,
   AV.elt 2 [[AV.int IntKind.u32 u, AV.int IntKind.u32 v]] 0 0), (6, AV.bool false), (7, AV.i (vSp u)), (8, AV.i (vTk v)), (9, AV.sl 3 (List.map encSt (lev p))), (11, AV.sl 5 (List.map encFx (fl0 l p u v))), (12, AV.i 0), (13, AV.sl 5
   (List.map encFx (fl7 l p u v))), (14, AV.i 0), (15, AV.sl 5 (List.map encFx (flL l (stpS (List.map encSt p)) (vSp u) (vTk v) l.length))), (16, AV.i 0)] [] 1 = AS.mk [(0, AV.sl 2 (List.map encPt l)), (1, AV.sl 3 (List.map encSt p)),
   (5, AV.elt 2 [[AV.int IntKind.u32 u, AV.int IntKind.u32 v]] 0 0), (6, AV.bool false), (7, AV.i (vSp u)), (8, AV.i (vTk v)), (9, AV.sl 3 (List.map encSt (lev p))), (11, AV.sl 5 (List.map encFx (fl0 l p u v))), (12, AV.i 0), (13,
   AV.sl 5 (List.map encFx (fl7 l p u v))), (14, AV.i 0), (15, AV.sl 5 (List.map encFx (flC l p u v))), (16, AV.i 0)] [] 1) ∧ ((false = true → false = true) ∧ (false = true → false = true) ∧ (false = true → false = true) ∧ AV.bool
   false = AV.bool false ∧ AV.bool false = AV.bool false ∧ AV.bool false = AV.bool false ∧ AS.mk [(0, AV.sl 2 (List.map encPt l)), (1, AV.sl 3 (List.map encSt p)), (5, AV.elt 2 [[AV.int IntKind.u32 u, AV.int IntKind.u32 v]] 0 0), (6,
   AV.bool false), (7, AV.i (vSp u)), (8, AV.i (vTk v)), (9, AV.sl 3 (List.map encSt (lev p))), (11, AV.sl 5 (List.map encFx (fl0 l p u v))), (12, AV.i 0), (13, AV.sl 5 (List.map encFx (fl7 l p u v))), (14, AV.i 0), (15, AV.sl 5
   (List.map encFx (flC l p u v))), (16, AV.i 0), (133, AV.bool false)] [] 1 = AS.mk [(0, AV.sl 2 (List.map encPt l)), (1, AV.sl 3 (List.map encSt p)), (5, AV.elt 2 [[AV.int IntKind.u32 u, AV.int IntKind.u32 v]] 0 0), (6, AV.bool
   false), (7, AV.i (vSp u)), (8, AV.i (vTk v)), (9, AV.sl 3 (List.map encSt (lev p))), (11, AV.sl 5 (List.map encFx (fl0 l p u v))), (12, AV.i 0), (13, AV.sl 5 (List.map encFx (fl7 l p u v))), (14, AV.i 0), (15, AV.sl 5 (List.map
   encFx (flC l p u v))), (16, AV.i 0), (133, AV.bool false)] [] 1) ∧ AS.mk [(0, AV.sl 2 (List.map encPt l)), (1, AV.sl 3 (List.map encSt p)), (5, AV.elt 2 [[AV.int IntKind.u32 u, AV.int IntKind.u32 v]] 0 0), (6, AV.bool false), (7,
   AV.i (vSp u)), (8, AV.i (vTk v)), (9, AV.sl 3 (List.map encSt (lev p))), (11, AV.sl 5 (List.map encFx (fl0 l p u v))), (12, AV.i 0), (13, AV.sl 5 (List.map encFx (fl7 l p u v))), (14, AV.i 0), (15, AV.sl 5 (List.map encFx (flC l p
   u v))), (16, AV.i 0)] [] 1 = AS.mk [(0, AV.sl 2 (List.map encPt l)), (1, AV.sl 3 (List.map encSt p)), (5, AV.elt 2 [[AV.int IntKind.u32 u, AV.int IntKind.u32 v]] 0 0), (6, AV.bool false), (7, AV.i (vSp u)), (8, AV.i (vTk v)), (9,
   AV.sl 3 (List.map encSt (lev p))), (11, AV.sl 5 (List.map encFx (fl0 l p u v))), (12, AV.i 0), (13, AV.sl 5 (List.map encFx (fl7 l p u v))), (14, AV.i 0), (15, AV.sl 5 (List.map encFx (flC l p u v))), (16, AV.i 0)] [] 1 ∧ (AV.bool
   false = AV.bool false ∧ AS.mk [(0, AV.sl 2 (List.map encPt l)), (1, AV.sl 3 (List.map encSt p)), (5, AV.elt 2 [[AV.int IntKind.u32 u, AV.int IntKind.u32 v]] 0 0), (6, AV.bool false), (7, AV.i (vSp u)), (8, AV.i (vTk v)), (9, AV.sl
   3 (List.map encSt (lev p))), (11, AV.sl 5 (List.map encFx (fl0 l p u v))), (12, AV.i 0), (13, AV.sl 5 (List.map encFx (fl7 l p u v))), (14, AV.i 0), (15, AV.sl 5 (List.map encFx (flC l p u v))), (16, AV.i 0), (135, AV.bool false)]
   [] 1 = AS.mk [(0, AV.sl 2 (List.map encPt l)), (1, AV.sl 3 (List.map encSt p)), (5, AV.elt 2 [[AV.int IntKind.u32 u, AV.int IntKind.u32 v]] 0 0), (6, AV.bool false), (7, AV.i (vSp u)), (8, AV.i (vTk v)), (9, AV.sl 3 (List.map encSt
   (lev p))), (11, AV.sl 5 (List.map encFx (fl0 l p u v))), (12, AV.i 0), (13, AV.sl 5 (List.map encFx (fl7 l p u v))), (14, AV.i 0), (15, AV.sl 5 (List.map encFx (flC l p u v))), (16, AV.i 0), (135, AV.bool false)] [] 1) ∧ AS.mk [(0,
   AV.sl 2 (List.map encPt l)), (1, AV.sl 3 (List.map encSt p)), (5, AV.elt 2 [[AV.int IntKind.u32 u, AV.int IntKind.u32 v]] 0 0), (6, AV.bool false), (7, AV.i (vSp u)), (8, AV.i (vTk v)), (9, AV.sl 3 (List.map encSt (lev p))), (11,
   AV.sl 5 (List.map encFx (fl0 l p u v))), (12, AV.i 0), (13, AV.sl 5 (List.map encFx (fl7 l p u v))), (14, AV.i 0), (15, AV.sl 5 (List.map encFx (flC l p u v))), (16, AV.i 0)] [] 1 = AS.mk [(0, AV.sl 2 (List.map encPt l)), (1, AV.sl
   3 (List.map encSt p)), (5, AV.elt 2 [[AV.int IntKind.u32 u, AV.int IntKind.u32 v]] 0 0), (6, AV.bool false), (7, AV.i (vSp u)), (8, AV.i (vTk v)), (9, AV.sl 3 (List.map encSt (lev p))), (11, AV.sl 5 (List.map encFx (fl0 l p u v))),
   (12, AV.i 0), (13, AV.sl 5 (List.map encFx (fl7 l p u v))), (14, AV.i 0), (15, AV.sl 5 (List.map encFx (flC l p u v))), (16, AV.i 0)] [] 1 ∧ ((0 : Int) ≤ 0 ∧ (0 : Int) < (↑(List.map encFx (fl0 l p u v)).length : Int) ∧ AV.bool
   ((↑(List.map encFx (fl0 l p u v)).length : Int) != (↑(List.map encPt l).length : Int)) = AV.bool false ∧ AV.bool ((↑(List.map encFx (fl7 l p u v)).length : Int) != (↑(List.map encPt l).length : Int)) = AV.bool false ∧ AV.bool
   ((↑(List.map encFx (flC l p u v)).length : Int) != (↑(List.map encPt l).length : Int)) = AV.bool false ∧ nth (nthR (List.map encFx (fl0 l p u v)) 0) 0 = AV.i ((fl0 l p u v).getD (Int.toNat (0 : Int)) default).t ∧ AV.bool (((fl0 l p
   u v).getD (Int.toNat (0 : Int)) default).t != vTk v) = AV.bool false ∧ AS.mk [(0, AV.sl 2 (List.map encPt l)), (1, AV.sl 3 (List.map encSt p)), (5, AV.elt 2 [[AV.int IntKind.u32 u, AV.int IntKind.u32 v]] 0 0), (6, AV.bool false),
   (7, AV.i (vSp u)), (8, AV.i (vTk v)), (9, AV.sl 3 (List.map encSt (lev p))), (11, AV.sl 5 (List.map encFx (fl0 l p u v))), (12, AV.i 0), (13, AV.sl 5 (List.map encFx (fl7 l p u v))), (14, AV.i 0), (15, AV.sl 5 (List.map encFx (flC
   l p u v))), (16, AV.i 0), (163, AV.bool false)] [] 1 = AS.mk [(0, AV.sl 2 (List.map encPt l)), (1, AV.sl 3 (List.map encSt p)), (5, AV.elt 2 [[AV.int IntKind.u32 u, AV.int IntKind.u32 v]] 0 0), (6, AV.bool false), (7, AV.i (vSp
   u)), (8, AV.i (vTk v)), (9, AV.sl 3 (List.map encSt (lev p))), (11, AV.sl 5 (List.map encFx (fl0 l p u v))), (12, AV.i 0), (13, AV.sl 5 (List.map encFx (fl7 l p u v))), (14, AV.i 0), (15, AV.sl 5 (List.map encFx (flC l p u v))),
   (16, AV.i 0), (163, AV.bool false)] [] 1) ∧ AS.mk [(0, AV.sl 2 (List.map encPt l)), (1, AV.sl 3 (List.map encSt p)), (5, AV.elt 2 [[AV.int IntKind.u32 u, AV.int IntKind.u32 v]] 0 0), (6, AV.bool false), (7, AV.i (vSp u)), (8, AV.i
   (vTk v)), (9, AV.sl 3 (List.map encSt (lev p))), (11, AV.sl 5 (List.map encFx (fl0 l p u v))), (12, AV.i 0), (13, AV.sl 5 (List.map encFx (fl7 l p u v))), (14, AV.i 0), (15, AV.sl 5 (List.map encFx (flC l p u v))), (16, AV.i 0)] []
   1 = AS.mk [(0, AV.sl 2 (List.map encPt l)), (1, AV.sl 3 (List.map encSt p)), (5, AV.elt 2 [[AV.int IntKind.u32 u, AV.int IntKind.u32 v]] 0 0), (6, AV.bool false), (7, AV.i (vSp u)), (8, AV.i (vTk v)), (9, AV.sl 3 (List.map encSt
   (lev p))), (11, AV.sl 5 (List.map encFx (fl0 l p u v))), (12, AV.i 0), (13, AV.sl 5 (List.map encFx (fl7 l p u v))), (14, AV.i 0), (15, AV.sl 5 (List.map encFx (flC l p u v))), (16, AV.i 0)] [] 1 ∧ ((0 : Int) ≤ 0 ∧ (0 : Int) <
   (↑(List.map encSt p).length : Int) ∧ (0 : Int) ≤ 0 ∧ (0 : Int) < (↑(List.map encSt p).length : Int) ∧ (0 : Int) ≤ 0 ∧ (0 : Int) < (↑(List.map encSt p).length : Int) ∧ (0 : Int) ≤ 0 ∧ (0 : Int) < (↑(List.map encSt p).length : Int) ∧
   nth (nthR (List.map encSt p) 0) 1 = AV.i (p.getD (Int.toNat (0 : Int)) default).h ∧ nth (nthR (List.map encSt p) 0) 1 = AV.i (p.getD (Int.toNat (0 : Int)) default).h ∧ nth (nthR (List.map encSt p) 0) 2 = AV.i (p.getD (Int.toNat (0
   : Int)) default).p ∧ nth (nthR (List.map encSt p) 0) 2 = AV.i (p.getD (Int.toNat (0 : Int)) default).p ∧ AS.mk [(0, AV.sl 2 (List.map encPt l)), (1, AV.sl 3 (List.map encSt p)), (5, AV.elt 2 [[AV.int IntKind.u32 u, AV.int
   IntKind.u32 v]] 0 0), (6, AV.bool false), (7, AV.i (vSp u)), (8, AV.i (vTk v)), (9, AV.sl 3 (List.map encSt (lev p))), (11, AV.sl 5 (List.map encFx (fl0 l p u v))), (12, AV.i 0), (13, AV.sl 5 (List.map encFx (fl7 l p u v))), (14,
   AV.i 0), (15, AV.sl 5 (List.map encFx (flC l p u v))), (16, AV.i 0), (17, AV.i (p.getD (Int.toNat (0 : Int)) default).h), (18, AV.i (p.getD (Int.toNat (0 : Int)) default).h), (19, AV.i (p.getD (Int.toNat (0 : Int)) default).p),
   (20, AV.i (p.getD (Int.toNat (0 : Int)) default).p)] [] 1 = AS.mk [(0, AV.sl 2 (List.map encPt l)), (1, AV.sl 3 (List.map encSt p)), (5, AV.elt 2 [[AV.int IntKind.u32 u, AV.int IntKind.u32 v]] 0 0), (6, AV.bool false), (7, AV.i
   (vSp u)), (8, AV.i (vTk v)), (9, AV.sl 3 (List.map encSt (lev p))), (11, AV.sl 5 (List.map encFx (fl0 l p u v))), (12, AV.i 0), (13, AV.sl 5 (List.map encFx (fl7 l p u v))), (14, AV.i 0), (15, AV.sl 5 (List.map encFx (flC l p u
   v))), (16, AV.i 0), (17, AV.i (loF (fun (x : St) => x.h) p 0)), (18, AV.i (hiF (fun (x : St) => x.h) p 0)), (19, AV.i (loF (fun (x : St) => x.p) p 0)), (20, AV.i (hiF (fun (x : St) => x.p) p 0))] [] 1) ∧ AS.mk [(0, AV.sl 2
   (List.map encPt l)), (1, AV.sl 3 (List.map encSt p)), (5, AV.elt 2 [[AV.int IntKind.u32 u, AV.int IntKind.u32 v]] 0 0), (6, AV.bool false), (7, AV.i (vSp u)), (8, AV.i (vTk v)), (9, AV.sl 3 (List.map encSt (lev p))), (11, AV.sl 5
   (List.map encFx (fl0 l p u v))), (12, AV.i 0), (13, AV.sl 5 (List.map encFx (fl7 l p u v))), (14, AV.i 0), (15, AV.sl 5 (List.map encFx (flC l p u v))), (16, AV.i 0), (17, AV.i (loF (fun (x : St) => x.h) p 0)), (18, AV.i (hiF (fun
   (x : St) => x.h) p 0)), (19, AV.i (loF (fun (x : St) => x.p) p 0)), (20, AV.i (hiF (fun (x : St) => x.p) p 0)), (180, AV.sl 3 (List.map encSt p)), (181, AV.i (↑(List.map encSt p).length : Int)), (182, AV.i 0)] [] 1 = AS.mk [(0,
   AV.sl 2 (List.map encPt l)), (1, AV.sl 3 (List.map encSt p)), (5, AV.elt 2 [[AV.int IntKind.u32 u, AV.int IntKind.u32 v]] 0 0), (6, AV.bool false), (7, AV.i (vSp u)), (8, AV.i (vTk v)), (9, AV.sl 3 (List.map encSt (lev p))), (11,
   AV.sl 5 (List.map encFx (fl0 l p u v))), (12, AV.i 0), (13, AV.sl 5 (List.map encFx (fl7 l p u v))), (14, AV.i 0), (15, AV.sl 5 (List.map encFx (flC l p u v))), (16, AV.i 0), (17, AV.i (loF (fun (x : St) => x.h) p 0)), (18, AV.i
   (hiF (fun (x : St) => x.h) p 0)), (19, AV.i (loF (fun (x : St) => x.p) p 0)), (20, AV.i (hiF (fun (x : St) => x.p) p 0)), (180, AV.sl 3 (List.map encSt p)), (181, AV.i (↑p.length : Int)), (182, AV.i 0)] [] 1 ∧ ((∃ (g : Nat), g ≤
   p.length ∧ AS.mk [(0, AV.sl 2 (List.map encPt l)), (1, AV.sl 3 (List.map encSt p)), (5, AV.elt 2 [[AV.int IntKind.u32 u, AV.int IntKind.u32 v]] 0 0), (6, AV.bool false), (7, AV.i (vSp u)), (8, AV.i (vTk v)), (9, AV.sl 3 (List.map
   encSt (lev p))), (11, AV.sl 5 (List.map encFx (fl0 l p u v))), (12, AV.i 0), (13, AV.sl 5 (List.map encFx (fl7 l p u v))), (14, AV.i 0), (15, AV.sl 5 (List.map encFx (flC l p u v))), (16, AV.i 0), (17, AV.i (loF (fun (x : St) =>
   x.h) p 0)), (18, AV.i (hiF (fun (x : St) => x.h) p 0)), (19, AV.i (loF (fun (x : St) => x.p) p 0)), (20, AV.i (hiF (fun (x : St) => x.p) p 0)), (180, AV.sl 3 (List.map encSt p)), (181, AV.i (↑p.length : Int)), (182, AV.i 0)] [] 1 =
   AS.mk [(0, AV.sl 2 (List.map encPt l)), (1, AV.sl 3 (List.map encSt p)), (5, AV.elt 2 [[AV.int IntKind.u32 u, AV.int IntKind.u32 v]] 0 0), (6, AV.bool false), (7, AV.i (vSp u)), (8, AV.i (vTk v)), (9, AV.sl 3 (List.map encSt (lev
   p))), (11, AV.sl 5 (List.map encFx (fl0 l p u v))), (12, AV.i 0), (13, AV.sl 5 (List.map encFx (fl7 l p u v))), (14, AV.i 0), (15, AV.sl 5 (List.map encFx (flC l p u v))), (16, AV.i 0), (17, AV.i (loF (fun (x : St) => x.h) p g)),
   (18, AV.i (hiF (fun (x : St) => x.h) p g)), (19, AV.i (loF (fun (x : St) => x.p) p g)), (20, AV.i (hiF (fun (x : St) => x.p) p g)), (180, AV.sl 3 (List.map encSt p)), (181, AV.i (↑p.length : Int)), (182, AV.i (↑g : Int))] [] 1) ∧ ∀
   (g : Nat), g ≤ p.length → (decide ((↑g : Int) < (↑p.length : Int)) = true → (0 : Int) ≤ (↑g : Int) ∧ (↑g : Int) < (↑(List.map encSt p).length : Int) ∧ AV.agg (nthR (List.map encSt p) (↑g : Int).toNat) = AV.agg [AV.i (p.getD (↑g :
   Int).toNat default).a, AV.i (p.getD (↑g : Int).toNat default).h, AV.i (p.getD (↑g : Int).toNat default).p] ∧ In64 ((↑g : Int) + 1) ∧ ∃ (g' : Nat), g' ≤ p.length ∧ p.length - g' < p.length - g ∧ AS.mk [(0, AV.sl 2 (List.map encPt
   l)), (1, AV.sl 3 (List.map encSt p)), (5, AV.elt 2 [[AV.int IntKind.u32 u, AV.int IntKind.u32 v]] 0 0), (6, AV.bool false), (7, AV.i (vSp u)), (8, AV.i (vTk v)), (9, AV.sl 3 (List.map encSt (lev p))), (11, AV.sl 5 (List.map encFx
   (fl0 l p u v))), (12, AV.i 0), (13, AV.sl 5 (List.map encFx (fl7 l p u v))), (14, AV.i 0), (15, AV.sl 5 (List.map encFx (flC l p u v))), (16, AV.i 0), (17, AV.i (minI (loF (fun (x : St) => x.h) p g) (p.getD (↑g : Int).toNat
   default).h)), (18, AV.i (maxI (hiF (fun (x : St) => x.h) p g) (p.getD (↑g : Int).toNat default).h)), (19, AV.i (minI (loF (fun (x : St) => x.p) p g) (p.getD (↑g : Int).toNat default).p)), (20, AV.i (maxI (hiF (fun (x : St) => x.p)
   p g) (p.getD (↑g : Int).toNat default).p)), (180, AV.sl 3 (List.map encSt p)), (181, AV.i (↑p.length : Int)), (182, AV.i ((↑g : Int) + 1))] [] 1 = AS.mk [(0, AV.sl 2 (List.map encPt l)), (1, AV.sl 3 (List.map encSt p)), (5, AV.elt
   2 [[AV.int IntKind.u32 u, AV.int IntKind.u32 v]] 0 0), (6, AV.bool false), (7, AV.i (vSp u)), (8, AV.i (vTk v)), (9, AV.sl 3 (List.map encSt (lev p))), (11, AV.sl 5 (List.map encFx (fl0 l p u v))), (12, AV.i 0), (13, AV.sl 5
   (List.map encFx (fl7 l p u v))), (14, AV.i 0), (15, AV.sl 5 (List.map encFx (flC l p u v))), (16, AV.i 0), (17, AV.i (loF (fun (x : St) => x.h) p g')), (18, AV.i (hiF (fun (x : St) => x.h) p g')), (19, AV.i (loF (fun (x : St) =>
   x.p) p g')), (20, AV.i (hiF (fun (x : St) => x.p) p g')), (180, AV.sl 3 (List.map encSt p)), (181, AV.i (↑p.length : Int)), (182, AV.i (↑g' : Int))] [] 1) ∧ (decide ((↑g : Int) < (↑p.length : Int)) = false → AS.mk [(0, AV.sl 2
   (List.map encPt l)), (1, AV.sl 3 (List.map encSt p)), (5, AV.elt 2 [[AV.int IntKind.u32 u, AV.int IntKind.u32 v]] 0 0), (6, AV.bool false), (7, AV.i (vSp u)), (8, AV.i (vTk v)), (9, AV.sl 3 (List.map encSt (lev p))), (11, AV.sl 5
   (List.map encFx (fl0 l p u v))), (12, AV.i 0), (13, AV.sl 5 (List.map encFx (fl7 l p u v))), (14, AV.i 0), (15, AV.sl 5 (List.map encFx (flC l p u v))), (16, AV.i 0), (17, AV.i (loF (fun (x : St) => x.h) p g)), (18, AV.i (hiF (fun
   (x : St) => x.h) p g)), (19, AV.i (loF (fun (x : St) => x.p) p g)), (20, AV.i (hiF (fun (x : St) => x.p) p g))] [] 1 = AS.mk [(0, AV.sl 2 (List.map encPt l)), (1, AV.sl 3 (List.map encSt p)), (5, AV.elt 2 [[AV.int IntKind.u32 u,
   AV.int IntKind.u32 v]] 0 0), (6, AV.bool false), (7, AV.i (vSp u)), (8, AV.i (vTk v)), (9, AV.sl 3 (List.map encSt (lev p))), (11, AV.sl 5 (List.map encFx (fl0 l p u v))), (12, AV.i 0), (13, AV.sl 5 (List.map encFx (fl7 l p u v))),
   (14, AV.i 0), (15, AV.sl 5 (List.map encFx (flC l p u v))), (16, AV.i 0), (17, AV.i (loF (fun (x : St) => x.h) p p.length)), (18, AV.i (hiF (fun (x : St) => x.h) p p.length)), (19, AV.i (loF (fun (x : St) => x.p) p p.length)), (20,
   AV.i (hiF (fun (x : St) => x.p) p p.length))] [] 1)) ∧ AS.mk [(0, AV.sl 2 (List.map encPt l)), (1, AV.sl 3 (List.map encSt p)), (5, AV.elt 2 [[AV.int IntKind.u32 u, AV.int IntKind.u32 v]] 0 0), (6, AV.bool false), (7, AV.i (vSp
   u)), (8, AV.i (vTk v)), (9, AV.sl 3 (List.map encSt (lev p))), (11, AV.sl 5 (List.map encFx (fl0 l p u v))), (12, AV.i 0), (13, AV.sl 5 (List.map encFx (fl7 l p u v))), (14, AV.i 0), (15, AV.sl 5 (List.map encFx (flC l p u v))),
   (16, AV.i 0), (17, AV.i (loF (fun (x : St) => x.h) p p.length)), (18, AV.i (hiF (fun (x : St) => x.h) p p.length)), (19, AV.i (loF (fun (x : St) => x.p) p p.length)), (20, AV.i (hiF (fun (x : St) => x.p) p p.length)), (203, AV.sl 5
   (List.map encFx (fl0 l p u v))), (204, AV.i (↑(List.map encFx (fl0 l p u v)).length : Int)), (205, AV.i 0)] [] 1 = AS.mk [(0, AV.sl 2 (List.map encPt l)), (1, AV.sl 3 (List.map encSt p)), (5, AV.elt 2 [[AV.int IntKind.u32 u, AV.int
   IntKind.u32 v]] 0 0), (6, AV.bool false), (7, AV.i (vSp u)), (8, AV.i (vTk v)), (9, AV.sl 3 (List.map encSt (lev p))), (11, AV.sl 5 (List.map encFx (fl0 l p u v))), (12, AV.i 0), (13, AV.sl 5 (List.map encFx (fl7 l p u v))), (14,
   AV.i 0), (15, AV.sl 5 (List.map encFx (flC l p u v))), (16, AV.i 0), (17, AV.i (loF (fun (x : St) => x.h) p p.length)), (18, AV.i (hiF (fun (x : St) => x.h) p p.length)), (19, AV.i (loF (fun (x : St) => x.p) p p.length)), (20, AV.i
   (hiF (fun (x : St) => x.p) p p.length)), (203, AV.sl 5 (List.map encFx (fl0 l p u v))), (204, AV.i (↑l.length : Int)), (205, AV.i 0)] [] 1 ∧ ((∃ (g : Nat), g ≤ l.length ∧ AS.mk [(0, AV.sl 2 (List.map encPt l)), (1, AV.sl 3
   (List.map encSt p)), (5, AV.elt 2 [[AV.int IntKind.u32 u, AV.int IntKind.u32 v]] 0 0), (6, AV.bool false), (7, AV.i (vSp u)), (8, AV.i (vTk v)), (9, AV.sl 3 (List.map encSt (lev p))), (11, AV.sl 5 (List.map encFx (fl0 l p u v))),
   (12, AV.i 0), (13, AV.sl 5 (List.map encFx (fl7 l p u v))), (14, AV.i 0), (15, AV.sl 5 (List.map encFx (flC l p u v))), (16, AV.i 0), (17, AV.i (loF (fun (x : St) => x.h) p p.length)), (18, AV.i (hiF (fun (x : St) => x.h) p
   p.length)), (19, AV.i (loF (fun (x : St) => x.p) p p.length)), (20, AV.i (hiF (fun (x : St) => x.p) p p.length)), (203, AV.sl 5 (List.map encFx (fl0 l p u v))), (204, AV.i (↑l.length : Int)), (205, AV.i 0)] [] 1 = AS.mk [(0, AV.sl
   2 (List.map encPt l)), (1, AV.sl 3 (List.map encSt p)), (5, AV.elt 2 [[AV.int IntKind.u32 u, AV.int IntKind.u32 v]] 0 0), (6, AV.bool false), (7, AV.i (vSp u)), (8, AV.i (vTk v)), (9, AV.sl 3 (List.map encSt (lev p))), (11, AV.sl 5
   (List.map encFx (fl0 l p u v))), (12, AV.i 0), (13, AV.sl 5 (List.map encFx (fl7 l p u v))), (14, AV.i 0), (15, AV.sl 5 (List.map encFx (flC l p u v))), (16, AV.i 0), (17, AV.i (loF (fun (x : St) => x.h) p p.length)), (18, AV.i
   (hiF (fun (x : St) => x.h) p p.length)), (19, AV.i (loF (fun (x : St) => x.p) p p.length)), (20, AV.i (hiF (fun (x : St) => x.p) p p.length)), (203, AV.sl 5 (List.map encFx (fl0 l p u v))), (204, AV.i (↑l.length : Int)), (205, AV.i
   (↑g : Int))] [] 1) ∧ ∀ (g : Nat), g ≤ l.length → (decide ((↑g : Int) < (↑l.length : Int)) = true → (0 : Int) ≤ (↑g : Int) ∧ (↑g : Int) < (↑(List.map encFx (fl0 l p u v)).length : Int) ∧ AV.agg (nthR (List.map encFx (fl0 l p u v))
   (↑g : Int).toNat) = AV.agg [AV.i ((fl0 l p u v).getD (↑g : Int).toNat default).t, AV.i ((fl0 l p u v).getD (↑g : Int).toNat default).x, AV.i ((fl0 l p u v).getD (↑g : Int).toNat default).y, AV.i ((fl0 l p u v).getD (↑g : Int).toNat
   default).z, AV.i ((fl0 l p u v).getD (↑g : Int).toNat default).p] ∧ (0 : Int) ≤ (↑g : Int) ∧ (↑g : Int) < (↑(List.map encFx (fl7 l p u v)).length : Int) ∧ AV.agg (nthR (List.map encFx (fl7 l p u v)) (↑g : Int).toNat) = AV.agg [AV.i
   ((fl7 l p u v).getD (↑g : Int).toNat default).t, AV.i ((fl7 l p u v).getD (↑g : Int).toNat default).x, AV.i ((fl7 l p u v).getD (↑g : Int).toNat default).y, AV.i ((fl7 l p u v).getD (↑g : Int).toNat default).z, AV.i ((fl7 l p u
   v).getD (↑g : Int).toNat default).p] ∧ In64 (((fl7 l p u v).getD (↑g : Int).toNat default).t - 7) ∧ (0 : Int) ≤ (↑g : Int) ∧ (↑g : Int) < (↑(List.map encPt l).length : Int) ∧ (0 : Int) ≤ (↑g : Int) ∧ (↑g : Int) < (↑(List.map encPt
   l).length : Int) ∧ (0 : Int) ≤ 0 ∧ (0 : Int) < (↑(List.map encSt (lev p)).length : Int) ∧ (0 : Int) ≤ (↑g : Int) ∧ (↑g : Int) < (↑(List.map encFx (flC l p u v)).length : Int) ∧ (0 : Int) ≤ (↑g : Int) ∧ (↑g : Int) < (↑(List.map
   encFx (flC l p u v)).length : Int) ∧ (0 : Int) ≤ (↑g : Int) ∧ (↑g : Int) < (↑(List.map encFx (flC l p u v)).length : Int) ∧ (0 : Int) ≤ (↑g : Int) ∧ (↑g : Int) < (↑(List.map encFx (flC l p u v)).length : Int) ∧ (AV.bool !(((fl0 l p
   u v).getD (↑g : Int).toNat default).t == ((fl7 l p u v).getD (↑g : Int).toNat default).t - 7 && true && (((fl0 l p u v).getD (↑g : Int).toNat default).x == ((fl7 l p u v).getD (↑g : Int).toNat default).x && true && (((fl0 l p u
   v).getD (↑g : Int).toNat default).y == ((fl7 l p u v).getD (↑g : Int).toNat default).y && true && (((fl0 l p u v).getD (↑g : Int).toNat default).z == ((fl7 l p u v).getD (↑g : Int).toNat default).z && true && true)) && (((fl0 l p u
   v).getD (↑g : Int).toNat default).p == ((fl7 l p u v).getD (↑g : Int).toNat default).p && true && true)))) = AV.bool false ∧ nth (nthR (List.map encPt l) (↑g : Int).toNat) 0 = AV.i (l.getD (↑g : Int).toNat default).x ∧ nth (nthR
   (List.map encPt l) (↑g : Int).toNat) 1 = AV.i (l.getD (↑g : Int).toNat default).y ∧ nth (nthR (List.map encSt (lev p)) 0) 1 = AV.i ((lev p).getD (Int.toNat (0 : Int)) default).h ∧ (AV.bool !(((fl0 l p u v).getD (↑g : Int).toNat
   default).x == (l.getD (↑g : Int).toNat default).x && true && (((fl0 l p u v).getD (↑g : Int).toNat default).y == (l.getD (↑g : Int).toNat default).y && true && (((fl0 l p u v).getD (↑g : Int).toNat default).z == ((lev p).getD
   (Int.toNat (0 : Int)) default).h && true && true)))) = AV.bool false ∧ AV.bool (decide (((fl0 l p u v).getD (↑g : Int).toNat default).p < loF (fun (x : St) => x.p) p p.length)) = AV.bool false ∧ AV.bool (decide (((fl0 l p u v).getD
   (↑g : Int).toNat default).p > hiF (fun (x : St) => x.p) p p.length)) = AV.bool false ∧ nth (nthR (List.map encFx (flC l p u v)) (↑g : Int).toNat) (3 : Nat) = AV.i ((flC l p u v).getD (↑g : Int).toNat default).z ∧ AV.bool (decide
   (((flC l p u v).getD (↑g : Int).toNat default).z < loF (fun (x : St) => x.h) p p.length)) = AV.bool false ∧ nth (nthR (List.map encFx (flC l p u v)) (↑g : Int).toNat) (3 : Nat) = AV.i ((flC l p u v).getD (↑g : Int).toNat default).z
   ∧ AV.bool (decide (((flC l p u v).getD (↑g : Int).toNat default).z > hiF (fun (x : St) => x.h) p p.length)) = AV.bool false ∧ nth (nthR (List.map encFx (flC l p u v)) (↑g : Int).toNat) (0 : Nat) = AV.i ((flC l p u v).getD (↑g :
   Int).toNat default).t ∧ AV.bool (((flC l p u v).getD (↑g : Int).toNat default).t != ((fl0 l p u v).getD (↑g : Int).toNat default).t) = AV.bool false ∧ nth (nthR (List.map encFx (flC l p u v)) (↑g : Int).toNat) (4 : Nat) = AV.i
   ((flC l p u v).getD (↑g : Int).toNat default).p ∧ AV.bool (((flC l p u v).getD (↑g : Int).toNat default).p != ((fl0 l p u v).getD (↑g : Int).toNat default).p) = AV.bool false ∧ In64 ((↑g : Int) + 1) ∧ ∃ (g' : Nat), g' ≤ l.length ∧
   l.length - g' < l.length - g ∧ AS.mk [((0 : Nat), AV.sl (2 : Nat) (List.map encPt l)), ((1 : Nat), AV.sl (3 : Nat) (List.map encSt p)), ((5 : Nat), AV.elt (2 : Nat) [[AV.int IntKind.u32 u, AV.int IntKind.u32 v]] (0 : Nat) (0 :
   Nat)), ((6 : Nat), AV.bool false), ((7 : Nat), AV.i (vSp u)), ((8 : Nat), AV.i (vTk v)), ((9 : Nat), AV.sl (3 : Nat) (List.map encSt (lev p))), ((11 : Nat), AV.sl (5 : Nat) (List.map encFx (fl0 l p u v))), ((12 : Nat), AV.i (0 :
   Int)), ((13 : Nat), AV.sl (5 : Nat) (List.map encFx (fl7 l p u v))), ((14 : Nat), AV.i (0 : Int)), ((15 : Nat), AV.sl (5 : Nat) (List.map encFx (flC l p u v))), ((16 : Nat), AV.i (0 : Int)), ((17 : Nat), AV.i (loF (fun (x : St) =>
   x.h) p p.length)), ((18 : Nat), AV.i (hiF (fun (x : St) => x.h) p p.length)), ((19 : Nat), AV.i (loF (fun (x : St) => x.p) p p.length)), ((20 : Nat), AV.i (hiF (fun (x : St) => x.p) p p.length)), ((203 : Nat), AV.sl (5 : Nat)
   (List.map encFx (fl0 l p u v))), ((204 : Nat), AV.i (↑l.length : Int)), ((205 : Nat), AV.i ((↑g : Int) + 1))] [] (1 : Nat) = AS.mk [((0 : Nat), AV.sl (2 : Nat) (List.map encPt l)), ((1 : Nat), AV.sl (3 : Nat) (List.map encSt p)),
   ((5 : Nat), AV.elt (2 : Nat) [[AV.int IntKind.u32 u, AV.int IntKind.u32 v]] (0 : Nat) (0 : Nat)), ((6 : Nat), AV.bool false), ((7 : Nat), AV.i (vSp u)), ((8 : Nat), AV.i (vTk v)), ((9 : Nat), AV.sl (3 : Nat) (List.map encSt (lev
   p))), ((11 : Nat), AV.sl (5 : Nat) (List.map encFx (fl0 l p u v))), ((12 : Nat), AV.i (0 : Int)), ((13 : Nat), AV.sl (5 : Nat) (List.map encFx (fl7 l p u v))), ((14 : Nat), AV.i (0 : Int)), ((15 : Nat), AV.sl (5 : Nat) (List.map
   encFx (flC l p u v))), ((16 : Nat), AV.i (0 : Int)), ((17 : Nat), AV.i (loF (fun (x : St) => x.h) p p.length)), ((18 : Nat), AV.i (hiF (fun (x : St) => x.h) p p.length)), ((19 : Nat), AV.i (loF (fun (x : St) => x.p) p p.length)),
   ((20 : Nat), AV.i (hiF (fun (x : St) => x.p) p p.length)), ((203 : Nat), AV.sl (5 : Nat) (List.map encFx (fl0 l p u v))), ((204 : Nat), AV.i (↑l.length : Int)), ((205 : Nat), AV.i (↑g' : Int))] [] (1 : Nat)) ∧ (decide ((↑g : Int) <
   (↑l.length : Int)) = false → AS.mk [(0, AV.sl 2 (List.map encPt l)), (1, AV.sl 3 (List.map encSt p)), (5, AV.elt 2 [[AV.int IntKind.u32 u, AV.int IntKind.u32 v]] 0 0), (6, AV.bool false), (7, AV.i (vSp u)), (8, AV.i (vTk v)), (9,
   AV.sl 3 (List.map encSt (lev p))), (11, AV.sl 5 (List.map encFx (fl0 l p u v))), (12, AV.i 0), (13, AV.sl 5 (List.map encFx (fl7 l p u v))), (14, AV.i 0), (15, AV.sl 5 (List.map encFx (flC l p u v))), (16, AV.i 0)] [] 1 = AS.mk
   [(0, AV.sl 2 (List.map encPt l)), (1, AV.sl 3 (List.map encSt p)), (5, AV.elt 2 [[AV.int IntKind.u32 u, AV.int IntKind.u32 v]] 0 0), (6, AV.bool false), (7, AV.i (vSp u)), (8, AV.i (vTk v)), (9, AV.sl 3 (List.map encSt (lev p))),
   (11, AV.sl 5 (List.map encFx (fl0 l p u v))), (12, AV.i 0), (13, AV.sl 5 (List.map encFx (fl7 l p u v))), (14, AV.i 0), (15, AV.sl 5 (List.map encFx (flC l p u v))), (16, AV.i 0)] [] 1)) ∧ (0 + (List.map encFx (fl0 l p u v)).length
   ≤ 9223372036854775807 ∧ (0 + (List.map encFx (fl0 l p u v)).length) * 40 ≤ 140737488355328 ∧ In64 ((2 : Int) * vSp u) ∧ PCall Tryz.prog G0 39 [AV.sl 5 ([] ++ List.map encFx (fl0 l p u v)), AV.i ((2 : Int) * vSp u)] (AV.tup [AV.sl 5
   ([] ++ List.map encFx (fl0 l p u v)), AV.i 0]) ∧ AS.mk [(0, AV.sl 2 (List.map encPt l)), (1, AV.sl 3 (List.map encSt p)), (5, AV.elt 2 [[AV.int IntKind.u32 u, AV.int IntKind.u32 v]] 0 0), (6, AV.bool false), (7, AV.i (vSp u)), (8,
   AV.i (vTk v)), (9, AV.sl 3 (List.map encSt (lev p))), (11, AV.sl 5 (List.map encFx (fl0 l p u v))), (12, AV.i 0), (13, AV.sl 5 (List.map encFx (fl7 l p u v))), (14, AV.i 0), (15, AV.sl 5 (List.map encFx (flC l p u v))), (16, AV.i
   0), (26, AV.sl 5 ([] ++ List.map encFx (fl0 l p u v))), (27, AV.i 0)] [] 1 = AS.mk [(0, AV.sl 2 (List.map encPt l)), (1, AV.sl 3 (List.map encSt p)), (5, AV.elt 2 [[AV.int IntKind.u32 u, AV.int IntKind.u32 v]] 0 0), (6, AV.bool
   false), (7, AV.i (vSp u)), (8, AV.i (vTk v)), (9, AV.sl 3 (List.map encSt (lev p))), (11, AV.sl 5 (List.map encFx (fl0 l p u v))), (12, AV.i 0), (13, AV.sl 5 (List.map encFx (fl7 l p u v))), (14, AV.i 0), (15, AV.sl 5 (List.map
   encFx (flC l p u v))), (16, AV.i 0), (26, AV.sl 5 (List.map encFx (fl0 l p u v))), (27, AV.i 0)] [] 1) ∧ AV.bool true = AV.bool true ∧ PCall Tryz.prog G0 24 [AV.sl 5 (List.map encFx (fl0 l p u v))] (AV.sl 5 (List.map encFx (fl0 l p
   u v))) ∧ PCall Tryz.prog G0 24 [AV.sl 5 (List.map encFx (fl0 l p u v))] (AV.sl 5 (List.map encFx (fl0 l p u v))) ∧ PCall Tryz.prog G0 23 [AV.sl 5 (List.map encFx (fl0 l p u v)), AV.sl 5 (List.map encFx (fl0 l p u v))] (AV.bool
   true) ∧ PCall Tryz.prog G0 13 [] (AV.bool true) ∧ AV.bool true = AV.bool true := by
    have hlm : (List.map encPt l).length = l.length := List.length_map _
    have hpm : (List.map encSt p).length = p.length := List.length_map _
    rw [pts_enc, stp_enc, hlm, hpm]
    have g6 : (!decide ((l.length : Int) > 6)) = true → l.length ≤ 6 := fun hh => by
      by_cases hx : (l.length : Int) > 6
      · rw [decide_eq_true hx] at hh
        cases hh
      · omega
    have g8 : (!if (if decide ((l.length : Int) > 6) = true then true else sPath l != 0) = true then true else decide ((p.length : Int) > 8)) = true → p.length ≤ 8 := fun hh => by
      by_cases hx : (p.length : Int) > 8
      · rw [decide_eq_true hx] at hh
        have hb : ∀ b : Bool, (!if b = true then true else true) = true → False := by decide
        exact (hb _ hh).elim
      · omega
    obtain ⟨hl6, hpath, hproc⟩ := gd5_f h
    have hP := path_ok hpath
    have hO := proc_ok hproc
    have hlp := lev_proc hproc
    have hn1 := hP.n1
    have ho1 := hO.n1
    have ho2 := hO.n2
    have hs := vSp_b hu
    have ht := vTk_b hv
    have hll := lev_len p
    have i3 : In64 (1 + (IntKind.wrap .i64 u).tmod 100) := by
      have := hs
      unfold vSp at this
      unfold In64
      omega
    have k15 := fun (q : List St) (hq : q.length ≤ 1000) => (c15 q hq).un
    have k14 := fun (q : List St) (h1 : sProcS q = 0) (hq : q.length ≤ 1000) (t : Int) (h2 : 0 ≤ t ∧ t ≤ 1000000) => show PCall Tryz.prog G0 14 [.sl 2 (l.map encPt), .sl 3 (q.map encSt), .i (vSp u), .i t] (.tup [.sl 5 ((flL l q (vSp u) t l.length).map encFx), .i 0]) by
      have := c14 l q (vSp u) t (by omega) hq
      rwa [flown_e hpath h1 ⟨hs.1, by omega⟩ h2, hE] at this
    have l0 : (List.map encFx (fl0 l p u v)).length = l.length := by rw [List.length_map]; exact fl_len _ _ _ _ _
    have l7 : (List.map encFx (fl7 l p u v)).length = l.length := by rw [List.length_map]; exact fl_len _ _ _ _ _
    have lC : (List.map encFx (flC l p u v)).length = l.length := by rw [List.length_map]; exact fl_len _ _ _ _ _
    have m0 : (fl0 l p u v).length = l.length := fl_len _ _ _ _ _
    have m7 : (fl7 l p u v).length = l.length := fl_len _ _ _ _ _
    have mC : (flC l p u v).length = l.length := fl_len _ _ _ _ _
    have lL : (List.map encSt (lev p)).length = p.length := by rw [List.length_map]; exact hll
    have e0 : ∀ g, g < l.length → (fl0 l p u v).getD g default = ⟨vTk v - sFloor (0 - sAl l g) (vSp u), (l.getD g default).x, (l.getD g default).y, lvH p, (sStep p (sAl l g)).p⟩ := fun g hg => by
      unfold fl0
      have ha := errE_al hP hE g hg
      have hb := stp_b hO ha.1
      rw [fl_at hg, flFx, hb.1, hb.2.1]
    have e7 : ∀ g, g < l.length → (fl7 l p u v).getD g default = ⟨vTk v + 7 - sFloor (0 - sAl l g) (vSp u), (l.getD g default).x, (l.getD g default).y, lvH p, (sStep p (sAl l g)).p⟩ := fun g hg => by
      unfold fl7
      have ha := errE_al hP hE g hg
      have hb := stp_b hO ha.1
      rw [fl_at hg, flFx, hb.1, hb.2.1]
    have eC : ∀ g, g < l.length → (flC l p u v).getD g default = ⟨vTk v - sFloor (0 - sAl l g) (vSp u), (l.getD g default).x, (l.getD g default).y, (sStep p (sAl l g)).h, (sStep p (sAl l g)).p⟩ := fun g hg => by
      unfold flC
      rw [fl_at hg, flFx]
    have r0 : ∀ g, g < l.length → nthR (List.map encFx (fl0 l p u v)) g = encFx ((fl0 l p u v).getD g default) := fun g hg => row_at encFx (by omega)
    have r7 : ∀ g, g < l.length → nthR (List.map encFx (fl7 l p u v)) g = encFx ((fl7 l p u v).getD g default) := fun g hg => row_at encFx (by omega)
    have rC : ∀ g, g < l.length → nthR (List.map encFx (flC l p u v)) g = encFx ((flC l p u v).getD g default) := fun g hg => row_at encFx (by omega)
    have rL : ∀ g, g < l.length → nthR (List.map encPt l) g = encPt (l.getD g default) := fun g hg => row_at encPt hg
    have rP : ∀ g, g < p.length → nthR (List.map encSt p) g = encSt (p.getD g default) := fun g hg => row_at encSt hg
    have rV : nthR (List.map encSt (lev p)) 0 = encSt ((lev p).getD 0 default) := row_at encSt (by omega)
    have hV : ((lev p).getD 0 default).h = lvH p := by rw [lev_at (by omega)]; rfl
    have z0 : sFloor (0 - sAl l 0) (vSp u) = 0 := by
      rw [show 0 - sAl l 0 = 0 from rfl, sFloor, Int.zero_tdiv, Int.zero_mul]
      rfl
    have b17 : AV.bool ((l.length : Int) != (l.length : Int)) = AV.bool false := by simp
    rw [stp_enc, l0, l7, lC, lL, r0 0 (by omega), rP 0 (by omega), rV]
    refine ⟨rfl, ⟨fun h => h, fun h => h, fun h => by rw [h]; rfl, fun h => h, fun h => h, fun h => by rw [h]; rfl, fun h => h, fun h => h, fun h => by rw [h]; rfl, impB_iff.2 fun hh => c17 l (by have := g6 hh; omega), impB_iff.2 fun hh => c18 p (by have := g8 hh; omega), congrArg AV.bool h, rfl⟩, rfl, ⟨by omega, by omega, by omega, i3, by omega, by omega, by omega, rfl⟩, ⟨by omega, by omega, by rw [Nat.zero_add]; rfl⟩, rfl, ⟨⟨0, by omega, rfl⟩, fun g hg => ⟨fun hd => by
      have hlt := lt_of_dec hd
      have e1 : ((p.length : Int) - 1).toNat = p.length - 1 := by omega
      have hm : (List.map encSt (lvl p g)).length = p.length := by rw [List.length_map, lvl_len]
      have r1 : nthR (List.map encSt p) (p.length - 1) = encSt (p.getD (p.length - 1) default) := row_at encSt (by omega)
      rw [e1, Int.toNat_natCast, r1]
      exact ⟨by unfold In64; omega, by omega, by omega, by omega, by omega, by omega, rfl, by unfold In64; omega, g + 1, by omega, by omega, by rw [show (p.getD (p.length - 1) default).h = lvH p from rfl, put_lvl hlt]; rfl⟩, fun hd => by
      rw [ge_of_dec hd hg, lvl_end]⟩⟩, ⟨by omega, by omega, k15 _ (by omega), k14 _ hlp (by omega) _ (by omega), rfl⟩, ⟨by omega, by omega, by unfold In64; omega, k15 _ (by omega), k14 _ hlp (by omega) _ (by omega), rfl⟩, ⟨by omega, by omega, k15 _ (by omega), k14 _ hproc (by omega) _ (by omega), rfl⟩, ⟨fun h => h, fun h => h, fun h => h, rfl, rfl, rfl, rfl⟩, rfl, ⟨rfl, rfl⟩, rfl,
      ⟨by omega, by omega, b17, b17, b17, rfl, ?_, rfl⟩, rfl, ⟨by omega, by omega, by omega, by omega, by omega, by omega, by omega, by omega, rfl, rfl, rfl, rfl, rfl⟩, rfl, ⟨⟨0, by omega, rfl⟩, fun g hg => ⟨fun hd => ?_, fun hd => ?_⟩⟩, rfl, ⟨⟨0, by omega, rfl⟩, fun g hg => ⟨fun hd => ?_, fun hd => rfl⟩⟩, ⟨by omega, by omega, by unfold In64; omega, ?_, rfl⟩, rfl, (c24 _ (by omega)).un, (c24 _ (by omega)).un, ?_, hA, rfl⟩
    · show AV.bool (((fl0 l p u v).getD 0 default).t != vTk v) = AV.bool false
      rw [e0 0 (by omega), z0]
      simp
    · have hlt := lt_of_dec hd
      rw [Int.toNat_natCast, rP g hlt]
      exact ⟨by omega, by omega, rfl, by unfold In64; omega, g + 1, by omega, by omega, rfl⟩
    · rw [ge_of_dec hd hg]
    · have hlt := lt_of_dec hd
      have ha := errE_al hP hE g hlt
      have hb := stp_b hO ha.1
      have hto := tO_b hs.1 ha.1 ha.2
      unfold tO at hto
      rw [Int.toNat_natCast, r0 g hlt, r7 g hlt, rC g hlt, rL g hlt, e0 g hlt, e7 g hlt, eC g hlt, Int.toNat_zero, hV]
      dsimp only
      generalize sFloor (0 - sAl l g) (vSp u) = F at *
      rw [show vTk v + 7 - F - 7 = vTk v - F by omega]
      refine ⟨by omega, by omega, rfl, by omega, by omega, rfl, by unfold In64; omega, by omega, by omega, by omega, by omega, by omega, by omega, by omega, by omega, by omega, by omega, by omega, by omega, by omega, by omega, by simp, rfl, rfl, ?_, by simp, congrArg AV.bool (decide_eq_false (by omega)), congrArg AV.bool (decide_eq_false (by omega)), rfl, congrArg AV.bool (decide_eq_false (by omega)), rfl, congrArg AV.bool (decide_eq_false (by omega)), rfl, by simp, rfl, by simp, by unfold In64; omega, g + 1, by omega, by omega, rfl⟩
      show AV.i ((lev p).getD 0 default).h = AV.i (lvH p)
      rw [hV]
    · have k39 := c39 (fl0 l p u v) (2 * vSp u) (by omega)
      have hr := rRep_self hP hproc ⟨hs.1, by omega⟩ (show 0 ≤ vTk v ∧ vTk v ≤ 1000000 by omega) hE
      unfold fl0 at k39
      rw [hr.1, hr.2] at k39
      exact k39
    · have := c23 (fl0 l p u v) (fl0 l p u v) (by omega)
      rwa [same_self] at this
  exact c_ofG Tryz.f5 (B5 l p u v (sp5 l u v) ([(1, 17, rdF)] ++ rds5 l p u v)) (m5 l p u v) (by kernel_rfl) (by kernel_rfl) (by kernel_rfl) (by kernel_rfl) key (by kernel_rfl)
theorem c5 (l : List Pt) (p : List St) (u v : Int) (hA : PCall Tryz.prog G0 13 [] (.bool true)) (hu : 0 ≤ u ∧ u ≤ 4294967295) (hv : 0 ≤ v ∧ v ≤ 4294967295) : PCall Tryz.prog G0 5 [.sl 2 (l.map encPt), .sl 3 (p.map encSt), .agg [.int .u32 u, .int .u32 v]] (.bool true) := by
  cases h : gd5 l p with
  | true => exact c5_a l p u v hA h
  | false =>
    rcases errE_in l (vSp u) with e | e | e | e
    · exact c5_ok l p u v hA hu hv h e
    · exact c5_4 l p u v hA hu hv h e
    · exact c5_11 l p u v hA hu hv h e
    · exact c5_14 l p u v hA hu hv h e
end Go.Proofs.YtjhjmncjidbieaaGreatDoor
namespace Go.Proofs.YtjhjmncjidbieaaGreatDoor
open Go Go.Av Go.RowKit
def hrL (a : Int) (H : Nat → Int) (n : Nat) : List (List AV) := (List.range n).map fun (i : Nat) => [.i (a + i), .i (H i)]
def la144 (l : Nat) (a b : Int) (tc : List AV) (tr : AV) (rx ry rz : Int) (H : Nat → Int) : LA := {
  pre := [.keep [0, 1, 2, 3, 4, 6] [0], .bound 1], post := [.keep [0, 1, 2, 3, 4, 6] [0], .bound 1]
  Gh := Nat
  st := fun i => ⟨[(0, .yld l), (1, .elt 2 [[.i a, .i b]] 0 0), (2, .elt 13 [tc] 0 0), (3, .elt 1 [[tr]] 0 0), (4, .elt 3 [[.i rx, .i ry, .i rz]] 0 0), (6, .i (a + i))], [(0, .ready l (hrL a H i))], 1⟩
  ok := fun i => i ≤ (b - a).toNat
  ms := fun i => (b - a).toNat - i }
def sp144 (a : Int) (S : Nat → List AV) (hd : List AV → Int) : Nat → List AV → Option AV
  | 126, [_, .int _ t] => some (.agg (S (t - a).toNat))
  | 117, [_, .agg s, _] => some (.i (hd s))
  | _, _ => none
def B144 (a b : Int) (tc : List AV) (tr : AV) (rx ry rz : Int) (S : Nat → List AV) (hd : List AV → Int) (l : Nat) : BA :=
  mkB (sp144 a S hd) 144 [] (fun i => if i.beq 0 then some (la144 l a b tc tr rx ry rz fun i => hd (S i)) else none)
theorem s_of {f : Nat} {cap : List AV} {L : List (List AV)} (fn : Func) (B : Nat → BA) (hf : Tryz.prog.funcs[f]? = some fn) (hb : fn.body = some (bodyOf fn)) (hn : (fn.name == "runtime.NumGoroutine") = false) (hlen : Nat.ble (cap.length + 1) fn.ntmps = true) (hres : fn.results.toList = [])
    {q : Nat → Prop} (hq : ∀ l, q l) (h : ∀ l, VC (bodyE Tryz.prog T0 G0 fn.ntmps L) (B l) 10000 0 (bodyOf fn) (startI l cap) (seqQ l L) = q l) : PSeq Tryz.prog G0 f cap L :=
  seq_of_VC tok mix hf hb hn (Nat.le_of_ble_eq_true hlen) hres B fun l => vc_of (hq l) (h l)
theorem hr_succ (a : Int) (H : Nat → Int) (n : Nat) : hrL a H n ++ [[.i (a + n), .i (H n)]] = hrL a H (n + 1) := by
  simp [hrL, List.range_succ]
theorem hr_post (a : Int) (H : Nat → Int) : ∀ {n m : Nat}, n < m → ∃ post, hrL a H m = hrL a H n ++ [.i (a + n), .i (H n)] :: post
  | n, m, h => by
    refine ⟨(List.range' (n + 1) (m - (n + 1))).map fun (i : Nat) => [.i (a + i), .i (H i)], ?_⟩
    rw [← List.singleton_append, ← List.append_assoc, hr_succ]
    unfold hrL
    rw [← List.map_append, List.range_eq_range', List.range_eq_range', show List.range' (n + 1) (m - (n + 1)) = List.range' (0 + (n + 1)) (m - (n + 1)) by rw [Nat.zero_add], List.range'_append_1, show n + 1 + (m - (n + 1)) = m by omega]
theorem s144 (a b : Int) (c0 c1 c2 c3 c4 c5 c6 c7 c8 c9 c10 c11 c12 : AV) (rows : List (List AV)) (rx ry rz : Int) (S : Nat → List AV) (hd : List AV → Int) (ha : -1000000000 ≤ a) (hb : b ≤ 1000000000)
    (h1 : ∀ i : Nat, i < (b - a).toNat → PCall Tryz.prog G0 126 [.sl 5 rows, .i (a + i)] (.agg (S i)))
    (h2 : ∀ i : Nat, i < (b - a).toNat → PCall Tryz.prog G0 117 [.agg [c0, c1, c2, c3, c4, c5, c6, c7, c8, c9, c10, c11, c12], .agg (S i), .agg [.i rx, .i ry, .i rz]] (.i (hd (S i)))) :
    PSeq Tryz.prog G0 144 [.elt 2 [[.i a, .i b]] 0 0, .elt 13 [[c0, c1, c2, c3, c4, c5, c6, c7, c8, c9, c10, c11, c12]] 0 0, .elt 1 [[.sl 5 rows]] 0 0, .elt 3 [[.i rx, .i ry, .i rz]] 0 0] (hrL a (fun i => hd (S i)) (b - a).toNat) := by
  have key : ∀ l : Nat,
      (∃ (g : Nat),
      g ≤ (b - a).toNat ∧
      AS.mk
      [((0 : Nat), AV.yld l),
      ((1 : Nat), AV.elt (2 : Nat) [[AV.int IntKind.i64 a, AV.int IntKind.i64 b]] (0 : Nat) (0 : Nat)),
      ((2 : Nat),
      AV.elt (13 : Nat) [[c0, c1, c2, c3, c4, c5, c6, c7, c8, c9, c10, c11, c12]] (0 : Nat) (0 : Nat)),
      ((3 : Nat), AV.elt (1 : Nat) [[AV.sl (5 : Nat) rows]] (0 : Nat) (0 : Nat)),
      ((4 : Nat),
      AV.elt (3 : Nat) [[AV.int IntKind.i64 rx, AV.int IntKind.i64 ry, AV.int IntKind.i64 rz]] (0 : Nat)
      (0 : Nat)),
      ((6 : Nat), AV.int IntKind.i64 a)]
      [((0 : Nat), ABlk.ready l [])] (1 : Nat) =
      AS.mk
      [((0 : Nat), AV.yld l),
      ((1 : Nat), AV.elt (2 : Nat) [[AV.int IntKind.i64 a, AV.int IntKind.i64 b]] (0 : Nat) (0 : Nat)),
      ((2 : Nat),
      AV.elt (13 : Nat) [[c0, c1, c2, c3, c4, c5, c6, c7, c8, c9, c10, c11, c12]] (0 : Nat) (0 : Nat)),
      ((3 : Nat), AV.elt (1 : Nat) [[AV.sl (5 : Nat) rows]] (0 : Nat) (0 : Nat)),
      ((4 : Nat),
      AV.elt (3 : Nat) [[AV.int IntKind.i64 rx, AV.int IntKind.i64 ry, AV.int IntKind.i64 rz]] (0 : Nat)
      (0 : Nat)),
      ((6 : Nat), AV.int IntKind.i64 (a + (↑g : Int)))]
      [((0 : Nat), ABlk.ready l (hrL a (fun (i : Nat) => hd (S i)) g))] (1 : Nat)) ∧
      ∀ (g : Nat),
      g ≤ (b - a).toNat →
      (decide (a + (↑g : Int) < b) = true →
      l = l ∧
      PCall Tryz.prog G0 (126 : Nat) [AV.sl (5 : Nat) rows, AV.int IntKind.i64 (a + (↑g : Int))]
      (AV.agg (S (a + (↑g : Int) - a).toNat)) ∧
      PCall Tryz.prog G0 (117 : Nat)
      [AV.agg [c0, c1, c2, c3, c4, c5, c6, c7, c8, c9, c10, c11, c12],
      AV.agg (S (a + (↑g : Int) - a).toNat),
      AV.agg [AV.int IntKind.i64 rx, AV.int IntKind.i64 ry, AV.int IntKind.i64 rz]]
      (AV.int IntKind.i64 (hd (S (a + (↑g : Int) - a).toNat))) ∧
      (∃ (post : List (List AV)),
      hrL a (fun (i : Nat) => hd (S i)) (b - a).toNat =
      hrL a (fun (i : Nat) => hd (S i)) g ++
      [AV.int IntKind.i64 (a + (↑g : Int)),
      AV.int IntKind.i64 (hd (S (a + (↑g : Int) - a).toNat))] ::
      post) ∧
      l = l ∧
      (hrL a (fun (i : Nat) => hd (S i)) g ++
      [[AV.int IntKind.i64 (a + (↑g : Int)),
      AV.int IntKind.i64 (hd (S (a + (↑g : Int) - a).toNat))]]).length =
      (hrL a (fun (i : Nat) => hd (S i)) g).length + (1 : Nat) ∧
      (In64 (a + (↑g : Int) + (1 : Int)) ∧
      ∃ (g' : Nat),
      g' ≤ (b - a).toNat ∧
      (b - a).toNat - g' < (b - a).toNat - g ∧
      AS.mk
      [((0 : Nat), AV.yld l),
      ((1 : Nat),
      AV.elt (2 : Nat) [[AV.int IntKind.i64 a, AV.int IntKind.i64 b]] (0 : Nat)
      (0 : Nat)),
      ((2 : Nat),
      AV.elt (13 : Nat) [[c0, c1, c2, c3, c4, c5, c6, c7, c8, c9, c10, c11, c12]]
      (0 : Nat) (0 : Nat)),
      ((3 : Nat), AV.elt (1 : Nat) [[AV.sl (5 : Nat) rows]] (0 : Nat) (0 : Nat)),
      ((4 : Nat),
      AV.elt (3 : Nat)
      [[AV.int IntKind.i64 rx, AV.int IntKind.i64 ry, AV.int IntKind.i64 rz]]
      (0 : Nat) (0 : Nat)),
      ((6 : Nat), AV.int IntKind.i64 (a + (↑g : Int) + (1 : Int)))]
      [((0 : Nat),
      ABlk.ready l
      (hrL a (fun (i : Nat) => hd (S i)) g ++
      [[AV.int IntKind.i64 (a + (↑g : Int)),
      AV.int IntKind.i64 (hd (S (a + (↑g : Int) - a).toNat))]]))]
      (1 : Nat) =
      AS.mk
      [((0 : Nat), AV.yld l),
      ((1 : Nat),
      AV.elt (2 : Nat) [[AV.int IntKind.i64 a, AV.int IntKind.i64 b]] (0 : Nat)
      (0 : Nat)),
      ((2 : Nat),
      AV.elt (13 : Nat) [[c0, c1, c2, c3, c4, c5, c6, c7, c8, c9, c10, c11, c12]]
      (0 : Nat) (0 : Nat)),
      ((3 : Nat), AV.elt (1 : Nat) [[AV.sl (5 : Nat) rows]] (0 : Nat) (0 : Nat)),
      ((4 : Nat),
      AV.elt (3 : Nat)
      [[AV.int IntKind.i64 rx, AV.int IntKind.i64 ry, AV.int IntKind.i64 rz]]
      (0 : Nat) (0 : Nat)),
      ((6 : Nat), AV.int IntKind.i64 (a + (↑g' : Int)))]
      [((0 : Nat), ABlk.ready l (hrL a (fun (i : Nat) => hd (S i)) g'))] (1 : Nat)) ∧
      (ABlk.stop l = ABlk.ready l (hrL a (fun (i : Nat) => hd (S i)) (b - a).toNat) ∨
      ABlk.stop l = ABlk.stop l)) ∧
      (decide (a + (↑g : Int) < b) = false →
      ABlk.ready l (hrL a (fun (i : Nat) => hd (S i)) g) =
      ABlk.ready l (hrL a (fun (i : Nat) => hd (S i)) (b - a).toNat) ∨
      ABlk.ready l (hrL a (fun (i : Nat) => hd (S i)) g) = ABlk.stop l) := by
    intro l
    refine ⟨⟨0, by omega, by simp [hrL]⟩, fun g hg => ⟨fun hlt => ?_, fun hge => ?_⟩⟩
    · simp only [decide_eq_true_eq] at hlt
      have hl : g < (b - a).toNat := by omega
      have e : (a + (g : Int) - a).toNat = g := by omega
      simp only [e]
      have hs := hr_succ a (fun i => hd (S i)) g
      refine ⟨trivial, h1 g hl, h2 g hl, hr_post a (fun i => hd (S i)) hl, trivial, by simp, ⟨by unfold In64; omega, g + 1, hl, by omega, ?_⟩, .inr trivial⟩
      rw [hs, show a + (g : Int) + 1 = a + ((g + 1 : Nat) : Int) by omega]
    · simp only [decide_eq_false_iff_not] at hge
      have : g = (b - a).toNat := by omega
      subst this
      exact .inl rfl
  exact s_of Tryz.f144 (B144 a b [c0, c1, c2, c3, c4, c5, c6, c7, c8, c9, c10, c11, c12] (.sl 5 rows) rx ry rz S hd) (by kernel_rfl) (by kernel_rfl) (by kernel_rfl) (by kernel_rfl) (by kernel_rfl) key (fun l => by kernel_rfl)
end Go.Proofs.YtjhjmncjidbieaaGreatDoor
namespace Go.Proofs.YtjhjmncjidbieaaGreatDoor
open Go Go.Av Go.RowKit
def aggOf : Option AV → Option (List AV)
  | some (.agg s) => some s
  | _ => none
def intOf : Option AV → Option Int
  | some (.int .i64 n) => some n
  | _ => none
theorem aggOf_ok {x : Option AV} {s : List AV} (h : aggOf x = some s) : x = some (.agg s) := by
  cases x with
  | none => cases h
  | some v => cases v <;> simp [aggOf] at h; rw [h]
theorem intOf_ok {x : Option AV} {n : Int} (h : intOf x = some n) : x = some (.i n) := by
  cases x with
  | none => cases h
  | some v => cases v <;> simp [intOf] at h; rename_i k m; cases k <;> simp at h; rw [h]
def stOf (rec : Nat → List AV → Option AV) (rows : List (List AV)) (a : Int) (i : Nat) : Option (List AV) := aggOf (rec 126 [.sl 5 rows, .i (a + i)])
def hrOf (rec : Nat → List AV → Option AV) (tc r : List AV) (s : List AV) : Option Int := intOf (rec 117 [.agg tc, .agg s, .agg r])
def sqH (rec : Nat → List AV → Option AV) (f : Nat) (cap : List AV) : Option (List (List AV)) :=
  match cap with
  | [.elt 2 [[.int .i64 a, .int .i64 b]] 0 0, .elt 13 [[c0, c1, c2, c3, c4, c5, c6, c7, c8, c9, c10, c11, c12]] 0 0, .elt 1 [[.sl 5 rows]] 0 0, .elt 3 [[.int .i64 rx, .int .i64 ry, .int .i64 rz]] 0 0] =>
    if Nat.beq f 144 && (decide (-1000000000 ≤ a) && (decide (b ≤ 1000000000) && (List.range (b - a).toNat).all fun i => match stOf rec rows a i with
        | some s => (hrOf rec [c0, c1, c2, c3, c4, c5, c6, c7, c8, c9, c10, c11, c12] [.i rx, .i ry, .i rz] s).isSome
        | none => false)) then
      some (hrL a (fun i => (hrOf rec [c0, c1, c2, c3, c4, c5, c6, c7, c8, c9, c10, c11, c12] [.i rx, .i ry, .i rz] ((stOf rec rows a i).getD [])).getD 0) (b - a).toNat)
    else none
  | _ => none
theorem sqH_ok (rec : Nat → List AV → Option AV) (hrec : ∀ f args r, rec f args = some r → PCall Tryz.prog G0 f args r) (f : Nat) (cap : List AV) (L : List (List AV)) (h : sqH rec f cap = some L) : PSeq Tryz.prog G0 f cap L := by
  unfold sqH at h
  split at h
  · rename_i a b c0 c1 c2 c3 c4 c5 c6 c7 c8 c9 c10 c11 c12 rows rx ry rz
    split at h
    · rename_i hb
      simp only [Bool.and_eq_true, decide_eq_true_eq, List.all_eq_true, List.mem_range] at hb
      obtain ⟨h1, h2, h3, h4⟩ := hb
      have := Nat.eq_of_beq_eq_true h1
      subst this
      cases h
      have key : ∀ i : Nat, i < (b - a).toNat → ∃ s n, stOf rec rows a i = some s ∧ hrOf rec [c0, c1, c2, c3, c4, c5, c6, c7, c8, c9, c10, c11, c12] [.i rx, .i ry, .i rz] s = some n := fun i hi => by
        have := h4 i hi
        split at this
        · rename_i s hs
          obtain ⟨n, hn⟩ := Option.isSome_iff_exists.1 this
          exact ⟨s, n, hs, hn⟩
        · cases this
      refine s144 a b c0 c1 c2 c3 c4 c5 c6 c7 c8 c9 c10 c11 c12 rows rx ry rz (fun i => (stOf rec rows a i).getD []) (fun s => (hrOf rec [c0, c1, c2, c3, c4, c5, c6, c7, c8, c9, c10, c11, c12] [.i rx, .i ry, .i rz] s).getD 0) h2 h3 (fun i hi => ?_) (fun i hi => ?_)
      · obtain ⟨s, n, hs, hn⟩ := key i hi
        rw [hs]
        exact hrec _ _ _ (aggOf_ok hs)
      · obtain ⟨s, n, hs, hn⟩ := key i hi
        simp only [hs, Option.getD_some, hn]
        exact hrec _ _ _ (intOf_ok hn)
    · cases h
  · cases h
end Go.Proofs.YtjhjmncjidbieaaGreatDoor
namespace Go.Proofs
open Go.Shelf
def Tryz.lays156_ren : Go.Shelf.Ren := ⟨fun | 156 => 161 | 165 => 173 | 166 => 174 | 169 => 175 | 240 => 182 | 241 => 183 | 276 => 190 | 277 => 191 | n => n, fun | 31 => 160 | 9 => 9 | 3 => 3 | 4 => 4 | 0 => 0 | 20 => 20 | 72 => 261 | 76 => 265 | 70 => 258 | 37 => 259 | 75 => 264 | 127 => 270 | 164 => 274 | 5 => 5 | 80 => 229 | n => n, fun | n => n⟩
theorem Tryz.lays156 : Go.Proofs.Lays.n156 Tryz.prog Tryz.lays156_ren := {
  mixed := by kernel_rfl
  f156 := Tryz.func161.trans (congrArg some (by kernel_rfl))
  f165 := Tryz.func173.trans (congrArg some (by kernel_rfl))
  f166 := Tryz.func174.trans (congrArg some (by kernel_rfl))
  f169 := Tryz.func175.trans (congrArg some (by kernel_rfl))
  f240 := Tryz.func182.trans (congrArg some (by kernel_rfl))
  f241 := Tryz.func183.trans (congrArg some (by kernel_rfl))
  f276 := Tryz.func190.trans (congrArg some (by kernel_rfl))
  f277 := Tryz.func191.trans (congrArg some (by kernel_rfl))
  t0 := Tryz.underlying0
  a0 := Tryz.isAgg0
  z0 := Tryz.sizeOf0
  v0 := Tryz.zeroValue0
  t3 := Tryz.underlying3
  a3 := Tryz.isAgg3
  z3 := Tryz.sizeOf3
  v3 := Tryz.zeroValue3
  t4 := Tryz.underlying4
  a4 := Tryz.isAgg4
  z4 := Tryz.sizeOf4
  v4 := Tryz.zeroValue4
  t9 := Tryz.underlying9
  a9 := Tryz.isAgg9
  z9 := Tryz.sizeOf9
  v9 := Tryz.zeroValue9
  t20 := Tryz.underlying20
  a20 := Tryz.isAgg20
  z20 := Tryz.sizeOf20
  v20 := Tryz.zeroValue20
  t31 := Tryz.underlying160
  a31 := Tryz.isAgg160
  z31 := Tryz.sizeOf160
  v31 := Tryz.zeroValue160
  t37 := Tryz.underlying259
  a37 := Tryz.isAgg259
  z37 := Tryz.sizeOf259
  v37 := Tryz.zeroValue259
  t70 := Tryz.underlying258
  a70 := Tryz.isAgg258
  z70 := Tryz.sizeOf258
  v70 := Tryz.zeroValue258
  t72 := Tryz.underlying261
  a72 := Tryz.isAgg261
  z72 := Tryz.sizeOf261
  v72 := Tryz.zeroValue261
  t75 := Tryz.underlying264
  a75 := Tryz.isAgg264
  z75 := Tryz.sizeOf264
  v75 := Tryz.zeroValue264
  t76 := Tryz.underlying265
  a76 := Tryz.isAgg265
  z76 := Tryz.sizeOf265
  v76 := Tryz.zeroValue265
  t127 := Tryz.underlying270
  a127 := Tryz.isAgg270
  z127 := Tryz.sizeOf270
  v127 := Tryz.zeroValue270
  t164 := Tryz.underlying274
  a164 := Tryz.isAgg274
  z164 := Tryz.sizeOf274
  v164 := Tryz.zeroValue274 }
theorem Tryz.Builder_Extra_156 : Builder.Extra Tryz.prog Tryz.lays156_ren := {
  sizeBuilder := by kernel_rfl
  liesBuilder := by kernel_rfl
  t5 := Tryz.underlying5
  a5 := Tryz.isAgg5
  z5 := Tryz.sizeOf5
  v5 := Tryz.zeroValue5
  infoByte := by kernel_rfl
  cellsByte := by kernel_rfl
  sizeByte := by kernel_rfl
  neB5 := by decide }
open Go.RowKit in
theorem Tryz.strings_Join_none (a : Option Addr) (c : Nat) (sep : ByteArray) (w : World) :
    Calls Tryz.prog 161 #[.slice a 0 c, .string sep] w fun e w' => e = .returned (.string ⟨#[]⟩) ∧ w' = w := Any.strings_Join_none Tryz.lays156 Tryz.Builder_Extra_156 a c sep w
open Go.RowKit in
theorem Tryz.strings_Join (bk o c : Nat) (xs : List ByteArray) (sep : ByteArray) (w : World) (hcells : ∀ (j : Nat) x, xs[j]? = some x → w.cell? ⟨bk, o + j, none⟩ = some (.string x)) (hbk : bk < w.heap.size) (hN : xs.length ≤ 140737488355328) (hcap : xs.length ≤ c) (hlen : (Lib.join (xs.map (·.data.toList)) sep.data.toList).length ≤ 140737488355328) :
    Calls Tryz.prog 161 #[.slice (some ⟨bk, o, none⟩) xs.length c, .string sep] w fun e w' => e = .returned (.string ⟨(Lib.join (xs.map (·.data.toList)) sep.data.toList).toArray⟩) ∧ Below w.heap.size w w' := Any.strings_Join Tryz.lays156 Tryz.Builder_Extra_156 bk o c xs sep w hcells hbk hN hcap hlen
def Tryz.laysM171_ren : Go.Shelf.Ren := ⟨fun | 171 => 163 | 243 => 176 | 246 => 184 | 283 => 192 | 284 => 193 | 285 => 194 | 286 => 195 | 129 => 201 | 317 => 200 | 318 => 202 | 319 => 203 | 320 => 204 | 337 => 206 | 338 => 207 | n => n, fun | 3 => 3 | 9 => 9 | 2 => 2 | 4 => 4 | 171 => 277 | 0 => 0 | 53 => 278 | 37 => 259 | 5 => 5 | 173 => 281 | 212 => 285 | 51 => 78 | 20 => 20 | 213 => 286 | 46 => 283 | 232 => 295 | 233 => 296 | n => n, fun | 17 => 4 | 18 => 7 | 19 => 8 | n => n⟩
theorem Tryz.laysM171 : Go.Proofs.LaysM.n171 Tryz.prog Tryz.laysM171_ren := {
  mixed := by kernel_rfl
  f129 := Tryz.func201.trans (congrArg some (by kernel_rfl))
  f171 := Tryz.func163.trans (congrArg some (by kernel_rfl))
  f243 := Tryz.func176.trans (congrArg some (by kernel_rfl))
  f246 := Tryz.func184.trans (congrArg some (by kernel_rfl))
  f283 := Tryz.func192.trans (congrArg some (by kernel_rfl))
  f284 := Tryz.func193.trans (congrArg some (by kernel_rfl))
  f285 := Tryz.func194.trans (congrArg some (by kernel_rfl))
  f286 := Tryz.func195.trans (congrArg some (by kernel_rfl))
  f317 := Tryz.func200.trans (congrArg some (by kernel_rfl))
  f318 := Tryz.func202.trans (congrArg some (by kernel_rfl))
  f319 := Tryz.func203.trans (congrArg some (by kernel_rfl))
  f320 := Tryz.func204.trans (congrArg some (by kernel_rfl))
  f337 := Tryz.func206.trans (congrArg some (by kernel_rfl))
  f338 := Tryz.func207.trans (congrArg some (by kernel_rfl))
  t0 := Tryz.underlying0
  a0 := Tryz.isAgg0
  z0 := Tryz.sizeOf0
  v0 := Tryz.zeroValue0
  t2 := Tryz.underlying2
  a2 := Tryz.isAgg2
  z2 := Tryz.sizeOf2
  v2 := Tryz.zeroValue2
  t3 := Tryz.underlying3
  a3 := Tryz.isAgg3
  z3 := Tryz.sizeOf3
  v3 := Tryz.zeroValue3
  t4 := Tryz.underlying4
  a4 := Tryz.isAgg4
  z4 := Tryz.sizeOf4
  v4 := Tryz.zeroValue4
  t5 := Tryz.underlying5
  a5 := Tryz.isAgg5
  z5 := Tryz.sizeOf5
  v5 := Tryz.zeroValue5
  t9 := Tryz.underlying9
  a9 := Tryz.isAgg9
  z9 := Tryz.sizeOf9
  v9 := Tryz.zeroValue9
  t20 := Tryz.underlying20
  a20 := Tryz.isAgg20
  z20 := Tryz.sizeOf20
  v20 := Tryz.zeroValue20
  t37 := Tryz.underlying259
  a37 := Tryz.isAgg259
  z37 := Tryz.sizeOf259
  v37 := Tryz.zeroValue259
  t46 := Tryz.underlying283
  a46 := Tryz.isAgg283
  z46 := Tryz.sizeOf283
  v46 := Tryz.zeroValue283
  t51 := Tryz.underlying78
  a51 := Tryz.isAgg78
  z51 := Tryz.sizeOf78
  v51 := Tryz.zeroValue78
  t53 := Tryz.underlying278
  a53 := Tryz.isAgg278
  z53 := Tryz.sizeOf278
  v53 := Tryz.zeroValue278
  t171 := Tryz.underlying277
  a171 := Tryz.isAgg277
  z171 := Tryz.sizeOf277
  v171 := Tryz.zeroValue277
  t173 := Tryz.underlying281
  a173 := Tryz.isAgg281
  z173 := Tryz.sizeOf281
  v173 := Tryz.zeroValue281
  t212 := Tryz.underlying285
  a212 := Tryz.isAgg285
  z212 := Tryz.sizeOf285
  v212 := Tryz.zeroValue285
  t213 := Tryz.underlying286
  a213 := Tryz.isAgg286
  z213 := Tryz.sizeOf286
  t232 := Tryz.underlying295
  a232 := Tryz.isAgg295
  z232 := Tryz.sizeOf295
  v232 := Tryz.zeroValue295
  t233 := Tryz.underlying296
  a233 := Tryz.isAgg296
  z233 := Tryz.sizeOf296
  v233 := Tryz.zeroValue296
  g17 := by kernel_rfl
  g18 := by kernel_rfl
  g19 := by kernel_rfl
  i0 := by kernel_rfl
  i2 := by kernel_rfl
  i3 := by kernel_rfl
  i4 := by kernel_rfl
  i5 := by kernel_rfl
  i9 := by kernel_rfl
  i20 := by kernel_rfl
  i37 := by kernel_rfl
  i46 := by kernel_rfl
  i51 := by kernel_rfl
  i53 := by kernel_rfl
  i171 := by kernel_rfl
  i173 := by kernel_rfl
  i212 := by kernel_rfl
  i232 := by kernel_rfl
  i233 := by kernel_rfl
  m17 := by kernel_rfl
  m18 := by kernel_rfl
  m19 := by kernel_rfl }
open Go.RowKit Go.Sort Go.Lib in
theorem Tryz.strconv_Itoa (n : Int) (h0 : -9223372036854775808 ≤ n) (h1 : n ≤ 9223372036854775807) (w : World) (htab : Lib.TabIs Tryz.prog w "internal/strconv.uint64pow10" .u64 Lib.pow10Tab) :
    Calls Tryz.prog 163 #[.int .i64 n] w fun e w' => e = .returned (.string ⟨(Lib.itoa n).toArray⟩) ∧ ∃ k os, w' = grow (w.drewN k) os := Any.strconv_Itoa Tryz.laysM171 n h0 h1 w htab
end Go.Proofs
namespace Go.Proofs.YtjhjmncjidbieaaGreatDoor
open Go Go.Av Go.RowKit
theorem rep_int {X : Nat → Prop} {w : World} {v : Value} {k : IntKind} {n : Int} (h : Rep X w v (.int k n)) : v = .int k n := by cases h; rfl
theorem rep_str {X : Nat → Prop} {w : World} {v : Value} {l : List UInt8} (h : Rep X w v (.str l)) : v = .string ⟨l.toArray⟩ := by cases h; rfl
theorem elt_cells {X : Nat → Prop} {w : World} {pv : Value} {k i0 j0 : Nat} {rows : List (List AV)} (h : Rep X w pv (.elt k rows i0 j0)) : ∃ b o, pv = .pointer (some ⟨b, o + i0 * k + j0, none⟩) ∧ ∃ cv : Nat → Nat → Value,
    (∀ i, i < rows.length → ∀ j, j < k → w.cell? ⟨b, o + i * k + j, none⟩ = some (cv i j)) ∧ ∀ i, i < rows.length → ∀ j, j < k → Rep X w (cv i j) (nth (nthR rows i) j) := by
  cases h with
  | elt b o k rows i0 j0 cv hb hX hi hk hc hr h1 => exact ⟨b, o, rfl, cv, hc, hr⟩
theorem glob_ints {X : Nat → Prop} {w : World} {g : Nat} {zs : List Int} {q : IntKind} (h : GlobOK X w g (zs.map fun z => AV.int q z)) : ∃ cs T z, w.heap[g]? = some (.cells cs T z) ∧ cs = (zs.map fun z => Value.int q z).toArray := by
  obtain ⟨h1, cs, T, z, h2, h3⟩ := h
  refine ⟨cs, T, z, h2, ?_⟩
  rw [List.length_map] at h3
  obtain ⟨b, o, hp, cv, hc, hr⟩ := elt_cells h1
  simp only [Value.pointer.injEq, Option.some.injEq, Addr.mk.injEq, Nat.zero_mul, Nat.add_zero] at hp
  obtain ⟨rfl, rfl, -⟩ := hp
  refine Array.ext (by simp [h3]) fun i hi1 hi2 => ?_
  have hik : i < zs.length := by omega
  have e1 := hc 0 (by simp) i (by simpa using hik)
  have e2 := hr 0 (by simp) i (by simpa using hik)
  have e3 : nth (nthR [zs.map fun z => AV.int q z] 0) i = .int q zs[i] := by
    simp [nthR, nth, List.getD_eq_getElem?_getD, hik]
  rw [e3] at e2
  have e4 := rep_int e2
  rw [e4] at e1
  simp only [Nat.zero_mul, Nat.add_zero, Nat.zero_add] at e1
  have e5 : w.cell? ⟨g, i, none⟩ = cs[i]? := by unfold World.cell?; simp [h2]
  rw [e5, Array.getElem?_eq_getElem hi1] at e1
  simp only [Option.some.injEq] at e1
  rw [e1]
  simp
theorem tab_of {w : World} {X : Nat → Prop} (h : GlobOK X w 4 (Lib.pow10Tab.map fun z => AV.int .u64 z)) : Lib.TabIs Tryz.prog w "internal/strconv.uint64pow10" .u64 Lib.pow10Tab := by
  obtain ⟨cs, T, z, h2, h3⟩ := glob_ints h
  unfold Lib.TabIs World.var?
  rw [show Tryz.prog.globalNamed "internal/strconv.uint64pow10" = some 4 by kernel_rfl]
  simp only [Option.bind_some, h2, h3]
theorem c163 (n : Int) (h : In64 n) : PCall Tryz.prog G0 163 [.i n] (.str (Lib.itoa n)) := by
  refine ⟨⟨Tryz.f163, bodyOf Tryz.f163, by kernel_rfl, by kernel_rfl, by kernel_rfl⟩, fun w X vs hX hG hz => ?_⟩
  obtain ⟨h1, h2⟩ := hz
  obtain ⟨v, rfl⟩ : ∃ v, vs = #[v] := by
    obtain ⟨l⟩ := vs
    match l, h1 with
    | [v], _ => exact ⟨v, rfl⟩
  have hv := rep_int (h2 0 v (.i n) rfl rfl)
  subst hv
  refine (Tryz.strconv_Itoa n h.1 h.2 w (tab_of (hG 4 _ (by kernel_rfl)))).mono fun e w' ⟨he, k, os, hw⟩ => ⟨_, he, ?_, .str _⟩
  subst hw
  exact ⟨rfl, rfl, rfl, by show w.heap.size ≤ (w.heap ++ os).size; simp, fun i hi => by
    show (w.heap ++ os)[i]? = _
    rw [Array.getElem?_append_left hi]⟩
theorem c161 (xs : List (List UInt8)) (sep : List UInt8) (hn : xs.length ≤ 140737488355328) (hl : (Lib.join xs sep).length ≤ 140737488355328) : PCall Tryz.prog G0 161 [.sl 1 (xs.map fun x => [.str x]), .str sep] (.str (Lib.join xs sep)) := by
  refine ⟨⟨Tryz.f161, bodyOf Tryz.f161, by kernel_rfl, by kernel_rfl, by kernel_rfl⟩, fun w X vs hX hG hz => ?_⟩
  obtain ⟨h1, h2⟩ := hz
  obtain ⟨v, s, rfl⟩ : ∃ v s, vs = #[v, s] := by
    obtain ⟨l⟩ := vs
    match l, h1 with
    | [v, s], _ => exact ⟨v, s, rfl⟩
  have hs := rep_str (h2 1 s (.str sep) rfl rfl)
  subst hs
  have hv := h2 0 v _ rfl rfl
  clear h1 h2
  generalize hr : (xs.map fun x => [AV.str x]) = rows at hv
  have hlen : rows.length = xs.length := by rw [← hr]; simp
  cases hv with
  | slE a cap =>
    have : xs = [] := by simpa using hr
    subst this
    exact (Tryz.strings_Join_none a cap _ w).mono fun e w' ⟨he, hw⟩ => ⟨_, he, by rw [hw]; exact Below.refl _ _, .str _⟩
  | sl b o cap k rows cv hb hX2 hcap hmax hk hc hrr h1 =>
    have key := Tryz.strings_Join b o cap (xs.map fun x => ⟨x.toArray⟩) ⟨sep.toArray⟩ w (fun j x hx => ?_) hb (by simpa using hn) (by simp; omega) (by
      rw [List.map_map, show ((fun x : ByteArray => x.data.toList) ∘ fun x : List UInt8 => (⟨x.toArray⟩ : ByteArray)) = id by funext x; simp, List.map_id]
      exact hl)
    · rw [List.map_map, show ((fun x : ByteArray => x.data.toList) ∘ fun x : List UInt8 => (⟨x.toArray⟩ : ByteArray)) = id by funext x; simp, List.map_id] at key
      rw [List.length_map] at key
      rw [hlen]
      exact key.mono fun e w' ⟨he, hw⟩ => ⟨_, he, hw, .str _⟩
    · obtain ⟨y, hy, rfl⟩ : ∃ y, xs[j]? = some y ∧ (⟨y.toArray⟩ : ByteArray) = x := by
        rw [List.getElem?_map] at hx
        simpa using hx
      have hj : j < xs.length := (List.getElem?_eq_some_iff.1 hy).1
      have e1 := hc j (by omega) 0 (by omega)
      have e2 := hrr j (by omega) 0 (by omega)
      have e3 : nth (nthR rows j) 0 = .str y := by
        rw [← hr]
        simp [nthR, nth, List.getD_eq_getElem?_getD, hy]
      rw [e3] at e2
      rw [rep_str e2] at e1
      simpa using e1
end Go.Proofs.YtjhjmncjidbieaaGreatDoor
namespace Go.Proofs.YtjhjmncjidbieaaGreatDoor
open Go Go.Av Go.RowKit
def ddF : Nat → Nat → List UInt8
  | 0, u => [UInt8.ofNat (48 + u)]
  | k + 1, u => if u < 10 then [UInt8.ofNat (48 + u)] else ddF k (u / 10) ++ [UInt8.ofNat (48 + u % 10)]
theorem ddF_eq : ∀ (k u : Nat), u < 10 ^ (k + 1) → ddF k u = Lib.decDigits u
  | 0, u, h => by
    rw [Lib.decDigits, dif_pos (by simpa using h)]
    rfl
  | k + 1, u, h => by
    rw [Lib.decDigits, ddF]
    by_cases h10 : u < 10
    · rw [if_pos h10, dif_pos h10]
    · rw [if_neg h10, dif_neg h10, ddF_eq k (u / 10) (by rw [Nat.pow_succ] at h; omega)]
def strsOf : List (List AV) → Option (List (List UInt8))
  | [] => some []
  | [.str x] :: l => match strsOf l with
    | some m => some (x :: m)
    | none => none
  | _ => none
theorem strsOf_ok : ∀ {rows : List (List AV)} {xs : List (List UInt8)}, strsOf rows = some xs → rows = xs.map fun x => [.str x]
  | [], xs, h => by cases h; rfl
  | row :: l, xs, h => by
    unfold strsOf at h
    split at h
    · rename_i h1; cases h1
    · rename_i x m h1
      cases h1
      split at h
      · rename_i m hm
        cases h
        rw [strsOf_ok hm]
        rfl
      · cases h
    · cases h
def libO (f : Nat) : List AV → Option AV
  | [.int .i64 n] => if Nat.beq f 163 && (decide (0 ≤ n) && decide (n < 1000000000)) then some (.str (ddF 9 n.toNat)) else none
  | [.sl 1 rows, .str sep] => if Nat.beq f 161 then match strsOf rows with
      | some xs => if decide (xs.length ≤ 1000) && decide ((Lib.join xs sep).length ≤ 1000000) then some (.str (Lib.join xs sep)) else none
      | none => none
    else none
  | _ => none
theorem libO_ok (f : Nat) (a : List AV) (r : AV) (h : libO f a = some r) : PCall Tryz.prog G0 f a r := by
  unfold libO at h
  split at h
  · rename_i n
    split at h
    · rename_i hb
      simp only [Bool.and_eq_true, decide_eq_true_eq] at hb
      obtain ⟨h1, h2, h3⟩ := hb
      have := Nat.eq_of_beq_eq_true h1
      subst this
      cases h
      have := c163 n (by unfold In64; omega)
      rw [Lib.itoa, if_neg (by omega), ← ddF_eq 9 n.toNat (by omega)] at this
      exact this
    · cases h
  · rename_i rows sep
    split at h
    · rename_i h1
      have := Nat.eq_of_beq_eq_true h1
      subst this
      split at h
      · rename_i xs hxs
        split at h
        · rename_i hb
          simp only [Bool.and_eq_true, decide_eq_true_eq] at hb
          cases h
          rw [strsOf_ok hxs]
          exact c161 xs sep (by omega) (by omega)
        · cases h
      · cases h
    · cases h
  · cases h
def orcL (l : List Mem) (f : Nat) (a : List AV) : Option AV := match libO f a with
  | some r => some r
  | none => orcM l f a
theorem orcL_ok {l : List Mem} (hl : KnownM Tryz.prog G0 l) (f : Nat) (a : List AV) (r : AV) (h : orcL l f a = some r) : PCall Tryz.prog G0 f a r := by
  unfold orcL at h
  split at h
  · rename_i r' hr
    cases h
    exact libO_ok f a _ hr
  · exact orcM_ok hl f a r h
theorem ftok : FTOK Tryz.prog F0 := by unfold FTOK; kernel_rfl
theorem run_c {l : List Mem} (hl : KnownM Tryz.prog G0 l) {f : Nat} {a : List AV} {r : AV} (h : callM Tryz.prog T0 G0 F0 (orcL l) sqH 10000 60 f a = some r) : PCall Tryz.prog G0 f a r :=
  callM_ok tok mix ftok (orcL_ok hl) sqH_ok _ _ _ _ h
end Go.Proofs.YtjhjmncjidbieaaGreatDoor
