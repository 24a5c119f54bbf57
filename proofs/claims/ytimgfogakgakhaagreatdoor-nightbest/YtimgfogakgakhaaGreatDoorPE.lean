/-
  Sets of requests, the source's: a further request, and what is wrong with a set. No condition but the theorems' own. Comparing sets of requests, and the least one. No condition but the theorems' own. What granted requests lack, and the best set, the source's. No condition but the theorems' own. The best set's value, as the greatest one of all lists of requests that fit. No condition but the theorems' own. NightBest returns true. No condition but the theorems' own. What NightBest' row says of the program's text. No condition.
-/
import Derived.Test.YtimgfogakgakhaaGreatDoorPD
import Derived.Test.YtimgfogakgakhaaGreatDoorAvD
import Derived.Test.YtimgfogakgakhaaGreatDoorPC
import Derived.Test.YtimgfogakgakhaaGreatDoorPB
namespace Go.Proofs.YtimgfogakgakhaaGreatDoor
open Go Go.Av Go.RowKit
def encCh (s : Ch) : List AV := [.sl 1 (s.g.map encI), .i s.v, .i s.c]
def wiC (r : Ru) (l : List Tp) (i : Int) (s : Ch) : Ch := ⟨s.g ++ [i], s.v + (ix l i).f, s.c + (tpAt r.ts (ix l i).n).c⟩
theorem put_end (g : List Int) (i : Int) : putRow ((List.map encI g).take (1 + g.length) ++ (List.replicate (1 + g.length) [AV.i 0]).drop (List.map encI g).length) (List.map encI g).length 0 [.i i] = (g ++ [i]).map encI := by
  have e : (List.map encI g).take (1 + g.length) ++ (List.replicate (1 + g.length) [AV.i 0]).drop (List.map encI g).length = (List.map encI g) ++ [[AV.i 0]] := by
    rw [List.take_of_length_le (by rw [List.length_map]; omega), List.drop_replicate, List.length_map, show 1 + g.length - g.length = 1 by omega]
    rfl
  rw [e, List.map_append]
  unfold putRow
  rw [List.set_append_right _ _ (by omega), Nat.sub_self]
  have e2 : nthR (List.map encI g ++ [[AV.i 0]]) (List.map encI g).length = [AV.i 0] := by
    unfold nthR
    rw [List.getD_eq_getElem?_getD, List.getElem?_append_right (by omega), Nat.sub_self]
    rfl
  rw [e2]
  rfl
def sp127 (r : Ru) : Nat → List AV → Option AV := fun n x => sp135 r.ts n x
theorem c127 (r : Ru) (l : List Tp) (s : Ch) (i : Int) (ht : r.ts.length ≤ 1000) (hi : 0 ≤ i ∧ i < l.length) (hg0 : s.g.length ≤ 1000) (h1v : In64 (s.v + (ix l i).f)) (h1c : In64 (s.c + (tpAt r.ts (ix l i).n).c)) : PCall Tryz.prog G0 127 [.agg (encCh s), .agg (encRu r), .sl 3 (l.map encTp), .i i] (.agg (encCh (wiC r l i s))) := by
  have key :
   In64 ((↑(List.map encI s.g).length : Int) + 1) ∧ (0 : Int) ≤ (↑(1 + s.g.length) : Int) ∧ (↑(1 + s.g.length) : Int) ≤ (↑(1 + s.g.length) : Int) ∧ (↑(1 + s.g.length) : Int) ≤ 9223372036854775807 ∧ (↑(1 + s.g.length) : Int) * (↑8 :
   Int) ≤ 140737488355328 ∧ AV.i ((↑(List.map encI s.g).length : Int) + 1) = AV.i (↑(1 + s.g.length) : Int) ∧ (0 : Int) ≤ (↑(List.map encI s.g).length : Int) ∧ (↑(List.map encI s.g).length : Int) < (↑(↑(1 + s.g.length) : Int).toNat :
   Int) ∧ (↑(List.map encI s.g).length : Int).toNat < (List.take (↑(1 + s.g.length) : Int).toNat (List.map encI s.g) ++ List.drop (List.map encI s.g).length (List.replicate (↑(1 + s.g.length) : Int).toNat [AV.i 0])).length ∧ (0 : Int)
   ≤ i ∧ i < (↑(List.map encTp l).length : Int) ∧ nth (nthR (List.map encTp l) i.toNat) 0 = AV.str (l.getD i.toNat default).n ∧ PCall Tryz.prog G0 135 [AV.agg (encRu r), AV.str (l.getD i.toNat default).n] (AV.tup [AV.agg [AV.str (tpAt
   r.ts (l.getD i.toNat default).n).n, AV.i (tpAt r.ts (l.getD i.toNat default).n).c, AV.i (tpAt r.ts (l.getD i.toNat default).n).f], AV.bool (decide (fiN (pN r.ts (l.getD i.toNat default).n) r.ts.length < r.ts.length))]) ∧ (0 : Int)
   ≤ i ∧ i < (↑(List.map encTp l).length : Int) ∧ In64 (s.v + (l.getD i.toNat default).f) ∧ In64 (s.c + (tpAt r.ts (l.getD i.toNat default).n).c) ∧ nth (nthR (List.map encTp l) i.toNat) 2 = AV.i (l.getD i.toNat default).f ∧ AV.agg
   [AV.sl 1 (putRow (List.take (↑(1 + s.g.length) : Int).toNat (List.map encI s.g) ++ List.drop (List.map encI s.g).length (List.replicate (↑(1 + s.g.length) : Int).toNat [AV.i 0])) (↑(List.map encI s.g).length : Int).toNat 0 [AV.i
   i]), AV.i (s.v + (l.getD i.toNat default).f), AV.i (s.c + (tpAt r.ts (l.getD i.toNat default).n).c)] = AV.agg [AV.sl 1 (List.map encI (s.g ++ [i])), AV.i (s.v + (ix l i).f), AV.i (s.c + (tpAt r.ts (ix l i).n).c)] := by
    have hlm : (List.map encTp l).length = l.length := List.length_map _
    have hgm : (List.map encI s.g).length = s.g.length := List.length_map _
    have : (List.map encI s.g).length = s.g.length := by simp only [List.length_map]
    have : (List.map encTp l).length = l.length := by simp only [List.length_map]
    refine ⟨(by unfold In64; omega), (by omega), (by omega), (by omega), (by omega), congrArg AV.i (by rw [hgm, Int.natCast_add]; omega), (by omega), (by omega), ?_, (by omega), (by omega), congrArg (fun r => nth r 0) (row_at encTp (by omega)), (c135 r _ ht), (by omega), (by omega), h1v, h1c, congrArg (fun r => nth r 2) (row_at encTp (by omega)), ?_⟩
    · simp only [Int.toNat_natCast, List.length_append, List.length_take, List.length_drop, List.length_replicate, List.length_map]
      omega
    · simp only [Int.toNat_natCast]
      rw [put_end]
      rfl
  exact c_of Tryz.f127 (fzB (mkB (sp127 r) 127 [(1, 3, fun _ => some (.i (1 + s.g.length : Nat))), (4, 5, rdL 3 encTp l 1 false), (5, 7, rdL 3 encTp l 1 false)] noLa)) (by kernel_rfl) (by kernel_rfl) (by kernel_rfl) (by kernel_rfl) key (by kernel_rfl)
theorem c190 (r : Ru) (l : List Tp) (s : Ch)  : PCall Tryz.prog G0 190 [.agg (encRu r), .sl 3 (l.map encTp), .agg (encCh s)] (.bool (decide (s.c > r.q))) := by
  have key :
   AV.bool (decide (s.c > r.q)) = AV.bool (decide (s.c > r.q)) := by
    exact rfl
  exact c_of Tryz.f190 (fzB (mkB spS 190 [] noLa)) (by kernel_rfl) (by kernel_rfl) (by kernel_rfl) (by kernel_rfl) key (by kernel_rfl)
def getH (k : Int) : List (Int × Int) → Int
  | [] => 0
  | p :: m => if k = p.1 then p.2 else getH k m
def bump (k : Int) : List (Int × Int) → List (Int × Int)
  | [] => [(k, 1)]
  | p :: m => if k = p.1 then (k, p.2 + 1) :: m else p :: bump k m
def flatP : List (Int × Int) → List AV
  | [] => []
  | p :: m => .i p.1 :: .i p.2 :: flatP m
def eP (p : Int × Int) : AV × AV := (.i p.1, .i p.2)
theorem pairs_P : ∀ m : List (Int × Int), pairsV (flatP m) = m.map eP
  | [] => rfl
  | p :: m => by
    show (AV.i p.1, AV.i p.2) :: pairsV (flatP m) = _
    rw [pairs_P m]
    rfl
theorem look_P (k : Int) : ∀ m : List (Int × Int), lookV false (.i 0) (mlook (.i k) (m.map eP)) = .i (getH k m) ∧ (mlook (.i k) (m.map eP)).isSome = true
  | [] => ⟨rfl, rfl⟩
  | p :: m => by
    obtain ⟨h1, h2⟩ := look_P k m
    simp only [List.map_cons, eP, mlook, eqCell, if_true, getH] at h1 h2 ⊢
    by_cases h : k = p.1
    · subst h; simp [lookV]
    · rw [beq_false_of_ne h, if_neg h]
      exact ⟨h1, h2⟩
theorem put_P (k : Int) : ∀ m : List (Int × Int), mput (.i k) (.i (getH k m + 1)) (m.map eP) = some ((bump k m).map eP)
  | [] => rfl
  | p :: m => by
    have ih := put_P k m
    simp only [List.map_cons, eP, mput, eqCell, if_true, getH, bump] at ih ⊢
    by_cases h : k = p.1
    · subst h; simp [eP]
    · rw [beq_false_of_ne h, if_neg h, if_neg h]
      simp only [ih]
      rfl
theorem get_bump (k h : Int) : ∀ m : List (Int × Int), getH k (bump h m) = if h == k then getH k m + 1 else getH k m
  | [] => by
    simp only [bump, getH]
    by_cases e : k = h
    · subst e; simp
    · rw [if_neg e, if_neg (by simpa using fun q => e q.symm)]
  | p :: m => by
    have ih := get_bump k h m
    simp only [bump, getH]
    by_cases e : h = p.1
    · rw [if_pos e]
      simp only [getH]
      by_cases e2 : k = p.1
      · rw [if_pos (e2.trans e.symm), if_pos e2, if_pos (by rw [e, e2]; exact beq_self_eq_true _)]
      · rw [if_neg (by rw [e]; exact e2), if_neg e2, if_neg (by rw [e]; simpa using fun q => e2 q.symm)]
    · rw [if_neg e]
      simp only [getH]
      by_cases e2 : k = p.1
      · rw [if_pos e2, if_pos e2, if_neg (by rw [e2]; simpa using e)]
      · rw [if_neg e2, if_neg e2, ih]
def hmN (l : List Tp) (g : List Int) : Nat → List (Int × Int)
  | 0 => []
  | j + 1 => bump (ix l (g.getD j default)).c (hmN l g j)
theorem hm_ho (l : List Tp) (g : List Int) (k : Int) : ∀ j, getH k (hmN l g j) = hoN l g k j
  | 0 => rfl
  | j + 1 => by rw [hmN, get_bump, hm_ho l g k j, hoN]
def getE (k : Int) (es : List (AV × AV)) : Int := match mlook (.i k) es with
  | some (some (.int _ n)) => n
  | _ => 0
theorem getE_P (k : Int) : ∀ m : List (Int × Int), getE k (m.map eP) = getH k m
  | [] => rfl
  | p :: m => by
    have ih := getE_P k m
    unfold getE at ih ⊢
    simp only [List.map_cons, eP, mlook, eqCell, if_true, getH] at ih ⊢
    by_cases h : k = p.1
    · subst h; simp
    · rw [beq_false_of_ne h, if_neg h]
      exact ih
def rtM (r : Ru) (l : List Tp) (m : List (Int × Int)) (i : Int) : Bool := decide (getH (ix l i).c m > r.ra)
def capM (r : Ru) (l : List Tp) : List AV := [.ptr 1 0, .elt 1 [[.sl 3 (l.map encTp)]] 0 0, .elt 18 [encRu r] 0 0]
def bsM (m : List (Int × Int)) : List ABlk := [.box [.ref 2], .map (m.map eP)]
theorem w193 (r : Ru) (l : List Tp) (m : List (Int × Int)) (i : Int) (hi : 0 ≤ i ∧ i < l.length) : WCall Tryz.prog G0 193 [.i i, .ptr 1 0, .elt 1 [[.sl 3 (l.map encTp)]] 0 0, .elt 18 [encRu r] 0 0] (bsM m) (.bool (rtM r l m i)) (bsM m) := by
  have key :
   (0 : Int) ≤ i ∧ i < (↑(List.map encTp l).length : Int) ∧ (mlook (AV.i (l.getD i.toNat default).c) (List.map eP m)).isSome = true ∧ nth (nthR (List.map encTp l) i.toNat) 1 = AV.i (l.getD i.toNat default).c ∧ lookV false (AV.i 0)
   (mlook (AV.i (l.getD i.toNat default).c) (List.map eP m)) = AV.i (getH (l.getD i.toNat default).c m) ∧ AV.bool (decide (getH (l.getD i.toNat default).c m > r.ra)) = AV.bool (rtM r l m i) ∧ [ABlk.box [AV.ref 2], ABlk.map (List.map
   eP m)] = [ABlk.box [AV.ref 2], ABlk.map (List.map eP m)] := by
    have hlm : (List.map encTp l).length = l.length := List.length_map _
    have : (List.map encTp l).length = l.length := by simp only [List.length_map]
    exact ⟨(by omega), (by omega), (look_P _ m).2, congrArg (fun r => nth r 1) (row_at encTp (by omega)), (look_P _ m).1, rfl, rfl⟩
  exact w_of Tryz.f193 (modA 1 6 (fun a => { a with rdb := fun _ ins => match ins with | [_, .int _ k] => some (.i (getH k m)) | _ => none }) (mkB spS 193 [(1, 5, rdL 3 encTp l 1 false)] noLa)) (by kernel_rfl) (by kernel_rfl) (by kernel_rfl) (by kernel_rfl) (by kernel_rfl) key (by kernel_rfl)
def hsM (r : Ru) (l : List Tp) (m : List (Int × Int)) : Nat → List AV → List ABlk → Option AV
  | 193, .int _ i :: _, _ => some (.gv true (.tup [.bool (rtM r l m i), .agg [.ref 2], .tup (flatP m)]))
  | _, _, _ => none
def rtI (r : Ru) (l : List Tp) (m : List (Int × Int)) (g : List Int) (j : Nat) : Bool := rtM r l m (g.getD j default)
def FM (r : Ru) (l : List Tp) : AV := .fn (.func 193) [] (capM r l)
def bsN (m : List (Int × Int)) : List ABlk := [.box [.ref 2], .map (pairsV (flatP m))]
theorem w193r (r : Ru) (l : List Tp) (m : List (Int × Int)) (i : Int) (hi : 0 ≤ i ∧ i < l.length) : WCall Tryz.prog G0 193 [.i i, .ptr 1 0, .elt 1 [[.sl 3 (l.map encTp)]] 0 0, .elt 18 [encRu r] 0 0] (bsN m) (.bool (rtM r l m i)) (bsN m) := by
  have := w193 r l m i hi
  unfold bsM at this
  unfold bsN
  rw [pairs_P]
  exact this
def la210 (r : Ru) (l : List Tp) (m : List (Int × Int)) (g : List Int) : LA := {
  pre := [.keep [0, 1, 7, 8] [0, 1, 2], .bound 3], post := [.keep [0, 1, 7, 8] [0, 1, 2], .bound 3]
  Gh := Nat
  st := fun i => ⟨[(0, .sl 1 (g.map encI)), (1, FM r l), (7, .i (g.map encI).length), (8, .i i)], [(0, .pins 3), (1, .box [.ref 2]), (2, .map (pairsV (flatP m)))], 3⟩
  ok := fun i => i ≤ g.length ∧ ∀ j, j < i → rtI r l m g j = false
  ms := fun i => g.length - i }
theorem w210 (r : Ru) (l : List Tp) (m : List (Int × Int)) (g : List Int) (hi : inL l g) (hg0 : g.length ≤ 1000) : WCall Tryz.prog G0 210 [.sl 1 (g.map encI), FM r l] (bsN m) (.i (fiI (rtI r l m g) g.length)) (bsN m) := by
  have key :
   (∃ (g_1 : Nat), (g_1 ≤ g.length ∧ ∀ (j : Nat), j < g_1 → rtI r l m g j = false) ∧ AS.mk [(0, AV.sl 1 (List.map encI g)), (1, AV.fn (Fn.func 193) [] [AV.ptr 1 0, AV.elt 1 [[AV.sl 3 (List.map encTp l)]] 0 0, AV.elt 18 [(encRu r)] 0
   0]), (7, AV.i (↑(List.map encI g).length : Int)), (8, AV.i 0)] [(0, ABlk.pins 3), (1, ABlk.box [AV.ref 2]), (2, ABlk.map (pairsV (flatP m)))] 3 = AS.mk [(0, AV.sl 1 (List.map encI g)), (1, AV.fn (Fn.func 193) [] [AV.ptr 1 0, AV.elt
   1 [[AV.sl 3 (List.map encTp l)]] 0 0, AV.elt 18 [(encRu r)] 0 0]), (7, AV.i (↑(List.map encI g).length : Int)), (8, AV.i (↑g_1 : Int))] [(0, ABlk.pins 3), (1, ABlk.box [AV.ref 2]), (2, ABlk.map (pairsV (flatP m)))] 3) ∧ ∀ (g_1 :
   Nat), (g_1 ≤ g.length ∧ ∀ (j : Nat), j < g_1 → rtI r l m g j = false) → (decide ((↑g_1 : Int) < (↑(List.map encI g).length : Int)) = true → (0 : Int) ≤ (↑g_1 : Int) ∧ (↑g_1 : Int) < (↑(List.map encI g).length : Int) ∧ nth (nthR
   (List.map encI g) (↑g_1 : Int).toNat) 0 = AV.i (g.getD (↑g_1 : Int).toNat default) ∧ WCall Tryz.prog G0 193 [AV.i (g.getD (↑g_1 : Int).toNat default), AV.ptr 1 0, AV.elt 1 [[AV.sl 3 (List.map encTp l)]] 0 0, AV.elt 18 [(encRu r)] 0
   0] [ABlk.box [AV.ref 2], ABlk.map (pairsV (flatP m))] (AV.bool (rtM r l m (g.getD (↑g_1 : Int).toNat default))) [ABlk.box [AV.ref 2], ABlk.map (pairsV (flatP m))] ∧ (rtM r l m (g.getD (↑g_1 : Int).toNat default) = true → AV.i (↑g_1
   : Int) = AV.i (fiI (rtI r l m g) g.length) ∧ [ABlk.box [AV.ref 2], ABlk.map (pairsV (flatP m))] = [ABlk.box [AV.ref 2], ABlk.map (pairsV (flatP m))]) ∧ (rtM r l m (g.getD (↑g_1 : Int).toNat default) = false → In64 ((↑g_1 : Int) +
   1) ∧ ∃ (g' : Nat), (g' ≤ g.length ∧ ∀ (j : Nat), j < g' → rtI r l m g j = false) ∧ g.length - g' < g.length - g_1 ∧ AS.mk [(0, AV.sl 1 (List.map encI g)), (1, AV.fn (Fn.func 193) [] [AV.ptr 1 0, AV.elt 1 [[AV.sl 3 (List.map encTp
   l)]] 0 0, AV.elt 18 [(encRu r)] 0 0]), (7, AV.i (↑(List.map encI g).length : Int)), (8, AV.i ((↑g_1 : Int) + 1))] [(0, ABlk.pins 3), (1, ABlk.box [AV.ref 2]), (2, ABlk.map (pairsV (flatP m)))] 3 = AS.mk [(0, AV.sl 1 (List.map encI
   g)), (1, AV.fn (Fn.func 193) [] [AV.ptr 1 0, AV.elt 1 [[AV.sl 3 (List.map encTp l)]] 0 0, AV.elt 18 [(encRu r)] 0 0]), (7, AV.i (↑(List.map encI g).length : Int)), (8, AV.i (↑g' : Int))] [(0, ABlk.pins 3), (1, ABlk.box [AV.ref 2]),
   (2, ABlk.map (pairsV (flatP m)))] 3)) ∧ (decide ((↑g_1 : Int) < (↑(List.map encI g).length : Int)) = false → AV.i (-1) = AV.i (fiI (rtI r l m g) g.length) ∧ [ABlk.box [AV.ref 2], ABlk.map (pairsV (flatP m))] = [ABlk.box [AV.ref 2],
   ABlk.map (pairsV (flatP m))]) := by
    have : (List.map encI g).length = g.length := by simp only [List.length_map]
    refine ⟨⟨0, ⟨by omega, by intros; omega⟩, rfl⟩, fun g_1 ⟨hg, ha⟩ => ⟨fun hd => ?_, fun hd => ?_⟩⟩
    · have hlt : g_1 < g.length := by have h9 := of_decide_eq_true hd; have h8 := hg; (try simp only [List.length_map] at h8); (try simp only [List.length_map] at h9); omega
      try rw [show (↑g_1 : Int).toNat = g_1 from Int.toNat_natCast g_1]
      refine ⟨(by omega), (by omega), congrArg (fun r => nth r 0) (row_at encI hlt), w193r r l m _ (inL_at hi hlt).1, fun h1 => ⟨?_, rfl⟩, fun h1 => ⟨(by unfold In64; omega), ⟨g_1 + 1, ⟨by omega, all_ext ha h1⟩, by omega, rfl⟩⟩⟩
      · rw [fiI, fi_some ha (show rtI r l m g g_1 = true from h1) hlt, if_neg (by omega)]
    · have hge : g_1 = g.length := by have h9 := of_decide_eq_false hd; have h8 := hg; (try simp only [List.length_map] at h8); (try simp only [List.length_map] at h9); omega
      subst hge
      refine ⟨?_, rfl⟩
      · rw [fiI, fi_none ha, if_pos rfl]
  exact w_of Tryz.f210 ({ mkB spS 210 [(4, 4, rdL 1 encI g 1 false)] (la1 (la210 r l m g)) with hs := hsM r l m }) (by kernel_rfl) (by kernel_rfl) (by kernel_rfl) (by kernel_rfl) (by kernel_rfl) key (by kernel_rfl)
def hsN (r : Ru) (l : List Tp) (m : List (Int × Int)) (g : List Int) : Nat → List AV → List ABlk → Option AV
  | 210, _, _ => some (.gv true (.tup [.i (fiI (rtI r l m g) g.length), .agg [.ref 2], .tup (flatP m)]))
  | _, _, _ => none
theorem w192 (r : Ru) (l : List Tp) (m : List (Int × Int)) (g : List Int) (hi : inL l g) (hg0 : g.length ≤ 1000) : WCall Tryz.prog G0 192 [.sl 1 (g.map encI), FM r l] (bsN m) (.bool (decide (fiI (rtI r l m g) g.length ≥ 0))) (bsN m) := by
  have key :
   WCall Tryz.prog G0 210 [AV.sl 1 (List.map encI g), AV.fn (Fn.func 193) [] [AV.ptr 1 0, AV.elt 1 [[AV.sl 3 (List.map encTp l)]] 0 0, AV.elt 18 [(encRu r)] 0 0]] [ABlk.box [AV.ref 2], ABlk.map (pairsV (flatP m))] (AV.i (fiI (rtI r l
   m g) g.length)) [ABlk.box [AV.ref 2], ABlk.map (pairsV (flatP m))] ∧ AV.bool (decide (fiI (rtI r l m g) g.length ≥ 0)) = AV.bool (decide (fiI (rtI r l m g) g.length ≥ 0)) ∧ [ABlk.box [AV.ref 2], ABlk.map (pairsV (flatP m))] =
   [ABlk.box [AV.ref 2], ABlk.map (pairsV (flatP m))] := by
    exact ⟨w210 r l m g hi hg0, rfl, rfl⟩
  exact w_of Tryz.f192 ({ mkB spS 192 [] noLa with hs := hsN r l m g }) (by kernel_rfl) (by kernel_rfl) (by kernel_rfl) (by kernel_rfl) (by kernel_rfl) key (by kernel_rfl)
theorem rt_rate (r : Ru) (l : List Tp) (g : List Int) : (fun j => rtI r l (hmN l g g.length) g j) = rateP r l g := by
  funext j
  unfold rtI rtM rateP
  rw [hm_ho]
theorem w192r (r : Ru) (l : List Tp) (g : List Int) (hi : inL l g) (hg0 : g.length ≤ 1000) : WCall Tryz.prog G0 192 [.sl 1 (g.map encI), FM r l] [.box [.ref 2], .map ((hmN l g g.length).map eP)] (.bool (decide (fiN (rateP r l g) g.length < g.length))) [.box [.ref 2], .map (pairsV (flatP (hmN l g g.length)))] := by
  have := w192 r l (hmN l g g.length) g hi hg0
  rw [fiI_dec, show rtI r l (hmN l g g.length) g = rateP r l g from rt_rate r l g] at this
  rw [← pairs_P]
  exact this
def hsC (r : Ru) (l : List Tp) (g : List Int) : Nat → List AV → List ABlk → Option AV
  | 192, _, _ => some (.gv true (.tup [.bool (decide (fiN (rateP r l g) g.length < g.length)), .agg [.ref 2], .tup (flatP (hmN l g g.length))]))
  | _, _, _ => none
def la191 (r : Ru) (l : List Tp) (s : Ch) : LA :=
  let ks := [3, 4, 5, 7, 12, 13, 14]
  { pre := [.ren 6 1, .ren 5 2, .keep ks [1, 2], .bound 3], post := [.keep ks [1, 2], .bound 3]
    Gh := Nat
    st := fun i => ⟨[(3, .elt 18 [encRu r] 0 0), (4, .elt 1 [[.sl 3 (l.map encTp)]] 0 0), (5, .elt 3 [encCh s] 0 0), (7, .ptr 1 0), (12, .sl 1 (s.g.map encI)), (13, .i (s.g.map encI).length), (14, .i i)], [(1, .box [.ref 2]), (2, .map ((hmN l s.g i).map eP))], 3⟩
    ok := fun i => i ≤ s.g.length
    ms := fun i => s.g.length - i }
theorem c191 (r : Ru) (l : List Tp) (s : Ch) (hi : inL l s.g) (hg0 : s.g.length ≤ 1000) : PCall Tryz.prog G0 191 [.agg (encRu r), .sl 3 (l.map encTp), .agg (encCh s)] (.bool (decide (fiN (rateP r l s.g) s.g.length < s.g.length))) := by
  have key :
   (∃ (g : Nat), g ≤ s.g.length ∧ AS.mk [(3, AV.elt 18 [(encRu r)] 0 0), (4, AV.elt 1 [[AV.sl 3 (List.map encTp l)]] 0 0), (5, AV.elt 3 [(encCh s)] 0 0), (7, AV.ptr 1 0), (12, AV.sl 1 (List.map encI s.g)), (13, AV.i (↑(List.map encI
   s.g).length : Int)), (14, AV.i 0)] [(1, ABlk.box [AV.ref 2]), (2, ABlk.map [])] 3 = AS.mk [(3, AV.elt 18 [(encRu r)] 0 0), (4, AV.elt 1 [[AV.sl 3 (List.map encTp l)]] 0 0), (5, AV.elt 3 [(encCh s)] 0 0), (7, AV.ptr 1 0), (12, AV.sl
   1 (List.map encI s.g)), (13, AV.i (↑(List.map encI s.g).length : Int)), (14, AV.i (↑g : Int))] [(1, ABlk.box [AV.ref 2]), (2, ABlk.map (List.map eP (hmN l s.g g)))] 3) ∧ ∀ (g : Nat), g ≤ s.g.length → (decide ((↑g : Int) <
   (↑(List.map encI s.g).length : Int)) = true → (0 : Int) ≤ (↑g : Int) ∧ (↑g : Int) < (↑(List.map encI s.g).length : Int) ∧ nth (nthR (List.map encI s.g) (↑g : Int).toNat) 0 = AV.i (s.g.getD (↑g : Int).toNat default) ∧ (0 : Int) ≤
   s.g.getD (↑g : Int).toNat default ∧ s.g.getD (↑g : Int).toNat default < (↑(List.map encTp l).length : Int) ∧ (mlook (AV.i (l.getD (s.g.getD (↑g : Int).toNat default).toNat default).c) (List.map eP (hmN l s.g g))).isSome = true ∧
   In64 (getE (l.getD (s.g.getD (↑g : Int).toNat default).toNat default).c (List.map eP (hmN l s.g g)) + 1) ∧ (mput (AV.i (l.getD (s.g.getD (↑g : Int).toNat default).toNat default).c) (AV.i (getE (l.getD (s.g.getD (↑g : Int).toNat
   default).toNat default).c (List.map eP (hmN l s.g g)) + 1)) (List.map eP (hmN l s.g g))).isSome = true ∧ nth (nthR (List.map encTp l) (s.g.getD (↑g : Int).toNat default).toNat) 1 = AV.i (l.getD (s.g.getD (↑g : Int).toNat
   default).toNat default).c ∧ lookV false (AV.i 0) (mlook (AV.i (l.getD (s.g.getD (↑g : Int).toNat default).toNat default).c) (List.map eP (hmN l s.g g))) = AV.i (getE (l.getD (s.g.getD (↑g : Int).toNat default).toNat default).c
   (List.map eP (hmN l s.g g))) ∧ In64 ((↑g : Int) + 1) ∧ ∃ (g' : Nat), g' ≤ s.g.length ∧ s.g.length - g' < s.g.length - g ∧ AS.mk [(3, AV.elt 18 [(encRu r)] 0 0), (4, AV.elt 1 [[AV.sl 3 (List.map encTp l)]] 0 0), (5, AV.elt 3 [(encCh
   s)] 0 0), (7, AV.ptr 1 0), (12, AV.sl 1 (List.map encI s.g)), (13, AV.i (↑(List.map encI s.g).length : Int)), (14, AV.i ((↑g : Int) + 1))] [(1, ABlk.box [AV.ref 2]), (2, ABlk.map ((mput (AV.i (l.getD (s.g.getD (↑g : Int).toNat
   default).toNat default).c) (AV.i (getE (l.getD (s.g.getD (↑g : Int).toNat default).toNat default).c (List.map eP (hmN l s.g g)) + 1)) (List.map eP (hmN l s.g g))).getD []))] 3 = AS.mk [(3, AV.elt 18 [(encRu r)] 0 0), (4, AV.elt 1
   [[AV.sl 3 (List.map encTp l)]] 0 0), (5, AV.elt 3 [(encCh s)] 0 0), (7, AV.ptr 1 0), (12, AV.sl 1 (List.map encI s.g)), (13, AV.i (↑(List.map encI s.g).length : Int)), (14, AV.i (↑g' : Int))] [(1, ABlk.box [AV.ref 2]), (2, ABlk.map
   (List.map eP (hmN l s.g g')))] 3) ∧ (decide ((↑g : Int) < (↑(List.map encI s.g).length : Int)) = false → WCall Tryz.prog G0 192 [AV.sl 1 (List.map encI s.g), AV.fn (Fn.func 193) [] [AV.ptr 1 0, AV.elt 1 [[AV.sl 3 (List.map encTp
   l)]] 0 0, AV.elt 18 [(encRu r)] 0 0]] [ABlk.box [AV.ref 2], ABlk.map (List.map eP (hmN l s.g g))] (AV.bool (decide (fiN (rateP r l s.g) s.g.length < s.g.length))) [ABlk.box [AV.ref 2], ABlk.map (pairsV (flatP (hmN l s.g
   s.g.length)))] ∧ AV.bool (decide (fiN (rateP r l s.g) s.g.length < s.g.length)) = AV.bool (decide (fiN (rateP r l s.g) s.g.length < s.g.length))) := by
    have hlm : (List.map encTp l).length = l.length := List.length_map _
    have hgm : (List.map encI s.g).length = s.g.length := List.length_map _
    have : (List.map encTp l).length = l.length := by simp only [List.length_map]
    refine ⟨⟨0, by omega, rfl⟩, fun g hg => ⟨fun hd => ?_, fun hd => ?_⟩⟩
    · have hlt : g < s.g.length := by have h9 := of_decide_eq_true hd; have h8 := hg; (try simp only [List.length_map] at h8); (try simp only [List.length_map] at h9); omega
      obtain ⟨hi1, hi2, hi3⟩ := inL_at hi hlt
      have hge : getE (l.getD (s.g.getD g default).toNat default).c (List.map eP (hmN l s.g g)) = hoN l s.g (l.getD (s.g.getD g default).toNat default).c g := by rw [getE_P, hm_ho]
      have hgb : 0 ≤ getE (l.getD (s.g.getD g default).toNat default).c (List.map eP (hmN l s.g g)) ∧ getE (l.getD (s.g.getD g default).toNat default).c (List.map eP (hmN l s.g g)) ≤ g := by rw [hge]; exact ho_bd l s.g _ g
      try rw [show (↑g : Int).toNat = g from Int.toNat_natCast g]
      refine ⟨(by omega), (by omega), congrArg (fun r => nth r 0) (row_at encI hlt), (by omega), (by omega), (look_P _ _).2, (by unfold In64; omega), ?_, congrArg (fun r => nth r 1) (row_at encTp hi2), ?_, (by unfold In64; omega), ⟨g + 1, by omega, by omega, ?_⟩⟩
      · rw [getE_P, put_P]
        rfl
      · rw [getE_P]
        exact (look_P _ _).1
      · rw [getE_P, put_P]
        rfl
    · have hge : g = s.g.length := by have h9 := of_decide_eq_false hd; have h8 := hg; (try simp only [List.length_map] at h8); (try simp only [List.length_map] at h9); omega
      subst hge
      exact ⟨w192r r l s.g hi hg0, rfl⟩
  exact c_of Tryz.f191 ({ modA 5 6 (fun a => { a with rdb := fun bs ins => match ins with | [.ref id, .int _ k] => (match blkOf bs id with | .map es => some (.i (getE k es)) | _ => none) | _ => none }) (fzB (mkB spS 191 [(4, 1, rdL 1 encI s.g 1 false), (5, 5, rdL 3 encTp l 1 false)] (la1 (la191 r l s)))) with hs := hsC r l s.g }) (by kernel_rfl) (by kernel_rfl) (by kernel_rfl) (by kernel_rfl) key (by kernel_rfl)
def misA : List AV := [.str WQ, .fn (.func 190) [] [], .str WR, .fn (.func 191) [] []]
theorem c156   : PCall Tryz.prog G0 156 [] (.agg misA) := by
  have key :
   AV.agg [AV.str [(113 : UInt8), (117 : UInt8), (111 : UInt8), (116 : UInt8), (97 : UInt8)], AV.fn (Fn.func 190) [] [], AV.str [(114 : UInt8), (97 : UInt8), (116 : UInt8), (101 : UInt8)], AV.fn (Fn.func 191) [] []] = AV.agg [AV.str
   [(113 : UInt8), (117 : UInt8), (111 : UInt8), (116 : UInt8), (97 : UInt8)], AV.fn (Fn.func 190) [] [], AV.str [(114 : UInt8), (97 : UInt8), (116 : UInt8), (101 : UInt8)], AV.fn (Fn.func 191) [] []] := by
    exact rfl
  exact c_of Tryz.f156 (mkB spS 156 [] noLa) (by kernel_rfl) (by kernel_rfl) (by kernel_rfl) (by kernel_rfl) key (by kernel_rfl)
def fitS (r : Ru) (l : List Tp) (s : Ch) : List UInt8 := if decide (s.c > r.q) = true then WQ else if decide (fiN (rateP r l s.g) s.g.length < s.g.length) = true then WR else []
theorem fitS_e (r : Ru) (l : List Tp) (g : List Int) : fitS r l (mkC r l g) = fitW r l g := by
  unfold fitS fitW
  simp only [decide_eq_true_eq]
  rfl
def sp128 (r : Ru) (l : List Tp) (s : Ch) : Nat → List AV → Option AV
  | 156, _ => some (.agg misA)
  | 190, _ => some (.bool (decide (s.c > r.q)))
  | 191, _ => some (.bool (decide (fiN (rateP r l s.g) s.g.length < s.g.length)))
  | n, x => spS n x
theorem c128 (r : Ru) (l : List Tp) (s : Ch) (hi : inL l s.g) (hg0 : s.g.length ≤ 1000) : PCall Tryz.prog G0 128 [.agg (encRu r), .sl 3 (l.map encTp), .agg (encCh s)] (.str (fitS r l s)) := by
  have key :
   PCall Tryz.prog G0 156 [] (AV.agg [AV.str [(113 : UInt8), (117 : UInt8), (111 : UInt8), (116 : UInt8), (97 : UInt8)], AV.fn (Fn.func 190) [] [], AV.str [(114 : UInt8), (97 : UInt8), (116 : UInt8), (101 : UInt8)], AV.fn (Fn.func
   191) [] []]) ∧ (0 : Int) ≤ 0 ∧ (0 : Int) < (↑2 : Int) ∧ PCall Tryz.prog G0 190 [AV.agg (encRu r), AV.sl 3 (List.map encTp l), AV.agg (encCh s)] (AV.bool (decide (s.c > r.q))) ∧ (decide (s.c > r.q) = true → AV.str [(113 : UInt8),
   (117 : UInt8), (111 : UInt8), (116 : UInt8), (97 : UInt8)] = AV.str (fitS r l s)) ∧ (decide (s.c > r.q) = false → In64 ((0 : Int) + 1) ∧ (0 : Int) ≤ 0 + 1 ∧ (0 : Int) + 1 < (↑2 : Int) ∧ PCall Tryz.prog G0 191 [AV.agg (encRu r),
   AV.sl 3 (List.map encTp l), AV.agg (encCh s)] (AV.bool (decide (fiN (rateP r l s.g) s.g.length < s.g.length))) ∧ (decide (fiN (rateP r l s.g) s.g.length < s.g.length) = true → AV.str [(114 : UInt8), (97 : UInt8), (116 : UInt8),
   (101 : UInt8)] = AV.str (fitS r l s)) ∧ (decide (fiN (rateP r l s.g) s.g.length < s.g.length) = false → In64 ((0 : Int) + 1 + 1) ∧ AV.str [] = AV.str (fitS r l s))) := by
    refine ⟨c156, (by omega), (by omega), (c190 r l s), fun h1 => ?_, fun h1 => ⟨(by unfold In64; omega), (by omega), (by omega), (c191 r l s hi hg0), fun h2 => ?_, fun h2 => ⟨(by unfold In64; omega), ?_⟩⟩⟩
    · unfold fitS
      simp only [*, if_true, if_false, Bool.false_eq_true]
      try rfl
    · unfold fitS
      simp only [*, if_true, if_false, Bool.false_eq_true]
      try rfl
    · unfold fitS
      simp only [*, if_true, if_false, Bool.false_eq_true]
      try rfl
  exact c_of Tryz.f128 ({ fzB (mkB (sp128 r l s) 128 [] noLa) with cl := clL [11] }) (by kernel_rfl) (by kernel_rfl) (by kernel_rfl) (by kernel_rfl) key (by kernel_rfl)
end Go.Proofs.YtimgfogakgakhaaGreatDoor
namespace Go.Proofs.YtimgfogakgakhaaGreatDoor
open Go Go.Av Go.RowKit
theorem c194 (x : Int)  : PCall Tryz.prog G0 194 [.i x] (.bool false) := by
  have key :
   AV.bool (x != x) = AV.bool false ∧ AV.bool false = AV.bool false := by
    refine ⟨?_, ?_⟩
    · first | rfl | exact congrArg AV.bool (bne_self_eq_false x)
    · first | rfl | exact congrArg AV.bool (bne_self_eq_false x)
  exact c_of Tryz.f194 (mkB spS 194 [(1, 2, fun _ => some (.bool false))] noLa) (by kernel_rfl) (by kernel_rfl) (by kernel_rfl) (by kernel_rfl) key (by kernel_rfl)
def cmI (x y : Int) : Int := if decide (x < y) = true then -1 else if decide (x > y) = true then 1 else 0
def sp158 : Nat → List AV → Option AV
  | 194, _ => some (.bool false)
  | n, x => spS n x
theorem c158 (x y : Int)  : PCall Tryz.prog G0 158 [.i x, .i y] (.i (cmI x y)) := by
  have key :
   PCall Tryz.prog G0 194 [AV.i x] (AV.bool false) ∧ PCall Tryz.prog G0 194 [AV.i y] (AV.bool false) ∧ (decide (x < y) = true → AV.i (-1) = AV.i (cmI x y)) ∧ (decide (x < y) = false → (decide (x > y) = true → AV.i 1 = AV.i (cmI x y))
   ∧ (decide (x > y) = false → AV.i 0 = AV.i (cmI x y))) := by
    refine ⟨(c194 _), (c194 _), fun h1 => ?_, fun h1 => ⟨fun h2 => ?_, fun h2 => ?_⟩⟩
    · unfold cmI
      simp only [*, if_true, if_false, Bool.false_eq_true]
    · unfold cmI
      simp only [*, if_true, if_false, Bool.false_eq_true]
    · unfold cmI
      simp only [*, if_true, if_false, Bool.false_eq_true]
  exact c_of Tryz.f158 ({ mkB sp158 158 [] noLa with cl := clL [11, 13] }) (by kernel_rfl) (by kernel_rfl) (by kernel_rfl) (by kernel_rfl) key (by kernel_rfl)
def cmL : List Int → List Int → Int
  | [], [] => 0
  | [], _ :: _ => -1
  | _ :: _, [] => 1
  | x :: a, y :: b => if x = y then cmL a b else if x < y then -1 else 1
theorem cmL_pre : ∀ {i : Nat} {a b : List Int}, i ≤ a.length → (∀ j, j < i → a.getD j default = b.getD j default ∧ j < b.length) → cmL a b = cmL (a.drop i) (b.drop i)
  | 0, _, _, _, _ => rfl
  | i + 1, [], _, h, _ => by simp at h
  | i + 1, x :: a, [], _, h => by have := (h 0 (by omega)).2; simp at this
  | i + 1, x :: a, y :: b, h, hj => by
    have e : x = y := (hj 0 (by omega)).1
    rw [cmL, if_pos e, List.drop_succ_cons, List.drop_succ_cons]
    refine cmL_pre (by simpa using h) fun j hj2 => ?_
    have := hj (j + 1) (by omega)
    simpa using this
theorem cmL_lx : ∀ a b : List Int, (cmL a b < 0 ↔ lx a b = true) ∧ (cmL a b = 0 ↔ a = b)
  | [], [] => by simp [cmL, lx]
  | [], _ :: _ => by simp [cmL, lx]
  | _ :: _, [] => by simp [cmL, lx]
  | x :: a, y :: b => by
    rw [cmL, lx]
    by_cases e : x = y
    · rw [if_pos e, if_pos e]
      have := cmL_lx a b
      refine ⟨this.1, ?_⟩
      rw [this.2, e]
      simp
    · rw [if_neg e, if_neg e]
      by_cases h : x < y
      · rw [if_pos h, decide_eq_true h]
        simp [e]
      · rw [if_neg h, decide_eq_false h]
        simp [e]
def sp159 : Nat → List AV → Option AV
  | 158, [.int _ x, .int _ y] => some (.i (cmI x y))
  | n, x => spS n x
def la159 (a b : List Int) : LA := {
  pre := [.keep [0, 1, 9, 10, 11] [], .bound 1], post := [.keep [0, 1, 9, 10, 11] [], .bound 1]
  Gh := Nat
  st := fun i => ⟨[(0, .sl 1 (a.map encI)), (1, .sl 1 (b.map encI)), (9, .sl 1 (a.map encI)), (10, .i (a.map encI).length), (11, .i i)], [], 1⟩
  ok := fun i => i ≤ a.length ∧ ∀ j, j < i → a.getD j default = b.getD j default ∧ j < b.length
  ms := fun i => a.length - i }
theorem cmI_0 {x y : Int} (h : (cmI x y != 0) = false) : x = y := by
  unfold cmI at h
  by_cases h1 : x < y
  · rw [if_pos (decide_eq_true h1)] at h; cases h
  · rw [if_neg (by simpa using h1)] at h
    by_cases h2 : x > y
    · rw [if_pos (decide_eq_true h2)] at h; cases h
    · omega
theorem cmI_ne {x y : Int} (h : (cmI x y != 0) = true) : ¬ x = y ∧ cmI x y = if x < y then -1 else 1 := by
  unfold cmI at h ⊢
  by_cases h1 : x < y
  · rw [if_pos (decide_eq_true h1), if_pos h1]; exact ⟨by omega, rfl⟩
  · rw [if_neg (by simpa using h1)] at h ⊢
    rw [if_neg h1]
    by_cases h2 : x > y
    · rw [if_pos (decide_eq_true h2)]; exact ⟨by omega, rfl⟩
    · rw [if_neg (by simpa using h2)] at h; cases h
theorem c159 (a b : List Int) (ha0 : a.length ≤ 1000) (hb0 : b.length ≤ 1000) : PCall Tryz.prog G0 159 [.sl 1 (a.map encI), .sl 1 (b.map encI)] (.i (cmL a b)) := by
  have key :
   (∃ (g : Nat), (g ≤ a.length ∧ ∀ (j : Nat), j < g → a.getD j default = b.getD j default ∧ j < b.length) ∧ AS.mk [(0, AV.sl 1 (List.map encI a)), (1, AV.sl 1 (List.map encI b)), (9, AV.sl 1 (List.map encI a)), (10, AV.i (↑(List.map
   encI a).length : Int)), (11, AV.i 0)] [] 1 = AS.mk [(0, AV.sl 1 (List.map encI a)), (1, AV.sl 1 (List.map encI b)), (9, AV.sl 1 (List.map encI a)), (10, AV.i (↑(List.map encI a).length : Int)), (11, AV.i (↑g : Int))] [] 1) ∧ ∀ (g :
   Nat), (g ≤ a.length ∧ ∀ (j : Nat), j < g → a.getD j default = b.getD j default ∧ j < b.length) → (decide ((↑g : Int) < (↑(List.map encI a).length : Int)) = true → (0 : Int) ≤ (↑g : Int) ∧ (↑g : Int) < (↑(List.map encI a).length :
   Int) ∧ nth (nthR (List.map encI a) (↑g : Int).toNat) 0 = AV.i (a.getD (↑g : Int).toNat default) ∧ (decide ((↑g : Int) ≥ (↑(List.map encI b).length : Int)) = true → AV.i 1 = AV.i (cmL a b)) ∧ (decide ((↑g : Int) ≥ (↑(List.map encI
   b).length : Int)) = false → (0 : Int) ≤ (↑g : Int) ∧ (↑g : Int) < (↑(List.map encI b).length : Int) ∧ nth (nthR (List.map encI b) (↑g : Int).toNat) 0 = AV.i (b.getD (↑g : Int).toNat default) ∧ PCall Tryz.prog G0 158 [AV.i (a.getD
   (↑g : Int).toNat default), AV.i (b.getD (↑g : Int).toNat default)] (AV.i (cmI (a.getD (↑g : Int).toNat default) (b.getD (↑g : Int).toNat default))) ∧ ((cmI (a.getD (↑g : Int).toNat default) (b.getD (↑g : Int).toNat default) != 0) =
   true → AV.i (cmI (a.getD (↑g : Int).toNat default) (b.getD (↑g : Int).toNat default)) = AV.i (cmL a b)) ∧ ((cmI (a.getD (↑g : Int).toNat default) (b.getD (↑g : Int).toNat default) != 0) = false → In64 ((↑g : Int) + 1) ∧ ∃ (g' :
   Nat), (g' ≤ a.length ∧ ∀ (j : Nat), j < g' → a.getD j default = b.getD j default ∧ j < b.length) ∧ a.length - g' < a.length - g ∧ AS.mk [(0, AV.sl 1 (List.map encI a)), (1, AV.sl 1 (List.map encI b)), (9, AV.sl 1 (List.map encI
   a)), (10, AV.i (↑(List.map encI a).length : Int)), (11, AV.i ((↑g : Int) + 1))] [] 1 = AS.mk [(0, AV.sl 1 (List.map encI a)), (1, AV.sl 1 (List.map encI b)), (9, AV.sl 1 (List.map encI a)), (10, AV.i (↑(List.map encI a).length :
   Int)), (11, AV.i (↑g' : Int))] [] 1))) ∧ (decide ((↑g : Int) < (↑(List.map encI a).length : Int)) = false → (decide ((↑(List.map encI a).length : Int) < (↑(List.map encI b).length : Int)) = true → AV.i (-1) = AV.i (cmL a b)) ∧
   (decide ((↑(List.map encI a).length : Int) < (↑(List.map encI b).length : Int)) = false → AV.i 0 = AV.i (cmL a b))) := by
    have : (List.map encI a).length = a.length := by simp only [List.length_map]
    have : (List.map encI b).length = b.length := by simp only [List.length_map]
    refine ⟨⟨0, ⟨by omega, by intros; omega⟩, rfl⟩, fun g ⟨hg, ha⟩ => ⟨fun hd => ?_, fun hd => ?_⟩⟩
    · have hlt : g < a.length := by have h9 := of_decide_eq_true hd; have h8 := hg; (try simp only [List.length_map] at h8); (try simp only [List.length_map] at h9); omega
      try rw [show (↑g : Int).toNat = g from Int.toNat_natCast g]
      refine ⟨(by omega), (by omega), congrArg (fun r => nth r 0) (row_at encI hlt), fun h1 => ?_, fun h1 => ?_⟩
      · have hbl : b.length ≤ g := by have h9 := of_decide_eq_true h1; rw [List.length_map] at h9; omega
        rw [cmL_pre hg ha, drop_at hlt, List.drop_of_length_le hbl]
        rfl
      · have hbl : g < b.length := by have h9 := of_decide_eq_false h1; rw [List.length_map] at h9; omega
        refine ⟨(by omega), (by omega), congrArg (fun r => nth r 0) (row_at encI hbl), (c158 _ _), fun h2 => ?_, fun h2 => ⟨(by unfold In64; omega), ⟨g + 1, ⟨by omega, all_ext ha ⟨cmI_0 h2, hbl⟩⟩, by omega, rfl⟩⟩⟩
        · obtain ⟨e1, e2⟩ := cmI_ne h2
          rw [cmL_pre hg ha, drop_at hlt, drop_at hbl, cmL, if_neg e1, e2]
    · have hge : g = a.length := by have h9 := of_decide_eq_false hd; have h8 := hg; (try simp only [List.length_map] at h8); (try simp only [List.length_map] at h9); omega
      subst hge
      refine ⟨fun h1 => ?_, fun h1 => ?_⟩
      · have h9 := of_decide_eq_true h1
        rw [List.length_map, List.length_map] at h9
        rw [cmL_pre hg ha, List.drop_of_length_le (Nat.le_refl _), drop_at (show a.length < b.length by omega)]
        rfl
      · have h9 := of_decide_eq_false h1
        rw [List.length_map, List.length_map] at h9
        rw [cmL_pre hg ha, List.drop_of_length_le (Nat.le_refl _), List.drop_of_length_le (show b.length ≤ a.length by omega)]
        rfl
  exact c_of Tryz.f159 (mkB sp159 159 [(3, 2, rdL 1 encI a 1 false), (6, 3, rdL 1 encI b 1 false)] (la1 (la159 a b))) (by kernel_rfl) (by kernel_rfl) (by kernel_rfl) (by kernel_rfl) key (by kernel_rfl)
def la157 (l : List Int) : LA := {
  pre := [.keep [3, 6, 7, 8] [], .bound 1], post := [.keep [3, 6, 7, 8] [], .bound 1]
  Gh := Nat
  st := fun i => ⟨[(3, .i 0), (6, .sl 1 (l.map encI)), (7, .i (l.map encI).length), (8, .i i)], [], 1⟩
  ok := fun i => i ≤ l.length ∧ ∀ j, j < i → l.getD j default = 0
  ms := fun i => l.length - i }
theorem or_at {l : List Int} : sFirst l = sScan (fun i => l.getD i default) l.length 0 := by
  have := scan_listT (fun x : Int => x) l
  rw [List.map_id'] at this
  exact this.symm
theorem c157 (l : List Int) (hl : l.length ≤ 1000) : PCall Tryz.prog G0 157 [.sl 1 (l.map encI)] (.i (sFirst l)) := by
  have key :
   (∃ (g : Nat), (g ≤ l.length ∧ ∀ (j : Nat), j < g → l.getD j default = (0 : Int)) ∧ AS.mk [(3, AV.i 0), (6, AV.sl 1 (List.map encI l)), (7, AV.i (↑(List.map encI l).length : Int)), (8, AV.i 0)] [] 1 = AS.mk [(3, AV.i 0), (6, AV.sl 1
   (List.map encI l)), (7, AV.i (↑(List.map encI l).length : Int)), (8, AV.i (↑g : Int))] [] 1) ∧ ∀ (g : Nat), (g ≤ l.length ∧ ∀ (j : Nat), j < g → l.getD j default = (0 : Int)) → (decide ((↑g : Int) < (↑(List.map encI l).length :
   Int)) = true → (0 : Int) ≤ (↑g : Int) ∧ (↑g : Int) < (↑(List.map encI l).length : Int) ∧ nth (nthR (List.map encI l) (↑g : Int).toNat) 0 = AV.i (l.getD (↑g : Int).toNat default) ∧ ((l.getD (↑g : Int).toNat default != 0) = true →
   AV.i (l.getD (↑g : Int).toNat default) = AV.i (sFirst l)) ∧ ((l.getD (↑g : Int).toNat default != 0) = false → In64 ((↑g : Int) + 1) ∧ ∃ (g' : Nat), (g' ≤ l.length ∧ ∀ (j : Nat), j < g' → l.getD j default = (0 : Int)) ∧ l.length -
   g' < l.length - g ∧ AS.mk [(3, AV.i 0), (6, AV.sl 1 (List.map encI l)), (7, AV.i (↑(List.map encI l).length : Int)), (8, AV.i ((↑g : Int) + 1))] [] 1 = AS.mk [(3, AV.i 0), (6, AV.sl 1 (List.map encI l)), (7, AV.i (↑(List.map encI
   l).length : Int)), (8, AV.i (↑g' : Int))] [] 1)) ∧ (decide ((↑g : Int) < (↑(List.map encI l).length : Int)) = false → AV.i 0 = AV.i (sFirst l)) := by
    have : (List.map encI l).length = l.length := by simp only [List.length_map]
    refine ⟨⟨0, ⟨by omega, by intros; omega⟩, rfl⟩, fun g ⟨hg, ha⟩ => ⟨fun hd => ?_, fun hd => ?_⟩⟩
    · have hlt : g < l.length := by have h9 := of_decide_eq_true hd; have h8 := hg; (try simp only [List.length_map] at h8); (try simp only [List.length_map] at h9); omega
      try rw [show (↑g : Int).toNat = g from Int.toNat_natCast g]
      refine ⟨(by omega), (by omega), congrArg (fun r => nth r 0) (row_at encI hlt), fun h1 => ?_, fun h1 => ⟨(by unfold In64; omega), ⟨g + 1, ⟨by omega, all_ext ha (bne_f h1)⟩, by omega, rfl⟩⟩⟩
      · rw [or_at, scan_hit (f := fun i => l.getD i default) hlt ha (bne_t h1)]
    · have hge : g = l.length := by have h9 := of_decide_eq_false hd; have h8 := hg; (try simp only [List.length_map] at h8); (try simp only [List.length_map] at h9); omega
      subst hge
      rw [or_at, scan_end (f := fun i => l.getD i default) ha]
  exact c_of Tryz.f157 (mkB spS 157 [(4, 1, rdL 1 encI l 1 false)] (la1 (la157 l))) (by kernel_rfl) (by kernel_rfl) (by kernel_rfl) (by kernel_rfl) key (by kernel_rfl)
def cmC (s o : Ch) : Int := sFirst [cmI o.v s.v, cmI s.c o.c, cmL s.g o.g]
theorem cmC_bet (s o : Ch) : decide (cmC s o < 0) = bet s o := by
  have hL := cmL_lx s.g o.g
  unfold cmC bet cmI
  simp only [sFirst]
  by_cases h1 : s.v = o.v
  · by_cases h2 : s.c = o.c
    · simp only [h1, h2, Int.lt_irrefl, gt_iff_lt, decide_false, Bool.false_eq_true, if_false, bne_self_eq_false, if_true]
      by_cases h3 : cmL s.g o.g = 0
      · simp only [h3, bne_self_eq_false, Bool.false_eq_true, if_false]
        have := hL.2.1 h3
        rw [this, lx_irr]
        decide
      · rw [Bool.eq_iff_iff, decide_eq_true_eq, ← hL.1]
        simp [h3]
    · simp only [h1, Int.lt_irrefl, gt_iff_lt, decide_false, Bool.false_eq_true, if_false, bne_self_eq_false, if_true, h2]
      by_cases h3 : s.c < o.c
      · simp [h3]
      · have h4 : o.c < s.c := by omega
        simp [h3, h4]
  · simp only [h1, if_false]
    by_cases h3 : o.v < s.v
    · simp [h3]
    · have h4 : s.v < o.v := by omega
      simp [h3, h4]
def decCh : List AV → Ch
  | [.sl _ rows, .int _ v, .int _ c] => ⟨dL rows, v, c⟩
  | _ => default
theorem decCh_e (s : Ch) : decCh (encCh s) = s := by
  show Ch.mk (dL (s.g.map encI)) s.v s.c = s
  rw [dL_e]
def cmR (a b : List AV) : Int := cmC (decCh a) (decCh b)
theorem cmR_e (s o : Ch) : cmR (encCh s) (encCh o) = cmC s o := by rw [cmR, decCh_e, decCh_e]
def sp130 (s o : Ch) : Nat → List AV → Option AV
  | 158, [.int _ x, .int _ y] => some (.i (cmI x y))
  | 159, _ => some (.i (cmL s.g o.g))
  | 157, _ => some (.i (cmC s o))
  | n, x => spS n x
theorem c130 (s o : Ch) (hs0 : s.g.length ≤ 1000) (ho0 : o.g.length ≤ 1000) : PCall Tryz.prog G0 130 [.agg (encCh s), .agg (encCh o)] (.i (cmC s o)) := by
  have key :
   PCall Tryz.prog G0 158 [AV.i o.v, AV.i s.v] (AV.i (cmI o.v s.v)) ∧ PCall Tryz.prog G0 158 [AV.i s.c, AV.i o.c] (AV.i (cmI s.c o.c)) ∧ PCall Tryz.prog G0 159 [AV.sl 1 (List.map encI s.g), AV.sl 1 (List.map encI o.g)] (AV.i (cmL s.g
   o.g)) ∧ PCall Tryz.prog G0 157 [AV.sl 1 [[AV.i (cmI o.v s.v)], [AV.i (cmI s.c o.c)], [AV.i (cmL s.g o.g)]]] (AV.i (cmC s o)) ∧ AV.i (cmC s o) = AV.i (cmC s o) := by
    exact ⟨(c158 _ _), (c158 _ _), (c159 _ _ hs0 ho0), (c157 [cmI o.v s.v, cmI s.c o.c, cmL s.g o.g] (by simp)), rfl⟩
  exact c_of Tryz.f130 (fzB (mkB (sp130 s o) 130 [] noLa)) (by kernel_rfl) (by kernel_rfl) (by kernel_rfl) (by kernel_rfl) key (by kernel_rfl)
def sp131 : Nat → List AV → Option AV
  | 130, [.agg a, .agg b] => some (.i (cmR a b))
  | n, x => spS n x
def la131 (x : List Ch) : LA :=
  let ks := [0, 1, 4, 5, 6]
  { pre := [.reno 4 1, .reno 5 2, .keep ks [1, 2], .bound 3], post := [.reno 4 1, .reno 5 2, .keep ks [1, 2], .bound 3]
    Gh := Nat
    st := fun j => ⟨[(0, .sl 3 (x.map encCh)), (1, .fn (.func 130) [] []), (4, .ptr 1 0), (5, .ptr 2 0), (6, .i (j + 1 : Nat))], [(1, .box [.ex (.slice none 0 0), .i 0, .i 0]), (2, .box (encCh (mnC x j)))], 3⟩
    ok := fun j => j + 1 ≤ x.length
    ms := fun j => x.length - j }
theorem c131 (x : List Ch) (hx0 : 0 < x.length) (hx : x.length ≤ 100000) (hxg : ∀ s, s ∈ x → s.g.length ≤ 1000) : PCall Tryz.prog G0 131 [.sl 3 (x.map encCh), .fn (.func 130) [] []] (.agg (encCh (mnC x (x.length - 1)))) := by
  have key :
   AV.bool (decide ((↑(List.map encCh x).length : Int) < 1)) = AV.bool false ∧ (0 : Int) ≤ 0 ∧ (0 : Int) < (↑(List.map encCh x).length : Int) ∧ AV.agg (nthR (List.map encCh x) 0) = AV.agg (encCh (mnC x 0)) ∧ (∃ (g : Nat), g + 1 ≤
   x.length ∧ AS.mk [(0, AV.sl 3 (List.map encCh x)), (1, AV.fn (Fn.func 130) [] []), (4, AV.ptr 1 0), (5, AV.ptr 2 0), (6, AV.i 1)] [(1, ABlk.box [AV.ex (Value.slice none 0 0), AV.i 0, AV.i 0]), (2, ABlk.box (encCh (mnC x 0)))] 3 =
   AS.mk [(0, AV.sl 3 (List.map encCh x)), (1, AV.fn (Fn.func 130) [] []), (4, AV.ptr 1 0), (5, AV.ptr 2 0), (6, AV.i (↑(g + 1) : Int))] [(1, ABlk.box [AV.ex (Value.slice none 0 0), AV.i 0, AV.i 0]), (2, ABlk.box (encCh (mnC x g)))]
   3) ∧ ∀ (g : Nat), g + 1 ≤ x.length → (decide ((↑(g + 1) : Int) < (↑(List.map encCh x).length : Int)) = true → (0 : Int) ≤ (↑(g + 1) : Int) ∧ (↑(g + 1) : Int) < (↑(List.map encCh x).length : Int) ∧ AV.agg (nthR (List.map encCh x)
   (↑(g + 1) : Int).toNat) = AV.agg (encCh (x.getD (↑(g + 1) : Int).toNat default)) ∧ AV.agg (encCh (mnC x g)) = AV.agg (encCh (mnC x g)) ∧ PCall Tryz.prog G0 130 [AV.agg (encCh (x.getD (↑(g + 1) : Int).toNat default)), AV.agg (encCh
   (mnC x g))] (AV.i (cmR (encCh (x.getD (↑(g + 1) : Int).toNat default)) (encCh (mnC x g)))) ∧ (decide (cmR (encCh (x.getD (↑(g + 1) : Int).toNat default)) (encCh (mnC x g)) < 0) = true → (0 : Int) ≤ (↑(g + 1) : Int) ∧ (↑(g + 1) :
   Int) < (↑(List.map encCh x).length : Int) ∧ AV.agg (nthR (List.map encCh x) (↑(g + 1) : Int).toNat) = AV.agg (encCh (x.getD (↑(g + 1) : Int).toNat default)) ∧ In64 ((↑(g + 1) : Int) + 1) ∧ ∃ (g' : Nat), g' + 1 ≤ x.length ∧ x.length
   - g' < x.length - g ∧ AS.mk [(0, AV.sl 3 (List.map encCh x)), (1, AV.fn (Fn.func 130) [] []), (4, AV.ptr 1 0), (5, AV.ptr 2 0), (6, AV.i ((↑(g + 1) : Int) + 1))] [(1, ABlk.box [AV.ex (Value.slice none 0 0), AV.i 0, AV.i 0]), (2,
   ABlk.box (encCh (x.getD (↑(g + 1) : Int).toNat default)))] 3 = AS.mk [(0, AV.sl 3 (List.map encCh x)), (1, AV.fn (Fn.func 130) [] []), (4, AV.ptr 1 0), (5, AV.ptr 2 0), (6, AV.i (↑(g' + 1) : Int))] [(1, ABlk.box [AV.ex (Value.slice
   none 0 0), AV.i 0, AV.i 0]), (2, ABlk.box (encCh (mnC x g')))] 3) ∧ (decide (cmR (encCh (x.getD (↑(g + 1) : Int).toNat default)) (encCh (mnC x g)) < 0) = false → In64 ((↑(g + 1) : Int) + 1) ∧ ∃ (g' : Nat), g' + 1 ≤ x.length ∧
   x.length - g' < x.length - g ∧ AS.mk [(0, AV.sl 3 (List.map encCh x)), (1, AV.fn (Fn.func 130) [] []), (4, AV.ptr 1 0), (5, AV.ptr 2 0), (6, AV.i ((↑(g + 1) : Int) + 1))] [(1, ABlk.box [AV.ex (Value.slice none 0 0), AV.i 0, AV.i
   0]), (2, ABlk.box (encCh (mnC x g)))] 3 = AS.mk [(0, AV.sl 3 (List.map encCh x)), (1, AV.fn (Fn.func 130) [] []), (4, AV.ptr 1 0), (5, AV.ptr 2 0), (6, AV.i (↑(g' + 1) : Int))] [(1, ABlk.box [AV.ex (Value.slice none 0 0), AV.i 0,
   AV.i 0]), (2, ABlk.box (encCh (mnC x g')))] 3)) ∧ (decide ((↑(g + 1) : Int) < (↑(List.map encCh x).length : Int)) = false → AV.agg (encCh (mnC x g)) = AV.agg (encCh (mnC x (x.length - 1)))) := by
    have hlm : (List.map encCh x).length = x.length := List.length_map _
    have : (List.map encCh x).length = x.length := by simp only [List.length_map]
    refine ⟨congrArg AV.bool (decide_eq_false (by omega)), (by omega), (by omega), congrArg AV.agg (row_at encCh hx0), ⟨⟨0, by omega, rfl⟩, fun g hg => ⟨fun h1 => ?_, fun h1 => ?_⟩⟩⟩
    · have hl1 : g + 1 < x.length := by have h9 := of_decide_eq_true h1; rw [hlm] at h9; exact Int.ofNat_lt.1 h9
      have hxi := hxg _ (getD_mem hl1)
      have hxm := hxg _ (mn_ok x g (by omega)).1
      refine ⟨(by omega), (by omega), congrArg AV.agg (row_at encCh hl1), rfl, (by rw [cmR_e]; exact c130 _ _ hxi hxm), fun h2 => ⟨(by omega), (by omega), congrArg AV.agg (row_at encCh hl1), (by unfold In64; omega), ⟨g + 1, by omega, by omega, ?_⟩⟩, fun h2 => ⟨(by unfold In64; omega), ⟨g + 1, by omega, by omega, ?_⟩⟩⟩
      · rw [cmR_e, cmC_bet, Int.toNat_natCast] at h2
        first
          | (rw [show mnC x (g + 1) = x.getD (g + 1) default from if_pos h2]; rfl)
          | (rw [show mnC x (g + 1) = mnC x g from if_neg (by rw [h2]; decide)]; rfl)
      · rw [cmR_e, cmC_bet, Int.toNat_natCast] at h2
        first
          | (rw [show mnC x (g + 1) = x.getD (g + 1) default from if_pos h2]; rfl)
          | (rw [show mnC x (g + 1) = mnC x g from if_neg (by rw [h2]; decide)]; rfl)
    · have hl2 : g = x.length - 1 := by
        have h9 := of_decide_eq_false h1
        rw [hlm] at h9
        have h8 : ¬ g + 1 < x.length := fun h => h9 (Int.ofNat_lt.2 h)
        omega
      rw [hl2]
  exact c_of Tryz.f131 ({ modA 7 5 (fun a => { a with rdb := fun bs ins => match ins with | [.ptr id _] => (match blkOf bs id with | .box cells => some (.agg cells) | _ => none) | _ => none }) (fzB (mkB sp131 131 [(1, 2, fun _ => some (.bool false)), (3, 2, fun _ => some (.agg (encCh (mnC x 0)))), (7, 4, rdL 3 encCh x 3 true), (8, 3, rdL 3 encCh x 3 true)] (la1 (la131 x)))) with cl := clL [9] }) (by kernel_rfl) (by kernel_rfl) (by kernel_rfl) (by kernel_rfl) key (by kernel_rfl)
theorem w129 (y : List AV) (ys : List (List AV)) (hy : ys.length ≤ 100000) : WCall Tryz.prog G0 129 [.own 1 (ys.length + 1)] [ABlk.buf 195 3 (y :: ys)] (.sl 3 (y :: ys)) [ABlk.buf 195 3 (y :: ys)] := by
  have key :
   0 + (y :: ys).length ≤ 9223372036854775807 ∧ (0 + (y :: ys).length) * 40 ≤ 140737488355328 ∧ AV.sl 3 (y :: ys) = AV.sl 3 (y :: ys) ∧ [ABlk.buf 195 3 (y :: ys)] = [ABlk.buf 195 3 (y :: ys)] := by
    have hyl : (y :: ys).length = ys.length + 1 := rfl
    exact ⟨(by omega), (by omega), rfl, rfl⟩
  exact w_of Tryz.f129 ({ mkB spS 129 [] noLa with cl := clL [4] }) (by kernel_rfl) (by kernel_rfl) (by kernel_rfl) (by kernel_rfl) (by kernel_rfl) key (by kernel_rfl)
theorem c63 (g : List Int) (hg0 : g.length ≤ 1000) : PCall Tryz.prog G0 63 [.sl 1 (g.map encI)] (.sl 1 (g.map encI)) := by
  have key :
   0 + (List.map encI g).length ≤ 9223372036854775807 ∧ (0 + (List.map encI g).length) * 8 ≤ 140737488355328 ∧ AV.sl 1 ([] ++ List.map encI g) = AV.sl 1 (List.map encI g) := by
    have : (List.map encI g).length = g.length := by simp only [List.length_map]
    refine ⟨(by omega), (by omega), ?_⟩
    · first | rfl | trivial
  exact c_of Tryz.f63 (fzB (mkB spS 63 [] noLa)) (by kernel_rfl) (by kernel_rfl) (by kernel_rfl) (by kernel_rfl) key (by kernel_rfl)
end Go.Proofs.YtimgfogakgakhaaGreatDoor
namespace Go.Proofs.YtimgfogakgakhaaGreatDoor
open Go Go.Av Go.RowKit
theorem app_at {g : List Int} {i : Int} {j : Nat} (h : j < g.length) : (g ++ [i]).getD j default = g.getD j default := by
  rw [List.getD_eq_getElem?_getD, List.getD_eq_getElem?_getD, List.getElem?_append_left h]
theorem app_end (g : List Int) (i : Int) : (g ++ [i]).getD g.length default = i := by
  rw [List.getD_eq_getElem?_getD, List.getElem?_append_right (Nat.le_refl _), Nat.sub_self]
  rfl
theorem val_app (l : List Tp) (g : List Int) (i : Int) : ∀ j, j ≤ g.length → valN l (g ++ [i]) j = valN l g j
  | 0, _ => rfl
  | j + 1, h => by rw [valN, valN, val_app l g i j (by omega), app_at (by omega)]
theorem cou_app (r : Ru) (l : List Tp) (g : List Int) (i : Int) : ∀ j, j ≤ g.length → couN r l (g ++ [i]) j = couN r l g j
  | 0, _ => rfl
  | j + 1, h => by rw [couN, couN, cou_app r l g i j (by omega), app_at (by omega)]
theorem ho_app (l : List Tp) (g : List Int) (i k : Int) : ∀ j, j ≤ g.length → hoN l (g ++ [i]) k j = hoN l g k j
  | 0, _ => rfl
  | j + 1, h => by rw [hoN, hoN, ho_app l g i k j (by omega), app_at (by omega)]
theorem mk_snoc (r : Ru) (l : List Tp) (i : Int) (g : List Int) : wiC r l i (mkC r l g) = mkC r l (g ++ [i]) := by
  unfold mkC wiC
  rw [List.length_append, List.length_singleton, valN, couN, val_app l g i _ (Nat.le_refl _), cou_app r l g i _ (Nat.le_refl _), app_end]
theorem fit_iff {r : Ru} {l : List Tp} {g : List Int} : fitB r l g = true ↔ couN r l g g.length ≤ r.q ∧ ∀ j, j < g.length → rateP r l g j = false := by
  unfold fitB fitW
  by_cases h1 : couN r l g g.length > r.q
  · rw [if_pos (decide_eq_true h1)]
    constructor
    · intro h; cases h
    · rintro ⟨h, -⟩; omega
  · rw [if_neg (by simpa using h1)]
    by_cases h2 : fiN (rateP r l g) g.length < g.length
    · rw [if_pos h2]
      constructor
      · intro h; cases h
      · rintro ⟨-, h⟩
        rw [fi_none h] at h2
        omega
    · rw [if_neg h2]
      exact ⟨fun _ => ⟨by omega, fun j hj => fi_all h2 j hj⟩, fun _ => rfl⟩
theorem fit_mono {r : Ru} {l : List Tp} (hR : RuOK r) (hX : ∀ x, x ∈ l → RqOK r x) {i : Nat} {g : List Int} (hi : i < l.length) (h : fitB r l (g ++ [(i : Int)]) = true) : fitB r l g = true := by
  rw [fit_iff] at h ⊢
  obtain ⟨h1, h2⟩ := h
  rw [List.length_append, List.length_singleton] at h1 h2
  rw [couN, cou_app r l g _ _ (Nat.le_refl _), app_end] at h1
  have hx : RqOK r (ix l (i : Int)) := hX _ (by unfold ix; rw [Int.toNat_natCast]; exact getD_mem hi)
  have := tp_bd hR hx
  refine ⟨by omega, fun j hj => ?_⟩
  have h3 := h2 j (by omega)
  unfold rateP at h3 ⊢
  rw [decide_eq_false_iff_not] at h3 ⊢
  rw [app_at hj, List.length_append, List.length_singleton, hoN, ho_app l g _ _ _ (Nat.le_refl _)] at h3
  split at h3 <;> omega
def laN (g : List Int) : Nat → Int
  | 0 => -1
  | i + 1 => g.getD i default
theorem grS_eq {l : List Tp} {g : List Int} {i : Nat} : sFirst [sWhen (if decide (g.getD i default < 0) = true then true else decide (g.getD i default ≥ ((List.map encTp l).length : Int))) 10, sWhen (decide (g.getD i default ≤ laN g i)) 11] = grF l g i := by
  rw [List.length_map]
  unfold grF
  by_cases h : (if decide (g.getD i default < 0) = true then true else decide (g.getD i default ≥ (l.length : Int))) = true
  · rw [if_pos h, h]; rfl
  · rw [if_neg h, Bool.not_eq_true] at *
    rw [h]
    have h0 : ¬ g.getD i default < 0 := fun q => by rw [if_pos (decide_eq_true q)] at h; cases h
    cases i with
    | zero =>
      rw [show laN g 0 = -1 from rfl, decide_eq_false (show ¬ g.getD 0 default ≤ -1 by omega)]
      rfl
    | succ k =>
      rw [show laN g (k + 1) = g.getD k default from rfl, if_pos (decide_eq_true (show ((k + 1 : Nat) : Int) > 0 by omega)), show k + 1 - 1 = k from rfl]
      by_cases q : g.getD (k + 1) default ≤ g.getD k default
      · rw [decide_eq_true q]; rfl
      · rw [decide_eq_false q]; rfl
def prC (r : Ru) (l : List Tp) (g : List Int) (i : Nat) : Ch := ⟨g.take i, valN l g i, couN r l g i⟩
theorem pr_all (r : Ru) (l : List Tp) (g : List Int) : prC r l g g.length = mkC r l g := by unfold prC mkC; rw [List.take_length]
def wjR (r : Ru) (l : List Tp) (i : Int) (c : List AV) : Ch := wiC r l i (decCh c)
def fiR (r : Ru) (l : List Tp) (c : List AV) : List UInt8 := fitS r l (decCh c)
theorem wjR_e (r : Ru) (l : List Tp) (i : Int) (s : Ch) : wjR r l i (encCh s) = wiC r l i s := by rw [wjR, decCh_e]
theorem fiR_e (r : Ru) (l : List Tp) (s : Ch) : fiR r l (encCh s) = fitS r l s := by rw [fiR, decCh_e]
theorem c127r {r : Ru} {l : List Tp} (s : Ch) {i : Int} (ht : r.ts.length ≤ 1000) (hi : 0 ≤ i ∧ i < l.length) (hg0 : s.g.length ≤ 1000) (h1v : In64 (s.v + (ix l i).f)) (h1c : In64 (s.c + (tpAt r.ts (ix l i).n).c)) : PCall Tryz.prog G0 127 [.agg (encCh s), .agg (encRu r), .sl 3 (l.map encTp), .i i] (.agg (encCh (wjR r l i (encCh s)))) := by
  rw [wjR_e]
  exact c127 r l s i ht hi hg0 h1v h1c
theorem c128r {r : Ru} {l : List Tp} (s : Ch) (hi : inL l s.g) (hg0 : s.g.length ≤ 1000) : PCall Tryz.prog G0 128 [.agg (encRu r), .sl 3 (l.map encTp), .agg (encCh s)] (.str (fiR r l (encCh s))) := by
  rw [fiR_e]
  exact c128 r l s hi hg0
theorem first_0 (x : Int) : sFirst [0, x] = x := by
  simp only [sFirst]
  by_cases h : x = 0 <;> simp [h]
theorem gr_in {l : List Tp} {g : List Int} {i : Nat} (h : grF l g i = 0) : 0 ≤ g.getD i default ∧ g.getD i default < l.length := by
  unfold grF at h
  by_cases q : (if decide (g.getD i default < 0) = true then true else decide (g.getD i default ≥ (l.length : Int))) = true
  · rw [if_pos q] at h; cases h
  · obtain ⟨h1, h2⟩ := or_f (by simpa only [Bool.not_eq_true] using q)
    have h1 := of_decide_eq_false h1
    have h2 := of_decide_eq_false h2
    omega
theorem val_pre {r : Ru} {l : List Tp} {g : List Int} (hX : ∀ x, x ∈ l → RqOK r x) : ∀ i, (∀ j, j < i → 0 ≤ g.getD j default ∧ g.getD j default < l.length) → 0 ≤ valN l g i ∧ valN l g i ≤ 1000 * i
  | 0, _ => by simp [valN]
  | i + 1, h => by
    have ih := val_pre hX i (fun j hj => h j (by omega))
    have h1 := h i (by omega)
    have := (hX (ix l (g.getD i default)) (getD_mem (by omega))).v
    rw [valN]
    omega
theorem cou_pre {r : Ru} {l : List Tp} {g : List Int} (hR : RuOK r) (hX : ∀ x, x ∈ l → RqOK r x) : ∀ i, (∀ j, j < i → 0 ≤ g.getD j default ∧ g.getD j default < l.length) → 0 ≤ couN r l g i ∧ couN r l g i ≤ 64 * i
  | 0, _ => by simp [couN]
  | i + 1, h => by
    have ih := cou_pre hR hX i (fun j hj => h j (by omega))
    have h1 := h i (by omega)
    have := tp_bd hR (hX (ix l (g.getD i default)) (getD_mem (by omega)))
    rw [couN]
    omega
theorem take_one {α : Type} [Inhabited α] {l : List α} {g : Nat} (h : g < l.length) : l.take (g + 1) = l.take g ++ [l.getD g default] := by
  rw [List.getD_eq_getElem?_getD, List.getElem?_eq_getElem h]
  exact (List.take_append_getElem h).symm
theorem asc_len : ∀ {n : Nat} {g : List Int}, asc n g → g.length ≤ n
  | 0, g, h => by
    cases g with
    | nil => exact Nat.le_refl _
    | cons x g => have := h.2 x (by simp); omega
  | n + 1, g, h => by
    rcases asc_cases h with h1 | ⟨g', rfl, h1⟩
    · have := asc_len h1; omega
    · have := asc_len h1
      rw [List.length_append, List.length_singleton]
      omega
def e61 (r : Ru) (l : List Tp) (g : List Int) : Int := sFirst [rqR r l, grE l g]
def w61 (r : Ru) (l : List Tp) (g : List Int) : List UInt8 := if e61 r l g == 0 then fitW r l g else []
def sp61 (r : Ru) (l : List Tp) : Nat → List AV → Option AV
  | 126, _ => some (.i (rqR r l))
  | 127, [.agg c, _, _, .int _ i] => some (.agg (encCh (wjR r l i c)))
  | 128, [_, _, .agg c] => some (.str (fiR r l c))
  | n, x => spS n x
def la61 (r : Ru) (l : List Tp) (g : List Int) : LA :=
  let ks := [1, 3, 9, 10, 20, 21, 22]
  { pre := [.reno 9 1, .nilb 1 0 1, .keep ks [1], .bound 2], post := [.reno 9 1, .keep ks [1], .bound 2]
    Gh := Nat
    st := fun i => ⟨[(1, .sl 3 (l.map encTp)), (3, .elt 18 [encRu r] 0 0), (9, .ptr 1 0), (10, .i (laN g i)), (20, .sl 1 (g.map encI)), (21, .i (g.map encI).length), (22, .i i)], [(1, .box (encCh (prC r l g i)))], 2⟩
    ok := fun i => i ≤ g.length ∧ ∀ j, j < i → grF l g j = 0
    ms := fun i => g.length - i }
theorem c61 (r : Ru) (l : List Tp) (g : List Int) (ht : r.ts.length ≤ 1000) (hs : r.rs.length ≤ 1000) (hn : ∀ t, t ∈ r.ts → t.n.length ≤ 1000) (hm : ∀ s, s ∈ r.rs → s.length ≤ 1000) (hl : l.length ≤ 1000) (hg0 : g.length ≤ 1000) : PCall Tryz.prog G0 61 [.agg (encRu r), .sl 3 (l.map encTp), .sl 1 (g.map encI)] (.tup [.str (w61 r l g), .i (e61 r l g)]) := by
  have key :
   PCall Tryz.prog G0 126 [AV.agg (encRu r), AV.sl 3 (List.map encTp l)] (AV.i (rqR r l)) ∧ ((rqR r l != 0) = true → AV.tup [AV.str [], AV.i (rqR r l)] = AV.tup [AV.str (w61 r l g), AV.i (e61 r l g)]) ∧ ((rqR r l != 0) = false → (∃
   (g_1 : Nat), (g_1 ≤ g.length ∧ ∀ (j : Nat), j < g_1 → grF l g j = (0 : Int)) ∧ AS.mk [(1, AV.sl 3 (List.map encTp l)), (3, AV.elt 18 [(encRu r)] 0 0), (9, AV.ptr 1 0), (10, AV.i (-1)), (20, AV.sl 1 (List.map encI g)), (21, AV.i
   (↑(List.map encI g).length : Int)), (22, AV.i 0)] [(1, ABlk.box [AV.sl 1 [], AV.i 0, AV.i 0])] 2 = AS.mk [(1, AV.sl 3 (List.map encTp l)), (3, AV.elt 18 [(encRu r)] 0 0), (9, AV.ptr 1 0), (10, AV.i (laN g g_1)), (20, AV.sl 1
   (List.map encI g)), (21, AV.i (↑(List.map encI g).length : Int)), (22, AV.i (↑g_1 : Int))] [(1, ABlk.box [AV.sl 1 (List.map encI (List.take g_1 g)), AV.i (valN l g g_1), AV.i (couN r l g g_1)])] 2) ∧ ∀ (g_1 : Nat), (g_1 ≤ g.length
   ∧ ∀ (j : Nat), j < g_1 → grF l g j = (0 : Int)) → (decide ((↑g_1 : Int) < (↑(List.map encI g).length : Int)) = true → (0 : Int) ≤ (↑g_1 : Int) ∧ (↑g_1 : Int) < (↑(List.map encI g).length : Int) ∧ nth (nthR (List.map encI g) (↑g_1 :
   Int).toNat) 0 = AV.i (g.getD (↑g_1 : Int).toNat default) ∧ ((!decide (g.getD (↑g_1 : Int).toNat default < 0)) = true → (!decide (g.getD (↑g_1 : Int).toNat default < 0)) = true) ∧ ((!decide (g.getD (↑g_1 : Int).toNat default < 0)) =
   true → (!decide (g.getD (↑g_1 : Int).toNat default < 0)) = true) ∧ ((!decide (g.getD (↑g_1 : Int).toNat default < 0)) = true → (!decide (g.getD (↑g_1 : Int).toNat default < 0)) = true) ∧ (decide (g.getD (↑g_1 : Int).toNat default <
   0) = false → (!decide (g.getD (↑g_1 : Int).toNat default < 0)) = true) ∧ PCall Tryz.prog G0 95 [AV.bool (if decide (g.getD (↑g_1 : Int).toNat default < 0) = true then true else decide (g.getD (↑g_1 : Int).toNat default ≥
   (↑(List.map encTp l).length : Int))), AV.i 10] (AV.i (sWhen (if decide (g.getD (↑g_1 : Int).toNat default < 0) = true then true else decide (g.getD (↑g_1 : Int).toNat default ≥ (↑(List.map encTp l).length : Int))) (10 : Int))) ∧
   PCall Tryz.prog G0 95 [AV.bool (decide (g.getD (↑g_1 : Int).toNat default ≤ laN g g_1)), AV.i 11] (AV.i (sWhen (decide (g.getD (↑g_1 : Int).toNat default ≤ laN g g_1)) (11 : Int))) ∧ PCall Tryz.prog G0 87 [AV.sl 1 [[AV.i (sWhen (if
   decide (g.getD (↑g_1 : Int).toNat default < 0) = true then true else decide (g.getD (↑g_1 : Int).toNat default ≥ (↑(List.map encTp l).length : Int))) (10 : Int))], [AV.i (sWhen (decide (g.getD (↑g_1 : Int).toNat default ≤ laN g
   g_1)) (11 : Int))]]] (AV.i (sFirst [hdI [AV.i (sWhen (if decide (g.getD (↑g_1 : Int).toNat default < 0) = true then true else decide (g.getD (↑g_1 : Int).toNat default ≥ (↑(List.map encTp l).length : Int))) (10 : Int))], hdI [AV.i
   (sWhen (decide (g.getD (↑g_1 : Int).toNat default ≤ laN g g_1)) (11 : Int))]])) ∧ ((sFirst [hdI [AV.i (sWhen (if decide (g.getD (↑g_1 : Int).toNat default < 0) = true then true else decide (g.getD (↑g_1 : Int).toNat default ≥
   (↑(List.map encTp l).length : Int))) (10 : Int))], hdI [AV.i (sWhen (decide (g.getD (↑g_1 : Int).toNat default ≤ laN g g_1)) (11 : Int))]] != 0) = true → AV.tup [AV.str [], AV.i (sFirst [hdI [AV.i (sWhen (if decide (g.getD (↑g_1 :
   Int).toNat default < 0) = true then true else decide (g.getD (↑g_1 : Int).toNat default ≥ (↑(List.map encTp l).length : Int))) (10 : Int))], hdI [AV.i (sWhen (decide (g.getD (↑g_1 : Int).toNat default ≤ laN g g_1)) (11 : Int))]])]
   = AV.tup [AV.str (w61 r l g), AV.i (e61 r l g)]) ∧ ((sFirst [hdI [AV.i (sWhen (if decide (g.getD (↑g_1 : Int).toNat default < 0) = true then true else decide (g.getD (↑g_1 : Int).toNat default ≥ (↑(List.map encTp l).length : Int)))
   (10 : Int))], hdI [AV.i (sWhen (decide (g.getD (↑g_1 : Int).toNat default ≤ laN g g_1)) (11 : Int))]] != 0) = false → PCall Tryz.prog G0 127 [AV.agg [AV.sl 1 (List.map encI (List.take g_1 g)), AV.i (valN l g g_1), AV.i (couN r l g
   g_1)], AV.agg (encRu r), AV.sl 3 (List.map encTp l), AV.i (g.getD (↑g_1 : Int).toNat default)] (AV.agg [AV.sl 1 (List.map encI (dL (List.map encI (List.take g_1 g)) ++ [g.getD (↑g_1 : Int).toNat default])), AV.i (valN l g g_1 + (ix
   l (g.getD (↑g_1 : Int).toNat default)).f), AV.i (couN r l g g_1 + (tpAt r.ts (ix l (g.getD (↑g_1 : Int).toNat default)).n).c)]) ∧ In64 ((↑g_1 : Int) + 1) ∧ ∃ (g' : Nat), (g' ≤ g.length ∧ ∀ (j : Nat), j < g' → grF l g j = (0 : Int))
   ∧ g.length - g' < g.length - g_1 ∧ AS.mk [(1, AV.sl 3 (List.map encTp l)), (3, AV.elt 18 [(encRu r)] 0 0), (9, AV.ptr 1 0), (10, AV.i (g.getD (↑g_1 : Int).toNat default)), (20, AV.sl 1 (List.map encI g)), (21, AV.i (↑(List.map encI
   g).length : Int)), (22, AV.i ((↑g_1 : Int) + 1))] [(1, ABlk.box [AV.sl 1 (List.map encI (dL (List.map encI (List.take g_1 g)) ++ [g.getD (↑g_1 : Int).toNat default])), AV.i (valN l g g_1 + (ix l (g.getD (↑g_1 : Int).toNat
   default)).f), AV.i (couN r l g g_1 + (tpAt r.ts (ix l (g.getD (↑g_1 : Int).toNat default)).n).c)])] 2 = AS.mk [(1, AV.sl 3 (List.map encTp l)), (3, AV.elt 18 [(encRu r)] 0 0), (9, AV.ptr 1 0), (10, AV.i (laN g g')), (20, AV.sl 1
   (List.map encI g)), (21, AV.i (↑(List.map encI g).length : Int)), (22, AV.i (↑g' : Int))] [(1, ABlk.box [AV.sl 1 (List.map encI (List.take g' g)), AV.i (valN l g g'), AV.i (couN r l g g')])] 2)) ∧ (decide ((↑g_1 : Int) <
   (↑(List.map encI g).length : Int)) = false → PCall Tryz.prog G0 128 [AV.agg (encRu r), AV.sl 3 (List.map encTp l), AV.agg [AV.sl 1 (List.map encI (List.take g_1 g)), AV.i (valN l g g_1), AV.i (couN r l g g_1)]] (AV.str (fiR r l
   [AV.sl 1 (List.map encI (List.take g_1 g)), AV.i (valN l g g_1), AV.i (couN r l g g_1)])) ∧ AV.tup [AV.str (fiR r l [AV.sl 1 (List.map encI (List.take g_1 g)), AV.i (valN l g g_1), AV.i (couN r l g g_1)]), AV.i 0] = AV.tup [AV.str
   (w61 r l g), AV.i (e61 r l g)])) := by
    have hlm : (List.map encTp l).length = l.length := List.length_map _
    have : (List.map encI g).length = g.length := by simp only [List.length_map]
    have : (List.map encTp l).length = l.length := by simp only [List.length_map]
    refine ⟨(c126r r l ht hs hn hm hl), fun h1 => ?_, fun h1 => ?_⟩
    · have e : e61 r l g = rqR r l := by unfold e61; rw [sFirst, if_pos (bne_t h1)]
      rw [w61, e, if_neg (by rw [beq_iff_eq]; exact bne_t h1)]
    · have hq0 := bne_f h1
      obtain ⟨-, hR, hra, hl8, hX⟩ := rq_ok hq0
      have e61g : e61 r l g = grE l g := by unfold e61; rw [hq0, first_0]
      refine ⟨⟨0, ⟨by omega, by intros; omega⟩, rfl⟩, fun g_1 ⟨hg, ha⟩ => ⟨fun hd => ?_, fun hd => ?_⟩⟩
      · have hlt : g_1 < g.length := by have h9 := of_decide_eq_true hd; have h8 := hg; (try simp only [List.length_map] at h8); (try simp only [List.length_map] at h9); omega
        try rw [show (↑g_1 : Int).toNat = g_1 from Int.toNat_natCast g_1]
        refine ⟨(by omega), (by omega), congrArg (fun r => nth r 0) (row_at encI hlt), fun h => h, fun h => h, fun h => h, fun h => by first | exact h | (rw [h]; rfl) | simp_all, (c95 _ _), (c95 _ _), (c87 [_, _] (by simp)), fun h2 => ?_, fun h2 => ?_⟩
        · have hz : (grF l g g_1 != 0) = true := by rw [← grS_eq]; exact h2
          have e : e61 r l g = grF l g g_1 := by rw [e61g, grE, scan_hit hlt ha (bne_t hz)]
          have e2 : ∀ x, x = grF l g g_1 → AV.tup [AV.str [], AV.i x] = AV.tup [AV.str (w61 r l g), AV.i (e61 r l g)] := fun x hx => by
            rw [w61, e, hx, if_neg (by rw [beq_iff_eq]; exact bne_t hz)]
          exact e2 _ grS_eq
        · have hz : grF l g g_1 = 0 := bne_f (by rw [← grS_eq]; exact h2)
          have hin1 := gr_in hz
          have hvp := val_pre (g := g) hX g_1 (fun j hj => gr_in (ha j hj))
          have hcp := cou_pre (g := g) hR hX g_1 (fun j hj => gr_in (ha j hj))
          have hxm := hX (ix l (g.getD g_1 default)) (getD_mem (by omega))
          have hvx := hxm.v
          have hcx := tp_bd hR hxm
          refine ⟨?_, (by unfold In64; omega), ⟨g_1 + 1, ⟨by omega, all_ext ha hz⟩, by omega, ?_⟩⟩
          · exact c127r (prC r l g g_1) ht hin1 (by show (g.take g_1).length ≤ 1000; rw [List.length_take]; omega) (by show In64 (valN l g g_1 + (ix l (g.getD g_1 default)).f); unfold In64; omega) (by show In64 (couN r l g g_1 + (tpAt r.ts (ix l (g.getD g_1 default)).n).c); unfold In64; omega)
          · rw [dL_e, take_one hlt]
            rfl
      · have hge : g_1 = g.length := by have h9 := of_decide_eq_false hd; have h8 := hg; (try simp only [List.length_map] at h8); (try simp only [List.length_map] at h9); omega
        subst hge
        refine ⟨?_, ?_⟩
        · exact c128r (prC r l g g.length) (fun x hx => by
            obtain ⟨j, hj, e⟩ := mem_get (List.mem_of_mem_take hx)
            rw [← e]
            exact gr_in (ha j hj)) (by show (g.take g.length).length ≤ 1000; rw [List.length_take]; omega)
        · have e : e61 r l g = 0 := by rw [e61g, grE, scan_end ha]
          have e2 : fiR r l (encCh (prC r l g g.length)) = fitW r l g := by rw [fiR_e, pr_all, fitS_e]
          show AV.tup [AV.str (fiR r l (encCh (prC r l g g.length))), AV.i 0] = _
          rw [w61, e, if_pos (by rfl), e2]
  exact c_of Tryz.f61 (fzB (mkB (sp61 r l) 61 [(8, 1, rdL 1 encI g 1 false)] (la1 (la61 r l g)))) (by kernel_rfl) (by kernel_rfl) (by kernel_rfl) (by kernel_rfl) key (by kernel_rfl)
def okS (r : Ru) (l : List Tp) (s : Ch) : Bool := fitS r l s == []
def wiN (r : Ru) (l : List Tp) (i : Nat) (s : Ch) : Ch := wiC r l (i : Int) s
def aN (r : Ru) (l : List Tp) (i : Nat) : List Ch := allN (okS r l) (wiN r l) i
def inA (r : Ru) (l : List Tp) (i : Nat) : Nat → List Ch
  | 0 => aN r l i
  | j + 1 => if okS r l (wiN r l i ((aN r l i).getD j default)) = true then inA r l i j ++ [wiN r l i ((aN r l i).getD j default)] else inA r l i j
theorem inA_at (r : Ru) (l : List Tp) (i : Nat) : ∀ j, j ≤ (aN r l i).length → inA r l i j = aN r l i ++ (((aN r l i).take j).map (wiN r l i)).filter (okS r l)
  | 0, _ => by simp [inA]
  | j + 1, h => by
    have ih := inA_at r l i j (by omega)
    have e : (aN r l i).take (j + 1) = (aN r l i).take j ++ [(aN r l i).getD j default] := by
      rw [List.getD_eq_getElem?_getD, List.getElem?_eq_getElem h]
      exact (List.take_append_getElem h).symm
    rw [inA, e, List.map_append, List.filter_append, ih]
    by_cases q : okS r l (wiN r l i ((aN r l i).getD j default)) = true
    · rw [if_pos q, List.map_singleton, List.filter_cons_of_pos q, List.filter_nil, List.append_assoc]
    · rw [if_neg q, List.map_singleton, List.filter_cons_of_neg q, List.filter_nil, List.append_nil]
theorem inA_end (r : Ru) (l : List Tp) (i : Nat) : inA r l i (aN r l i).length = aN r l (i + 1) := by
  rw [inA_at r l i _ (Nat.le_refl _), List.take_length]
  rfl
theorem inA_len (r : Ru) (l : List Tp) (i : Nat) : ∀ j, (inA r l i j).length ≤ (aN r l i).length + j
  | 0 => Nat.le_refl _
  | j + 1 => by
    have := inA_len r l i j
    rw [inA]
    split
    · rw [List.length_append, List.length_singleton]; omega
    · omega
def atR (rows : List (List AV)) (i : Nat) : Ch := decCh (nthR rows i)
theorem atR_e {x : List Ch} {i : Nat} (h : i < x.length) : atR (x.map encCh) i = x.getD i default := by
  unfold atR
  rw [row_at encCh h, decCh_e]
def rdA : List AV → Option AV
  | [.elt _ rows i _] => some (.agg (encCh (atR rows i)))
  | _ => none
def hs64 : Nat → List AV → List ABlk → Option AV
  | 129, _, [.buf _ _ rows] => some (.gv true (.tup [.sl 3 rows, .fresh 195 3 rows]))
  | _, _, _ => none
theorem w129r {rows : List (List AV)} (h : 0 < rows.length) (hl : rows.length ≤ 100000) : WCall Tryz.prog G0 129 [.own 1 rows.length] [.buf 195 3 rows] (.sl 3 rows) [.buf 195 3 rows] := by
  match rows, h with
  | y :: ys, _ => exact w129 y ys (by simp at hl; omega)
def sp64 (r : Ru) (l : List Tp) : Nat → List AV → Option AV
  | 131, _ => some (.agg (encCh (mkC r l (plB r l))))
  | n, x => sp61 r l n x
def la64 (r : Ru) (l : List Tp) (b : Nat) : Option LA :=
  let B : List (Nat × AV) := [(1, .sl 3 (l.map encTp)), (2, .elt 18 [encRu r] 0 0)]
  if b.beq 0 then
    let ks := [1, 2, 8, 24, 25]
    some { pre := [.reno 8 1, .nilb 1 0 1, .keep ks [1], .bound 2], post := [.reno 8 1, .keep ks [1], .bound 2]
           Gh := Nat
           st := fun i => ⟨B ++ [(8, .own 1 ((aN r l i).map encCh).length), (24, .i (l.map encTp).length), (25, .i i)], [(1, .buf 195 3 ((aN r l i).map encCh))], 2⟩
           ok := fun i => i ≤ l.length
           ms := fun i => l.length - i }
  else
    let ks := [1, 2, 8, 9, 24, 25, 29, 30, 31]
    let K : List GS := [.reno 8 1, .keep ks [1], .bound 2]
    some { pre := K, post := K
           Gh := Nat × Nat
           st := fun q => ⟨B ++ [(8, .own 1 ((inA r l q.1 q.2).map encCh).length), (9, .i q.1), (24, .i (l.map encTp).length), (25, .i q.1), (29, .sl 3 ((aN r l q.1).map encCh)), (30, .i ((aN r l q.1).map encCh).length), (31, .i q.2)], [(1, .buf 195 3 ((inA r l q.1 q.2).map encCh))], 2⟩
           ok := fun q => q.1 < l.length ∧ q.2 ≤ (aN r l q.1).length
           rel := some fun q0 q => q.1 = q0.1
           ms := fun q => (aN r l q.1).length - q.2 }
theorem c64 (r : Ru) (l : List Tp) (ht : r.ts.length ≤ 1000) (hs : r.rs.length ≤ 1000) (hn : ∀ t, t ∈ r.ts → t.n.length ≤ 1000) (hm : ∀ s, s ∈ r.rs → s.length ≤ 1000) (hl : l.length ≤ 1000) : PCall Tryz.prog G0 64 [.agg (encRu r), .sl 3 (l.map encTp)] (.tup [.sl 1 ((if rqR r l != 0 then [] else plB r l).map encI), .i (if rqR r l != 0 then 0 else valN l (plB r l) (plB r l).length), .i (rqR r l)]) := by
  have key :
   PCall Tryz.prog G0 126 [AV.agg (encRu r), AV.sl 3 (List.map encTp l)] (AV.i (rqR r l)) ∧ ((rqR r l != 0) = true → AV.tup [AV.sl 1 [], AV.i 0, AV.i (rqR r l)] = AV.tup [AV.sl 1 (List.map encI (if (rqR r l != 0) = true then [] else
   plB r l)), AV.i (if (rqR r l != 0) = true then (0 : Int) else valN l (plB r l) (plB r l).length), AV.i (rqR r l)]) ∧ ((rqR r l != 0) = false → (∃ (g : Nat), g ≤ l.length ∧ AS.mk [(1, AV.sl 3 (List.map encTp l)), (2, AV.elt 18
   [(encRu r)] 0 0), (8, AV.own 1 1), (24, AV.i (↑(List.map encTp l).length : Int)), (25, AV.i 0)] [(1, ABlk.buf 195 3 [[AV.sl 1 [], AV.i 0, AV.i 0]])] 2 = AS.mk [(1, AV.sl 3 (List.map encTp l)), (2, AV.elt 18 [(encRu r)] 0 0), (8,
   AV.own 1 (List.map encCh (aN r l g)).length), (24, AV.i (↑(List.map encTp l).length : Int)), (25, AV.i (↑g : Int))] [(1, ABlk.buf 195 3 (List.map encCh (aN r l g)))] 2) ∧ ∀ (g : Nat), g ≤ l.length → (decide ((↑g : Int) <
   (↑(List.map encTp l).length : Int)) = true → (List.map encCh (aN r l g)).length = (List.map encCh (aN r l g)).length ∧ WCall Tryz.prog G0 129 [AV.own 1 (List.map encCh (aN r l g)).length] [ABlk.buf 195 3 (List.map encCh (aN r l
   g))] (AV.sl 3 (List.map encCh (aN r l g))) [ABlk.buf 195 3 (List.map encCh (aN r l g))] ∧ ∃ (g0 : Nat × Nat), (g0.fst < l.length ∧ g0.snd ≤ (aN r l g0.fst).length) ∧ g0.fst = g0.fst ∧ AS.mk [(1, AV.sl 3 (List.map encTp l)), (2,
   AV.elt 18 [(encRu r)] 0 0), (8, AV.own 1 (List.map encCh (aN r l g)).length), (9, AV.i (↑g : Int)), (24, AV.i (↑(List.map encTp l).length : Int)), (25, AV.i (↑g : Int)), (29, AV.sl 3 (List.map encCh (aN r l g))), (30, AV.i
   (↑(List.map encCh (aN r l g)).length : Int)), (31, AV.i 0)] [(1, ABlk.buf 195 3 (List.map encCh (aN r l g)))] 2 = AS.mk [(1, AV.sl 3 (List.map encTp l)), (2, AV.elt 18 [(encRu r)] 0 0), (8, AV.own 1 (List.map encCh (inA r l g0.fst
   g0.snd)).length), (9, AV.i (↑g0.fst : Int)), (24, AV.i (↑(List.map encTp l).length : Int)), (25, AV.i (↑g0.fst : Int)), (29, AV.sl 3 (List.map encCh (aN r l g0.fst))), (30, AV.i (↑(List.map encCh (aN r l g0.fst)).length : Int)),
   (31, AV.i (↑g0.snd : Int))] [(1, ABlk.buf 195 3 (List.map encCh (inA r l g0.fst g0.snd)))] 2 ∧ ∀ (g_1 : Nat × Nat), g_1.fst < l.length ∧ g_1.snd ≤ (aN r l g_1.fst).length → g_1.fst = g0.fst → (decide ((↑g_1.snd : Int) < (↑(List.map
   encCh (aN r l g_1.fst)).length : Int)) = true → (0 : Int) ≤ (↑g_1.snd : Int) ∧ (↑g_1.snd : Int) < (↑(List.map encCh (aN r l g_1.fst)).length : Int) ∧ AV.agg (nthR (List.map encCh (aN r l g_1.fst)) (↑g_1.snd : Int).toNat) = AV.agg
   (encCh (atR (List.map encCh (aN r l g_1.fst)) (↑g_1.snd : Int).toNat)) ∧ PCall Tryz.prog G0 127 [AV.agg (encCh (atR (List.map encCh (aN r l g_1.fst)) (↑g_1.snd : Int).toNat)), AV.agg (encRu r), AV.sl 3 (List.map encTp l), AV.i
   (↑g_1.fst : Int)] (AV.agg [AV.sl 1 (List.map encI (dL (List.map encI (atR (List.map encCh (aN r l g_1.fst)) (↑g_1.snd : Int).toNat).g) ++ [(↑g_1.fst : Int)])), AV.i ((atR (List.map encCh (aN r l g_1.fst)) (↑g_1.snd : Int).toNat).v
   + (ix l (↑g_1.fst : Int)).f), AV.i ((atR (List.map encCh (aN r l g_1.fst)) (↑g_1.snd : Int).toNat).c + (tpAt r.ts (ix l (↑g_1.fst : Int)).n).c)]) ∧ PCall Tryz.prog G0 128 [AV.agg (encRu r), AV.sl 3 (List.map encTp l), AV.agg [AV.sl
   1 (List.map encI (dL (List.map encI (atR (List.map encCh (aN r l g_1.fst)) (↑g_1.snd : Int).toNat).g) ++ [(↑g_1.fst : Int)])), AV.i ((atR (List.map encCh (aN r l g_1.fst)) (↑g_1.snd : Int).toNat).v + (ix l (↑g_1.fst : Int)).f),
   AV.i ((atR (List.map encCh (aN r l g_1.fst)) (↑g_1.snd : Int).toNat).c + (tpAt r.ts (ix l (↑g_1.fst : Int)).n).c)]] (AV.str (fiR r l [AV.sl 1 (List.map encI (dL (List.map encI (atR (List.map encCh (aN r l g_1.fst)) (↑g_1.snd :
   Int).toNat).g) ++ [(↑g_1.fst : Int)])), AV.i ((atR (List.map encCh (aN r l g_1.fst)) (↑g_1.snd : Int).toNat).v + (ix l (↑g_1.fst : Int)).f), AV.i ((atR (List.map encCh (aN r l g_1.fst)) (↑g_1.snd : Int).toNat).c + (tpAt r.ts (ix l
   (↑g_1.fst : Int)).n).c)])) ∧ ((fiR r l [AV.sl 1 (List.map encI (dL (List.map encI (atR (List.map encCh (aN r l g_1.fst)) (↑g_1.snd : Int).toNat).g) ++ [(↑g_1.fst : Int)])), AV.i ((atR (List.map encCh (aN r l g_1.fst)) (↑g_1.snd :
   Int).toNat).v + (ix l (↑g_1.fst : Int)).f), AV.i ((atR (List.map encCh (aN r l g_1.fst)) (↑g_1.snd : Int).toNat).c + (tpAt r.ts (ix l (↑g_1.fst : Int)).n).c)] == []) = true → (List.map encCh (inA r l g_1.fst g_1.snd)).length + 1 ≤
   9223372036854775807 ∧ ((List.map encCh (inA r l g_1.fst g_1.snd)).length + 1) * 40 ≤ 140737488355328 ∧ In64 ((↑g_1.snd : Int) + 1) ∧ ∃ (g' : Nat × Nat), (g'.fst < l.length ∧ g'.snd ≤ (aN r l g'.fst).length) ∧ g'.fst = g0.fst ∧ (aN
   r l g'.fst).length - g'.snd < (aN r l g_1.fst).length - g_1.snd ∧ AS.mk [(1, AV.sl 3 (List.map encTp l)), (2, AV.elt 18 [(encRu r)] 0 0), (8, AV.own 1 ((List.map encCh (inA r l g_1.fst g_1.snd)).length + 1)), (9, AV.i (↑g_1.fst :
   Int)), (24, AV.i (↑(List.map encTp l).length : Int)), (25, AV.i (↑g_1.fst : Int)), (29, AV.sl 3 (List.map encCh (aN r l g_1.fst))), (30, AV.i (↑(List.map encCh (aN r l g_1.fst)).length : Int)), (31, AV.i ((↑g_1.snd : Int) + 1))]
   [(1, ABlk.buf 195 3 (List.map encCh (inA r l g_1.fst g_1.snd) ++ [[AV.sl 1 (List.map encI (dL (List.map encI (atR (List.map encCh (aN r l g_1.fst)) (↑g_1.snd : Int).toNat).g) ++ [(↑g_1.fst : Int)])), AV.i ((atR (List.map encCh (aN
   r l g_1.fst)) (↑g_1.snd : Int).toNat).v + (ix l (↑g_1.fst : Int)).f), AV.i ((atR (List.map encCh (aN r l g_1.fst)) (↑g_1.snd : Int).toNat).c + (tpAt r.ts (ix l (↑g_1.fst : Int)).n).c)]]))] 2 = AS.mk [(1, AV.sl 3 (List.map encTp
   l)), (2, AV.elt 18 [(encRu r)] 0 0), (8, AV.own 1 (List.map encCh (inA r l g'.fst g'.snd)).length), (9, AV.i (↑g'.fst : Int)), (24, AV.i (↑(List.map encTp l).length : Int)), (25, AV.i (↑g'.fst : Int)), (29, AV.sl 3 (List.map encCh
   (aN r l g'.fst))), (30, AV.i (↑(List.map encCh (aN r l g'.fst)).length : Int)), (31, AV.i (↑g'.snd : Int))] [(1, ABlk.buf 195 3 (List.map encCh (inA r l g'.fst g'.snd)))] 2) ∧ ((fiR r l [AV.sl 1 (List.map encI (dL (List.map encI
   (atR (List.map encCh (aN r l g_1.fst)) (↑g_1.snd : Int).toNat).g) ++ [(↑g_1.fst : Int)])), AV.i ((atR (List.map encCh (aN r l g_1.fst)) (↑g_1.snd : Int).toNat).v + (ix l (↑g_1.fst : Int)).f), AV.i ((atR (List.map encCh (aN r l
   g_1.fst)) (↑g_1.snd : Int).toNat).c + (tpAt r.ts (ix l (↑g_1.fst : Int)).n).c)] == []) = false → In64 ((↑g_1.snd : Int) + 1) ∧ ∃ (g' : Nat × Nat), (g'.fst < l.length ∧ g'.snd ≤ (aN r l g'.fst).length) ∧ g'.fst = g0.fst ∧ (aN r l
   g'.fst).length - g'.snd < (aN r l g_1.fst).length - g_1.snd ∧ AS.mk [(1, AV.sl 3 (List.map encTp l)), (2, AV.elt 18 [(encRu r)] 0 0), (8, AV.own 1 (List.map encCh (inA r l g_1.fst g_1.snd)).length), (9, AV.i (↑g_1.fst : Int)), (24,
   AV.i (↑(List.map encTp l).length : Int)), (25, AV.i (↑g_1.fst : Int)), (29, AV.sl 3 (List.map encCh (aN r l g_1.fst))), (30, AV.i (↑(List.map encCh (aN r l g_1.fst)).length : Int)), (31, AV.i ((↑g_1.snd : Int) + 1))] [(1, ABlk.buf
   195 3 (List.map encCh (inA r l g_1.fst g_1.snd)))] 2 = AS.mk [(1, AV.sl 3 (List.map encTp l)), (2, AV.elt 18 [(encRu r)] 0 0), (8, AV.own 1 (List.map encCh (inA r l g'.fst g'.snd)).length), (9, AV.i (↑g'.fst : Int)), (24, AV.i
   (↑(List.map encTp l).length : Int)), (25, AV.i (↑g'.fst : Int)), (29, AV.sl 3 (List.map encCh (aN r l g'.fst))), (30, AV.i (↑(List.map encCh (aN r l g'.fst)).length : Int)), (31, AV.i (↑g'.snd : Int))] [(1, ABlk.buf 195 3 (List.map
   encCh (inA r l g'.fst g'.snd)))] 2)) ∧ (decide ((↑g_1.snd : Int) < (↑(List.map encCh (aN r l g_1.fst)).length : Int)) = false → In64 ((↑g_1.fst : Int) + 1) ∧ ∃ (g' : Nat), g' ≤ l.length ∧ l.length - g' < l.length - g ∧ AS.mk [(1,
   AV.sl 3 (List.map encTp l)), (2, AV.elt 18 [(encRu r)] 0 0), (8, AV.own 1 (List.map encCh (inA r l g_1.fst g_1.snd)).length), (24, AV.i (↑(List.map encTp l).length : Int)), (25, AV.i ((↑g_1.fst : Int) + 1))] [(1, ABlk.buf 195 3
   (List.map encCh (inA r l g_1.fst g_1.snd)))] 2 = AS.mk [(1, AV.sl 3 (List.map encTp l)), (2, AV.elt 18 [(encRu r)] 0 0), (8, AV.own 1 (List.map encCh (aN r l g')).length), (24, AV.i (↑(List.map encTp l).length : Int)), (25, AV.i
   (↑g' : Int))] [(1, ABlk.buf 195 3 (List.map encCh (aN r l g')))] 2)) ∧ (decide ((↑g : Int) < (↑(List.map encTp l).length : Int)) = false → PCall Tryz.prog G0 131 [AV.sl 3 (List.map encCh (aN r l g)), AV.fn (Fn.func 130) [] []]
   (AV.agg [AV.sl 1 (List.map encI (plB r l)), AV.i (valN l (plB r l) (plB r l).length), AV.i (couN r l (plB r l) (plB r l).length)]) ∧ AV.tup [AV.sl 1 (List.map encI (plB r l)), AV.i (valN l (plB r l) (plB r l).length), AV.i 0] =
   AV.tup [AV.sl 1 (List.map encI (if (rqR r l != 0) = true then [] else plB r l)), AV.i (if (rqR r l != 0) = true then (0 : Int) else valN l (plB r l) (plB r l).length), AV.i (rqR r l)])) := by
    have hlm : (List.map encTp l).length = l.length := List.length_map _
    have : (List.map encTp l).length = l.length := by simp only [List.length_map]
    refine ⟨(c126r r l ht hs hn hm hl), fun h1 => ?_, fun h1 => ?_⟩
    · rw [if_pos h1, if_pos h1]
      rfl
    · have hq0 := bne_f h1
      obtain ⟨-, hR, hra, hl8, hX⟩ := rq_ok hq0
      have haP : ∀ i, 0 < (aN r l i).length := fun i => all_pos _ _ i
      have haN : ∀ i, i ≤ l.length → (aN r l i).length ≤ 256 := fun i hi => Nat.le_trans (all_len _ _ i) (Nat.le_trans (Nat.pow_le_pow_right (by decide) (show i ≤ 8 by omega)) (by decide))
      have hok : ∀ g, okS r l (mkC r l g) = fitB r l g := fun g => by unfold okS fitB; rw [fitS_e]
      have hmono : ∀ i g, i < l.length → asc i g → fitB r l (g ++ [(i : Int)]) = true → fitB r l g = true := fun i g hi _ h => fit_mono hR hX hi h
      have hmemb : ∀ i, i ≤ l.length → ∀ s, s ∈ aN r l i → ∃ g, asc i g ∧ fitB r l g = true ∧ s = mkC r l g := fun i hi s hs => (all_mem (fit := fitB r l) (mk := mkC r l) rfl (fun i g => mk_snoc r l i g) hok (fit_nil l hR) hmono i hi s).1 hs
      refine ⟨⟨0, by omega, rfl⟩, fun g hg => ⟨fun hd => ?_, fun hd => ?_⟩⟩
      · have hlt : g < l.length := by have h9 := of_decide_eq_true hd; have h8 := hg; (try simp only [List.length_map] at h8); (try simp only [List.length_map] at h9); omega
        refine ⟨rfl, (w129r (by rw [List.length_map]; exact haP g) (by rw [List.length_map]; have := haN g (by omega); omega)), ⟨(g, 0), ⟨by omega, by show _ ≤ (aN r l g).length; omega⟩, rfl, rfl, fun g_1 hok2 hr2 => ?_⟩⟩
        · obtain ⟨i2, j2⟩ := g_1
          dsimp only at hok2 hr2 ⊢
          obtain ⟨hi2, hg2⟩ := hok2
          have hr3 : g = i2 := hr2.symm
          subst hr3
          refine ⟨fun hd2 => ?_, fun hd2 => ?_⟩
          · have hlt2 : j2 < (aN r l g).length := by have h9 := of_decide_eq_true hd2; have h8 := hg2; (try simp only [List.length_map] at h8); (try simp only [List.length_map] at h9); omega
            have hA := haN g (by omega)
            have hAm : (List.map encCh (aN r l g)).length = (aN r l g).length := List.length_map _
            have hil := inA_len r l g j2
            have him : (List.map encCh (inA r l g j2)).length = (inA r l g j2).length := List.length_map _
            obtain ⟨gj, a1, a2, a3⟩ := hmemb g (by omega) _ (getD_mem hlt2)
            have hS : atR (List.map encCh (aN r l g)) j2 = mkC r l gj := (atR_e hlt2).trans a3
            have hW : wjR r l (g : Int) (encCh (atR (List.map encCh (aN r l g)) j2)) = mkC r l (gj ++ [(g : Int)]) := by rw [wjR_e, hS, mk_snoc]
            have hw2 : wjR r l (g : Int) (encCh (atR (List.map encCh (aN r l g)) j2)) = wiN r l g ((aN r l g).getD j2 default) := by rw [wjR_e, atR_e hlt2]; rfl
            have hgl := asc_len a1
            have hinj : inL l gj := fun x hx => by have := a1.2 x hx; omega
            have hins : inL l (gj ++ [(g : Int)]) := fun x hx => by have := (asc_snoc a1).2 x hx; omega
            have hv1 := val_bd hX hinj gj.length (Nat.le_refl _)
            have hc1 := cou_bd hR hX hinj gj.length (Nat.le_refl _)
            have hxm := hX (ix l (g : Int)) (by unfold ix; rw [Int.toNat_natCast]; exact getD_mem (by omega))
            have hvx := hxm.v
            have hcx := tp_bd hR hxm
            try rw [show (↑j2 : Int).toNat = j2 from Int.toNat_natCast j2]
            refine ⟨(by omega), (by omega), ?_, ?_, ?_, fun h2 => ?_, fun h2 => ?_⟩
            · exact congrArg AV.agg ((row_at encCh hlt2).trans (congrArg encCh (atR_e hlt2).symm))
            · refine c127r (atR (List.map encCh (aN r l g)) j2) ht ⟨by omega, by omega⟩ ?_ ?_ ?_
              · rw [hS]; show gj.length ≤ 1000; omega
              · rw [hS]; show In64 (valN l gj gj.length + (ix l (g : Int)).f); unfold In64; omega
              · rw [hS]; show In64 (couN r l gj gj.length + (tpAt r.ts (ix l (g : Int)).n).c); unfold In64; omega
            · refine c128r (wjR r l (g : Int) (encCh (atR (List.map encCh (aN r l g)) j2))) ?_ ?_
              · rw [hW]; exact hins
              · rw [hW]; show (gj ++ [(g : Int)]).length ≤ 1000; rw [List.length_append, List.length_singleton]; omega
            · have hq : okS r l (wiN r l g ((aN r l g).getD j2 default)) = true := by
                have h9 : (fiR r l (encCh (wjR r l (g : Int) (encCh (atR (List.map encCh (aN r l g)) j2)))) == []) = true := h2
                rw [fiR_e, hw2] at h9
                exact h9
              refine ⟨(by omega), (by omega), (by unfold In64; omega), ⟨(g, j2 + 1), ⟨by omega, by show _ ≤ (aN r l g).length; omega⟩, rfl, (by (try dsimp only); omega), ?_⟩⟩
              · dsimp only
                cases hqq : okS r l (wiN r l g ((aN r l g).getD j2 default))
                · rw [show inA r l g (j2 + 1) = inA r l g j2 from if_neg (by rw [hqq]; decide)]
                  rw [hqq] at hq
                  first
                    | exact absurd hq (by decide)
                    | rfl
                · rw [show inA r l g (j2 + 1) = inA r l g j2 ++ [wiN r l g ((aN r l g).getD j2 default)] from if_pos hqq, show List.map encCh (inA r l g j2 ++ [wiN r l g ((aN r l g).getD j2 default)]) = List.map encCh (inA r l g j2) ++ [encCh (wjR r l (g : Int) (encCh (atR (List.map encCh (aN r l g)) j2)))] by rw [List.map_append, ← hw2]; rfl, List.length_append]
                  rw [hqq] at hq
                  first
                    | exact absurd hq (by decide)
                    | rfl
            · have hq : okS r l (wiN r l g ((aN r l g).getD j2 default)) = false := by
                have h9 : (fiR r l (encCh (wjR r l (g : Int) (encCh (atR (List.map encCh (aN r l g)) j2)))) == []) = false := h2
                rw [fiR_e, hw2] at h9
                exact h9
              refine ⟨(by unfold In64; omega), ⟨(g, j2 + 1), ⟨by omega, by show _ ≤ (aN r l g).length; omega⟩, rfl, (by (try dsimp only); omega), ?_⟩⟩
              · dsimp only
                cases hqq : okS r l (wiN r l g ((aN r l g).getD j2 default))
                · rw [show inA r l g (j2 + 1) = inA r l g j2 from if_neg (by rw [hqq]; decide)]
                  rw [hqq] at hq
                  first
                    | exact absurd hq (by decide)
                    | rfl
                · rw [show inA r l g (j2 + 1) = inA r l g j2 ++ [wiN r l g ((aN r l g).getD j2 default)] from if_pos hqq, show List.map encCh (inA r l g j2 ++ [wiN r l g ((aN r l g).getD j2 default)]) = List.map encCh (inA r l g j2) ++ [encCh (wjR r l (g : Int) (encCh (atR (List.map encCh (aN r l g)) j2)))] by rw [List.map_append, ← hw2]; rfl, List.length_append]
                  rw [hqq] at hq
                  first
                    | exact absurd hq (by decide)
                    | rfl
          · have hge2 : j2 = (aN r l g).length := by have h9 := of_decide_eq_false hd2; have h8 := hg2; (try simp only [List.length_map] at h8); (try simp only [List.length_map] at h9); omega
            subst hge2
            refine ⟨(by unfold In64; omega), ⟨g + 1, by omega, by omega, ?_⟩⟩
            · rw [inA_end]
              rfl
      · have hge : g = l.length := by have h9 := of_decide_eq_false hd; have h8 := hg; (try simp only [List.length_map] at h8); (try simp only [List.length_map] at h9); omega
        subst hge
        refine ⟨?_, ?_⟩
        · have h9 := c131 (aN r l l.length) (haP _) (by have := haN l.length (Nat.le_refl _); omega) (fun s hs => by
            obtain ⟨g, a1, a2, a3⟩ := hmemb l.length (Nat.le_refl _) s hs
            rw [a3]
            show g.length ≤ 1000
            have := asc_len a1
            omega)
          have h8 := best_eq (fit := fitB r l) (mk := mkC r l) (ok := okS r l) (wi := wiN r l) (n := l.length) rfl (fun _ => rfl) (fun i g => mk_snoc r l i g) hok (fit_nil l hR) hmono
          rw [show mnC (aN r l l.length) ((aN r l l.length).length - 1) = mkC r l (plB r l) from h8] at h9
          exact h9
        · rw [if_neg (by rw [h1]; decide), if_neg (by rw [h1]; decide), hq0]
  exact c_of Tryz.f64 ({ gsB (fun i => if i.beq 3 then [.nil 4 1] else []) (fzB (mkB (sp64 r l) 64 [(10, 1, rdA)] (la64 r l))) with hs := hs64 }) (by kernel_rfl) (by kernel_rfl) (by kernel_rfl) (by kernel_rfl) key (by kernel_rfl)
end Go.Proofs.YtimgfogakgakhaaGreatDoor
namespace Go.Proofs.YtimgfogakgakhaaGreatDoor
open Go Go.Av Go.RowKit
def valS : List Tp → Int
  | [] => 0
  | x :: s => x.f + valS s
def couS (r : Ru) : List Tp → Int
  | [] => 0
  | x :: s => (tpAt r.ts x.n).c + couS r s
def hoS (k : Int) : List Tp → Int
  | [] => 0
  | x :: s => (if x.c = k then 1 else 0) + hoS k s
def fitL (r : Ru) (s : List Tp) : Prop := couS r s ≤ r.q ∧ ∀ x, x ∈ s → hoS x.c s ≤ r.ra
theorem valS_app : ∀ a b : List Tp, valS (a ++ b) = valS a + valS b
  | [], b => by simp [valS]
  | x :: a, b => by rw [List.cons_append, valS, valS, valS_app a b]; omega
theorem couS_app (r : Ru) : ∀ a b : List Tp, couS r (a ++ b) = couS r a + couS r b
  | [], b => by simp [couS]
  | x :: a, b => by rw [List.cons_append, couS, couS, couS_app r a b]; omega
theorem hoS_app (k : Int) : ∀ a b : List Tp, hoS k (a ++ b) = hoS k a + hoS k b
  | [], b => by simp [hoS]
  | x :: a, b => by rw [List.cons_append, hoS, hoS, hoS_app k a b]; omega
theorem val_S (l : List Tp) (g : List Int) : ∀ j, j ≤ g.length → valN l g j = valS ((g.take j).map (ix l))
  | 0, _ => rfl
  | j + 1, h => by
    rw [valN, val_S l g j (by omega), take_one (show j < g.length by omega), List.map_append, valS_app]
    show _ = _ + ((ix l (g.getD j default)).f + 0)
    omega
theorem cou_S (r : Ru) (l : List Tp) (g : List Int) : ∀ j, j ≤ g.length → couN r l g j = couS r ((g.take j).map (ix l))
  | 0, _ => rfl
  | j + 1, h => by
    rw [couN, cou_S r l g j (by omega), take_one (show j < g.length by omega), List.map_append, couS_app]
    show _ = _ + ((tpAt r.ts (ix l (g.getD j default)).n).c + 0)
    omega
theorem ho_S (l : List Tp) (g : List Int) (k : Int) : ∀ j, j ≤ g.length → hoN l g k j = hoS k ((g.take j).map (ix l))
  | 0, _ => rfl
  | j + 1, h => by
    rw [hoN, ho_S l g k j (by omega), take_one (show j < g.length by omega), List.map_append, hoS_app]
    show _ = _ + ((if (ix l (g.getD j default)).c = k then 1 else 0) + 0)
    split <;> split <;> simp_all <;> omega
theorem fit_L {r : Ru} {l : List Tp} {g : List Int} : fitB r l g = true ↔ fitL r (g.map (ix l)) := by
  rw [fit_iff, cou_S r l g _ (Nat.le_refl _), List.take_length]
  refine and_congr Iff.rfl ⟨fun h x hx => ?_, fun h j hj => ?_⟩
  · obtain ⟨i, hi, rfl⟩ := List.mem_map.1 hx
    obtain ⟨j, hj, rfl⟩ := mem_get hi
    have := h j hj
    unfold rateP at this
    rw [decide_eq_false_iff_not, ho_S l g _ _ (Nat.le_refl _), List.take_length] at this
    omega
  · have := h (ix l (g.getD j default)) (List.mem_map.2 ⟨_, getD_mem hj, rfl⟩)
    unfold rateP
    rw [decide_eq_false_iff_not, ho_S l g _ _ (Nat.le_refl _), List.take_length]
    omega
theorem sub_of {l : List Tp} : ∀ {n : Nat} {g : List Int}, n ≤ l.length → asc n g → (g.map (ix l)).Sublist (l.take n)
  | 0, g, _, h => by
    cases g with
    | nil => exact List.Sublist.refl _
    | cons x g => have := h.2 x (by simp); omega
  | n + 1, g, hn, h => by
    rw [take_one (show n < l.length by omega)]
    rcases asc_cases h with h1 | ⟨g', rfl, h1⟩
    · exact (sub_of (by omega) h1).trans (List.sublist_append_left _ _)
    · rw [List.map_append]
      exact (sub_of (by omega) h1).append (by
        rw [List.map_singleton, show ix l (n : Int) = l.getD n default by unfold ix; rw [Int.toNat_natCast]]
        exact List.Sublist.refl _)
theorem of_sub {l : List Tp} : ∀ {n : Nat} {s : List Tp}, n ≤ l.length → s.Sublist (l.take n) → ∃ g, asc n g ∧ g.map (ix l) = s
  | 0, s, _, h => by
    rw [List.take_zero, List.sublist_nil] at h
    exact ⟨[], asc_nil 0, h.symm⟩
  | n + 1, s, hn, h => by
    rw [take_one (show n < l.length by omega), List.sublist_append_iff] at h
    obtain ⟨s1, s2, rfl, h1, h2⟩ := h
    obtain ⟨g, a1, rfl⟩ := of_sub (by omega) h1
    rcases (show s2 = [] ∨ s2 = [l.getD n default] by
      rcases List.sublist_cons_iff.1 h2 with q | ⟨t, rfl, q⟩
      · exact Or.inl (List.sublist_nil.1 q)
      · rw [List.sublist_nil.1 q]; exact Or.inr rfl) with rfl | rfl
    · exact ⟨g, asc_up a1, by rw [List.append_nil]⟩
    · refine ⟨g ++ [(n : Int)], asc_snoc a1, ?_⟩
      rw [List.map_append, List.map_singleton, show ix l (n : Int) = l.getD n default by unfold ix; rw [Int.toNat_natCast]]
theorem pl_ok {r : Ru} {l : List Tp} (hR : RuOK r) : (fitB r l (plB r l) = true ∧ asc l.length (plB r l)) ∧ ∀ g, asc l.length g → fitB r l g = true → bet (mkC r l g) (mkC r l (plB r l)) = false := by
  have h := rf_ok (mk := mkC r l) (n := l.length) (fit_nil l hR) (2 ^ l.length)
  refine ⟨h.1, fun g hg hf => ?_⟩
  obtain ⟨m, hm, e⟩ := bits_all hg
  have := h.2 m hm (by rw [e]; exact hf)
  rw [e] at this
  exact this
def plV0 (r : Ru) (l : List Tp) : Int := valN l (plB r l) (plB r l).length
theorem pl_best {r : Ru} {l : List Tp} (hR : RuOK r) : (∃ s, s.Sublist l ∧ fitL r s ∧ valS s = plV0 r l) ∧ ∀ s, s.Sublist l → fitL r s → valS s ≤ plV0 r l := by
  obtain ⟨⟨h1, h2⟩, h3⟩ := pl_ok (r := r) (l := l) hR
  constructor
  · refine ⟨(plB r l).map (ix l), ?_, fit_L.1 h1, ?_⟩
    · have := sub_of (Nat.le_refl _) h2
      rw [List.take_length] at this
      exact this
    · unfold plV0
      rw [val_S l _ _ (Nat.le_refl _), List.take_length]
  · intro s hs hf
    obtain ⟨g, a1, rfl⟩ := of_sub (l := l) (n := l.length) (Nat.le_refl _) (by rw [List.take_length]; exact hs)
    have h4 := h3 g a1 (fit_L.2 hf)
    have e : valS (g.map (ix l)) = valN l g g.length := by rw [val_S l g _ (Nat.le_refl _), List.take_length]
    rw [e]
    unfold plV0
    unfold bet at h4
    by_cases q : (mkC r l g).v = (mkC r l (plB r l)).v
    · exact Int.le_of_eq q
    · rw [if_neg q, decide_eq_false_iff_not] at h4
      exact Int.not_lt.1 h4
theorem fitL_mono {r : Ru} {s : List Tp} {x : Tp} (hc : 0 ≤ (tpAt r.ts x.n).c) (h : fitL r (x :: s)) : fitL r s := by
  refine ⟨?_, fun y hy => ?_⟩
  · have := h.1
    rw [couS] at this
    omega
  · have := h.2 y (List.mem_cons_of_mem _ hy)
    rw [hoS] at this
    split at this <;> omega
theorem valS_rev : ∀ s : List Tp, valS s.reverse = valS s
  | [] => rfl
  | x :: s => by rw [List.reverse_cons, valS_app, valS_rev s]; simp only [valS]; omega
theorem couS_rev (r : Ru) : ∀ s : List Tp, couS r s.reverse = couS r s
  | [] => rfl
  | x :: s => by rw [List.reverse_cons, couS_app, couS_rev r s]; simp only [couS]; omega
theorem hoS_rev (k : Int) : ∀ s : List Tp, hoS k s.reverse = hoS k s
  | [] => rfl
  | x :: s => by rw [List.reverse_cons, hoS_app, hoS_rev k s]; simp only [hoS]; omega
theorem fitL_rev {r : Ru} {s : List Tp} (h : fitL r s) : fitL r s.reverse := by
  refine ⟨by rw [couS_rev]; exact h.1, fun x hx => ?_⟩
  rw [hoS_rev]
  exact h.2 x (List.mem_reverse.1 hx)
theorem pl_rev {r : Ru} {l : List Tp} (hR : RuOK r) : plV0 r l.reverse = plV0 r l := by
  obtain ⟨⟨s, a1, a2, a3⟩, a4⟩ := pl_best (r := r) (l := l) hR
  obtain ⟨⟨t, b1, b2, b3⟩, b4⟩ := pl_best (r := r) (l := l.reverse) hR
  have h1 := b4 s.reverse (List.reverse_sublist.2 a1) (fitL_rev a2)
  have h2 := a4 t.reverse (by have := List.reverse_sublist.2 b1; rwa [List.reverse_reverse] at this) (fitL_rev b2)
  rw [valS_rev] at h1 h2
  omega
theorem pl_tail {r : Ru} {x : Tp} {l : List Tp} (hR : RuOK r) (hc : 0 ≤ (tpAt r.ts x.n).c) (hv : 0 ≤ x.f) : plV0 r l ≤ plV0 r (x :: l) ∧ plV0 r (x :: l) - plV0 r l ≤ x.f := by
  obtain ⟨⟨s, a1, a2, a3⟩, a4⟩ := pl_best (r := r) (l := x :: l) hR
  obtain ⟨⟨t, b1, b2, b3⟩, b4⟩ := pl_best (r := r) (l := l) hR
  have h1 := a4 t (b1.trans (List.sublist_cons_self _ _)) b2
  refine ⟨by omega, ?_⟩
  rcases List.sublist_cons_iff.1 a1 with h2 | ⟨s', rfl, h2⟩
  · have := b4 s h2 a2
    omega
  · have := b4 s' h2 (fitL_mono hc a2)
    rw [valS] at a3
    omega
def bwS (r : Ru) (p0 p1 : Int) : List Tp → Int
  | [] => 0
  | x :: s => bw r p0 p1 x + bwS r p0 p1 s
theorem bwS_app (r : Ru) (p0 p1 : Int) : ∀ a b : List Tp, bwS r p0 p1 (a ++ b) = bwS r p0 p1 a + bwS r p0 p1 b
  | [], b => by simp [bwS]
  | x :: a, b => by rw [List.cons_append, bwS, bwS, bwS_app r p0 p1 a b]; omega
theorem bd_S (n : Int) (r : Ru) (p0 p1 : Int) (l : List Tp) : ∀ j, j ≤ l.length → bdN n (bw r p0 p1) l j = n + bwS r p0 p1 (l.take j)
  | 0, _ => by simp [bdN, bwS]
  | j + 1, h => by
    rw [bdN, bd_S n r p0 p1 l j (by omega), take_one (show j < l.length by omega), bwS_app]
    show _ = _ + (_ + (bw r p0 p1 (l.getD j default) + 0))
    omega
theorem bw_0 (r : Ru) (p0 p1 : Int) (x : Tp) : 0 ≤ bw r p0 p1 x ∧ x.f - p0 * (tpAt r.ts x.n).c - p1 ≤ bw r p0 p1 x := by
  unfold bw maxI
  split <;> omega
theorem bwS_sub (r : Ru) (p0 p1 : Int) {s l : List Tp} (h : s.Sublist l) : bwS r p0 p1 s ≤ bwS r p0 p1 l := by
  induction h with
  | slnil => exact Int.le_refl _
  | cons a _ ih => have := (bw_0 r p0 p1 a).1; rw [bwS]; omega
  | cons_cons a _ ih => rw [bwS, bwS]; omega
theorem val_le (r : Ru) (p0 p1 : Int) : ∀ s : List Tp, valS s ≤ bwS r p0 p1 s + p0 * couS r s + p1 * s.length
  | [] => by simp [valS, bwS, couS]
  | x :: s => by
    have ih := val_le r p0 p1 s
    have h1 := (bw_0 r p0 p1 x).2
    rw [valS, bwS, couS, List.length_cons, Int.mul_add, show ((s.length + 1 : Nat) : Int) = (s.length : Int) + 1 from rfl, Int.mul_add, Int.mul_one]
    omega
def hoT (s : List Tp) : Nat → Int
  | 0 => 0
  | n + 1 => hoT s n + hoS n s
theorem hoT_cons (x : Tp) (s : List Tp) : ∀ n : Nat, hoT (x :: s) n = hoT s n + (if 0 ≤ x.c ∧ x.c < n then 1 else 0)
  | 0 => by
    rw [if_neg (by omega)]
    rfl
  | n + 1 => by
    rw [hoT, hoT, hoT_cons x s n, hoS]
    by_cases h1 : x.c = n
    · rw [if_pos h1, if_neg (by omega), if_pos (by omega)]; omega
    · rw [if_neg h1]
      by_cases h2 : 0 ≤ x.c ∧ x.c < n
      · rw [if_pos h2, if_pos (by omega)]; omega
      · rw [if_neg h2, if_neg (by omega)]; omega
theorem hoT_len {H : Nat} : ∀ {s : List Tp}, (∀ x, x ∈ s → 0 ≤ x.c ∧ x.c < H) → hoT s H = s.length
  | [], _ => by
    have : ∀ n, hoT [] n = 0 := fun n => by induction n with
      | zero => rfl
      | succ n ih => rw [hoT, ih]; rfl
    rw [this]; rfl
  | x :: s, h => by
    rw [hoT_cons, hoT_len (fun y hy => h y (List.mem_cons_of_mem _ hy)), if_pos (h x (by simp)), List.length_cons]
    rfl
theorem hoS_none {k : Int} : ∀ {s : List Tp}, (∀ x, x ∈ s → x.c ≠ k) → hoS k s = 0
  | [], _ => rfl
  | x :: s, h => by rw [hoS, if_neg (h x (by simp)), hoS_none (fun y hy => h y (List.mem_cons_of_mem _ hy))]; rfl
theorem hoT_le {ra : Int} {s : List Tp} (h0 : 0 ≤ ra) (h : ∀ x, x ∈ s → hoS x.c s ≤ ra) : ∀ n : Nat, hoT s n ≤ ra * n
  | 0 => by simp [hoT]
  | n + 1 => by
    have ih := hoT_le h0 h n
    have : hoS n s ≤ ra := by
      by_cases q : ∃ x, x ∈ s ∧ x.c = (n : Int)
      · obtain ⟨x, hx, e⟩ := q
        rw [← e]
        exact h x hx
      · rw [hoS_none (fun x hx e => q ⟨x, hx, e⟩)]
        exact h0
    rw [hoT, show ((n + 1 : Nat) : Int) = (n : Int) + 1 from rfl, Int.mul_add, Int.mul_one]
    omega
theorem pl_bound {r : Ru} {l : List Tp} (hR : RuOK r) (hra : 1 ≤ r.ra ∧ r.ra ≤ 60) (hX : ∀ x, x ∈ l → RqOK r x) {p0 p1 : Int} (h0 : 0 ≤ p0) (h1 : 0 ≤ p1) : plV0 r l ≤ bdN (n1R r p0 p1) (bw r p0 p1) l l.length := by
  obtain ⟨⟨s, a1, a2, a3⟩, -⟩ := pl_best (r := r) (l := l) hR
  have b1 := val_le r p0 p1 s
  have b2 := bwS_sub r p0 p1 a1
  have b3 : p0 * couS r s ≤ p0 * r.q := Int.mul_le_mul_of_nonneg_left a2.1 h0
  have hh := (hr_eq hR.a hR.b hR.n)
  have hH : 0 ≤ hrR r.a r.b := by have := hh.1; have := hh.2; omega
  have b4 : (s.length : Int) ≤ r.ra * hrR r.a r.b := by
    have e : ((hrR r.a r.b).toNat : Int) = hrR r.a r.b := Int.toNat_of_nonneg hH
    have c1 : hoT s (hrR r.a r.b).toNat = s.length := hoT_len (fun x hx => by
      have := (hX x (a1.subset hx)).h
      omega)
    have c2 := hoT_le (show 0 ≤ r.ra by omega) a2.2 (hrR r.a r.b).toNat
    rw [c1, e] at c2
    exact c2
  have b5 : p1 * s.length ≤ p1 * (r.ra * hrR r.a r.b) := Int.mul_le_mul_of_nonneg_left b4 h1
  rw [bd_S _ _ _ _ _ _ (Nat.le_refl _), List.take_length]
  unfold n1R
  rw [Int.mul_assoc]
  omega
theorem gr_asc {l : List Tp} {g : List Int} (h : asc l.length g) : grE l g = 0 := by
  unfold grE
  apply scan_end
  intro i hi
  have h1 := h.2 _ (getD_mem (l := g) hi)
  unfold grF
  rw [decide_eq_false (show ¬ g.getD i default < 0 by omega), decide_eq_false (show ¬ g.getD i default ≥ (l.length : Int) by omega), if_neg (by decide)]
  by_cases q : (i : Int) > 0
  · rw [decide_eq_true q, if_pos rfl]
    have h2 := List.pairwise_iff_getElem.1 h.1 (i - 1) i (by omega) hi (by omega)
    rw [decide_eq_false, if_neg (by decide)]
    rw [List.getD_eq_getElem?_getD, List.getElem?_eq_getElem hi, List.getD_eq_getElem?_getD, List.getElem?_eq_getElem (show i - 1 < g.length by omega)]
    simp only [Option.getD_some]
    omega
  · rw [decide_eq_false q]; rfl
theorem e61_asc {r : Ru} {l : List Tp} {g : List Int} (h0 : rqR r l = 0) (h : asc l.length g) : e61 r l g = 0 ∧ w61 r l g = fitW r l g := by
  have e : e61 r l g = 0 := by unfold e61; rw [h0, gr_asc h, first_0]
  exact ⟨e, if_pos (by rw [e]; rfl)⟩
theorem rq_sub {r : Ru} {l m : List Tp} (h : rqR r l = 0) (hs : ∀ x, x ∈ m → x ∈ l) (hl : m.length ≤ l.length) : rqR r m = 0 := by
  unfold rqR at h
  obtain ⟨h1, h2⟩ := ite_z h
  unfold eRr at h1
  rw [first_zero, first_zero] at h1
  have hl8 := when_z (by decide) h1.2.1
  simp only [decide_eq_false_iff_not] at hl8
  have e : eRr r m = 0 := by
    unfold eRr
    rw [first_zero, first_zero]
    refine ⟨h1.1, ?_, h1.2.2⟩
    rw [decide_eq_false (by omega)]
    rfl
  unfold rqR
  rw [if_neg (by rw [e]; decide)]
  apply scan_end
  intro i hi
  obtain ⟨j, hj, e2⟩ := mem_get (hs _ (getD_mem (l := m) hi))
  have := (scan_zero h2).1 j hj
  unfold fRr at this ⊢
  rw [← e2]
  exact this
end Go.Proofs.YtimgfogakgakhaaGreatDoor
namespace Go.Proofs.YtimgfogakgakhaaGreatDoor
open Go Go.Av Go.RowKit
def dT (rows : List (List AV)) : List Tp := rows.map decTp
theorem dT_e (l : List Tp) : dT (l.map encTp) = l := by
  unfold dT
  rw [List.map_map]
  exact (List.map_congr_left fun x _ => rfl).trans (List.map_id l)
def vP (r : Ru) (rows : List (List AV)) : Int := plV0 r (dT rows)
theorem vP_e (r : Ru) (l : List Tp) : vP r (l.map encTp) = plV0 r l := by rw [vP, dT_e]
def gP (r : Ru) (rows : List (List AV)) : List Int := plB r (dT rows)
theorem gP_e (r : Ru) (l : List Tp) : gP r (l.map encTp) = plB r l := by rw [gP, dT_e]
def bdR (r : Ru) (l : List Tp) (n0 n1 : Int) : Int := bdN (n1R r (n0.tmod 1001) (n1.tmod 1001)) (bw r (n0.tmod 1001) (n1.tmod 1001)) l l.length
def sp13 (r : Ru) (l : List Tp) (n0 n1 : Int) : Nat → List AV → Option AV
  | 16, _ => some (.bool true)
  | 17, _ => some (.bool (shR r))
  | 65, _ => some (.i (rqR r l))
  | 21, _ => some (.agg (encRu r))
  | 62, [.sl _ rows] => some (.sl 3 rows)
  | 63, [.sl _ rows] => some (.sl 1 rows)
  | 64, [_, .sl _ rows] => some (.tup [.sl 1 ((gP r rows).map encI), .i (vP r rows), .i 0])
  | 66, _ => some (.i 0)
  | 74, [_, .sl _ rows] => some (.i (vR l rows))
  | 75, [_, _, .sl _ rows] => some (.i (cR r l rows))
  | 61, [_, _, .sl _ rows] => some (.tup [.str (fR r l rows), .i 0])
  | 69, _ => some (.tup [.i (bdR r l n0 n1), .i 0])
  | n, x => spS n x
def pw (l : List Tp) : Nat := 2 ^ l.length
def la13 (r : Ru) (l : List Tp) (n0 n1 : Int) (b : Nat) : Option LA :=
  let B : List (Nat × AV) := [(1, .sl 3 (l.map encTp)), (3, .elt 18 [encRu r] 0 0), (5, .elt 2 [[.int .u16 n0, .int .u16 n1]] 0 0), (7, .sl 1 ((gP r (l.map encTp)).map encI)), (8, .i (vP r (l.map encTp)))]
  if b.beq 0 then
    some { pre := [.keep [1, 3, 5, 7, 8, 89, 90] [], .bound 1], post := [.keep [1, 3, 5, 7, 8, 89, 90] [], .bound 1]
           Gh := Nat
           st := fun i => ⟨B ++ [(89, .i (pw l : Nat)), (90, .i i)], [], 1⟩
           ok := fun i => i ≤ pw l
           ms := fun i => pw l - i }
  else if b.beq 2 then
    let ks := [1, 3, 5, 7, 8, 12, 13, 89, 90, 94, 95]
    some { pre := [.own 13 3 1, .reno 13 1, .keep ks [1], .bound 2], post := [.reno 13 1, .keep ks [1], .bound 2]
           Gh := Nat × Nat
           st := fun q => ⟨B ++ [(12, .i q.1), (13, .own 1 ((bitsM q.1 q.2).map encI).length), (89, .i (pw l : Nat)), (90, .i q.1), (94, .i (l.map encTp).length), (95, .i q.2)], [(1, .buf 3 1 ((bitsM q.1 q.2).map encI))], 2⟩
           ok := fun q => q.1 < pw l ∧ q.2 ≤ l.length
           rel := some fun q0 q => q.1 = q0.1
           ms := fun q => l.length - q.2 }
  else
    let ks := [1, 3, 8, 20, 21]
    some { pre := [.own 20 133 3, .reno 20 1, .keep ks [1], .bound 2], post := [.reno 20 1, .keep ks [1], .bound 2]
           Gh := Nat
           st := fun k => ⟨[(1, .sl 3 (l.map encTp)), (3, .elt 18 [encRu r] 0 0), (8, .i (vP r (l.map encTp))), (20, .own 1 ((l.reverse.take k).map encTp).length), (21, .i ((l.map encTp).length - 1 - k))], [(1, .buf 133 3 ((l.reverse.take k).map encTp))], 2⟩
           ok := fun k => k ≤ l.length
           ms := fun k => l.length - k }
theorem g13 {r : Ru} {l : List Tp} (h : (!if (!shR r) = true then true else decide (((l.map encTp).length : Int) > 7)) = true) : shR r = true ∧ l.length ≤ 7 := by
  cases q : shR r with
  | false => rw [q] at h; cases h
  | true =>
    rw [q] at h
    have h1 : decide (((l.map encTp).length : Int) > 7) = false := by
      cases q2 : decide (((l.map encTp).length : Int) > 7) with
      | false => rfl
      | true => rw [q2] at h; cases h
    have h1 := of_decide_eq_false h1
    rw [List.length_map] at h1
    exact ⟨rfl, by omega⟩
theorem c65g {r : Ru} {l : List Tp} (h : (!if (!shR r) = true then true else decide (((l.map encTp).length : Int) > 7)) = true) : PCall Tryz.prog G0 65 [.agg (encRu r), .sl 3 (l.map encTp)] (.i (rqR r l)) := by
  obtain ⟨h1, h2⟩ := g13 h
  obtain ⟨s1, s2, s3, s4⟩ := sh_of h1
  exact c65 r l (by omega) (by omega) s3 s4 (by omega)
theorem c64v {r : Ru} {m : List Tp} (hS : shR r = true) (hq : rqR r m = 0) (hm : m.length ≤ 1000) : PCall Tryz.prog G0 64 [.agg (encRu r), .sl 3 (m.map encTp)] (.tup [.sl 1 ((gP r (m.map encTp)).map encI), .i (vP r (m.map encTp)), .i 0]) := by
  obtain ⟨s1, s2, s3, s4⟩ := sh_of hS
  have := c64 r m (by omega) (by omega) s3 s4 hm
  rw [hq] at this
  rw [gP_e, vP_e]
  exact this
theorem c61v {r : Ru} {l : List Tp} {g : List Int} (hS : shR r = true) (hq : rqR r l = 0) (hl : l.length ≤ 1000) (hg : asc l.length g) : PCall Tryz.prog G0 61 [.agg (encRu r), .sl 3 (l.map encTp), .sl 1 (g.map encI)] (.tup [.str (fR r l (g.map encI)), .i 0]) := by
  obtain ⟨s1, s2, s3, s4⟩ := sh_of hS
  have := c61 r l g (by omega) (by omega) s3 s4 hl (by have := asc_len hg; omega)
  rw [(e61_asc hq hg).1, (e61_asc hq hg).2] at this
  rw [fR_e]
  exact this
theorem tm_b {n : Int} (h : 0 ≤ n) : 0 ≤ n.tmod 1001 ∧ n.tmod 1001 ≤ 1000 := by
  have h1 := Int.tmod_nonneg 1001 h
  have h2 := Int.tmod_lt_of_pos n (show (0 : Int) < 1001 by omega)
  omega
theorem c69v {r : Ru} {l : List Tp} {n0 n1 : Int} (hS : shR r = true) (hq : rqR r l = 0) (hl : l.length ≤ 1000) (hn0 : 0 ≤ n0 ∧ n0 ≤ 65535) (hn1 : 0 ≤ n1 ∧ n1 ≤ 65535) : PCall Tryz.prog G0 69 [.agg (encRu r), .sl 3 (l.map encTp), .agg [.i ((IntKind.i64.wrap n0).tmod 1001), .i ((IntKind.i64.wrap n1).tmod 1001)]] (.tup [.i (bdR r l n0 n1), .i 0]) := by
  obtain ⟨s1, s2, s3, s4⟩ := sh_of hS
  have h0 := tm_b hn0.1
  have h1 := tm_b hn1.1
  have := c69r r l (n0.tmod 1001) (n1.tmod 1001) (by omega) (by omega) s3 s4 hl
  have e : eBd r l (n0.tmod 1001) (n1.tmod 1001) = 0 := by
    unfold eBd
    rw [first_zero, first_zero, first_zero, within_zero, within_zero]
    exact ⟨hq, h0, h1, rfl⟩
  unfold b9 at this
  rw [e] at this
  rw [wrap_in (show In64 n0 by unfold In64; omega), wrap_in (show In64 n1 by unfold In64; omega)]
  exact this
theorem no_better {r : Ru} {l : List Tp} {g : List Int} (hR : RuOK r) (hg : asc l.length g) (h : (if decide (vR l (g.map encI) < vP r (l.map encTp)) = true then true else if (vR l (g.map encI) == vP r (l.map encTp)) = true then decide (cR r l (g.map encI) ≥ cR r l ((gP r (l.map encTp)).map encI)) else false) = false) : (fR r l (g.map encI) == []) = false := by
  rw [gP_e, vP_e, vR_e, cR_e, cR_e] at h
  rw [fR_e]
  cases q : (fitW r l g == []) with
  | false => rfl
  | true =>
    have h4 := (pl_ok hR).2 g hg q
    obtain ⟨h5, h6⟩ := or_f h
    have h5 := of_decide_eq_false h5
    unfold bet at h4
    by_cases e : (mkC r l g).v = (mkC r l (plB r l)).v
    · have e' : valN l g g.length = plV0 r l := e
      rw [if_pos (by rw [e']; exact beq_self_eq_true _)] at h6
      have h7 := of_decide_eq_false h6
      have h8 : (mkC r l g).c < (mkC r l (plB r l)).c := Int.not_le.1 h7
      rw [if_pos e, if_neg (by omega), decide_eq_true h8] at h4
      cases h4
    · rw [if_neg e, decide_eq_false_iff_not] at h4
      exact absurd (Int.le_antisymm (Int.not_lt.1 h4) (Int.not_lt.1 h5)) e
theorem turn_step {l : List Tp} {g : Nat} (h : g < l.length) : (l.reverse.take (g + 1)).map encTp = (l.reverse.take g).map encTp ++ [encTp (l.getD (((l.map encTp).length : Int) - 1 - g).toNat default)] := by
  have h1 : g < l.reverse.length := by rw [List.length_reverse]; exact h
  rw [take_one h1, List.map_append, List.map_singleton]
  congr 2
  congr 1
  rw [List.length_map, show ((l.length : Int) - 1 - g).toNat = l.length - 1 - g by omega, List.getD_eq_getElem?_getD, List.getD_eq_getElem?_getD, List.getElem?_reverse h]
theorem plV_bd {r : Ru} {l : List Tp} (hR : RuOK r) (hX : ∀ x, x ∈ l → RqOK r x) : 0 ≤ plV0 r l ∧ plV0 r l ≤ 1000 * l.length := by
  obtain ⟨-, h⟩ := (pl_ok (r := r) (l := l) hR).1
  have h1 := val_bd hX h.2 (plB r l).length (Nat.le_refl _)
  have h2 := asc_len h
  unfold plV0
  omega
theorem plV_nil (r : Ru) : plV0 r [] = 0 := by
  unfold plV0
  rw [show plB r [] = [] from rf_1 _ _ _]
  rfl
theorem drop_0 {l : List Tp} (h : l.length ≠ 0) : l = l.getD 0 default :: l.drop 1 := by
  cases l with
  | nil => exact absurd rfl h
  | cons x l => rfl
theorem c13 (r : Ru) (l : List Tp) (n0 n1 : Int) (hA : PCall Tryz.prog G0 16 [] (.bool true)) (hl : r.ts.length ≤ maxLen) (hm : r.rs.length ≤ maxLen) (hn : l.length ≤ maxLen) (hn0 : 0 ≤ n0 ∧ n0 ≤ 65535) (hn1 : 0 ≤ n1 ∧ n1 ≤ 65535) : PCall Tryz.prog G0 13 [.agg (encRu r), .sl 3 (l.map encTp), .agg [.int .u16 n0, .int .u16 n1]] (.bool true) := by
  have key :
   (true = true → true = true) ∧ (true = true → true = true) ∧ (false = false → true = true) ∧ ((!!shR r) = true → (!!shR r) = true) ∧ ((!!shR r) = true → (!!shR r) = true) ∧ ((!shR r) = false → (!!shR r) = true) ∧ ((!if (!shR r) =
   true then true else decide ((↑(List.map encTp l).length : Int) > 7)) = true → (!if (!shR r) = true then true else decide ((↑(List.map encTp l).length : Int) > 7)) = true) ∧ ((!if (!shR r) = true then true else decide ((↑(List.map
   encTp l).length : Int) > 7)) = true → (!if (!shR r) = true then true else decide ((↑(List.map encTp l).length : Int) > 7)) = true) ∧ ((!if (!shR r) = true then true else decide ((↑(List.map encTp l).length : Int) > 7)) = true →
   (!if (!shR r) = true then true else decide ((↑(List.map encTp l).length : Int) > 7)) = true) ∧ ((if (!shR r) = true then true else decide ((↑(List.map encTp l).length : Int) > 7)) = false → (!if (!shR r) = true then true else
   decide ((↑(List.map encTp l).length : Int) > 7)) = true) ∧ PCall Tryz.prog G0 16 [] (AV.bool true) ∧ PCall Tryz.prog G0 17 [AV.agg (encRu r)] (AV.bool (shR r)) ∧ impB (!if (!shR r) = true then true else decide ((↑(List.map encTp
   l).length : Int) > 7)) (PCall Tryz.prog G0 65 [AV.agg (encRu r), AV.sl 3 (List.map encTp l)] (AV.i (rqR r l))) ∧ ((if (if (!shR r) = true then true else decide ((↑(List.map encTp l).length : Int) > 7)) = true then true else rqR r l
   != 0) = true → PCall Tryz.prog G0 16 [] (AV.bool true) ∧ AV.bool true = AV.bool true) ∧ ((if (if (!shR r) = true then true else decide ((↑(List.map encTp l).length : Int) > 7)) = true then true else rqR r l != 0) = false → PCall
   Tryz.prog G0 21 [AV.agg (encRu r)] (AV.agg (encRu r)) ∧ PCall Tryz.prog G0 62 [AV.sl 3 (List.map encTp l)] (AV.sl 3 (List.map encTp l)) ∧ PCall Tryz.prog G0 64 [AV.agg (encRu r), AV.sl 3 (List.map encTp l)] (AV.tup [AV.sl 1
   (List.map encI (gP r (List.map encTp l))), AV.i (vP r (List.map encTp l)), AV.i 0]) ∧ AV.bool false = AV.bool false ∧ PCall Tryz.prog G0 66 [AV.sl 3 (List.map encTp l), AV.sl 1 (List.map encI (gP r (List.map encTp l)))] (AV.i 0) ∧
   AV.bool false = AV.bool false ∧ PCall Tryz.prog G0 74 [AV.sl 3 (List.map encTp l), AV.sl 1 (List.map encI (gP r (List.map encTp l)))] (AV.i (vR l (List.map encI (gP r (List.map encTp l))))) ∧ AV.bool (vR l (List.map encI (gP r
   (List.map encTp l))) != vP r (List.map encTp l)) = AV.bool false ∧ (false = true → AV.bool false = AV.bool true) ∧ (false = false → PCall Tryz.prog G0 21 [AV.agg (encRu r)] (AV.agg (encRu r)) ∧ PCall Tryz.prog G0 62 [AV.sl 3
   (List.map encTp l)] (AV.sl 3 (List.map encTp l)) ∧ PCall Tryz.prog G0 63 [AV.sl 1 (List.map encI (gP r (List.map encTp l)))] (AV.sl 1 (List.map encI (gP r (List.map encTp l)))) ∧ PCall Tryz.prog G0 61 [AV.agg (encRu r), AV.sl 3
   (List.map encTp l), AV.sl 1 (List.map encI (gP r (List.map encTp l)))] (AV.tup [AV.str (fR r l (List.map encI (gP r (List.map encTp l)))), AV.i 0]) ∧ AV.bool false = AV.bool false ∧ (AV.bool !fR r l (List.map encI (gP r (List.map
   encTp l))) == []) = AV.bool false ∧ (false = true → AV.bool false = AV.bool true) ∧ (false = false → (0 : Int) ≤ (↑(List.map encTp l).length : Int) ∧ (↑(List.map encTp l).length : Int) ≤ 64 ∧ In64 ((1 : Int) * 2 ^ (↑(List.map encTp
   l).length : Int).toNat) ∧ AV.i ((1 : Int) * 2 ^ (↑(List.map encTp l).length : Int).toNat) = AV.i (↑(pw l) : Int) ∧ (∃ (g : Nat), g ≤ pw l ∧ AS.mk [(1, AV.sl 3 (List.map encTp l)), (3, AV.elt 18 [(encRu r)] 0 0), (5, AV.elt 2
   [[AV.int IntKind.u16 n0, AV.int IntKind.u16 n1]] 0 0), (7, AV.sl 1 (List.map encI (gP r (List.map encTp l)))), (8, AV.i (vP r (List.map encTp l))), (89, AV.i (↑(pw l) : Int)), (90, AV.i 0)] [] 1 = AS.mk [(1, AV.sl 3 (List.map encTp
   l)), (3, AV.elt 18 [(encRu r)] 0 0), (5, AV.elt 2 [[AV.int IntKind.u16 n0, AV.int IntKind.u16 n1]] 0 0), (7, AV.sl 1 (List.map encI (gP r (List.map encTp l)))), (8, AV.i (vP r (List.map encTp l))), (89, AV.i (↑(pw l) : Int)), (90,
   AV.i (↑g : Int))] [] 1) ∧ ∀ (g : Nat), g ≤ pw l → (decide ((↑g : Int) < (↑(pw l) : Int)) = true → ∃ (g0 : Nat × Nat), (g0.fst < pw l ∧ g0.snd ≤ l.length) ∧ g0.fst = g0.fst ∧ AS.mk [(1, AV.sl 3 (List.map encTp l)), (3, AV.elt 18
   [(encRu r)] 0 0), (5, AV.elt 2 [[AV.int IntKind.u16 n0, AV.int IntKind.u16 n1]] 0 0), (7, AV.sl 1 (List.map encI (gP r (List.map encTp l)))), (8, AV.i (vP r (List.map encTp l))), (12, AV.i (↑g : Int)), (13, AV.own 1 0), (89, AV.i
   (↑(pw l) : Int)), (90, AV.i (↑g : Int)), (94, AV.i (↑(List.map encTp l).length : Int)), (95, AV.i 0)] [(1, ABlk.buf 3 1 [])] 2 = AS.mk [(1, AV.sl 3 (List.map encTp l)), (3, AV.elt 18 [(encRu r)] 0 0), (5, AV.elt 2 [[AV.int
   IntKind.u16 n0, AV.int IntKind.u16 n1]] 0 0), (7, AV.sl 1 (List.map encI (gP r (List.map encTp l)))), (8, AV.i (vP r (List.map encTp l))), (12, AV.i (↑g0.fst : Int)), (13, AV.own 1 (List.map encI (bitsM g0.fst g0.snd)).length),
   (89, AV.i (↑(pw l) : Int)), (90, AV.i (↑g0.fst : Int)), (94, AV.i (↑(List.map encTp l).length : Int)), (95, AV.i (↑g0.snd : Int))] [(1, ABlk.buf 3 1 (List.map encI (bitsM g0.fst g0.snd)))] 2 ∧ ∀ (g_1 : Nat × Nat), g_1.fst < pw l ∧
   g_1.snd ≤ l.length → g_1.fst = g0.fst → (decide ((↑g_1.snd : Int) < (↑(List.map encTp l).length : Int)) = true → (0 : Int) ≤ (↑g_1.snd : Int) ∧ (↑g_1.snd : Int) ≤ 64 ∧ (0 : Int) ≤ (↑g_1.fst : Int).fdiv ((2 : Int) ^ (↑g_1.snd :
   Int).toNat) ∧ (0 : Int) ≤ 1 ∧ In64 ((↑g_1.fst : Int).fdiv ((2 : Int) ^ (↑g_1.snd : Int).toNat)) ∧ In64 (1 : Int) ∧ (((↑(((↑g_1.fst : Int).fdiv ((2 : Int) ^ (↑g_1.snd : Int).toNat)).toNat &&& 1) : Int) == 1) = true → (List.map encI
   (bitsM g_1.fst g_1.snd)).length + 1 ≤ 9223372036854775807 ∧ ((List.map encI (bitsM g_1.fst g_1.snd)).length + 1) * 8 ≤ 140737488355328 ∧ In64 ((↑g_1.snd : Int) + 1) ∧ ∃ (g' : Nat × Nat), (g'.fst < pw l ∧ g'.snd ≤ l.length) ∧ g'.fst
   = g0.fst ∧ l.length - g'.snd < l.length - g_1.snd ∧ AS.mk [(1, AV.sl 3 (List.map encTp l)), (3, AV.elt 18 [(encRu r)] 0 0), (5, AV.elt 2 [[AV.int IntKind.u16 n0, AV.int IntKind.u16 n1]] 0 0), (7, AV.sl 1 (List.map encI (gP r
   (List.map encTp l)))), (8, AV.i (vP r (List.map encTp l))), (12, AV.i (↑g_1.fst : Int)), (13, AV.own 1 ((List.map encI (bitsM g_1.fst g_1.snd)).length + 1)), (89, AV.i (↑(pw l) : Int)), (90, AV.i (↑g_1.fst : Int)), (94, AV.i
   (↑(List.map encTp l).length : Int)), (95, AV.i ((↑g_1.snd : Int) + 1))] [(1, ABlk.buf 3 1 (List.map encI (bitsM g_1.fst g_1.snd) ++ [[AV.i (↑g_1.snd : Int)]]))] 2 = AS.mk [(1, AV.sl 3 (List.map encTp l)), (3, AV.elt 18 [(encRu r)]
   0 0), (5, AV.elt 2 [[AV.int IntKind.u16 n0, AV.int IntKind.u16 n1]] 0 0), (7, AV.sl 1 (List.map encI (gP r (List.map encTp l)))), (8, AV.i (vP r (List.map encTp l))), (12, AV.i (↑g'.fst : Int)), (13, AV.own 1 (List.map encI (bitsM
   g'.fst g'.snd)).length), (89, AV.i (↑(pw l) : Int)), (90, AV.i (↑g'.fst : Int)), (94, AV.i (↑(List.map encTp l).length : Int)), (95, AV.i (↑g'.snd : Int))] [(1, ABlk.buf 3 1 (List.map encI (bitsM g'.fst g'.snd)))] 2) ∧
   (((↑(((↑g_1.fst : Int).fdiv ((2 : Int) ^ (↑g_1.snd : Int).toNat)).toNat &&& 1) : Int) == 1) = false → In64 ((↑g_1.snd : Int) + 1) ∧ ∃ (g' : Nat × Nat), (g'.fst < pw l ∧ g'.snd ≤ l.length) ∧ g'.fst = g0.fst ∧ l.length - g'.snd <
   l.length - g_1.snd ∧ AS.mk [(1, AV.sl 3 (List.map encTp l)), (3, AV.elt 18 [(encRu r)] 0 0), (5, AV.elt 2 [[AV.int IntKind.u16 n0, AV.int IntKind.u16 n1]] 0 0), (7, AV.sl 1 (List.map encI (gP r (List.map encTp l)))), (8, AV.i (vP r
   (List.map encTp l))), (12, AV.i (↑g_1.fst : Int)), (13, AV.own 1 (List.map encI (bitsM g_1.fst g_1.snd)).length), (89, AV.i (↑(pw l) : Int)), (90, AV.i (↑g_1.fst : Int)), (94, AV.i (↑(List.map encTp l).length : Int)), (95, AV.i
   ((↑g_1.snd : Int) + 1))] [(1, ABlk.buf 3 1 (List.map encI (bitsM g_1.fst g_1.snd)))] 2 = AS.mk [(1, AV.sl 3 (List.map encTp l)), (3, AV.elt 18 [(encRu r)] 0 0), (5, AV.elt 2 [[AV.int IntKind.u16 n0, AV.int IntKind.u16 n1]] 0 0),
   (7, AV.sl 1 (List.map encI (gP r (List.map encTp l)))), (8, AV.i (vP r (List.map encTp l))), (12, AV.i (↑g'.fst : Int)), (13, AV.own 1 (List.map encI (bitsM g'.fst g'.snd)).length), (89, AV.i (↑(pw l) : Int)), (90, AV.i (↑g'.fst :
   Int)), (94, AV.i (↑(List.map encTp l).length : Int)), (95, AV.i (↑g'.snd : Int))] [(1, ABlk.buf 3 1 (List.map encI (bitsM g'.fst g'.snd)))] 2)) ∧ (decide ((↑g_1.snd : Int) < (↑(List.map encTp l).length : Int)) = false → PCall
   Tryz.prog G0 74 [AV.sl 3 (List.map encTp l), AV.sl 1 (List.map encI (bitsM g_1.fst g_1.snd))] (AV.i (vR l (List.map encI (bitsM g_1.fst g_1.snd)))) ∧ ((!decide (vR l (List.map encI (bitsM g_1.fst g_1.snd)) < vP r (List.map encTp
   l))) = true → (!decide (vR l (List.map encI (bitsM g_1.fst g_1.snd)) < vP r (List.map encTp l))) = true) ∧ ((!decide (vR l (List.map encI (bitsM g_1.fst g_1.snd)) < vP r (List.map encTp l))) = true → (!decide (vR l (List.map encI
   (bitsM g_1.fst g_1.snd)) < vP r (List.map encTp l))) = true) ∧ ((!decide (vR l (List.map encI (bitsM g_1.fst g_1.snd)) < vP r (List.map encTp l))) = true → (!decide (vR l (List.map encI (bitsM g_1.fst g_1.snd)) < vP r (List.map
   encTp l))) = true) ∧ ((!decide (vR l (List.map encI (bitsM g_1.fst g_1.snd)) < vP r (List.map encTp l)) && vR l (List.map encI (bitsM g_1.fst g_1.snd)) == vP r (List.map encTp l)) = true → (!decide (vR l (List.map encI (bitsM
   g_1.fst g_1.snd)) < vP r (List.map encTp l)) && vR l (List.map encI (bitsM g_1.fst g_1.snd)) == vP r (List.map encTp l)) = true) ∧ ((!decide (vR l (List.map encI (bitsM g_1.fst g_1.snd)) < vP r (List.map encTp l)) && vR l (List.map
   encI (bitsM g_1.fst g_1.snd)) == vP r (List.map encTp l)) = true → (!decide (vR l (List.map encI (bitsM g_1.fst g_1.snd)) < vP r (List.map encTp l)) && vR l (List.map encI (bitsM g_1.fst g_1.snd)) == vP r (List.map encTp l)) =
   true) ∧ ((!decide (vR l (List.map encI (bitsM g_1.fst g_1.snd)) < vP r (List.map encTp l)) && vR l (List.map encI (bitsM g_1.fst g_1.snd)) == vP r (List.map encTp l)) = true → (!decide (vR l (List.map encI (bitsM g_1.fst g_1.snd))
   < vP r (List.map encTp l)) && vR l (List.map encI (bitsM g_1.fst g_1.snd)) == vP r (List.map encTp l)) = true) ∧ ((!decide (vR l (List.map encI (bitsM g_1.fst g_1.snd)) < vP r (List.map encTp l)) && vR l (List.map encI (bitsM
   g_1.fst g_1.snd)) == vP r (List.map encTp l)) = true → (!decide (vR l (List.map encI (bitsM g_1.fst g_1.snd)) < vP r (List.map encTp l)) && vR l (List.map encI (bitsM g_1.fst g_1.snd)) == vP r (List.map encTp l)) = true) ∧
   ((!decide (vR l (List.map encI (bitsM g_1.fst g_1.snd)) < vP r (List.map encTp l)) && vR l (List.map encI (bitsM g_1.fst g_1.snd)) == vP r (List.map encTp l)) = true → (!decide (vR l (List.map encI (bitsM g_1.fst g_1.snd)) < vP r
   (List.map encTp l)) && vR l (List.map encI (bitsM g_1.fst g_1.snd)) == vP r (List.map encTp l)) = true) ∧ ((!decide (vR l (List.map encI (bitsM g_1.fst g_1.snd)) < vP r (List.map encTp l)) && vR l (List.map encI (bitsM g_1.fst
   g_1.snd)) == vP r (List.map encTp l)) = true → (!decide (vR l (List.map encI (bitsM g_1.fst g_1.snd)) < vP r (List.map encTp l)) && vR l (List.map encI (bitsM g_1.fst g_1.snd)) == vP r (List.map encTp l)) = true) ∧ ((!decide (vR l
   (List.map encI (bitsM g_1.fst g_1.snd)) < vP r (List.map encTp l)) && vR l (List.map encI (bitsM g_1.fst g_1.snd)) == vP r (List.map encTp l)) = true → (!decide (vR l (List.map encI (bitsM g_1.fst g_1.snd)) < vP r (List.map encTp
   l)) && vR l (List.map encI (bitsM g_1.fst g_1.snd)) == vP r (List.map encTp l)) = true) ∧ ((!decide (vR l (List.map encI (bitsM g_1.fst g_1.snd)) < vP r (List.map encTp l)) && vR l (List.map encI (bitsM g_1.fst g_1.snd)) == vP r
   (List.map encTp l)) = true → (!decide (vR l (List.map encI (bitsM g_1.fst g_1.snd)) < vP r (List.map encTp l)) && vR l (List.map encI (bitsM g_1.fst g_1.snd)) == vP r (List.map encTp l)) = true) ∧ ((!decide (vR l (List.map encI
   (bitsM g_1.fst g_1.snd)) < vP r (List.map encTp l))) = true → (!decide (vR l (List.map encI (bitsM g_1.fst g_1.snd)) < vP r (List.map encTp l))) = true) ∧ ((!decide (vR l (List.map encI (bitsM g_1.fst g_1.snd)) < vP r (List.map
   encTp l))) = true → (vR l (List.map encI (bitsM g_1.fst g_1.snd)) == vP r (List.map encTp l)) = true → (!decide (vR l (List.map encI (bitsM g_1.fst g_1.snd)) < vP r (List.map encTp l)) && vR l (List.map encI (bitsM g_1.fst
   g_1.snd)) == vP r (List.map encTp l)) = true) ∧ (decide (vR l (List.map encI (bitsM g_1.fst g_1.snd)) < vP r (List.map encTp l)) = false → (!decide (vR l (List.map encI (bitsM g_1.fst g_1.snd)) < vP r (List.map encTp l))) = true) ∧
   impB (!decide (vR l (List.map encI (bitsM g_1.fst g_1.snd)) < vP r (List.map encTp l)) && vR l (List.map encI (bitsM g_1.fst g_1.snd)) == vP r (List.map encTp l)) (PCall Tryz.prog G0 75 [AV.agg (encRu r), AV.sl 3 (List.map encTp
   l), AV.sl 1 (List.map encI (bitsM g_1.fst g_1.snd))] (AV.i (cR r l (List.map encI (bitsM g_1.fst g_1.snd))))) ∧ impB (!decide (vR l (List.map encI (bitsM g_1.fst g_1.snd)) < vP r (List.map encTp l)) && vR l (List.map encI (bitsM
   g_1.fst g_1.snd)) == vP r (List.map encTp l)) (PCall Tryz.prog G0 75 [AV.agg (encRu r), AV.sl 3 (List.map encTp l), AV.sl 1 (List.map encI (gP r (List.map encTp l)))] (AV.i (cR r l (List.map encI (gP r (List.map encTp l)))))) ∧
   ((if decide (vR l (List.map encI (bitsM g_1.fst g_1.snd)) < vP r (List.map encTp l)) = true then true else if (vR l (List.map encI (bitsM g_1.fst g_1.snd)) == vP r (List.map encTp l)) = true then decide (cR r l (List.map encI
   (bitsM g_1.fst g_1.snd)) ≥ cR r l (List.map encI (gP r (List.map encTp l)))) else false) = true → In64 ((↑g_1.fst : Int) + 1) ∧ ∃ (g' : Nat), g' ≤ pw l ∧ pw l - g' < pw l - g ∧ AS.mk [(1, AV.sl 3 (List.map encTp l)), (3, AV.elt 18
   [(encRu r)] 0 0), (5, AV.elt 2 [[AV.int IntKind.u16 n0, AV.int IntKind.u16 n1]] 0 0), (7, AV.sl 1 (List.map encI (gP r (List.map encTp l)))), (8, AV.i (vP r (List.map encTp l))), (89, AV.i (↑(pw l) : Int)), (90, AV.i ((↑g_1.fst :
   Int) + 1))] [] 1 = AS.mk [(1, AV.sl 3 (List.map encTp l)), (3, AV.elt 18 [(encRu r)] 0 0), (5, AV.elt 2 [[AV.int IntKind.u16 n0, AV.int IntKind.u16 n1]] 0 0), (7, AV.sl 1 (List.map encI (gP r (List.map encTp l)))), (8, AV.i (vP r
   (List.map encTp l))), (89, AV.i (↑(pw l) : Int)), (90, AV.i (↑g' : Int))] [] 1) ∧ ((if decide (vR l (List.map encI (bitsM g_1.fst g_1.snd)) < vP r (List.map encTp l)) = true then true else if (vR l (List.map encI (bitsM g_1.fst
   g_1.snd)) == vP r (List.map encTp l)) = true then decide (cR r l (List.map encI (bitsM g_1.fst g_1.snd)) ≥ cR r l (List.map encI (gP r (List.map encTp l)))) else false) = false → PCall Tryz.prog G0 21 [AV.agg (encRu r)] (AV.agg
   (encRu r)) ∧ PCall Tryz.prog G0 62 [AV.sl 3 (List.map encTp l)] (AV.sl 3 (List.map encTp l)) ∧ PCall Tryz.prog G0 63 [AV.sl 1 (List.map encI (bitsM g_1.fst g_1.snd))] (AV.sl 1 (List.map encI (bitsM g_1.fst g_1.snd))) ∧ PCall
   Tryz.prog G0 61 [AV.agg (encRu r), AV.sl 3 (List.map encTp l), AV.sl 1 (List.map encI (bitsM g_1.fst g_1.snd))] (AV.tup [AV.str (fR r l (List.map encI (bitsM g_1.fst g_1.snd))), AV.i 0]) ∧ AV.bool false = AV.bool false ∧ AV.bool
   (fR r l (List.map encI (bitsM g_1.fst g_1.snd)) == []) = AV.bool false ∧ (false = true → AV.bool false = AV.bool true) ∧ (false = false → In64 ((↑g_1.fst : Int) + 1) ∧ ∃ (g' : Nat), g' ≤ pw l ∧ pw l - g' < pw l - g ∧ AS.mk [(1,
   AV.sl 3 (List.map encTp l)), (3, AV.elt 18 [(encRu r)] 0 0), (5, AV.elt 2 [[AV.int IntKind.u16 n0, AV.int IntKind.u16 n1]] 0 0), (7, AV.sl 1 (List.map encI (gP r (List.map encTp l)))), (8, AV.i (vP r (List.map encTp l))), (89, AV.i
   (↑(pw l) : Int)), (90, AV.i ((↑g_1.fst : Int) + 1))] [] 1 = AS.mk [(1, AV.sl 3 (List.map encTp l)), (3, AV.elt 18 [(encRu r)] 0 0), (5, AV.elt 2 [[AV.int IntKind.u16 n0, AV.int IntKind.u16 n1]] 0 0), (7, AV.sl 1 (List.map encI (gP
   r (List.map encTp l)))), (8, AV.i (vP r (List.map encTp l))), (89, AV.i (↑(pw l) : Int)), (90, AV.i (↑g' : Int))] [] 1)))) ∧ (decide ((↑g : Int) < (↑(pw l) : Int)) = false → (0 : Int) ≤ 0 ∧ (0 : Int) < (↑2 : Int) ∧ ¬(1001 : Int) =
   (0 : Int) ∧ (0 : Int) ≤ 1 ∧ (1 : Int) < (↑2 : Int) ∧ ¬(1001 : Int) = (0 : Int) ∧ PCall Tryz.prog G0 21 [AV.agg (encRu r)] (AV.agg (encRu r)) ∧ PCall Tryz.prog G0 62 [AV.sl 3 (List.map encTp l)] (AV.sl 3 (List.map encTp l)) ∧ PCall
   Tryz.prog G0 69 [AV.agg (encRu r), AV.sl 3 (List.map encTp l), AV.agg [AV.i ((IntKind.i64.wrap n0).tmod (1001 : Int)), AV.i ((IntKind.i64.wrap n1).tmod (1001 : Int))]] (AV.tup [AV.i (bdR r l n0 n1), AV.i 0]) ∧ AV.bool false =
   AV.bool false ∧ AV.bool (decide (bdR r l n0 n1 < vP r (List.map encTp l))) = AV.bool false ∧ (false = true → AV.bool false = AV.bool true) ∧ (false = false → In64 ((↑(List.map encTp l).length : Int) - 1) ∧ (∃ (g : Nat), g ≤
   l.length ∧ AS.mk [(1, AV.sl 3 (List.map encTp l)), (3, AV.elt 18 [(encRu r)] 0 0), (8, AV.i (vP r (List.map encTp l))), (20, AV.own 1 0), (21, AV.i ((↑(List.map encTp l).length : Int) - 1))] [(1, ABlk.buf 133 3 [])] 2 = AS.mk [(1,
   AV.sl 3 (List.map encTp l)), (3, AV.elt 18 [(encRu r)] 0 0), (8, AV.i (vP r (List.map encTp l))), (20, AV.own 1 (List.map encTp (List.take g l.reverse)).length), (21, AV.i ((↑(List.map encTp l).length : Int) - 1 - (↑g : Int)))]
   [(1, ABlk.buf 133 3 (List.map encTp (List.take g l.reverse)))] 2) ∧ ∀ (g : Nat), g ≤ l.length → (decide ((↑(List.map encTp l).length : Int) - 1 - (↑g : Int) ≥ 0) = true → (0 : Int) ≤ (↑(List.map encTp l).length : Int) - 1 - (↑g :
   Int) ∧ (↑(List.map encTp l).length : Int) - 1 - (↑g : Int) < (↑(List.map encTp l).length : Int) ∧ (List.map encTp (List.take g l.reverse)).length + 1 ≤ 9223372036854775807 ∧ ((List.map encTp (List.take g l.reverse)).length + 1) *
   32 ≤ 140737488355328 ∧ AV.agg (nthR (List.map encTp l) ((↑(List.map encTp l).length : Int) - 1 - (↑g : Int)).toNat) = AV.agg [AV.str (l.getD ((↑(List.map encTp l).length : Int) - 1 - (↑g : Int)).toNat default).n, AV.i (l.getD
   ((↑(List.map encTp l).length : Int) - 1 - (↑g : Int)).toNat default).c, AV.i (l.getD ((↑(List.map encTp l).length : Int) - 1 - (↑g : Int)).toNat default).f] ∧ In64 ((↑(List.map encTp l).length : Int) - 1 - (↑g : Int) - 1) ∧ ∃ (g' :
   Nat), g' ≤ l.length ∧ l.length - g' < l.length - g ∧ AS.mk [(1, AV.sl 3 (List.map encTp l)), (3, AV.elt 18 [(encRu r)] 0 0), (8, AV.i (vP r (List.map encTp l))), (20, AV.own 1 ((List.map encTp (List.take g l.reverse)).length + 1)),
   (21, AV.i ((↑(List.map encTp l).length : Int) - 1 - (↑g : Int) - 1))] [(1, ABlk.buf 133 3 (List.map encTp (List.take g l.reverse) ++ [[AV.str (l.getD ((↑(List.map encTp l).length : Int) - 1 - (↑g : Int)).toNat default).n, AV.i
   (l.getD ((↑(List.map encTp l).length : Int) - 1 - (↑g : Int)).toNat default).c, AV.i (l.getD ((↑(List.map encTp l).length : Int) - 1 - (↑g : Int)).toNat default).f]]))] 2 = AS.mk [(1, AV.sl 3 (List.map encTp l)), (3, AV.elt 18
   [(encRu r)] 0 0), (8, AV.i (vP r (List.map encTp l))), (20, AV.own 1 (List.map encTp (List.take g' l.reverse)).length), (21, AV.i ((↑(List.map encTp l).length : Int) - 1 - (↑g' : Int)))] [(1, ABlk.buf 133 3 (List.map encTp
   (List.take g' l.reverse)))] 2) ∧ (decide ((↑(List.map encTp l).length : Int) - 1 - (↑g : Int) ≥ 0) = false → PCall Tryz.prog G0 21 [AV.agg (encRu r)] (AV.agg (encRu r)) ∧ PCall Tryz.prog G0 62 [AV.sl 3 (List.map encTp (List.take g
   l.reverse))] (AV.sl 3 (List.map encTp (List.take g l.reverse))) ∧ PCall Tryz.prog G0 64 [AV.agg (encRu r), AV.sl 3 (List.map encTp (List.take g l.reverse))] (AV.tup [AV.sl 1 (List.map encI (gP r (List.map encTp (List.take g
   l.reverse)))), AV.i (vP r (List.map encTp (List.take g l.reverse))), AV.i 0]) ∧ AV.bool false = AV.bool false ∧ AV.bool (vP r (List.map encTp (List.take g l.reverse)) != vP r (List.map encTp l)) = AV.bool false ∧ (false = true →
   AV.bool false = AV.bool true) ∧ (false = false → (((↑(List.map encTp l).length : Int) == 0) = true → AV.bool (vP r (List.map encTp l) == 0) = AV.bool true ∧ AV.bool true = AV.bool true) ∧ (((↑(List.map encTp l).length : Int) == 0)
   = false → (0 : Int) ≤ 1 ∧ (1 : Int) ≤ (↑(List.map encTp l).length : Int) ∧ (↑(List.map encTp l).length : Int) ≤ (↑(List.map encTp l).length : Int) ∧ PCall Tryz.prog G0 21 [AV.agg (encRu r)] (AV.agg (encRu r)) ∧ AV.sl 3 (List.take
   ((↑(List.map encTp l).length : Int) - 1).toNat (List.drop 1 (List.map encTp l))) = AV.sl 3 (List.map encTp (List.drop 1 l)) ∧ PCall Tryz.prog G0 62 [AV.sl 3 (List.map encTp (List.drop 1 l))] (AV.sl 3 (List.map encTp (List.drop 1
   l))) ∧ PCall Tryz.prog G0 64 [AV.agg (encRu r), AV.sl 3 (List.map encTp (List.drop 1 l))] (AV.tup [AV.sl 1 (List.map encI (gP r (List.map encTp (List.drop 1 l)))), AV.i (vP r (List.map encTp (List.drop 1 l))), AV.i 0]) ∧ In64 (vP r
   (List.map encTp l) - vP r (List.map encTp (List.drop 1 l))) ∧ (0 : Int) ≤ 0 ∧ (0 : Int) < (↑(List.map encTp l).length : Int) ∧ AV.bool true = AV.bool true ∧ AV.bool (decide (vP r (List.map encTp (List.drop 1 l)) ≤ vP r (List.map
   encTp l))) = AV.bool true ∧ nth (nthR (List.map encTp l) 0) 2 = AV.i (l.getD (Int.toNat (0 : Int)) default).f ∧ AV.bool (decide (vP r (List.map encTp l) - vP r (List.map encTp (List.drop 1 l)) ≤ (l.getD (Int.toNat (0 : Int))
   default).f)) = AV.bool true ∧ AV.bool true = AV.bool true)))))))) := by
    have hlm : (List.map encTp l).length = l.length := List.length_map _
    have : (List.map encTp l).length = l.length := by simp only [List.length_map]
    refine ⟨fun h => h, fun h => h, fun h => by first | exact h | (rw [h]; rfl) | simp_all, fun h => h, fun h => h, fun h => by first | exact h | (rw [h]; rfl) | simp_all, fun h => h, fun h => h, fun h => h, fun h => by first | exact h | (rw [h]; rfl) | simp_all, hA, (c17 r hl hm), impB_iff.2 fun hb => (c65g hb), fun h1 => ⟨hA, rfl⟩, fun h1 => ?_⟩
    · obtain ⟨hx12, hx3⟩ := or_f h1
      obtain ⟨hx1, hx2⟩ := or_f hx12
      have hS : shR r = true := by simpa using hx1
      have hx2 := of_decide_eq_false hx2
      have hq0 := bne_f hx3
      have hl7 : l.length ≤ 7 := by omega
      obtain ⟨s1, s2, s3, s4⟩ := sh_of hS
      obtain ⟨-, hR, hra, -, hX⟩ := rq_ok hq0
      have hp1 : 1 ≤ pw l := Nat.one_le_two_pow
      have hpw : pw l ≤ 256 := Nat.le_trans (Nat.pow_le_pow_right (by decide) (show l.length ≤ 8 by omega)) (by decide)
      have hP := (pl_ok (r := r) (l := l) hR).1
      have hPl : (plB r l).length ≤ 1000 := by have := asc_len hP.2; omega
      have hin : ∀ m, inL l (bitsM m l.length) := fun m => (bits_asc m l.length).2
      have hbl : ∀ m, (bitsM m l.length).length ≤ 1000 := fun m => by have := bits_len m l.length; omega
      have hshl : ((1 : Int) * 2 ^ ((List.map encTp l).length : Int).toNat) = ((pw l : Nat) : Int) := by rw [hlm, Int.toNat_natCast, Int.one_mul]; unfold pw; norm_cast
      refine ⟨(c21 r (by omega) (by omega)), ((c62 l (by omega)).un), (c64v hS hq0 (by omega)), rfl, ?_, rfl, (by rw [gP_e, vR_e]; exact c74 r l _ hX hP.2.2 hPl), ?_, fun h2 => ?_, fun h2 => ⟨(c21 r (by omega) (by omega)), ((c62 l (by omega)).un), (c63 _ (by rw [gP_e]; exact hPl)), (c61v hS hq0 (by omega) (by rw [gP_e]; exact hP.2)), rfl, ?_, fun h3 => ?_, fun h3 => ⟨(by omega), (by omega), ?_, congrArg AV.i hshl, ⟨⟨0, by omega, rfl⟩, fun g hg => ⟨fun hd => ?_, fun hd => ?_⟩⟩⟩⟩⟩
      · have := c66 l (plB r l) (by omega) hPl
        rw [gr_asc hP.2] at this
        rw [gP_e]
        exact this
      · rw [gP_e, vR_e, vP_e]
        show AV.bool (valN l (plB r l) (plB r l).length != valN l (plB r l) (plB r l).length) = _
        rw [bne_self_eq_false]
      · exact absurd ‹false = true› (by decide)
      · rw [gP_e, fR_e]
        show AV.bool (!(fitB r l (plB r l))) = AV.bool false
        rw [hP.1]
        rfl
      · exact absurd ‹false = true› (by decide)
      · rw [hshl]
        unfold In64
        omega
      · have hlt : g < pw l := by have h9 := of_decide_eq_true hd; have h8 := hg; (try simp only [List.length_map] at h8); (try simp only [List.length_map] at h9); omega
        refine ⟨(g, 0), ⟨by omega, by omega⟩, rfl, rfl, fun g_1 hok2 hr2 => ?_⟩
        · obtain ⟨i2, j2⟩ := g_1
          dsimp only at hok2 hr2 ⊢
          obtain ⟨hi2, hg2⟩ := hok2
          have hr3 : g = i2 := hr2.symm
          subst hr3
          refine ⟨fun hd2 => ?_, fun hd2 => ?_⟩
          · have hlt2 : j2 < l.length := by have h9 := of_decide_eq_true hd2; have h8 := hg2; (try simp only [List.length_map] at h8); (try simp only [List.length_map] at h9); omega
            have hsb : 0 ≤ ((g : Nat) : Int).fdiv (2 ^ j2) ∧ ((g : Nat) : Int).fdiv (2 ^ j2) ≤ 1000 := shr_bd g j2 (by omega)
            have hbb := bits_len g j2
            have hbm : (List.map encI (bitsM g j2)).length = (bitsM g j2).length := List.length_map _
            try rw [show (↑j2 : Int).toNat = j2 from Int.toNat_natCast j2]
            refine ⟨(by omega), (by omega), (by omega), (by omega), (by unfold In64; omega), (by unfold In64; omega), fun h4 => ?_, fun h4 => ?_⟩
            · have hbit : g.testBit j2 = true := by rw [← shr_and]; exact h4
              refine ⟨(by omega), (by omega), (by unfold In64; omega), ⟨(g, j2 + 1), ⟨by omega, by omega⟩, rfl, (by (try dsimp only); omega), ?_⟩⟩
              · dsimp only
                first
                  | (rw [show bitsM g (j2 + 1) = bitsM g j2 ++ [(j2 : Int)] from if_pos hbit, List.map_append, List.length_append]; rfl)
                  | (rw [show bitsM g (j2 + 1) = bitsM g j2 from if_neg (by rw [hbit]; decide)]; rfl)
            · have hbit : g.testBit j2 = false := by rw [← shr_and]; exact h4
              refine ⟨(by unfold In64; omega), ⟨(g, j2 + 1), ⟨by omega, by omega⟩, rfl, (by (try dsimp only); omega), ?_⟩⟩
              · dsimp only
                first
                  | (rw [show bitsM g (j2 + 1) = bitsM g j2 ++ [(j2 : Int)] from if_pos hbit, List.map_append, List.length_append]; rfl)
                  | (rw [show bitsM g (j2 + 1) = bitsM g j2 from if_neg (by rw [hbit]; decide)]; rfl)
          · have hge2 : j2 = l.length := by have h9 := of_decide_eq_false hd2; have h8 := hg2; (try simp only [List.length_map] at h8); (try simp only [List.length_map] at h9); omega
            subst hge2
            refine ⟨(by rw [vR_e]; exact c74 r l _ hX (hin _) (hbl _)), fun h => h, fun h => h, fun h => h, fun h => h, fun h => h, fun h => h, fun h => h, fun h => h, fun h => h, fun h => h, fun h => h, fun h => h, fun h4 => fun h => by first | exact h | (rw [h]; rfl) | simp_all, fun h => by first | exact h | (rw [h]; rfl) | simp_all, impB_iff.2 fun hb => (by rw [cR_e]; exact c75 r l _ hR hX (hin _) (hbl _)), impB_iff.2 fun hb => (by rw [gP_e, cR_e]; exact c75 r l _ hR hX hP.2.2 hPl), fun h4 => ⟨(by unfold In64; omega), ⟨g + 1, by omega, by omega, rfl⟩⟩, fun h4 => ?_⟩
            · have hno := no_better hR (bits_asc _ _) h4
              refine ⟨(c21 r (by omega) (by omega)), ((c62 l (by omega)).un), (c63 _ (hbl _)), (c61v hS hq0 (by omega) (bits_asc _ _)), rfl, ?_, fun h5 => ?_, fun h5 => ⟨(by unfold In64; omega), ⟨g + 1, by omega, by omega, rfl⟩⟩⟩
              · exact congrArg AV.bool hno
              · exact absurd ‹false = true› (by decide)
      · have hge : g = pw l := by have h9 := of_decide_eq_false hd; have h8 := hg; (try simp only [List.length_map] at h8); (try simp only [List.length_map] at h9); omega
        subst hge
        refine ⟨(by omega), (by omega), (by decide), (by omega), (by omega), (by decide), (c21 r (by omega) (by omega)), ((c62 l (by omega)).un), (c69v hS hq0 (by omega) hn0 hn1), rfl, ?_, fun h4 => ?_, fun h4 => ⟨(by unfold In64; omega), ⟨⟨0, by omega, (by rw [show ((List.map encTp l).length : Int) - 1 - ((0 : Nat) : Int) = ((List.map encTp l).length : Int) - 1 by omega]; rfl)⟩, fun g hg2 => ⟨fun h5 => ?_, fun h5 => ?_⟩⟩⟩⟩
        · rw [vP_e]
          unfold bdR
          rw [decide_eq_false (Int.not_lt.2 (pl_bound hR hra hX (tm_b hn0.1).1 (tm_b hn1.1).1))]
        · exact absurd ‹false = true› (by decide)
        · have hlt4 : g < l.length := by have := of_decide_eq_true h5; omega
          have hmt : (List.map encTp (List.take g l.reverse)).length = g := by rw [List.length_map, List.length_take, List.length_reverse]; omega
          refine ⟨(by omega), (by omega), (by omega), (by omega), congrArg AV.agg (row_at encTp (by omega)), (by unfold In64; omega), ⟨g + 1, by omega, by omega, ?_⟩⟩
          · rw [turn_step (by omega), List.length_append]
            rw [show ((List.map encTp l).length : Int) - 1 - ((g + 1 : Nat) : Int) = ((List.map encTp l).length : Int) - 1 - (g : Int) - 1 by omega]
            rfl
        · have hge4 : g = l.length := by have := of_decide_eq_false h5; omega
          refine ⟨(c21 r (by omega) (by omega)), ((c62 _ (by rw [List.length_take]; omega)).un), (c64v hS (rq_sub hq0 (fun x hx => List.mem_reverse.1 (List.mem_of_mem_take hx)) (by rw [List.length_take]; omega)) (by rw [List.length_take]; omega)), rfl, ?_, fun h6 => ?_, fun h6 => ⟨fun h7 => ?_, fun h7 => ?_⟩⟩
          · rw [vP_e, vP_e, List.take_of_length_le (by rw [List.length_reverse]; omega), pl_rev hR, bne_self_eq_false]
          · exact absurd ‹false = true› (by decide)
          · have hl0 : l = [] := by
              have := eq_of_beq h7
              exact List.length_eq_zero_iff.1 (by omega)
            refine ⟨?_, rfl⟩
            · rw [vP_e, hl0, plV_nil]
              rfl
          · have hl1 : l.length ≠ 0 := by
              have := h7
              simp only [beq_eq_false_iff_ne] at this
              omega
            have hx0 := hX (l.getD 0 default) (getD_mem (by omega))
            have htl := pl_tail (r := r) (x := l.getD 0 default) (l := l.drop 1) hR (tp_bd hR hx0).1 hx0.v.1
            rw [← drop_0 hl1, ← vP_e, ← vP_e] at htl
            have hvb := plV_bd (r := r) (l := l) hR hX
            rw [← vP_e] at hvb
            have hvd := plV_bd (r := r) (l := l.drop 1) hR (fun x hx => hX x (List.mem_of_mem_drop hx))
            rw [← vP_e, List.length_drop] at hvd
            refine ⟨(by omega), (by omega), (by omega), (c21 r (by omega) (by omega)), ?_, ((c62 _ (by rw [List.length_drop]; omega)).un), (c64v hS (rq_sub hq0 (fun x hx => List.mem_of_mem_drop hx) (by rw [List.length_drop]; omega)) (by rw [List.length_drop]; omega)), (by unfold In64; omega), (by omega), (by omega), rfl, ?_, ?_, ?_, rfl⟩
            · rw [← List.map_drop, List.take_of_length_le (by rw [List.length_map, List.length_drop]; omega)]
            · rw [decide_eq_true htl.1]
            · exact congrArg (fun r => nth r 2) (row_at encTp (i := 0) (by omega))
            · exact congrArg AV.bool (decide_eq_true htl.2)
  exact c_of Tryz.f13 ({ noSyms [4, 7, 22, 26, 34, 39] (fzB (mkB (sp13 r l n0 n1) 13 (lits false [(4, 1), (4, 6), (4, 13), (7, 1), (7, 4), (22, 1), (22, 4), (26, 1), (26, 5), (34, 1), (34, 5)] ++ lits true [(37, 1), (39, 1), (39, 5), (39, 15)] ++ [(9, 2, fun _ => some (.i (pw l : Nat))), (32, 4, rdL 3 encTp l 3 true), (38, 3, fun _ => some (.sl 3 ((l.drop 1).map encTp))), (39, 14, rdL 3 encTp l 1 false)]) (la13 r l n0 n1))) with bx := fun i => if i.beq 2 then [.frzo 13] else if i.beq 4 then [.frzo 20] else [] }) (by kernel_rfl) (by kernel_rfl) (by kernel_rfl) (by kernel_rfl) key (by kernel_rfl)
end Go.Proofs.YtimgfogakgakhaaGreatDoor
namespace Go.Proofs.YtimgfogakgakhaaGreatDoor
open Go Go.Av Go.RowKit Go.ChangeShapes Go.WideShapes
theorem jp0_13 : (Rows.nightBestRow.inPlace == Tryz.prog.inPlace 13) = true := by kernel_rfl
theorem jp1_13 : (Rows.nightBestRow.unfollowed == Tryz.prog.unfollowed 13) = true := by kernel_rfl
theorem jp2_13 : (Rows.nightBestRow.recurses == Tryz.prog.recurses 13) = true := by kernel_rfl
theorem jp3_13 : (Rows.nightBestRow.named == Tryz.prog.varsNamed 13) = true := by kernel_rfl
theorem jfacts_13 : joinedFacts Tryz.prog 13 Tryz.f13 Rows.nightBestSpec Rows.nightBestRow = true := by
  unfold joinedFacts
  rw [jp0_13, jp1_13, jp2_13, jp3_13]
  kernel_rfl
end Go.Proofs.YtimgfogakgakhaaGreatDoor
