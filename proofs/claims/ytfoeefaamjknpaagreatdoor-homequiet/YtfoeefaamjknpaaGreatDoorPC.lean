/-
  Complaints, the source's: those that are due. Complaints: those that are due, the source's; what is wrong, the reference's; copies. Plain laws of funds: what comes in adds up, each payment takes its amount. No condition but the theorems' own.
-/
import Derived.Test.YtfoeefaamjknpaaGreatDoorPB
import Derived.Test.YtfoeefaamjknpaaGreatDoorAvD
import Derived.Test.YtfoeefaamjknpaaGreatDoorPA
namespace Go.Proofs.YtfoeefaamjknpaaGreatDoor
open Go Go.Av Go.RowKit
theorem w_of {f : Nat} {args : List AV} {bs : List ABlk} {r : AV} {fin : List ABlk} (fn : Func) (B : BA) (hf : Tryz.prog.funcs[f]? = some fn) (hb : fn.body = some (bodyOf fn)) (hn : (fn.name == "runtime.NumGoroutine") = false) (hlen : Nat.ble args.length fn.ntmps = true) (hwf : wfB (bs.length + 1) (startW args bs) = true)
 {q : Prop} (hq : q) (h : VC (bodyE Tryz.prog T0 G0 fn.ntmps []) B 10000 0 (bodyOf fn) (startW args bs) (retQW T0 fn bs.length r fin) = q) : WCall Tryz.prog G0 f args bs r fin :=
 callW_of_VC tok mix hf hb hn (Nat.le_of_ble_eq_true hlen) hwf B (vc_of hq h)
def FI (n:Int) : AV := .fn (.func 179) [] [.elt 1 [[.i n]] 0 0]
theorem c179 (i n : Int)  : PCall Tryz.prog G0 179 [.i i, .elt 1 [[.i n]] 0 0] (.bool (badI n i)) := by
 have key :
  ((!decide (i < 0)) = true -> (!decide (i < 0)) = true) ∧ ((!decide (i < 0)) = true -> (!decide (i < 0)) = true) ∧ (decide (i < 0) = false -> (!decide (i < 0)) = true) ∧ AV.bool (if decide (i < 0) = true then true else decide (i >= n))
  = AV.bool (badI n i) := by
   refine ⟨fun h => h, fun h => h, fun h => by first | exact h | (rw [h]; rfl) | simp_all, ?_⟩
   · first | rfl | trivial
 exact c_of Tryz.f179 (mkB spC 179 [] noLa) (by kernel_rfl) (by kernel_rfl) (by kernel_rfl) (by kernel_rfl) key (by kernel_rfl)
def la180 (F : AV) (p : Int -> Bool) (l : List Int) : LA := {
 pre := [.keep [0, 1, 6, 7, 8] [], .bound 1], post := [.keep [0, 1, 6, 7, 8] [], .bound 1]
 Gh := Nat
 st := fun i => ⟨[(0, .sl 1 (l.map encI)), (1, F), (6, .sl 1 (l.map encI)), (7, .i (l.map encI).length), (8, .i i)], [], 1⟩
 ok := fun i => i <= l.length ∧ ∀ j, j < i -> p (l.getD j default) = false
 ms := fun i => l.length - i }
def sp180 (n:Int) : Nat -> List AV -> Option AV
 | 179, .int _ i :: _ => some (.bool (badI n i))
 | m, x => spC m x
theorem c180a (n:Int) (l : List Int) (hl : l.length <= 1000) : PCall Tryz.prog G0 180 [.sl 1 (l.map encI), FI n] (.i (fiI (fun j => badI n (l.getD j default)) l.length)) := by
 have key :
  (∃ (g:Nat), (g <= l.length ∧ ∀ (j:Nat), j < g -> badI n (l.getD j default) = false) ∧ AS.mk [(0, AV.sl 1 (List.map encI l)), (1, AV.fn (Fn.func 179) [] [AV.elt 1 [[AV.i n]] 0 0]), (6, AV.sl 1 (List.map encI l)), (7, AV.i
  (↑(List.map encI l).length : Int)), (8, AV.i 0)] [] 1 = AS.mk [(0, AV.sl 1 (List.map encI l)), (1, AV.fn (Fn.func 179) [] [AV.elt 1 [[AV.i n]] 0 0]), (6, AV.sl 1 (List.map encI l)), (7, AV.i (↑(List.map encI l).length : Int)), (8,
  AV.i (g:Int))] [] 1) ∧ ∀ (g:Nat), (g <= l.length ∧ ∀ (j:Nat), j < g -> badI n (l.getD j default) = false) -> (decide ((g:Int) < (↑(List.map encI l).length : Int)) = true -> (0:Int) <= (g:Int) ∧ (g:Int) < (↑(List.map
  encI l).length : Int) ∧ nth (nthR (List.map encI l) (g:Int).toNat) 0 = AV.i (l.getD (g:Int).toNat default) ∧ PCall Tryz.prog G0 179 [AV.i (l.getD (g:Int).toNat default), AV.elt 1 [[AV.i n]] 0 0] (AV.bool (badI n (l.getD
  (g:Int).toNat default))) ∧ (badI n (l.getD (g:Int).toNat default) = true -> AV.i (g:Int) = AV.i (fiI (fun (j:Nat) => badI n (l.getD j default)) l.length)) ∧ (badI n (l.getD (g:Int).toNat default) = false -> In64 ((↑g :
  Int) + 1) ∧ ∃ (g' : Nat), (g' <= l.length ∧ ∀ (j:Nat), j < g' -> badI n (l.getD j default) = false) ∧ l.length - g' < l.length - g ∧ AS.mk [(0, AV.sl 1 (List.map encI l)), (1, AV.fn (Fn.func 179) [] [AV.elt 1 [[AV.i n]] 0 0]), (6,
  AV.sl 1 (List.map encI l)), (7, AV.i (↑(List.map encI l).length : Int)), (8, AV.i ((g:Int) + 1))] [] 1 = AS.mk [(0, AV.sl 1 (List.map encI l)), (1, AV.fn (Fn.func 179) [] [AV.elt 1 [[AV.i n]] 0 0]), (6, AV.sl 1 (List.map encI
  l)), (7, AV.i (↑(List.map encI l).length : Int)), (8, AV.i (↑g' : Int))] [] 1)) ∧ (decide ((g:Int) < (↑(List.map encI l).length : Int)) = false -> AV.i (-1) = AV.i (fiI (fun (j:Nat) => badI n (l.getD j default)) l.length)) :=
  by
   have hlm : (List.map encI l).length = l.length := List.length_map _
   have : (List.map encI l).length = l.length := by simp only [List.length_map]
   refine ⟨⟨0, ⟨by omega, by intros; omega⟩, rfl⟩, fun g ⟨hg, ha⟩ => ⟨fun hd => ?_, fun hd => ?_⟩⟩
   · have hlt : g < l.length := by have h9 := of_decide_eq_true hd; have h8 := hg; (try simp only [List.length_map] at h8 h9); omega
     try rw [show (g:Int).toNat = g from Int.toNat_natCast g]
     refine ⟨(by omega), (by omega), congrArg (fun r => nth r 0) (row_at encI hlt), (c179 _ _), fun h1 => ?_, fun h1 => ⟨(by unfold In64; omega), ⟨g + 1, ⟨by omega, all_ext ha h1⟩, by omega, rfl⟩⟩⟩
     · rw [fiI, fi_some (p := fun j => badI n (l.getD j default)) ha (show badI n (l.getD g default) = true from h1) hlt, if_neg (by omega)]
   · have hge : g = l.length := by have h9 := of_decide_eq_false hd; have h8 := hg; (try simp only [List.length_map] at h8 h9); omega
     subst hge
     rw [fiI, fi_none (p := fun j => badI n (l.getD j default)) ha, if_pos rfl]
 exact c_of Tryz.f180 (mkB (sp180 n) 180 [(4, 4, rdL 1 encI l 1 false)] (la1 (la180 (FI n) (badI n) l))) (by kernel_rfl) (by kernel_rfl) (by kernel_rfl) (by kernel_rfl) key (by kernel_rfl)
def sp178 (p : Int -> Bool) (l : List Int) : Nat -> List AV -> Option AV
 | 180, _ => some (.i (fiI (fun j => p (l.getD j default)) l.length))
 | m, x => spC m x
theorem c178a (n:Int) (l : List Int) (hl : l.length <= 1000) : PCall Tryz.prog G0 178 [.sl 1 (l.map encI), FI n] (.bool (decide (fiN (fun j => badI n (l.getD j default)) l.length < l.length))) := by
 have key :
  PCall Tryz.prog G0 180 [AV.sl 1 (List.map encI l), AV.fn (Fn.func 179) [] [AV.elt 1 [[AV.i n]] 0 0]] (AV.i (fiI (fun (j:Nat) => badI n (l.getD j default)) l.length)) ∧ AV.bool (decide (fiI (fun (j:Nat) => badI n (l.getD j
  default)) l.length >= 0)) = AV.bool (decide (fiN (fun (j:Nat) => badI n (l.getD j default)) l.length < l.length)) := by
   exact ⟨(c180a n l hl), congrArg AV.bool fiI_dec⟩
 exact c_of Tryz.f178 (mkB (sp178 (badI n) l) 178 [] noLa) (by kernel_rfl) (by kernel_rfl) (by kernel_rfl) (by kernel_rfl) key (by kernel_rfl)
def la150 (l : List Int) : LA := {
 pre := [.keep [0, 5] [], .bound 1], post := [.keep [0, 5] [], .bound 1]
 Gh := Nat
 st := fun i => ⟨[(0, .sl 1 (l.map encI)), (5, .i ((i:Nat) + 1 : Int))], [], 1⟩
 ok := fun i => i <= l.length ∧ ∀ j, j < i + 1 -> ordI l j = false
 ms := fun i => l.length - i }
def sp150 (n:Int) (l : List Int) : Nat -> List AV -> Option AV
 | 178, _ => some (.bool (decide (fiN (fun j => badI n (l.getD j default)) l.length < l.length)))
 | m, x => spC m x
theorem c150 (n:Int) (l : List Int) (hl : l.length <= 1000) : PCall Tryz.prog G0 150 [.sl 1 (l.map encI), .i n] (.i (fIx l n)) := by
 have key :
  PCall Tryz.prog G0 178 [AV.sl 1 (List.map encI l), AV.fn (Fn.func 179) [] [AV.elt 1 [[AV.i n]] 0 0]] (AV.bool (decide (fiN (fun (j:Nat) => badI n (l.getD j default)) l.length < l.length))) ∧ (decide (fiN (fun (j:Nat) => badI n
  (l.getD j default)) l.length < l.length) = true -> AV.i 10 = AV.i (fIx l n)) ∧ (decide (fiN (fun (j:Nat) => badI n (l.getD j default)) l.length < l.length) = false -> (∃ (g:Nat), (g <= l.length ∧ ∀ (j:Nat), j < g + 1 -> ordI l j
  = false) ∧ AS.mk [(0, AV.sl 1 (List.map encI l)), (5, AV.i 1)] [] 1 = AS.mk [(0, AV.sl 1 (List.map encI l)), (5, AV.i ((g:Int) + 1))] [] 1) ∧ ∀ (g:Nat), (g <= l.length ∧ ∀ (j:Nat), j < g + 1 -> ordI l j = false) -> (decide ((↑g
  : Int) + 1 < (↑(List.map encI l).length : Int)) = true -> (0:Int) <= (g:Int) + 1 ∧ (g:Int) + 1 < (↑(List.map encI l).length : Int) ∧ In64 ((g:Int) + 1 - 1) ∧ (0:Int) <= (g:Int) + 1 - 1 ∧ (g:Int) + 1 - 1 <
  (↑(List.map encI l).length : Int) ∧ nth (nthR (List.map encI l) ((g:Int) + 1).toNat) 0 = AV.i (l.getD ((g:Int) + 1).toNat default) ∧ nth (nthR (List.map encI l) ((g:Int) + 1 - 1).toNat) 0 = AV.i (l.getD ((g:Int) + 1 -
  1).toNat default) ∧ (decide (l.getD ((g:Int) + 1).toNat default <= l.getD ((g:Int) + 1 - 1).toNat default) = true -> AV.i 11 = AV.i (fIx l n)) ∧ (decide (l.getD ((g:Int) + 1).toNat default <= l.getD ((g:Int) + 1 - 1).toNat
  default) = false -> In64 ((g:Int) + 1 + 1) ∧ ∃ (g' : Nat), (g' <= l.length ∧ ∀ (j:Nat), j < g' + 1 -> ordI l j = false) ∧ l.length - g' < l.length - g ∧ AS.mk [(0, AV.sl 1 (List.map encI l)), (5, AV.i ((g:Int) + 1 + 1))] [] 1
  = AS.mk [(0, AV.sl 1 (List.map encI l)), (5, AV.i ((↑g' : Int) + 1))] [] 1)) ∧ (decide ((g:Int) + 1 < (↑(List.map encI l).length : Int)) = false -> AV.i 0 = AV.i (fIx l n))) := by
   have hlm : (List.map encI l).length = l.length := List.length_map _
   rw [hlm]
   refine ⟨c178a n l hl, fun h1 => ?_, fun h1 => ⟨⟨0, ⟨by omega, fun j hj => ?_⟩, rfl⟩, fun g ⟨hg, ha⟩ => ⟨fun hd => ?_, fun hd => ?_⟩⟩⟩
   · rw [fIx, if_pos h1]
   · have e : j = 0 := by omega
     rw [e]; rfl
   · have hlt := of_decide_eq_true hd
     rw [show ((g:Int) + 1).toNat = g + 1 by omega, show ((g:Int) + 1 - 1).toNat = g by omega]
     have hor : ordI l (g + 1) = decide (l.getD (g + 1) default <= l.getD g default) := by unfold ordI; rw [if_neg (by omega), Nat.add_sub_cancel]
     refine ⟨by omega, by omega, by unfold In64; omega, by omega, by omega, congrArg (fun r => nth r 0) (row_at encI (by omega)), congrArg (fun r => nth r 0) (row_at encI (by omega)), fun h2 => ?_, fun h2 => ⟨by unfold In64; omega, g + 1, ⟨by omega, fun j hj => ?_⟩, by omega, rfl⟩⟩
     · rw [fIx, if_neg (by rw [h1]; decide), if_pos (decide_eq_true (fi_ex (p := ordI l) (j := g + 1) (by omega) (hor.trans h2)))]
     · by_cases e : j = g + 1
       · rw [e, hor]; exact h2
       · exact ha j (by omega)
   · have hge := of_decide_eq_false hd
     rw [fIx, if_neg (by rw [h1]; decide), if_neg (by
      rw [decide_eq_true_eq]
      intro h
      have h2 := fi_hit h
      have h3 := ha _ (show fiN (ordI l) l.length < g + 1 by omega)
      rw [h3] at h2
      cases h2)]
 exact c_of Tryz.f150 (fzB (mkB (sp150 n l) 150 [(6, 3, rdL 1 encI l 1 false), (6, 8, rdL 1 encI l 1 false)] (la1 (la150 l)))) (by kernel_rfl) (by kernel_rfl) (by kernel_rfl) (by kernel_rfl) key (by kernel_rfl)
end Go.Proofs.YtfoeefaamjknpaaGreatDoor
namespace Go.Proofs.YtfoeefaamjknpaaGreatDoor
open Go Go.Av Go.RowKit
end Go.Proofs.YtfoeefaamjknpaaGreatDoor
namespace Go.Proofs.YtfoeefaamjknpaaGreatDoor
open Go Go.Av Go.RowKit
end Go.Proofs.YtfoeefaamjknpaaGreatDoor
namespace Go.Proofs.YtfoeefaamjknpaaGreatDoor
open Go Go.Av Go.RowKit
end Go.Proofs.YtfoeefaamjknpaaGreatDoor
namespace Go.Proofs.YtfoeefaamjknpaaGreatDoor
open Go Go.Av Go.RowKit
theorem ddF_len : ∀ (k u : Nat), (ddF k u).length <= k + 1
 | 0, _ => Nat.le_refl _
 | k + 1, u => by
  have := ddF_len k (u / 10)
  rw [ddF]
  split
  · simp
  · rw [List.length_append, List.length_singleton]; omega
theorem dd_len {n : Nat} (h : n < 1000000000) : (Lib.decDigits n).length <= 10 := by
 rw [<- ddF_eq 9 n (by omega)]
 exact ddF_len 9 n
theorem dd_step {m : Nat} (h : m ≠ 0) : Lib.decDigits m = (if m / 10 = 0 then [] else Lib.decDigits (m / 10)) ++ [UInt8.ofNat (48 + m % 10)] := by
 rw [Lib.decDigits]
 by_cases q : m < 10
 · rw [dif_pos q, if_pos (by omega), Nat.mod_eq_of_lt q]
   rfl
 · rw [dif_neg q, if_neg (by omega)]
end Go.Proofs.YtfoeefaamjknpaaGreatDoor
namespace Go.Proofs.YtfoeefaamjknpaaGreatDoor
open Go Go.Av Go.RowKit
theorem c_ofH {f : Nat} {args : List AV} {r : AV} (fn : Func) (B : BA) (ms : List (Option (List GS × AS × Prop))) (hf : Tryz.prog.funcs[f]? = some fn) (hb : fn.body = some (bodyOf fn)) (hn : (fn.name == "runtime.NumGoroutine") = false) (hlen : Nat.ble args.length fn.ntmps = true)
 {q : Prop} (hq : q) (h : partsH (bodyE Tryz.prog T0 G0 fn.ntmps []) B (retQ T0 fn fun v => v = r) (flatSeq (bodyOf fn)) ms (startS args) = q) : PCall Tryz.prog G0 f args r :=
 call_of_partsH tok mix hf hb hn (Nat.le_of_ble_eq_true hlen) B ms (vc_of hq h)
end Go.Proofs.YtfoeefaamjknpaaGreatDoor
namespace Go.Proofs.YtfoeefaamjknpaaGreatDoor
open Go Go.Av Go.RowKit
def la0 (l : LA) : Nat -> Option LA := fun i => if i.beq 0 then some l else none
def spW : Nat -> List AV -> Option AV
 | 173, [.int _ x] => some (.i (fO x))
 | 106, [.agg [.int _ x, .int _ y], .int _ m] => some (.i (fEnds x y m))
 | 115, [.agg [.int _ x, .int _ y], .int _ m] => some (.i (fEnds x y m))
 | 175, [.agg [.int _ x, .int _ y]] => some (.i (fI ⟨x, y⟩))
 | 205, [.int _ x, .int _ lo, .int _ hi] => some (.i (sWithin x lo hi))
 | 216, [.bool b, .int _ e] => some (.i (sWhen b e))
 | 33, [.int _ x] => some (.i (sWithin x 0 10000000000000))
 | 105, [.int _ x] => some (.i (sWithin x 0 10000000000000))
 | 190, [.int _ x] => some (.i (sWithin x 0 10000000000000))
 | n, x => spN n x
theorem c173 (x:Int)  : PCall Tryz.prog G0 173 [.i x] (.i (fO x)) := by
 have key :
  PCall Tryz.prog G0 118 [AV.i x, AV.i 0, AV.i 100000000] (AV.i (sWithin x (0:Int) (100000000:Int))) ∧ AV.i (sWithin x (0:Int) (100000000:Int)) = AV.i (fO x) := by
   refine ⟨(c118 _ _ _), ?_⟩
   · first | rfl | trivial
 exact c_of Tryz.f173 (mkB spW 173 [] noLa) (by kernel_rfl) (by kernel_rfl) (by kernel_rfl) (by kernel_rfl) key (by kernel_rfl)
def laMp (enc : Int -> List AV) (F : AV) (f : Int -> Int) (l : List Int) : LA := {
 pre := [.own 5 34 1, .reno 5 1, .keep [1, 5, 8, 9, 10] [1], .bound 2], post := [.reno 5 1, .keep [1, 5, 8, 9, 10] [1], .bound 2]
 Gh := Nat
 st := fun i => ⟨[(1, F), (5, .own 1 (((l.take i).map f).map encI).length), (8, .sl 1 (l.map enc)), (9, .i (l.map enc).length), (10, .i i)], [(1, .buf 34 1 (((l.take i).map f).map encI))], 2⟩
 ok := fun i => i <= l.length
 ms := fun i => l.length - i }
theorem c172 (l : List Int) (hl : l.length <= 1000) : PCall Tryz.prog G0 172 [.sl 1 (l.map encI), .fn (.func 173) [] []] (.fresh 34 1 ((l.map fO).map encI)) := by
 have key :
  (∃ (g:Nat), g <= l.length ∧ AS.mk [(1, AV.fn (Fn.func 173) [] []), (5, AV.own 1 0), (8, AV.sl 1 (List.map encI l)), (9, AV.i (↑(List.map encI l).length : Int)), (10, AV.i 0)] [(1, ABlk.buf 34 1 [])] 2 = AS.mk [(1, AV.fn (Fn.func
  173) [] []), (5, AV.own 1 (List.map encI (List.map fO (List.take g l))).length), (8, AV.sl 1 (List.map encI l)), (9, AV.i (↑(List.map encI l).length : Int)), (10, AV.i (g:Int))] [(1, ABlk.buf 34 1 (List.map encI (List.map fO
  (List.take g l))))] 2) ∧ ∀ (g:Nat), g <= l.length -> (decide ((g:Int) < (↑(List.map encI l).length : Int)) = true -> (0:Int) <= (g:Int) ∧ (g:Int) < (↑(List.map encI l).length : Int) ∧ nth (nthR (List.map encI l) (↑g :
  Int).toNat) 0 = AV.i (l.getD (g:Int).toNat default) ∧ (List.map encI (List.map fO (List.take g l))).length + 1 <= 9223372036854775807 ∧ ((List.map encI (List.map fO (List.take g l))).length + 1) * 8 <= 140737488355328 ∧ PCall
  Tryz.prog G0 173 [AV.i (l.getD (g:Int).toNat default)] (AV.i (fO (l.getD (g:Int).toNat default))) ∧ In64 ((g:Int) + 1) ∧ ∃ (g' : Nat), g' <= l.length ∧ l.length - g' < l.length - g ∧ AS.mk [(1, AV.fn (Fn.func 173) [] []),
  (5, AV.own 1 ((List.map encI (List.map fO (List.take g l))).length + 1)), (8, AV.sl 1 (List.map encI l)), (9, AV.i (↑(List.map encI l).length : Int)), (10, AV.i ((g:Int) + 1))] [(1, ABlk.buf 34 1 (List.map encI (List.map fO
  (List.take g l)) ++ [[AV.i (fO (l.getD (g:Int).toNat default))]]))] 2 = AS.mk [(1, AV.fn (Fn.func 173) [] []), (5, AV.own 1 (List.map encI (List.map fO (List.take g' l))).length), (8, AV.sl 1 (List.map encI l)), (9, AV.i
  (↑(List.map encI l).length : Int)), (10, AV.i (↑g' : Int))] [(1, ABlk.buf 34 1 (List.map encI (List.map fO (List.take g' l))))] 2) ∧ (decide ((g:Int) < (↑(List.map encI l).length : Int)) = false -> AV.fresh 34 1 (List.map encI
  (List.map fO (List.take g l))) = AV.fresh 34 1 (List.map encI (List.map fO l))) := by
   have hlm : (List.map encI l).length = l.length := List.length_map _
   have : (List.map encI l).length = l.length := by simp only [List.length_map]
   refine ⟨⟨0, by omega, rfl⟩, fun g hg => ⟨fun hd => ?_, fun hd => ?_⟩⟩
   · have hlt : g < l.length := by have h9 := of_decide_eq_true hd; have h8 := hg; (try simp only [List.length_map] at h8 h9); omega
     have : (List.map encI (List.map fO (List.take g l))).length = g := by simp only [List.length_map, List.length_take]; omega
     try rw [show (g:Int).toNat = g from Int.toNat_natCast g]
     refine ⟨(by omega), (by omega), congrArg (fun r => nth r 0) (row_at encI hlt), (by omega), (by omega), (c173 _), (by unfold In64; omega), ⟨g + 1, by omega, by omega, ?_⟩⟩
     · first | (rw [<- take_succ_map _ _ hlt, List.length_append]; rfl) | (rw [<- take_succ _ hlt, List.length_append]; rfl)
   · have hge : g = l.length := by have h9 := of_decide_eq_false hd; have h8 := hg; (try simp only [List.length_map] at h8 h9); omega
     subst hge
     exact (by rw [List.take_length])
 exact c_of Tryz.f172 (fzB (mkB spW 172 [(4, 1, rdL 1 encI l 1 false)] (la0 (laMp encI (.fn (.func 173) [] []) fO l)))) (by kernel_rfl) (by kernel_rfl) (by kernel_rfl) (by kernel_rfl) key (by kernel_rfl)
theorem c106 (x y m : Int)  : PCall Tryz.prog G0 106 [.agg [.i x, .i y], .i m] (.i (fEnds x y m)) := by
 have key :
  PCall Tryz.prog G0 118 [AV.i x, AV.i 0, AV.i m] (AV.i (sWithin x (0:Int) m)) ∧ PCall Tryz.prog G0 118 [AV.i y, AV.i 0, AV.i m] (AV.i (sWithin y (0:Int) m)) ∧ PCall Tryz.prog G0 116 [AV.bool (decide (x > y)), AV.i 11] (AV.i
  (sWhen (decide (x > y)) (11:Int))) ∧ PCall Tryz.prog G0 104 [AV.sl 1 [[AV.i (sWithin x (0:Int) m)], [AV.i (sWithin y (0:Int) m)], [AV.i (sWhen (decide (x > y)) (11:Int))]]] (AV.i (sFirst [hdI [AV.i (sWithin x (0:Int) m)],
  hdI [AV.i (sWithin y (0:Int) m)], hdI [AV.i (sWhen (decide (x > y)) (11:Int))]])) ∧ AV.i (sFirst [hdI [AV.i (sWithin x (0:Int) m)], hdI [AV.i (sWithin y (0:Int) m)], hdI [AV.i (sWhen (decide (x > y)) (11:Int))]]) = AV.i
  (fEnds x y m) := by
   refine ⟨(c118 _ _ _), (c118 _ _ _), (c116 _ _), (c104 [_, _, _] (by simp)), ?_⟩
   · first | rfl | trivial
 exact c_of Tryz.f106 (mkB spW 106 [] noLa) (by kernel_rfl) (by kernel_rfl) (by kernel_rfl) (by kernel_rfl) key (by kernel_rfl)
theorem c115 (x y m : Int)  : PCall Tryz.prog G0 115 [.agg [.i x, .i y], .i m] (.i (fEnds x y m)) := by
 have key :
  PCall Tryz.prog G0 81 [AV.i x, AV.i 0, AV.i m] (AV.i (sWithin x (0:Int) m)) ∧ PCall Tryz.prog G0 81 [AV.i y, AV.i 0, AV.i m] (AV.i (sWithin y (0:Int) m)) ∧ PCall Tryz.prog G0 109 [AV.bool (decide (x > y)), AV.i 11] (AV.i (sWhen
  (decide (x > y)) (11:Int))) ∧ PCall Tryz.prog G0 107 [AV.sl 1 [[AV.i (sWithin x (0:Int) m)], [AV.i (sWithin y (0:Int) m)], [AV.i (sWhen (decide (x > y)) (11:Int))]]] (AV.i (sFirst [hdI [AV.i (sWithin x (0:Int) m)], hdI
  [AV.i (sWithin y (0:Int) m)], hdI [AV.i (sWhen (decide (x > y)) (11:Int))]])) ∧ AV.i (sFirst [hdI [AV.i (sWithin x (0:Int) m)], hdI [AV.i (sWithin y (0:Int) m)], hdI [AV.i (sWhen (decide (x > y)) (11:Int))]]) = AV.i
  (fEnds x y m) := by
   refine ⟨(c81 _ _ _), (c81 _ _ _), (c109 _ _), (c107 [_, _, _] (by simp)), ?_⟩
   · first | rfl | trivial
 exact c_of Tryz.f115 (mkB spW 115 [] noLa) (by kernel_rfl) (by kernel_rfl) (by kernel_rfl) (by kernel_rfl) key (by kernel_rfl)
theorem c175 (x : Iv)  : PCall Tryz.prog G0 175 [.agg (encIv x)] (.i (fI x)) := by
 have key :
  PCall Tryz.prog G0 106 [AV.agg (encIv x), AV.i 1000] (AV.i (fEnds x.a x.b (1000:Int))) ∧ AV.i (fEnds x.a x.b (1000:Int)) = AV.i (fI x) := by
   refine ⟨(c106 _ _ _), ?_⟩
   · first | rfl | trivial
 exact c_of Tryz.f175 (mkB spW 175 [] noLa) (by kernel_rfl) (by kernel_rfl) (by kernel_rfl) (by kernel_rfl) key (by kernel_rfl)
def la174 (l : List Iv) : LA := {
 pre := [.own 5 34 1, .reno 5 1, .keep [1, 5, 8, 9, 10] [1], .bound 2], post := [.reno 5 1, .keep [1, 5, 8, 9, 10] [1], .bound 2]
 Gh := Nat
 st := fun i => ⟨[(1, .fn (.func 175) [] []), (5, .own 1 (((l.take i).map fI).map encI).length), (8, .sl 2 (l.map encIv)), (9, .i (l.map encIv).length), (10, .i i)], [(1, .buf 34 1 (((l.take i).map fI).map encI))], 2⟩
 ok := fun i => i <= l.length
 ms := fun i => l.length - i }
theorem c174 (l : List Iv) (hl : l.length <= 1000) : PCall Tryz.prog G0 174 [.sl 2 (l.map encIv), .fn (.func 175) [] []] (.fresh 34 1 ((l.map fI).map encI)) := by
 have key :
  (∃ (g:Nat), g <= l.length ∧ AS.mk [(1, AV.fn (Fn.func 175) [] []), (5, AV.own 1 0), (8, AV.sl 2 (List.map encIv l)), (9, AV.i (↑(List.map encIv l).length : Int)), (10, AV.i 0)] [(1, ABlk.buf 34 1 [])] 2 = AS.mk [(1, AV.fn (Fn.func
  175) [] []), (5, AV.own 1 (List.map encI (List.map fI (List.take g l))).length), (8, AV.sl 2 (List.map encIv l)), (9, AV.i (↑(List.map encIv l).length : Int)), (10, AV.i (g:Int))] [(1, ABlk.buf 34 1 (List.map encI (List.map fI
  (List.take g l))))] 2) ∧ ∀ (g:Nat), g <= l.length -> (decide ((g:Int) < (↑(List.map encIv l).length : Int)) = true -> (0:Int) <= (g:Int) ∧ (g:Int) < (↑(List.map encIv l).length : Int) ∧ AV.agg (nthR (List.map encIv l) (↑g
  : Int).toNat) = AV.agg (encIv (l.getD (g:Int).toNat default)) ∧ (List.map encI (List.map fI (List.take g l))).length + 1 <= 9223372036854775807 ∧ ((List.map encI (List.map fI (List.take g l))).length + 1) * 8 <= 140737488355328 ∧
  PCall Tryz.prog G0 175 [AV.agg (encIv (l.getD (g:Int).toNat default))] (AV.i (fI (Iv.mk (l.getD (g:Int).toNat default).a (l.getD (g:Int).toNat default).b))) ∧ In64 ((g:Int) + 1) ∧ ∃ (g' : Nat), g' <= l.length ∧ l.length
  - g' < l.length - g ∧ AS.mk [(1, AV.fn (Fn.func 175) [] []), (5, AV.own 1 ((List.map encI (List.map fI (List.take g l))).length + 1)), (8, AV.sl 2 (List.map encIv l)), (9, AV.i (↑(List.map encIv l).length : Int)), (10, AV.i ((↑g :
  Int) + 1))] [(1, ABlk.buf 34 1 (List.map encI (List.map fI (List.take g l)) ++ [[AV.i (fI (Iv.mk (l.getD (g:Int).toNat default).a (l.getD (g:Int).toNat default).b))]]))] 2 = AS.mk [(1, AV.fn (Fn.func 175) [] []), (5, AV.own 1
  (List.map encI (List.map fI (List.take g' l))).length), (8, AV.sl 2 (List.map encIv l)), (9, AV.i (↑(List.map encIv l).length : Int)), (10, AV.i (↑g' : Int))] [(1, ABlk.buf 34 1 (List.map encI (List.map fI (List.take g' l))))] 2) ∧
  (decide ((g:Int) < (↑(List.map encIv l).length : Int)) = false -> AV.fresh 34 1 (List.map encI (List.map fI (List.take g l))) = AV.fresh 34 1 (List.map encI (List.map fI l))) := by
   have hlm : (List.map encIv l).length = l.length := List.length_map _
   have : (List.map encIv l).length = l.length := by simp only [List.length_map]
   refine ⟨⟨0, by omega, rfl⟩, fun g hg => ⟨fun hd => ?_, fun hd => ?_⟩⟩
   · have hlt : g < l.length := by have h9 := of_decide_eq_true hd; have h8 := hg; (try simp only [List.length_map] at h8 h9); omega
     have : (List.map encI (List.map fI (List.take g l))).length = g := by simp only [List.length_map, List.length_take]; omega
     try rw [show (g:Int).toNat = g from Int.toNat_natCast g]
     refine ⟨(by omega), (by omega), congrArg AV.agg (row_at encIv hlt), (by omega), (by omega), (c175 _), (by unfold In64; omega), ⟨g + 1, by omega, by omega, ?_⟩⟩
     · first | (rw [<- take_succ_map _ _ hlt, List.length_append]; rfl) | (rw [<- take_succ _ hlt, List.length_append]; rfl)
   · have hge : g = l.length := by have h9 := of_decide_eq_false hd; have h8 := hg; (try simp only [List.length_map] at h8 h9); omega
     subst hge
     exact (by rw [List.take_length])
 exact c_of Tryz.f174 (fzB (mkB spW 174 [(4, 1, rdL 2 encIv l 2 true)] (la0 (la174 l)))) (by kernel_rfl) (by kernel_rfl) (by kernel_rfl) (by kernel_rfl) key (by kernel_rfl)
def sp121 (lo hi : Nat -> Int) : Nat -> List AV -> Option AV
 | 174, _ => some (.fresh 34 1 (((pL lo hi).map fI).map encI))
 | n, x => spW n x
theorem c121 (lo hi : Nat -> Int)  : PCall Tryz.prog G0 121 [.agg (encPa lo hi)] (.i (fPa lo hi)) := by
 have key :
  PCall Tryz.prog G0 174 [AV.sl 2 [[AV.i (lo 0), AV.i (hi 0)], [AV.i (lo 1), AV.i (hi 1)], [AV.i (lo 2), AV.i (hi 2)], [AV.i (lo 3), AV.i (hi 3)], [AV.i (lo 4), AV.i (hi 4)], [AV.i (lo 5), AV.i (hi 5)], [AV.i (lo 6), AV.i (hi 6)],
  [AV.i (lo 7), AV.i (hi 7)]], AV.fn (Fn.func 175) [] []] (AV.fresh 34 1 [[AV.i (fI (Iv.mk (lo 0) (hi 0)))], [AV.i (fI (Iv.mk (lo 1) (hi 1)))], [AV.i (fI (Iv.mk (lo 2) (hi 2)))], [AV.i (fI (Iv.mk (lo 3) (hi 3)))], [AV.i (fI (Iv.mk
  (lo 4) (hi 4)))], [AV.i (fI (Iv.mk (lo 5) (hi 5)))], [AV.i (fI (Iv.mk (lo 6) (hi 6)))], [AV.i (fI (Iv.mk (lo 7) (hi 7)))]]) ∧ PCall Tryz.prog G0 104 [AV.sl 1 [[AV.i (fI (Iv.mk (lo 0) (hi 0)))], [AV.i (fI (Iv.mk (lo 1) (hi 1)))],
  [AV.i (fI (Iv.mk (lo 2) (hi 2)))], [AV.i (fI (Iv.mk (lo 3) (hi 3)))], [AV.i (fI (Iv.mk (lo 4) (hi 4)))], [AV.i (fI (Iv.mk (lo 5) (hi 5)))], [AV.i (fI (Iv.mk (lo 6) (hi 6)))], [AV.i (fI (Iv.mk (lo 7) (hi 7)))]]] (AV.i (sFirst [hdI
  [AV.i (fI (Iv.mk (lo 0) (hi 0)))], hdI [AV.i (fI (Iv.mk (lo 1) (hi 1)))], hdI [AV.i (fI (Iv.mk (lo 2) (hi 2)))], hdI [AV.i (fI (Iv.mk (lo 3) (hi 3)))], hdI [AV.i (fI (Iv.mk (lo 4) (hi 4)))], hdI [AV.i (fI (Iv.mk (lo 5) (hi 5)))],
  hdI [AV.i (fI (Iv.mk (lo 6) (hi 6)))], hdI [AV.i (fI (Iv.mk (lo 7) (hi 7)))]])) ∧ AV.i (sFirst [hdI [AV.i (fI (Iv.mk (lo 0) (hi 0)))], hdI [AV.i (fI (Iv.mk (lo 1) (hi 1)))], hdI [AV.i (fI (Iv.mk (lo 2) (hi 2)))], hdI [AV.i (fI
  (Iv.mk (lo 3) (hi 3)))], hdI [AV.i (fI (Iv.mk (lo 4) (hi 4)))], hdI [AV.i (fI (Iv.mk (lo 5) (hi 5)))], hdI [AV.i (fI (Iv.mk (lo 6) (hi 6)))], hdI [AV.i (fI (Iv.mk (lo 7) (hi 7)))]]) = AV.i (fPa lo hi) := by
   refine ⟨(c174 (pL lo hi) (Nat.le_of_ble_eq_true rfl)), (c104 [_, _, _, _, _, _, _, _] (by simp)), ?_⟩
   · first | rfl | trivial
 exact c_of Tryz.f121 (fzB (mkB (sp121 lo hi) 121 [] noLa)) (by kernel_rfl) (by kernel_rfl) (by kernel_rfl) (by kernel_rfl) key (by kernel_rfl)
def sp120 (w : Wn) : Nat -> List AV -> Option AV
 | 172, _ => some (.fresh 34 1 (((oL w.o).map fO).map encI))
 | 121, _ => some (.i (fPa w.lo w.hi))
 | n, x => spW n x
theorem c120 (w : Wn)  : PCall Tryz.prog G0 120 [.agg (encWn w)] (.i (fWn w)) := by
 have key :
  PCall Tryz.prog G0 172 [AV.sl 1 [[AV.i w.o0], [AV.i w.o1], [AV.i w.o2], [AV.i w.o3], [AV.i w.o4], [AV.i w.o5], [AV.i w.o6], [AV.i w.o7]], AV.fn (Fn.func 173) [] []] (AV.fresh 34 1 [[AV.i (fO (w.o 0))], [AV.i (fO (w.o 1))], [AV.i
  (fO (w.o 2))], [AV.i (fO (w.o 3))], [AV.i (fO (w.o 4))], [AV.i (fO (w.o 5))], [AV.i (fO (w.o 6))], [AV.i (fO (w.o 7))]]) ∧ PCall Tryz.prog G0 104 [AV.sl 1 [[AV.i (fO (w.o 0))], [AV.i (fO (w.o 1))], [AV.i (fO (w.o 2))], [AV.i (fO
  (w.o 3))], [AV.i (fO (w.o 4))], [AV.i (fO (w.o 5))], [AV.i (fO (w.o 6))], [AV.i (fO (w.o 7))]]] (AV.i (sFirst [hdI [AV.i (fO (w.o 0))], hdI [AV.i (fO (w.o 1))], hdI [AV.i (fO (w.o 2))], hdI [AV.i (fO (w.o 3))], hdI [AV.i (fO (w.o
  4))], hdI [AV.i (fO (w.o 5))], hdI [AV.i (fO (w.o 6))], hdI [AV.i (fO (w.o 7))]])) ∧ PCall Tryz.prog G0 118 [AV.i w.ar, AV.i 1, AV.i 100] (AV.i (sWithin w.ar (1:Int) (100:Int))) ∧ PCall Tryz.prog G0 121 [AV.agg [AV.i w.p0, AV.i
  w.p1, AV.i w.p2, AV.i w.p3, AV.i w.p4, AV.i w.p5, AV.i w.p6, AV.i w.p7, AV.i w.p8, AV.i w.p9, AV.i w.p10, AV.i w.p11, AV.i w.p12, AV.i w.p13, AV.i w.p14, AV.i w.p15]] (AV.i (fPa w.lo w.hi)) ∧ PCall Tryz.prog G0 104 [AV.sl 1 [[AV.i
  (sFirst [hdI [AV.i (fO (w.o 0))], hdI [AV.i (fO (w.o 1))], hdI [AV.i (fO (w.o 2))], hdI [AV.i (fO (w.o 3))], hdI [AV.i (fO (w.o 4))], hdI [AV.i (fO (w.o 5))], hdI [AV.i (fO (w.o 6))], hdI [AV.i (fO (w.o 7))]])], [AV.i (sWithin w.ar
  (1:Int) (100:Int))], [AV.i (fPa w.lo w.hi)]]] (AV.i (sFirst [hdI [AV.i (sFirst [hdI [AV.i (fO (w.o 0))], hdI [AV.i (fO (w.o 1))], hdI [AV.i (fO (w.o 2))], hdI [AV.i (fO (w.o 3))], hdI [AV.i (fO (w.o 4))], hdI [AV.i (fO (w.o
  5))], hdI [AV.i (fO (w.o 6))], hdI [AV.i (fO (w.o 7))]])], hdI [AV.i (sWithin w.ar (1:Int) (100:Int))], hdI [AV.i (fPa w.lo w.hi)]])) ∧ AV.i (sFirst [hdI [AV.i (sFirst [hdI [AV.i (fO (w.o 0))], hdI [AV.i (fO (w.o 1))], hdI
  [AV.i (fO (w.o 2))], hdI [AV.i (fO (w.o 3))], hdI [AV.i (fO (w.o 4))], hdI [AV.i (fO (w.o 5))], hdI [AV.i (fO (w.o 6))], hdI [AV.i (fO (w.o 7))]])], hdI [AV.i (sWithin w.ar (1:Int) (100:Int))], hdI [AV.i (fPa w.lo w.hi)]]) =
  AV.i (fWn w) := by
   refine ⟨(c172 (oL w.o) (Nat.le_of_ble_eq_true rfl)), (c104 [_, _, _, _, _, _, _, _] (by simp)), (c118 _ _ _), (c121 w.lo w.hi), (c104 [_, _, _] (by simp)), ?_⟩
   · first | rfl | trivial
 exact c_of Tryz.f120 (fzB (mkB (sp120 w) 120 [] noLa)) (by kernel_rfl) (by kernel_rfl) (by kernel_rfl) (by kernel_rfl) key (by kernel_rfl)
def la119 (l : List Wn) : LA := {
 pre := [.own 5 34 1, .reno 5 1, .keep [1, 5, 8, 9, 10] [1], .bound 2], post := [.reno 5 1, .keep [1, 5, 8, 9, 10] [1], .bound 2]
 Gh := Nat
 st := fun i => ⟨[(1, .fn (.func 120) [] []), (5, .own 1 (((l.take i).map fWn).map encI).length), (8, .sl 25 (l.map encWn)), (9, .i (l.map encWn).length), (10, .i i)], [(1, .buf 34 1 (((l.take i).map fWn).map encI))], 2⟩
 ok := fun i => i <= l.length
 ms := fun i => l.length - i }
def sp119 (_ : List Wn) : Nat -> List AV -> Option AV
 | 120, [.agg c] => some (.i (fWn (decWn c)))
 | n, x => spW n x
theorem c119 (l : List Wn) (hl : l.length <= 1000) : PCall Tryz.prog G0 119 [.sl 25 (l.map encWn), .fn (.func 120) [] []] (.fresh 34 1 ((l.map fWn).map encI)) := by
 have key :
  (∃ (g:Nat), g <= l.length ∧ AS.mk [(1, AV.fn (Fn.func 120) [] []), (5, AV.own 1 0), (8, AV.sl 25 (List.map encWn l)), (9, AV.i (↑(List.map encWn l).length : Int)), (10, AV.i 0)] [(1, ABlk.buf 34 1 [])] 2 = AS.mk [(1, AV.fn
  (Fn.func 120) [] []), (5, AV.own 1 (List.map encI (List.map fWn (List.take g l))).length), (8, AV.sl 25 (List.map encWn l)), (9, AV.i (↑(List.map encWn l).length : Int)), (10, AV.i (g:Int))] [(1, ABlk.buf 34 1 (List.map encI
  (List.map fWn (List.take g l))))] 2) ∧ ∀ (g:Nat), g <= l.length -> (decide ((g:Int) < (↑(List.map encWn l).length : Int)) = true -> (0:Int) <= (g:Int) ∧ (g:Int) < (↑(List.map encWn l).length : Int) ∧ AV.agg (nthR (List.map
  encWn l) (g:Int).toNat) = AV.agg (encWn (l.getD (g:Int).toNat default)) ∧ (List.map encI (List.map fWn (List.take g l))).length + 1 <= 9223372036854775807 ∧ ((List.map encI (List.map fWn (List.take g l))).length + 1) * 8 ≤
  140737488355328 ∧ PCall Tryz.prog G0 120 [AV.agg (encWn (l.getD (g:Int).toNat default))] (AV.i (fWn (decWn (encWn (l.getD (g:Int).toNat default))))) ∧ In64 ((g:Int) + 1) ∧ ∃ (g' : Nat), g' <= l.length ∧ l.length - g' <
  l.length - g ∧ AS.mk [(1, AV.fn (Fn.func 120) [] []), (5, AV.own 1 ((List.map encI (List.map fWn (List.take g l))).length + 1)), (8, AV.sl 25 (List.map encWn l)), (9, AV.i (↑(List.map encWn l).length : Int)), (10, AV.i ((g:Int)
  + 1))] [(1, ABlk.buf 34 1 (List.map encI (List.map fWn (List.take g l)) ++ [[AV.i (fWn (decWn (encWn (l.getD (g:Int).toNat default))))]]))] 2 = AS.mk [(1, AV.fn (Fn.func 120) [] []), (5, AV.own 1 (List.map encI (List.map fWn
  (List.take g' l))).length), (8, AV.sl 25 (List.map encWn l)), (9, AV.i (↑(List.map encWn l).length : Int)), (10, AV.i (↑g' : Int))] [(1, ABlk.buf 34 1 (List.map encI (List.map fWn (List.take g' l))))] 2) ∧ (decide ((g:Int) <
  (↑(List.map encWn l).length : Int)) = false -> AV.fresh 34 1 (List.map encI (List.map fWn (List.take g l))) = AV.fresh 34 1 (List.map encI (List.map fWn l))) := by
   have hlm : (List.map encWn l).length = l.length := List.length_map _
   have : (List.map encWn l).length = l.length := by simp only [List.length_map]
   refine ⟨⟨0, by omega, rfl⟩, fun g hg => ⟨fun hd => ?_, fun hd => ?_⟩⟩
   · have hlt : g < l.length := by have h9 := of_decide_eq_true hd; have h8 := hg; (try simp only [List.length_map] at h8 h9); omega
     have : (List.map encI (List.map fWn (List.take g l))).length = g := by simp only [List.length_map, List.length_take]; omega
     try rw [show (g:Int).toNat = g from Int.toNat_natCast g]
     refine ⟨(by omega), (by omega), congrArg AV.agg (row_at encWn hlt), (by omega), (by omega), (c120 _), (by unfold In64; omega), ⟨g + 1, by omega, by omega, ?_⟩⟩
     · first | (rw [<- take_succ_map _ _ hlt, List.length_append]; rfl) | (rw [<- take_succ _ hlt, List.length_append]; rfl)
   · have hge : g = l.length := by have h9 := of_decide_eq_false hd; have h8 := hg; (try simp only [List.length_map] at h8 h9); omega
     subst hge
     exact (by rw [List.take_length])
 exact c_of Tryz.f119 (fzB (mkB (sp119 l) 119 [(4, 1, rdL 25 encWn l 25 true)] (la0 (la119 l)))) (by kernel_rfl) (by kernel_rfl) (by kernel_rfl) (by kernel_rfl) key (by kernel_rfl)
theorem fHd_m (h : Hm) : fHd h = sFirst [sWhen (!sName h.nm) 8, sWithin h.pe 0 1000, sWhen (((List.map encWn h.ws).length : Int) == 0) 12, sWhen (decide (((List.map encWn h.ws).length : Int) > 8)) 5] := by
 unfold fHd
 rw [List.length_map]
def sp38 (h : Hm) : Nat -> List AV -> Option AV
 | 119, _ => some (.fresh 34 1 ((h.ws.map fWn).map encI))
 | n, x => spW n x
theorem c38 (h : Hm) (hn : h.nm.length <= 1000000) (hl : h.ws.length <= 1000) : PCall Tryz.prog G0 38 [.agg (encHm h)] (.i (fHm h)) := by
 have key :
  PCall Tryz.prog G0 117 [AV.str h.nm] (AV.bool (sName h.nm)) ∧ PCall Tryz.prog G0 116 [AV.bool !sName h.nm, AV.i 8] (AV.i (sWhen (!sName h.nm) (8:Int))) ∧ PCall Tryz.prog G0 118 [AV.i h.pe, AV.i 0, AV.i 1000] (AV.i (sWithin h.pe
  (0:Int) (1000:Int))) ∧ PCall Tryz.prog G0 116 [AV.bool ((↑(List.map encWn h.ws).length : Int) == 0), AV.i 12] (AV.i (sWhen ((↑(List.map encWn h.ws).length : Int) == 0) (12:Int))) ∧ PCall Tryz.prog G0 116 [AV.bool (decide
  ((↑(List.map encWn h.ws).length : Int) > 8)), AV.i 5] (AV.i (sWhen (decide ((↑(List.map encWn h.ws).length : Int) > 8)) (5:Int))) ∧ PCall Tryz.prog G0 104 [AV.sl 1 [[AV.i (sWhen (!sName h.nm) (8:Int))], [AV.i (sWithin h.pe (0 :
  Int) (1000:Int))], [AV.i (sWhen ((↑(List.map encWn h.ws).length : Int) == 0) (12:Int))], [AV.i (sWhen (decide ((↑(List.map encWn h.ws).length : Int) > 8)) (5:Int))]]] (AV.i (sFirst [hdI [AV.i (sWhen (!sName h.nm) (8:Int))],
  hdI [AV.i (sWithin h.pe (0:Int) (1000:Int))], hdI [AV.i (sWhen ((↑(List.map encWn h.ws).length : Int) == 0) (12:Int))], hdI [AV.i (sWhen (decide ((↑(List.map encWn h.ws).length : Int) > 8)) (5:Int))]])) ∧ ((sFirst [hdI
  [AV.i (sWhen (!sName h.nm) (8:Int))], hdI [AV.i (sWithin h.pe (0:Int) (1000:Int))], hdI [AV.i (sWhen ((↑(List.map encWn h.ws).length : Int) == 0) (12:Int))], hdI [AV.i (sWhen (decide ((↑(List.map encWn h.ws).length : Int) >
  8)) (5:Int))]] != 0) = true -> AV.i (sFirst [hdI [AV.i (sWhen (!sName h.nm) (8:Int))], hdI [AV.i (sWithin h.pe (0:Int) (1000:Int))], hdI [AV.i (sWhen ((↑(List.map encWn h.ws).length : Int) == 0) (12:Int))], hdI [AV.i
  (sWhen (decide ((↑(List.map encWn h.ws).length : Int) > 8)) (5:Int))]]) = AV.i (fHm h)) ∧ ((sFirst [hdI [AV.i (sWhen (!sName h.nm) (8:Int))], hdI [AV.i (sWithin h.pe (0:Int) (1000:Int))], hdI [AV.i (sWhen ((↑(List.map encWn
  h.ws).length : Int) == 0) (12:Int))], hdI [AV.i (sWhen (decide ((↑(List.map encWn h.ws).length : Int) > 8)) (5:Int))]] != 0) = false -> PCall Tryz.prog G0 119 [AV.sl 25 (List.map encWn h.ws), AV.fn (Fn.func 120) [] []] (AV.fresh
  34 1 (List.map encI (List.map fWn h.ws))) ∧ PCall Tryz.prog G0 104 [AV.sl 1 (List.map encI (List.map fWn h.ws))] (AV.i (sFirst (List.map hdI (List.map encI (List.map fWn h.ws))))) ∧ AV.i (sFirst (List.map hdI (List.map encI
  (List.map fWn h.ws)))) = AV.i (fHm h)) := by
   have hlm : (List.map encWn h.ws).length = h.ws.length := List.length_map _
   have : (List.map encWn h.ws).length = h.ws.length := by simp only [List.length_map]
   refine ⟨(c117 _ hn), (c116 _ _), (c118 _ _ _), (c116 _ _), (c116 _ _), (c104 [_, _, _, _] (by simp)), fun h1 => ?_, fun h1 => ⟨(c119 h.ws hl), ((by rw [hd_encI]; exact c104 _ (by simp; omega))), ?_⟩⟩
   · have e : fHm h = fHd h := ls_first (by rw [fHd_m]; exact h1)
     rw [e, fHd_m]
     rfl
   · have h2 : (fHd h != 0) = false := by rw [fHd_m]; exact h1
     rw [hd_encI, <- scan_getG]
     exact congrArg AV.i (if_neg (by rw [h2]; decide)).symm
 exact c_of Tryz.f38 (fzB (mkB (sp38 h) 38 [] noLa)) (by kernel_rfl) (by kernel_rfl) (by kernel_rfl) (by kernel_rfl) key (by kernel_rfl)
theorem c112 (lo hi : Nat -> Int)  : PCall Tryz.prog G0 112 [.agg (encPa lo hi)] (.i (fPa lo hi)) := by
 have key :
  (0:Int) <= 0 ∧ (0:Int) < (8:Int) ∧ PCall Tryz.prog G0 115 [AV.agg [AV.i (lo 0), AV.i (hi 0)], AV.i 1000] (AV.i (fEnds (lo 0) (hi 0) (1000:Int))) ∧ ((fEnds (lo 0) (hi 0) (1000:Int) != 0) = true -> AV.i (fEnds (lo 0) (hi 0)
  (1000:Int)) = AV.i (fPa lo hi)) ∧ ((fEnds (lo 0) (hi 0) (1000:Int) != 0) = false -> In64 ((0:Int) + 1) ∧ (0:Int) <= 0 + 1 ∧ (0:Int) + 1 < (8:Int) ∧ PCall Tryz.prog G0 115 [AV.agg [AV.i (lo 1), AV.i (hi 1)], AV.i 1000]
  (AV.i (fEnds (lo 1) (hi 1) (1000:Int))) ∧ ((fEnds (lo 1) (hi 1) (1000:Int) != 0) = true -> AV.i (fEnds (lo 1) (hi 1) (1000:Int)) = AV.i (fPa lo hi)) ∧ ((fEnds (lo 1) (hi 1) (1000:Int) != 0) = false -> In64 ((0:Int) + 1 + 1)
  ∧ (0:Int) <= 0 + 1 + 1 ∧ (0:Int) + 1 + 1 < (8:Int) ∧ PCall Tryz.prog G0 115 [AV.agg [AV.i (lo 2), AV.i (hi 2)], AV.i 1000] (AV.i (fEnds (lo 2) (hi 2) (1000:Int))) ∧ ((fEnds (lo 2) (hi 2) (1000:Int) != 0) = true -> AV.i
  (fEnds (lo 2) (hi 2) (1000:Int)) = AV.i (fPa lo hi)) ∧ ((fEnds (lo 2) (hi 2) (1000:Int) != 0) = false -> In64 ((0:Int) + 1 + 1 + 1) ∧ (0:Int) <= 0 + 1 + 1 + 1 ∧ (0:Int) + 1 + 1 + 1 < (8:Int) ∧ PCall Tryz.prog G0 115
  [AV.agg [AV.i (lo 3), AV.i (hi 3)], AV.i 1000] (AV.i (fEnds (lo 3) (hi 3) (1000:Int))) ∧ ((fEnds (lo 3) (hi 3) (1000:Int) != 0) = true -> AV.i (fEnds (lo 3) (hi 3) (1000:Int)) = AV.i (fPa lo hi)) ∧ ((fEnds (lo 3) (hi 3) (1000
  : Int) != 0) = false -> In64 ((0:Int) + 1 + 1 + 1 + 1) ∧ (0:Int) <= 0 + 1 + 1 + 1 + 1 ∧ (0:Int) + 1 + 1 + 1 + 1 < (8:Int) ∧ PCall Tryz.prog G0 115 [AV.agg [AV.i (lo 4), AV.i (hi 4)], AV.i 1000] (AV.i (fEnds (lo 4) (hi 4)
  (1000:Int))) ∧ ((fEnds (lo 4) (hi 4) (1000:Int) != 0) = true -> AV.i (fEnds (lo 4) (hi 4) (1000:Int)) = AV.i (fPa lo hi)) ∧ ((fEnds (lo 4) (hi 4) (1000:Int) != 0) = false -> In64 ((0:Int) + 1 + 1 + 1 + 1 + 1) ∧ (0:Int) ≤
  0 + 1 + 1 + 1 + 1 + 1 ∧ (0:Int) + 1 + 1 + 1 + 1 + 1 < (8:Int) ∧ PCall Tryz.prog G0 115 [AV.agg [AV.i (lo 5), AV.i (hi 5)], AV.i 1000] (AV.i (fEnds (lo 5) (hi 5) (1000:Int))) ∧ ((fEnds (lo 5) (hi 5) (1000:Int) != 0) = true
  -> AV.i (fEnds (lo 5) (hi 5) (1000:Int)) = AV.i (fPa lo hi)) ∧ ((fEnds (lo 5) (hi 5) (1000:Int) != 0) = false -> In64 ((0:Int) + 1 + 1 + 1 + 1 + 1 + 1) ∧ (0:Int) <= 0 + 1 + 1 + 1 + 1 + 1 + 1 ∧ (0:Int) + 1 + 1 + 1 + 1 + 1 + 1
  < (8:Int) ∧ PCall Tryz.prog G0 115 [AV.agg [AV.i (lo 6), AV.i (hi 6)], AV.i 1000] (AV.i (fEnds (lo 6) (hi 6) (1000:Int))) ∧ ((fEnds (lo 6) (hi 6) (1000:Int) != 0) = true -> AV.i (fEnds (lo 6) (hi 6) (1000:Int)) = AV.i (fPa
  lo hi)) ∧ ((fEnds (lo 6) (hi 6) (1000:Int) != 0) = false -> In64 ((0:Int) + 1 + 1 + 1 + 1 + 1 + 1 + 1) ∧ (0:Int) <= 0 + 1 + 1 + 1 + 1 + 1 + 1 + 1 ∧ (0:Int) + 1 + 1 + 1 + 1 + 1 + 1 + 1 < (8:Int) ∧ PCall Tryz.prog G0 115
  [AV.agg [AV.i (lo 7), AV.i (hi 7)], AV.i 1000] (AV.i (fEnds (lo 7) (hi 7) (1000:Int))) ∧ ((fEnds (lo 7) (hi 7) (1000:Int) != 0) = true -> AV.i (fEnds (lo 7) (hi 7) (1000:Int)) = AV.i (fPa lo hi)) ∧ ((fEnds (lo 7) (hi 7) (1000
  : Int) != 0) = false -> In64 ((0:Int) + 1 + 1 + 1 + 1 + 1 + 1 + 1 + 1) ∧ AV.i 0 = AV.i (fPa lo hi))))))))) := by
   refine ⟨(by omega), (by omega), (c115 _ _ _), fun h1 => ?_, fun h1 => ⟨(by unfold In64; omega), (by omega), (by omega), (c115 _ _ _), fun h2 => ?_, fun h2 => ⟨(by unfold In64; omega), (by omega), (by omega), (c115 _ _ _), fun h3 => ?_, fun h3 => ⟨(by unfold In64; omega), (by omega), (by omega), (c115 _ _ _), fun h4 => ?_, fun h4 => ⟨(by unfold In64; omega), (by omega), (by omega), (c115 _ _ _), fun h5 => ?_, fun h5 => ⟨(by unfold In64; omega), (by omega), (by omega), (c115 _ _ _), fun h6 => ?_, fun h6 => ⟨(by unfold In64; omega), (by omega), (by omega), (c115 _ _ _), fun h7 => ?_, fun h7 => ⟨(by unfold In64; omega), (by omega), (by omega), (c115 _ _ _), fun h8 => ?_, fun h8 => ⟨(by unfold In64; omega), ?_⟩⟩⟩⟩⟩⟩⟩⟩⟩
   · simp_all [fPa_u, sFirst]
   · simp_all [fPa_u, sFirst]
   · simp_all [fPa_u, sFirst]
   · simp_all [fPa_u, sFirst]
   · simp_all [fPa_u, sFirst]
   · simp_all [fPa_u, sFirst]
   · simp_all [fPa_u, sFirst]
   · simp_all [fPa_u, sFirst]
   · simp_all [fPa_u, sFirst]
 exact c_of Tryz.f112 ({ fzB (mkB spW 112 [] noLa) with cl := clL [6] }) (by kernel_rfl) (by kernel_rfl) (by kernel_rfl) (by kernel_rfl) key (by kernel_rfl)
theorem c110 (w : Wn)  : PCall Tryz.prog G0 110 [.agg (encWn w)] (.i (fWn w)) := by
 have key :
  (0:Int) <= 0 ∧ (0:Int) < (8:Int) ∧ PCall Tryz.prog G0 81 [AV.i w.o0, AV.i 0, AV.i 100000000] (AV.i (sWithin w.o0 (0:Int) (100000000:Int))) ∧ ((sWithin w.o0 (0:Int) (100000000:Int) != 0) = true -> AV.i (sWithin w.o0 (0
  : Int) (100000000:Int)) = AV.i (fWn w)) ∧ ((sWithin w.o0 (0:Int) (100000000:Int) != 0) = false -> In64 ((0:Int) + 1) ∧ (0:Int) <= 0 + 1 ∧ (0:Int) + 1 < (8:Int) ∧ PCall Tryz.prog G0 81 [AV.i w.o1, AV.i 0, AV.i
  100000000] (AV.i (sWithin w.o1 (0:Int) (100000000:Int))) ∧ ((sWithin w.o1 (0:Int) (100000000:Int) != 0) = true -> AV.i (sWithin w.o1 (0:Int) (100000000:Int)) = AV.i (fWn w)) ∧ ((sWithin w.o1 (0:Int) (100000000:Int)
  != 0) = false -> In64 ((0:Int) + 1 + 1) ∧ (0:Int) <= 0 + 1 + 1 ∧ (0:Int) + 1 + 1 < (8:Int) ∧ PCall Tryz.prog G0 81 [AV.i w.o2, AV.i 0, AV.i 100000000] (AV.i (sWithin w.o2 (0:Int) (100000000:Int))) ∧ ((sWithin w.o2 (0 :
  Int) (100000000:Int) != 0) = true -> AV.i (sWithin w.o2 (0:Int) (100000000:Int)) = AV.i (fWn w)) ∧ ((sWithin w.o2 (0:Int) (100000000:Int) != 0) = false -> In64 ((0:Int) + 1 + 1 + 1) ∧ (0:Int) <= 0 + 1 + 1 + 1 ∧ (0:Int)
  + 1 + 1 + 1 < (8:Int) ∧ PCall Tryz.prog G0 81 [AV.i w.o3, AV.i 0, AV.i 100000000] (AV.i (sWithin w.o3 (0:Int) (100000000:Int))) ∧ ((sWithin w.o3 (0:Int) (100000000:Int) != 0) = true -> AV.i (sWithin w.o3 (0:Int)
  (100000000:Int)) = AV.i (fWn w)) ∧ ((sWithin w.o3 (0:Int) (100000000:Int) != 0) = false -> In64 ((0:Int) + 1 + 1 + 1 + 1) ∧ (0:Int) <= 0 + 1 + 1 + 1 + 1 ∧ (0:Int) + 1 + 1 + 1 + 1 < (8:Int) ∧ PCall Tryz.prog G0 81 [AV.i
  w.o4, AV.i 0, AV.i 100000000] (AV.i (sWithin w.o4 (0:Int) (100000000:Int))) ∧ ((sWithin w.o4 (0:Int) (100000000:Int) != 0) = true -> AV.i (sWithin w.o4 (0:Int) (100000000:Int)) = AV.i (fWn w)) ∧ ((sWithin w.o4 (0:Int)
  (100000000:Int) != 0) = false -> In64 ((0:Int) + 1 + 1 + 1 + 1 + 1) ∧ (0:Int) <= 0 + 1 + 1 + 1 + 1 + 1 ∧ (0:Int) + 1 + 1 + 1 + 1 + 1 < (8:Int) ∧ PCall Tryz.prog G0 81 [AV.i w.o5, AV.i 0, AV.i 100000000] (AV.i (sWithin w.o5
  (0:Int) (100000000:Int))) ∧ ((sWithin w.o5 (0:Int) (100000000:Int) != 0) = true -> AV.i (sWithin w.o5 (0:Int) (100000000:Int)) = AV.i (fWn w)) ∧ ((sWithin w.o5 (0:Int) (100000000:Int) != 0) = false -> In64 ((0:Int)
  + 1 + 1 + 1 + 1 + 1 + 1) ∧ (0:Int) <= 0 + 1 + 1 + 1 + 1 + 1 + 1 ∧ (0:Int) + 1 + 1 + 1 + 1 + 1 + 1 < (8:Int) ∧ PCall Tryz.prog G0 81 [AV.i w.o6, AV.i 0, AV.i 100000000] (AV.i (sWithin w.o6 (0:Int) (100000000:Int))) ∧
  ((sWithin w.o6 (0:Int) (100000000:Int) != 0) = true -> AV.i (sWithin w.o6 (0:Int) (100000000:Int)) = AV.i (fWn w)) ∧ ((sWithin w.o6 (0:Int) (100000000:Int) != 0) = false -> In64 ((0:Int) + 1 + 1 + 1 + 1 + 1 + 1 + 1) ∧
  (0:Int) <= 0 + 1 + 1 + 1 + 1 + 1 + 1 + 1 ∧ (0:Int) + 1 + 1 + 1 + 1 + 1 + 1 + 1 < (8:Int) ∧ PCall Tryz.prog G0 81 [AV.i w.o7, AV.i 0, AV.i 100000000] (AV.i (sWithin w.o7 (0:Int) (100000000:Int))) ∧ ((sWithin w.o7 (0:Int)
  (100000000:Int) != 0) = true -> AV.i (sWithin w.o7 (0:Int) (100000000:Int)) = AV.i (fWn w)) ∧ ((sWithin w.o7 (0:Int) (100000000:Int) != 0) = false -> In64 ((0:Int) + 1 + 1 + 1 + 1 + 1 + 1 + 1 + 1) ∧ PCall Tryz.prog G0 81
  [AV.i w.ar, AV.i 1, AV.i 100] (AV.i (sWithin w.ar (1:Int) (100:Int))) ∧ PCall Tryz.prog G0 112 [AV.agg [AV.i w.p0, AV.i w.p1, AV.i w.p2, AV.i w.p3, AV.i w.p4, AV.i w.p5, AV.i w.p6, AV.i w.p7, AV.i w.p8, AV.i w.p9, AV.i w.p10,
  AV.i w.p11, AV.i w.p12, AV.i w.p13, AV.i w.p14, AV.i w.p15]] (AV.i (fPa w.lo w.hi)) ∧ PCall Tryz.prog G0 107 [AV.sl 1 [[AV.i (sWithin w.ar (1:Int) (100:Int))], [AV.i (fPa w.lo w.hi)]]] (AV.i (sFirst [hdI [AV.i (sWithin w.ar (1
  : Int) (100:Int))], hdI [AV.i (fPa w.lo w.hi)]])) ∧ AV.i (sFirst [hdI [AV.i (sWithin w.ar (1:Int) (100:Int))], hdI [AV.i (fPa w.lo w.hi)]]) = AV.i (fWn w))))))))) := by
   refine ⟨(by omega), (by omega), (c81 _ _ _), fun h1 => ?_, fun h1 => ⟨(by unfold In64; omega), (by omega), (by omega), (c81 _ _ _), fun h2 => ?_, fun h2 => ⟨(by unfold In64; omega), (by omega), (by omega), (c81 _ _ _), fun h3 => ?_, fun h3 => ⟨(by unfold In64; omega), (by omega), (by omega), (c81 _ _ _), fun h4 => ?_, fun h4 => ⟨(by unfold In64; omega), (by omega), (by omega), (c81 _ _ _), fun h5 => ?_, fun h5 => ⟨(by unfold In64; omega), (by omega), (by omega), (c81 _ _ _), fun h6 => ?_, fun h6 => ⟨(by unfold In64; omega), (by omega), (by omega), (c81 _ _ _), fun h7 => ?_, fun h7 => ⟨(by unfold In64; omega), (by omega), (by omega), (c81 _ _ _), fun h8 => ?_, fun h8 => ⟨(by unfold In64; omega), (c81 _ _ _), (c112 w.lo w.hi), (c107 [_, _] (by simp)), ?_⟩⟩⟩⟩⟩⟩⟩⟩⟩
   · simp_all [fWn, fOu_u, fO, Wn.o, sFirst]
   · simp_all [fWn, fOu_u, fO, Wn.o, sFirst]
   · simp_all [fWn, fOu_u, fO, Wn.o, sFirst]
   · simp_all [fWn, fOu_u, fO, Wn.o, sFirst]
   · simp_all [fWn, fOu_u, fO, Wn.o, sFirst]
   · simp_all [fWn, fOu_u, fO, Wn.o, sFirst]
   · simp_all [fWn, fOu_u, fO, Wn.o, sFirst]
   · simp_all [fWn, fOu_u, fO, Wn.o, sFirst]
   · have e : fOu w.o = 0 := by simp_all [fOu_u, fO, Wn.o, sFirst]
     show AV.i (sFirst [sWithin w.ar 1 100, fPa w.lo w.hi]) = _
     rw [fWn, e]
     rfl
 exact c_of Tryz.f110 ({ fzB (mkB (fun n x => if n.beq 112 then some (.i (fPa w.lo w.hi)) else spW n x) 110 [] noLa) with cl := clL [6] }) (by kernel_rfl) (by kernel_rfl) (by kernel_rfl) (by kernel_rfl) key (by kernel_rfl)
def la26 (h : Hm) : LA := {
 pre := [.keep [1, 4] [], .bound 1], post := [.keep [1, 4] [], .bound 1]
 Gh := Nat
 st := fun i => ⟨[(1, .elt 3 [encHm h] 0 0), (4, .i i)], [], 1⟩
 ok := fun i => i <= h.ws.length ∧ ∀ j, j < i -> fWn (h.ws.getD j default) = 0
 ms := fun i => h.ws.length - i }
def sp26 : Nat -> List AV -> Option AV
 | 110, [.agg c] => some (.i (fWn (decWn c)))
 | n, x => spW n x
theorem c26 (h : Hm) (hn : h.nm.length <= 1000000) (hl : h.ws.length <= 1000) : PCall Tryz.prog G0 26 [.agg (encHm h)] (.i (fHm h)) := by
 have key :
  PCall Tryz.prog G0 108 [AV.str h.nm] (AV.i (sWhen (!sName h.nm) (8:Int))) ∧ PCall Tryz.prog G0 81 [AV.i h.pe, AV.i 0, AV.i 1000] (AV.i (sWithin h.pe (0:Int) (1000:Int))) ∧ PCall Tryz.prog G0 109 [AV.bool ((↑(List.map encWn
  h.ws).length : Int) == 0), AV.i 12] (AV.i (sWhen ((↑(List.map encWn h.ws).length : Int) == 0) (12:Int))) ∧ PCall Tryz.prog G0 109 [AV.bool (decide ((↑(List.map encWn h.ws).length : Int) > 8)), AV.i 5] (AV.i (sWhen (decide
  ((↑(List.map encWn h.ws).length : Int) > 8)) (5:Int))) ∧ PCall Tryz.prog G0 107 [AV.sl 1 [[AV.i (sWhen (!sName h.nm) (8:Int))], [AV.i (sWithin h.pe (0:Int) (1000:Int))], [AV.i (sWhen ((↑(List.map encWn h.ws).length : Int)
  == 0) (12:Int))], [AV.i (sWhen (decide ((↑(List.map encWn h.ws).length : Int) > 8)) (5:Int))]]] (AV.i (sFirst [hdI [AV.i (sWhen (!sName h.nm) (8:Int))], hdI [AV.i (sWithin h.pe (0:Int) (1000:Int))], hdI [AV.i (sWhen
  ((↑(List.map encWn h.ws).length : Int) == 0) (12:Int))], hdI [AV.i (sWhen (decide ((↑(List.map encWn h.ws).length : Int) > 8)) (5:Int))]])) ∧ ((sFirst [hdI [AV.i (sWhen (!sName h.nm) (8:Int))], hdI [AV.i (sWithin h.pe (0 :
  Int) (1000:Int))], hdI [AV.i (sWhen ((↑(List.map encWn h.ws).length : Int) == 0) (12:Int))], hdI [AV.i (sWhen (decide ((↑(List.map encWn h.ws).length : Int) > 8)) (5:Int))]] != 0) = true -> AV.i (sFirst [hdI [AV.i (sWhen
  (!sName h.nm) (8:Int))], hdI [AV.i (sWithin h.pe (0:Int) (1000:Int))], hdI [AV.i (sWhen ((↑(List.map encWn h.ws).length : Int) == 0) (12:Int))], hdI [AV.i (sWhen (decide ((↑(List.map encWn h.ws).length : Int) > 8)) (5 :
  Int))]]) = AV.i (fHm h)) ∧ ((sFirst [hdI [AV.i (sWhen (!sName h.nm) (8:Int))], hdI [AV.i (sWithin h.pe (0:Int) (1000:Int))], hdI [AV.i (sWhen ((↑(List.map encWn h.ws).length : Int) == 0) (12:Int))], hdI [AV.i (sWhen (decide
  ((↑(List.map encWn h.ws).length : Int) > 8)) (5:Int))]] != 0) = false -> (∃ (g:Nat), (g <= h.ws.length ∧ ∀ (j:Nat), j < g -> fWn (h.ws.getD j default) = (0:Int)) ∧ AS.mk [(1, AV.elt 3 [(encHm h)] 0 0), (4, AV.i 0)] [] 1 =
  AS.mk [(1, AV.elt 3 [(encHm h)] 0 0), (4, AV.i (g:Int))] [] 1) ∧ ∀ (g:Nat), (g <= h.ws.length ∧ ∀ (j:Nat), j < g -> fWn (h.ws.getD j default) = (0:Int)) -> (decide ((g:Int) < (↑(List.map encWn h.ws).length : Int)) = true →
  (0:Int) <= (g:Int) ∧ (g:Int) < (↑(List.map encWn h.ws).length : Int) ∧ AV.agg (nthR (List.map encWn h.ws) (g:Int).toNat) = AV.agg (encWn (h.ws.getD (g:Int).toNat default)) ∧ PCall Tryz.prog G0 110 [AV.agg (encWn
  (h.ws.getD (g:Int).toNat default))] (AV.i (fWn (decWn (encWn (h.ws.getD (g:Int).toNat default))))) ∧ ((fWn (decWn (encWn (h.ws.getD (g:Int).toNat default))) != 0) = true -> AV.i (fWn (decWn (encWn (h.ws.getD (↑g :
  Int).toNat default)))) = AV.i (fHm h)) ∧ ((fWn (decWn (encWn (h.ws.getD (g:Int).toNat default))) != 0) = false -> In64 ((g:Int) + 1) ∧ ∃ (g' : Nat), (g' <= h.ws.length ∧ ∀ (j:Nat), j < g' -> fWn (h.ws.getD j default) = (0 :
  Int)) ∧ h.ws.length - g' < h.ws.length - g ∧ AS.mk [(1, AV.elt 3 [(encHm h)] 0 0), (4, AV.i ((g:Int) + 1))] [] 1 = AS.mk [(1, AV.elt 3 [(encHm h)] 0 0), (4, AV.i (↑g' : Int))] [] 1)) ∧ (decide ((g:Int) < (↑(List.map encWn
  h.ws).length : Int)) = false -> AV.i 0 = AV.i (fHm h))) := by
   have hlm : (List.map encWn h.ws).length = h.ws.length := List.length_map _
   have : (List.map encWn h.ws).length = h.ws.length := by simp only [List.length_map]
   refine ⟨(c108 _ hn), (c81 _ _ _), (c109 _ _), (c109 _ _), (c107 [_, _, _, _] (by simp)), fun h1 => ?_, fun h1 => ?_⟩
   · have e : fHm h = fHd h := ls_first (by rw [fHd_m]; exact h1)
     rw [e, fHd_m]
     rfl
   · have hz : (fHd h != 0) = false := by rw [fHd_m]; exact h1
     refine ⟨⟨0, ⟨by omega, by intros; omega⟩, rfl⟩, fun g ⟨hg, ha⟩ => ⟨fun hd => ?_, fun hd => ?_⟩⟩
     · have hlt : g < h.ws.length := by have h9 := of_decide_eq_true hd; have h8 := hg; (try simp only [List.length_map] at h8 h9); omega
       try rw [show (g:Int).toNat = g from Int.toNat_natCast g]
       refine ⟨(by omega), (by omega), congrArg AV.agg (row_at encWn hlt), (c110 _), fun h2 => ?_, fun h2 => ⟨(by unfold In64; omega), ⟨g + 1, ⟨by omega, all_ext ha (bne_f h2)⟩, by omega, rfl⟩⟩⟩
       · exact congrArg AV.i (ls_hit (f := fun i => fWn (h.ws.getD i default)) hz (decide_eq_true (by omega)) ha h2).symm
     · have hge : g = h.ws.length := by have h9 := of_decide_eq_false hd; have h8 := hg; (try simp only [List.length_map] at h8 h9); omega
       subst hge
       exact congrArg AV.i (ls_end (f := fun i => fWn (h.ws.getD i default)) hz (decide_eq_false (Int.lt_irrefl _)) (Nat.le_refl _) ha).symm
 exact c_of Tryz.f26 (fzB (mkB sp26 26 [(7, 4, rdL 25 encWn h.ws 25 true)] (la0 (la26 h)))) (by kernel_rfl) (by kernel_rfl) (by kernel_rfl) (by kernel_rfl) key (by kernel_rfl)
end Go.Proofs.YtfoeefaamjknpaaGreatDoor
namespace Go.Proofs.YtfoeefaamjknpaaGreatDoor
open Go Go.Av Go.RowKit
theorem c216 (b : Bool) (e:Int)  : PCall Tryz.prog G0 216 [.bool b, .i e] (.i (sWhen b e)) := by
 have key :
  (b = true -> AV.i e = AV.i (sWhen b e)) ∧ (b = false -> AV.i 0 = AV.i (sWhen b e)) := by
   exact ⟨fun h => by simp [sWhen, h], fun h => by simp [sWhen, h]⟩
 exact c_of Tryz.f216 (mkB spW 216 [] noLa) (by kernel_rfl) (by kernel_rfl) (by kernel_rfl) (by kernel_rfl) key (by kernel_rfl)
theorem c205 (x lo hi : Int)  : PCall Tryz.prog G0 205 [.i x, .i lo, .i hi] (.i (sWithin x lo hi)) := by
 have key :
  ((!decide (x < lo)) = true -> (!decide (x < lo)) = true) ∧ ((!decide (x < lo)) = true -> (!decide (x < lo)) = true) ∧ (decide (x < lo) = false -> (!decide (x < lo)) = true) ∧ PCall Tryz.prog G0 216 [AV.bool (if decide (x < lo) = true
  then true else decide (x > hi)), AV.i 3] (AV.i (sWhen (if decide (x < lo) = true then true else decide (x > hi)) (3:Int))) ∧ AV.i (sWhen (if decide (x < lo) = true then true else decide (x > hi)) (3:Int)) = AV.i (sWithin x lo
  hi) := by
   exact ⟨fun h => h, fun h => h, fun h => by simp [h], c216 _ _, rfl⟩
 exact c_of Tryz.f205 (mkB spW 205 [] noLa) (by kernel_rfl) (by kernel_rfl) (by kernel_rfl) (by kernel_rfl) key (by kernel_rfl)
theorem c190 (x:Int)  : PCall Tryz.prog G0 190 [.i x] (.i (fEn x)) := by
 have key :
  PCall Tryz.prog G0 205 [AV.i x, AV.i 0, AV.i 10000000000000] (AV.i (sWithin x (0:Int) (10000000000000:Int))) ∧ AV.i (sWithin x (0:Int) (10000000000000:Int)) = AV.i (fEn x) := by
   refine ⟨(c205 _ _ _), ?_⟩
   · first | rfl | trivial
 exact c_of Tryz.f190 (mkB spW 190 [] noLa) (by kernel_rfl) (by kernel_rfl) (by kernel_rfl) (by kernel_rfl) key (by kernel_rfl)
def bsK (k:Nat) : Int := baseL.getD (k % 10) 0
theorem bs_at {k : Nat} : nth (nthR [[AV.i 10], [.i 13], [.i 16], [.i 20], [.i 25], [.i 32], [.i 40], [.i 50], [.i 63], [.i 79]] ((k:Int).tmod 10).toNat) 0 = .i (bsK k) := by
 have h : ∀ j, j < 10 -> nth (nthR [[AV.i 10], [.i 13], [.i 16], [.i 20], [.i 25], [.i 32], [.i 40], [.i 50], [.i 63], [.i 79]] j) 0 = .i (baseL.getD j 0) := fun j hj => by
  match j, hj with
  | 0, _ => rfl
  | 1, _ => rfl
  | 2, _ => rfl
  | 3, _ => rfl
  | 4, _ => rfl
  | 5, _ => rfl
  | 6, _ => rfl
  | 7, _ => rfl
  | 8, _ => rfl
  | 9, _ => rfl
 have e : ((k:Int).tmod 10).toNat = k % 10 := rfl
 rw [e]
 exact h _ (Nat.mod_lt _ (by decide))
theorem tm_bd (k:Nat) : 0 <= (k:Int).tmod 10 ∧ (k:Int).tmod 10 < 10 := by
 have e : (k:Int).tmod 10 = ((k % 10 : Nat) : Int) := rfl
 rw [e]
 omega
theorem td_e (k:Nat) : (k:Int).tdiv 10 = ((k / 10 : Nat) : Int) := rfl
theorem pb_bd {k i : Nat} (hk : k < 121) (hi : i <= k / 10) : 0 <= p10 i * bsK k ∧ p10 i * bsK k <= 79000000000000 := by
 have h1 := p10_bd i (by omega)
 have h2 : 10 <= bsK k ∧ bsK k <= 79 := base_bd _ (Nat.mod_lt _ (by decide))
 have h3 := mul_bd (show 0 <= p10 i by omega) h1.2 (show 0 <= bsK k by omega) h2.2
 omega
def la206 (k:Nat) : LA := {
 pre := [.keep [3, 9, 10] [], .bound 1], post := [.keep [3, 9, 10] [], .bound 1]
 Gh := Nat
 st := fun i => ⟨[(3, .i (p10 i * bsK k)), (9, .i (k / 10 : Nat)), (10, .i i)], [], 1⟩
 ok := fun i => i <= k / 10
 ms := fun i => k / 10 - i }
def rdK10 (k:Nat) : List AV -> Option AV := fun _ => some (.i (bsK k))
def litI (n:Int) : List AV -> Option AV := fun _ => some (.i n)
theorem c206 (k:Nat) (hk : k < 121) : PCall Tryz.prog G0 206 [.i k] (.i (thr k)) := by
 have key :
  ¬(10:Int) = (0:Int) ∧ (0:Int) <= (k:Int).tmod (10:Int) ∧ (k:Int).tmod (10:Int) < (10:Int) ∧ nth (nthR [[AV.i 10], [AV.i 13], [AV.i 16], [AV.i 20], [AV.i 25], [AV.i 32], [AV.i 40], [AV.i 50], [AV.i 63], [AV.i 79]]
  ((k:Int).tmod (10:Int)).toNat) 0 = AV.i (bsK k) ∧ ¬(10:Int) = (0:Int) ∧ In64 ((k:Int).tdiv 10) ∧ AV.i ((k:Int).tdiv 10) = AV.i (↑(k / 10) : Int) ∧ (∃ (g:Nat), g <= k / 10 ∧ AS.mk [(3, AV.i (bsK k)), (9, AV.i (↑(k /
  10) : Int)), (10, AV.i 0)] [] 1 = AS.mk [(3, AV.i (p10 g * bsK k)), (9, AV.i (↑(k / 10) : Int)), (10, AV.i (g:Int))] [] 1) ∧ ∀ (g:Nat), g <= k / 10 -> (decide ((g:Int) < (↑(k / 10) : Int)) = true -> In64 (p10 g * bsK k * 10) ∧
  In64 ((g:Int) + 1) ∧ ∃ (g' : Nat), g' <= k / 10 ∧ k / 10 - g' < k / 10 - g ∧ AS.mk [(3, AV.i (p10 g * bsK k * 10)), (9, AV.i (↑(k / 10) : Int)), (10, AV.i ((g:Int) + 1))] [] 1 = AS.mk [(3, AV.i (p10 g' * bsK k)), (9, AV.i (↑(k
  / 10) : Int)), (10, AV.i (↑g' : Int))] [] 1) ∧ (decide ((g:Int) < (↑(k / 10) : Int)) = false -> AV.i (p10 g * bsK k) = AV.i (thr k)) := by
   have ht := tm_bd k
   have hte := td_e k
   refine ⟨by decide, ht.1, ht.2, bs_at, by decide, by rw [hte]; unfold In64; omega, congrArg AV.i hte, ⟨0, Nat.zero_le _, by rw [show p10 0 * bsK k = bsK k from Int.one_mul _]; rfl⟩, fun g hg => ⟨fun hd => ?_, fun hd => ?_⟩⟩
   · have hlt : g < k / 10 := by have := of_decide_eq_true hd; omega
     have hb := pb_bd hk hg
     refine ⟨by unfold In64; omega, by unfold In64; omega, g + 1, by omega, by omega, ?_⟩
     rw [show p10 (g + 1) * bsK k = p10 g * bsK k * 10 by rw [p10, Int.mul_assoc, Int.mul_comm 10]]
     rfl
   · have hge : g = k / 10 := by have := of_decide_eq_false hd; omega
     subst hge
     rfl
 exact c_of Tryz.f206 (mkB spW 206 [(1, 3, rdK10 k), (2, 1, litI (k / 10 : Nat))] (la0 (la206 k))) (by kernel_rfl) (by kernel_rfl) (by kernel_rfl) (by kernel_rfl) key (by kernel_rfl)
def la161 (k:Nat) : LA := {
 pre := [.keep [0, 4, 5] [], .bound 1], post := [.keep [0, 4, 5] [], .bound 1]
 Gh := Nat
 st := fun i => ⟨[(0, .i k), (4, .i (p10 i * bsK k)), (5, .i i)], [], 1⟩
 ok := fun i => i <= k / 10
 ms := fun i => k / 10 - i }
theorem c161 (k:Nat) (hk : k < 121) : PCall Tryz.prog G0 161 [.i k] (.i (thr k)) := by
 have key :
  ¬(10:Int) = (0:Int) ∧ (0:Int) <= (k:Int).tmod (10:Int) ∧ (k:Int).tmod (10:Int) < (10:Int) ∧ nth (nthR [[AV.i 10], [AV.i 13], [AV.i 16], [AV.i 20], [AV.i 25], [AV.i 32], [AV.i 40], [AV.i 50], [AV.i 63], [AV.i 79]]
  ((k:Int).tmod (10:Int)).toNat) 0 = AV.i (bsK k) ∧ (∃ (g:Nat), g <= k / 10 ∧ AS.mk [(0, AV.i (k:Int)), (4, AV.i (bsK k)), (5, AV.i 0)] [] 1 = AS.mk [(0, AV.i (k:Int)), (4, AV.i (p10 g * bsK k)), (5, AV.i (g:Int))] []
  1) ∧ ∀ (g:Nat), g <= k / 10 -> ¬(10:Int) = (0:Int) ∧ In64 ((k:Int).tdiv 10) ∧ AV.i ((k:Int).tdiv 10) = AV.i (↑(k / 10) : Int) ∧ (decide ((g:Int) < (↑(k / 10) : Int)) = true -> In64 ((10:Int) * (p10 g * bsK k)) ∧ In64
  ((g:Int) + 1) ∧ ∃ (g' : Nat), g' <= k / 10 ∧ k / 10 - g' < k / 10 - g ∧ AS.mk [(0, AV.i (k:Int)), (4, AV.i ((10:Int) * (p10 g * bsK k))), (5, AV.i ((g:Int) + 1))] [] 1 = AS.mk [(0, AV.i (k:Int)), (4, AV.i (p10 g' * bsK
  k)), (5, AV.i (↑g' : Int))] [] 1) ∧ (decide ((g:Int) < (↑(k / 10) : Int)) = false -> AV.i (p10 g * bsK k) = AV.i (thr k)) := by
   have ht := tm_bd k
   have hte := td_e k
   refine ⟨by decide, ht.1, ht.2, bs_at, ⟨0, Nat.zero_le _, by rw [show p10 0 * bsK k = bsK k from Int.one_mul _]; rfl⟩, fun g hg => ⟨by decide, by rw [hte]; unfold In64; omega, congrArg AV.i hte, fun hd => ?_, fun hd => ?_⟩⟩
   · have hlt : g < k / 10 := by have := of_decide_eq_true hd; omega
     have hb := pb_bd hk hg
     refine ⟨by unfold In64; omega, by unfold In64; omega, g + 1, by omega, by omega, ?_⟩
     rw [show p10 (g + 1) * bsK k = 10 * (p10 g * bsK k) from Int.mul_assoc _ _ _]
     rfl
   · have hge : g = k / 10 := by have := of_decide_eq_false hd; omega
     subst hge
     rfl
 exact c_of Tryz.f161 (modA 2 4 (fun a => { a with rdb := fun _ _ => some (.i (bsK k)) }) (mkB spW 161 [(4, 2, litI (k / 10 : Nat))] (la0 (la161 k)))) (by kernel_rfl) (by kernel_rfl) (by kernel_rfl) (by kernel_rfl) key (by kernel_rfl)
def la191 (e:Int) : LA := {
 pre := [.keep [0, 3] [], .bound 1], post := [.keep [0, 3] [], .bound 1]
 Gh := Nat
 st := fun i => ⟨[(0, .i e), (3, .i ((i:Int) - 1))], [], 1⟩
 ok := fun i => i <= 121 ∧ ∀ j, j < i -> thr j <= e
 ms := fun i => 121 - i }
def spL : Nat -> List AV -> Option AV
 | 206, [.int _ x] => some (.i (thr x.toNat))
 | 161, [.int _ x] => some (.i (thr x.toNat))
 | n, x => spW n x
theorem c191 (e:Int)  : PCall Tryz.prog G0 191 [.i e] (.i (lvl e)) := by
 have key :
  (∃ (g:Nat), (g <= 121 ∧ ∀ (j:Nat), j < g -> thr j <= e) ∧ AS.mk [(0, AV.i e), (3, AV.i (-1))] [] 1 = AS.mk [(0, AV.i e), (3, AV.i ((g:Int) - 1))] [] 1) ∧ ∀ (g:Nat), (g <= 121 ∧ ∀ (j:Nat), j < g -> thr j <= e) -> (decide ((↑g :
  Int) - 1 < 120) = true -> decide ((g:Int) - 1 < 120) = true) ∧ (decide ((g:Int) - 1 < 120) = true -> In64 ((g:Int) - 1 + 1)) ∧ (decide ((g:Int) - 1 < 120) = true -> decide ((g:Int) - 1 < 120) = true) ∧ (decide ((↑g :
  Int) - 1 < 120) = true -> decide ((g:Int) - 1 < 120) = true) ∧ (decide ((g:Int) - 1 < 120) = true -> decide ((g:Int) - 1 < 120) = true) ∧ (decide ((g:Int) - 1 < 120) = true -> decide ((g:Int) - 1 < 120) = true) ∧ impB
  (decide ((g:Int) - 1 < 120)) (PCall Tryz.prog G0 206 [AV.i ((g:Int) - 1 + 1)] (AV.i (thr ((g:Int) - 1 + 1).toNat))) ∧ ((if decide ((g:Int) - 1 < 120) = true then decide (thr ((g:Int) - 1 + 1).toNat <= e) else false) =
  true -> In64 ((g:Int) - 1 + 1) ∧ ∃ (g' : Nat), (g' <= 121 ∧ ∀ (j:Nat), j < g' -> thr j <= e) ∧ 121 - g' < 121 - g ∧ AS.mk [(0, AV.i e), (3, AV.i ((g:Int) - 1 + 1))] [] 1 = AS.mk [(0, AV.i e), (3, AV.i ((↑g' : Int) - 1))] [] 1)
  ∧ ((if decide ((g:Int) - 1 < 120) = true then decide (thr ((g:Int) - 1 + 1).toNat <= e) else false) = false -> AV.i ((g:Int) - 1) = AV.i (lvl e)) := by
   refine ⟨⟨0, ⟨by omega, by intros; omega⟩, rfl⟩, fun g ⟨hg, ha⟩ => ⟨fun h => h, fun _ => by unfold In64; omega, fun h => h, fun h => h, fun h => h, fun h => h, impB_iff.2 fun hb => ?_, fun h1 => ?_, fun h1 => ?_⟩⟩
   · have := of_decide_eq_true hb
     rw [show ((g:Int) - 1 + 1) = (g:Int) by omega, Int.toNat_natCast]
     exact c206 g (by omega)
   · have h2 : (g:Int) - 1 < 120 := by
      refine Classical.byContradiction fun h => ?_
      rw [if_neg (by rw [decide_eq_true_eq]; exact h)] at h1
      cases h1
     rw [if_pos (decide_eq_true h2), show ((g:Int) - 1 + 1).toNat = g by omega] at h1
     have h3 := of_decide_eq_true h1
     refine ⟨by unfold In64; omega, g + 1, ⟨by omega, all_ext ha h3⟩, by omega, ?_⟩
     rw [show (((g + 1 : Nat) : Int) - 1) = (g:Int) - 1 + 1 by omega]
   · refine congrArg AV.i (lvl_stop ha hg ?_).symm
     by_cases h2 : (g:Int) - 1 < 120
     · rw [if_pos (decide_eq_true h2), show ((g:Int) - 1 + 1).toNat = g by omega] at h1
       have := of_decide_eq_false h1
       exact .inr (by omega)
     · exact .inl (by omega)
 exact c_of Tryz.f191 (mkB spL 191 [] (la0 (la191 e))) (by kernel_rfl) (by kernel_rfl) (by kernel_rfl) (by kernel_rfl) key (by kernel_rfl)
def la92 (e:Int) : LA := {
 pre := [.keep [0, 3, 4] [], .bound 1], post := [.keep [0, 3, 4] [], .bound 1]
 Gh := Nat
 st := fun i => ⟨[(0, .i e), (3, .i (lvN e i)), (4, .i i)], [], 1⟩
 ok := fun i => i <= 121
 ms := fun i => 121 - i }
theorem c92 (e:Int)  : PCall Tryz.prog G0 92 [.i e] (.i (lvl e)) := by
 have key :
  (∃ (g:Nat), g <= 121 ∧ AS.mk [(0, AV.i e), (3, AV.i (-1)), (4, AV.i 0)] [] 1 = AS.mk [(0, AV.i e), (3, AV.i (lvN e g)), (4, AV.i (g:Int))] [] 1) ∧ ∀ (g:Nat), g <= 121 -> (decide ((g:Int) <= 120) = true -> PCall Tryz.prog G0
  161 [AV.i (g:Int)] (AV.i (thr (g:Int).toNat)) ∧ (decide (thr (g:Int).toNat <= e) = true -> In64 ((g:Int) + 1) ∧ ∃ (g' : Nat), g' <= 121 ∧ 121 - g' < 121 - g ∧ AS.mk [(0, AV.i e), (3, AV.i (g:Int)), (4, AV.i ((g:Int)
  + 1))] [] 1 = AS.mk [(0, AV.i e), (3, AV.i (lvN e g')), (4, AV.i (↑g' : Int))] [] 1) ∧ (decide (thr (g:Int).toNat <= e) = false -> In64 ((g:Int) + 1) ∧ ∃ (g' : Nat), g' <= 121 ∧ 121 - g' < 121 - g ∧ AS.mk [(0, AV.i e), (3, AV.i
  (lvN e g)), (4, AV.i ((g:Int) + 1))] [] 1 = AS.mk [(0, AV.i e), (3, AV.i (lvN e g')), (4, AV.i (↑g' : Int))] [] 1)) ∧ (decide ((g:Int) <= 120) = false -> AV.i (lvN e g) = AV.i (lvl e)) := by
   refine ⟨⟨0, Nat.zero_le _, rfl⟩, fun g hg => ⟨fun hd => ?_, fun hd => ?_⟩⟩
   · have hlt := of_decide_eq_true hd
     simp only [Int.toNat_natCast]
     refine ⟨c161 g (by omega), fun h1 => ⟨by unfold In64; omega, g + 1, by omega, by omega, ?_⟩, fun h1 => ⟨by unfold In64; omega, g + 1, by omega, by omega, ?_⟩⟩
     · rw [show lvN e (g + 1) = (g:Int) from if_pos h1]
       rfl
     · rw [show lvN e (g + 1) = lvN e g from if_neg (by rw [h1]; decide)]
       rfl
   · have hge : g = 121 := by have := of_decide_eq_false hd; omega
     rw [hge]
     rfl
 exact c_of Tryz.f92 (mkB spL 92 [] (la0 (la92 e))) (by kernel_rfl) (by kernel_rfl) (by kernel_rfl) (by kernel_rfl) key (by kernel_rfl)
def sp168 (e:Int) : Nat -> List AV -> Option AV
 | 190, _ => some (.i (fEn e))
 | 191, _ => some (.i (lvl e))
 | n, x => spL n x
theorem c168 (e:Int) (he : fEn e = 0) : PCall Tryz.prog G0 168 [.i e] (.tup [.i (lvl e), .i 0]) := by
 have key :
  PCall Tryz.prog G0 190 [AV.i e] (AV.i (fEn e)) ∧ ((fEn e != 0) = true -> AV.tup [AV.i 0, AV.i (fEn e)] = AV.tup [AV.i (lvl e), AV.i 0]) ∧ ((fEn e != 0) = false -> PCall Tryz.prog G0 191 [AV.i e] (AV.i (lvl e)) ∧ AV.tup [AV.i (lvl e),
  AV.i 0] = AV.tup [AV.i (lvl e), AV.i 0]) := by
   refine ⟨(c190 e), fun h1 => ?_, fun h1 => ⟨(c191 e), rfl⟩⟩
   · exact absurd he (bne_t h1)
 exact c_of Tryz.f168 (mkB (sp168 e) 168 [] noLa) (by kernel_rfl) (by kernel_rfl) (by kernel_rfl) (by kernel_rfl) key (by kernel_rfl)
theorem c101 (e:Int) (he : fEn e = 0) : PCall Tryz.prog G0 101 [.i e] (.i (lvl e)) := by
 have key :
  PCall Tryz.prog G0 168 [AV.i e] (AV.tup [AV.i (lvl e), AV.i 0]) ∧ AV.i (lvl e) = AV.i (lvl e) := by
   exact ⟨(c168 e he), rfl⟩
 exact c_of Tryz.f101 (mkB (fun n x => if n.beq 168 then some (.tup [.i (lvl e), .i 0]) else spL n x) 101 [] noLa) (by kernel_rfl) (by kernel_rfl) (by kernel_rfl) (by kernel_rfl) key (by kernel_rfl)
end Go.Proofs.YtfoeefaamjknpaaGreatDoor
namespace Go.Proofs.YtfoeefaamjknpaaGreatDoor
open Go Go.Av Go.RowKit
def WsOK (l : List Wn) : Prop := ∀ i, i < l.length -> WnOK (l.getD i default)
def sp17 (h : Hm) : Nat -> List AV -> Option AV
 | 38, _ => some (.i (fHm h))
 | 99, _ => some (.i (outM h.ws h.ws.length))
 | 100, _ => some (.agg [.i (inL h.ws h.ws.length), .i (inH h.ws h.ws.length)])
 | 101, [.int _ x] => some (.i (lvl x))
 | n, x => spW n x
end Go.Proofs.YtfoeefaamjknpaaGreatDoor
