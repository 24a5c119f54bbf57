/-
  HomeNear returns true. No condition but the theorems' own. Three numbers of 16 bits, and a list of such numbers, as arguments of chapter 8's statements. No condition but the theorems' own. Suffixes, words of a line, numbers in words, parts of a string: contracts. No condition but the theorems' own.
-/
import Derived.Test.YtfoeefaamjknpaaGreatDoorPC
import Derived.Test.YtfoeefaamjknpaaGreatDoorPD
import Derived.Test.YtfoeefaamjknpaaGreatDoorAvD
import Derived.Test.YtfoeefaamjknpaaGreatDoorPB
import Derived.Test.YtfoeefaamjknpaaGreatDoorPA
namespace Go.Proofs.YtfoeefaamjknpaaGreatDoor
open Go Go.Av Go.RowKit
structure K12 (l : List Cp) (xs : List Int) : Prop where
 k1 : l.length <= 8
 k2 : xs.length <= 8
 k3 : cpE l = 0
 k4 : ∀ x, x ∈ l -> x.hm.length <= 40
end Go.Proofs.YtfoeefaamjknpaaGreatDoor
namespace Go.Proofs.YtfoeefaamjknpaaGreatDoor
open Go Go.Av Go.RowKit Go.ChangeShapes Go.WideShapes
theorem wf16 {x : Int} (h : (Lit.int .u16 x).wf = true) : 0 <= x ∧ x <= 65535 := by
 simp only [Lit.wf, Bool.and_eq_true, decide_eq_true_eq] at h
 exact h
theorem u16_arg {a : AV} (h : ASh1 T0 8 167 a) : ∃ x y z : Int, a = .agg [.int .u16 x, .int .u16 y, .int .u16 z] ∧ (0 <= x ∧ x <= 65535) ∧ (0 <= y ∧ y <= 65535) ∧ (0 <= z ∧ z <= 65535) := by
 obtain ⟨l, rfl, h2⟩ := ash1_agg (cs := [.int .u16, .int .u16, .int .u16]) (ti := ⟨(.arr 3 166 1), 3, 6, true, [.int .u16 0, .int .u16 0, .int .u16 0], true⟩) (by kernel_rfl) rfl (by kernel_rfl) (by kernel_rfl) h
 obtain ⟨_, _, rfl, ⟨x, rfl, hx⟩, _, _, rfl, ⟨y, rfl, hy⟩, _, _, rfl, ⟨z, rfl, hz⟩, rfl⟩ := h2
 exact ⟨x, y, z, rfl, wf16 hx, wf16 hy, wf16 hz⟩
end Go.Proofs.YtfoeefaamjknpaaGreatDoor
namespace Go.Proofs.YtfoeefaamjknpaaGreatDoor
open Go Go.Av Go.RowKit
def cutS (s t : List UInt8) : Bool := decide (t.length <= s.length) && s.drop (s.length - t.length) == t
theorem or_f {a b : Bool} (h : (if a = true then true else b) = false) : a = false ∧ b = false := by
 revert h
 cases a <;> cases b <;> decide
def spQ0 : Nat -> List AV -> Option AV
 | 201, [.str s, .str t] => some (.bool (decide (t.length <= s.length) && s.drop (s.length - t.length) == t))
 | 187, [.str s, .str t] => some (.tup [.str (if cutS s t then s.take (s.length - t.length) else s), .bool (cutS s t)])
 | 188, [.str s, .str [c], _, _] => some (.sl 1 ((spl c s).map encS))
 | n, x => spN n x
theorem c201 (s t : List UInt8) (hs : s.length <= 1000000) (ht : t.length <= 1000000) : PCall Tryz.prog G0 201 [.str s, .str t] (.bool (decide (t.length <= s.length) && s.drop (s.length - t.length) == t)) := by
 have key :
  (decide ((↑s.length : Int) >= (↑t.length : Int)) = true -> decide ((↑s.length : Int) >= (↑t.length : Int)) = true) ∧ (decide ((↑s.length : Int) >= (↑t.length : Int)) = true -> decide ((↑s.length : Int) >= (↑t.length : Int)) = true) ∧
  (decide ((↑s.length : Int) >= (↑t.length : Int)) = true -> decide ((↑s.length : Int) >= (↑t.length : Int)) = true) ∧ (decide ((↑s.length : Int) >= (↑t.length : Int)) = true -> decide ((↑s.length : Int) >= (↑t.length : Int)) = true) ∧
  (decide ((↑s.length : Int) >= (↑t.length : Int)) = true -> In64 ((↑s.length : Int) - (↑t.length : Int))) ∧ (decide ((↑s.length : Int) >= (↑t.length : Int)) = true -> decide ((↑s.length : Int) >= (↑t.length : Int)) = true) ∧ (decide
  ((↑s.length : Int) >= (↑t.length : Int)) = true -> decide ((↑s.length : Int) >= (↑t.length : Int)) = true) ∧ (decide ((↑s.length : Int) >= (↑t.length : Int)) = true -> (0:Int) <= (↑s.length : Int) - (↑t.length : Int)) ∧ (decide
  ((↑s.length : Int) >= (↑t.length : Int)) = true -> (↑s.length : Int) - (↑t.length : Int) <= (↑s.length : Int)) ∧ (decide ((↑s.length : Int) >= (↑t.length : Int)) = true -> (↑s.length : Int) <= (↑s.length : Int)) ∧ (decide ((↑s.length :
  Int) >= (↑t.length : Int)) = true -> decide ((↑s.length : Int) >= (↑t.length : Int)) = true) ∧ (decide ((↑s.length : Int) >= (↑t.length : Int)) = true -> decide ((↑s.length : Int) >= (↑t.length : Int)) = true) ∧ (decide ((↑s.length :
  Int) >= (↑t.length : Int)) = true -> decide ((↑s.length : Int) >= (↑t.length : Int)) = true) ∧ AV.bool (if decide ((↑s.length : Int) >= (↑t.length : Int)) = true then List.take ((↑s.length : Int) - ((↑s.length : Int) - (↑t.length :
  Int))).toNat (List.drop ((↑s.length : Int) - (↑t.length : Int)).toNat s) == t else false) = AV.bool (decide (t.length <= s.length) && List.drop (s.length - t.length) s == t) := by
   refine ⟨fun h => h, fun h => h, fun h => h, fun h => h, fun h => by have := of_decide_eq_true h; unfold In64; omega, fun h => h, fun h => h, fun h => by have := of_decide_eq_true h; omega, fun h => by omega, fun h => by omega, fun h => h, fun h => h, fun h => h, ?_⟩
   by_cases h : t.length <= s.length
   · rw [decide_eq_true (show (s.length : Int) >= t.length by omega), if_pos rfl, decide_eq_true h, Bool.true_and, show ((s.length : Int) - (s.length - t.length)).toNat = t.length by omega, show ((s.length : Int) - t.length).toNat = s.length - t.length by omega, List.take_of_length_le (by rw [List.length_drop]; omega)]
   · rw [decide_eq_false (show ¬ (s.length : Int) >= t.length by omega), if_neg (by decide), decide_eq_false h, Bool.false_and]
 exact c_of Tryz.f201 (mkB spQ0 201 [] noLa) (by kernel_rfl) (by kernel_rfl) (by kernel_rfl) (by kernel_rfl) key (by kernel_rfl)
theorem or_r {a b : Bool} (h : (if a = true then true else b) = true) (ha : a = false) : b = true := by
 rw [ha] at h
 exact h
theorem c187 (s t : List UInt8) (hs : s.length <= 1000000) (ht : t.length <= 1000000) : PCall Tryz.prog G0 187 [.str s, .str t] (.tup [.str (if cutS s t then s.take (s.length - t.length) else s), .bool (cutS s t)]) := by
 have key :
  PCall Tryz.prog G0 201 [AV.str s, AV.str t] (AV.bool (decide (t.length <= s.length) && List.drop (s.length - t.length) s == t)) ∧ ((!(decide (t.length <= s.length) && List.drop (s.length - t.length) s == t)) = true -> AV.tup [AV.str
  s, AV.bool false] = AV.tup [AV.str (if cutS s t = true then List.take (s.length - t.length) s else s), AV.bool (cutS s t)]) ∧ ((!(decide (t.length <= s.length) && List.drop (s.length - t.length) s == t)) = false -> In64 ((↑s.length :
  Int) - (↑t.length : Int)) ∧ (0:Int) <= 0 ∧ (0:Int) <= (↑s.length : Int) - (↑t.length : Int) ∧ (↑s.length : Int) - (↑t.length : Int) <= (↑s.length : Int) ∧ AV.tup [AV.str (List.take ((↑s.length : Int) - (↑t.length : Int) - 0).toNat
  (List.drop 0 s)), AV.bool true] = AV.tup [AV.str (if cutS s t = true then List.take (s.length - t.length) s else s), AV.bool (cutS s t)]) := by
   refine ⟨c201 s t hs ht, fun h => ?_, fun h => ?_⟩
   · have hc : cutS s t = false := by
      unfold cutS
      revert h
      cases (decide (t.length <= s.length) && List.drop (s.length - t.length) s == t) <;> simp
     rw [hc]
     rfl
   · have hc : cutS s t = true := by
      unfold cutS
      revert h
      cases (decide (t.length <= s.length) && List.drop (s.length - t.length) s == t) <;> simp
     have hle : t.length <= s.length := by
      have := hc
      unfold cutS at this
      rw [Bool.and_eq_true, decide_eq_true_eq] at this
      exact this.1
     refine ⟨by unfold In64; omega, by omega, by omega, by omega, ?_⟩
     rw [hc, if_pos rfl, List.drop_zero, show ((s.length : Int) - t.length - 0).toNat = s.length - t.length by omega]
 exact c_of Tryz.f187 (mkB spQ0 187 [] noLa) (by kernel_rfl) (by kernel_rfl) (by kernel_rfl) (by kernel_rfl) key (by kernel_rfl)
theorem c156 (s t : List UInt8) (hs : s.length <= 1000000) (ht : t.length <= 1000000) : PCall Tryz.prog G0 156 [.str s, .str t] (.tup [.str (if cutS s t then s.take (s.length - t.length) else s), .bool (cutS s t)]) := by
 have key :
  PCall Tryz.prog G0 187 [AV.str s, AV.str t] (AV.tup [AV.str (if cutS s t = true then List.take (s.length - t.length) s else s), AV.bool (cutS s t)]) ∧ AV.tup [AV.str (if cutS s t = true then List.take (s.length - t.length) s else
  s), AV.bool (cutS s t)] = AV.tup [AV.str (if cutS s t = true then List.take (s.length - t.length) s else s), AV.bool (cutS s t)] := by
   exact ⟨c187 s t hs ht, rfl⟩
 exact c_of Tryz.f156 (mkB spQ0 156 [] noLa) (by kernel_rfl) (by kernel_rfl) (by kernel_rfl) (by kernel_rfl) key (by kernel_rfl)
theorem c157 (s : List UInt8) (c:UInt8) (hs : s.length <= 1000000) : PCall Tryz.prog G0 157 [.str s, .str [c]] (.sl 1 ((spl c s).map encS)) := by
 have key :
  PCall Tryz.prog G0 188 [AV.str s, AV.str [c], AV.i 0, AV.i (-1)] (AV.sl 1 (List.map encS (spl c s))) ∧ AV.sl 1 (List.map encS (spl c s)) = AV.sl 1 (List.map encS (spl c s)) := by
   exact ⟨c188 s c hs, rfl⟩
 exact c_of Tryz.f157 (mkB spQ0 157 [] noLa) (by kernel_rfl) (by kernel_rfl) (by kernel_rfl) (by kernel_rfl) key (by kernel_rfl)
theorem c155 (s : List UInt8)  : PCall Tryz.prog G0 155 [.str s] (.fbox 185 [.str s]) := by
 have key :
  AV.fbox 185 [AV.str s] = AV.fbox 185 [AV.str s] := by
   rfl
 exact c_of Tryz.f155 (mkB spQ0 155 [] noLa) (by kernel_rfl) (by kernel_rfl) (by kernel_rfl) (by kernel_rfl) key (by kernel_rfl)
def wdR (ws : List (List UInt8)) : List (List UInt8) := if ws.headD [] == [] then [] else ws.tail
def wdB (ws : List (List UInt8)) (b : Bool) : Bool := if ws.headD [] == [] then true else b
theorem ne_len {ws : List (List UInt8)} (h : (!((ws.map encS).length : Int) == 0) = true) : (0:Int) < ((ws.map encS).length : Int) := by
 simp only [Bool.not_eq_true', beq_eq_false_iff_ne] at h
 omega
theorem rd_w0 {ws : List (List UInt8)} (h : (!((ws.map encS).length : Int) == 0) = true) : nth (nthR (ws.map encS) 0) 0 = AV.str (ws.getD 0 []) := by
 have h1 := ne_len h
 rw [List.length_map] at h1
 exact congrArg (fun r => nth r 0) (row_at encS (l := ws) (i := 0) (by omega))
theorem w159 (ws : List (List UInt8)) (b : Bool) (hw : ws.length <= 1000000) : WCall Tryz.prog G0 159 [.ptr 1 0] [ABlk.box [.sl 1 (ws.map encS), .bool b]] (.str (ws.headD [])) [ABlk.box [.sl 1 ((wdR ws).map encS), .bool (wdB ws b)]] := by
 have key :
  ((!(↑(List.map encS ws).length : Int) == 0) = true -> (!(↑(List.map encS ws).length : Int) == 0) = true) ∧ ((!(↑(List.map encS ws).length : Int) == 0) = true -> (!(↑(List.map encS ws).length : Int) == 0) = true) ∧ ((!(↑(List.map encS
  ws).length : Int) == 0) = true -> (!(↑(List.map encS ws).length : Int) == 0) = true) ∧ ((!(↑(List.map encS ws).length : Int) == 0) = true -> (!(↑(List.map encS ws).length : Int) == 0) = true) ∧ ((!(↑(List.map encS ws).length : Int)
  == 0) = true -> (0:Int) <= 0) ∧ ((!(↑(List.map encS ws).length : Int) == 0) = true -> (0:Int) < (↑(List.map encS ws).length : Int)) ∧ ((!(↑(List.map encS ws).length : Int) == 0) = true -> (!(↑(List.map encS ws).length : Int) == 0)
  = true) ∧ ((!(↑(List.map encS ws).length : Int) == 0) = true -> (!(↑(List.map encS ws).length : Int) == 0) = true) ∧ (((↑(List.map encS ws).length : Int) == 0) = false -> (!(↑(List.map encS ws).length : Int) == 0) = true) ∧ impB
  (!(↑(List.map encS ws).length : Int) == 0) (nth (nthR (List.map encS ws) 0) 0 = AV.str (ws.getD 0 [])) ∧ ((if ((↑(List.map encS ws).length : Int) == 0) = true then true else ws.getD 0 [] == []) = true -> AV.str [] = AV.str (ws.headD
  []) ∧ [ABlk.box [AV.sl 1 [], AV.bool true]] = [ABlk.box [AV.sl 1 (List.map encS (wdR ws)), AV.bool (wdB ws b)]]) ∧ ((if ((↑(List.map encS ws).length : Int) == 0) = true then true else ws.getD 0 [] == []) = false -> (0:Int) <= 0 ∧
  (0:Int) < (↑(List.map encS ws).length : Int) ∧ nth (nthR (List.map encS ws) 0) 0 = AV.str (ws.getD 0 []) ∧ (0:Int) <= 1 ∧ (1:Int) <= (↑(List.map encS ws).length : Int) ∧ (↑(List.map encS ws).length : Int) <= (↑(List.map encS
  ws).length : Int) ∧ AV.sl 1 (List.take ((↑(List.map encS ws).length : Int) - 1).toNat (List.drop 1 (List.map encS ws))) = AV.sl 1 (List.map encS ws.tail) ∧ AV.str (ws.getD 0 []) = AV.str (ws.headD []) ∧ [ABlk.box [AV.sl 1 (List.map
  encS ws.tail), AV.bool b]] = [ABlk.box [AV.sl 1 (List.map encS (wdR ws)), AV.bool (wdB ws b)]]) := by
   have hwm : (List.map encS ws).length = ws.length := List.length_map _
   have hd0 : ws.getD 0 [] = ws.headD [] := by cases ws <;> rfl
   have : (List.map encS ws).length = ws.length := by simp only [List.length_map]
   refine ⟨fun h => h, fun h => h, fun h => h, fun h => h, fun _ => by omega, fun hb => ne_len hb, fun h => h, fun h => h, fun h => by first | exact h | (rw [h]; rfl) | simp_all, impB_iff.2 fun hb => (by first | exact rd_w0 hb | exact congrArg (fun r => nth r 0) (row_at encS (l := ws) (i := 0) (by omega))), fun h1 => ?_, fun h1 => ?_⟩
   · have hh : (ws.headD [] == []) = true := by
      cases ws with
      | nil => rfl
      | cons x ws =>
       have := or_r h1 (by simp [beq_eq_false_iff_ne]; omega)
       exact this
     refine ⟨?_, ?_⟩
     · rw [eq_of_beq hh]
     · rw [wdR, wdB, if_pos hh, if_pos hh]
       rfl
   · obtain ⟨hl0, hh⟩ := or_f h1
     rw [hd0] at hh
     have hne : ws.length ≠ 0 := by
      have := hl0
      simp only [beq_eq_false_iff_ne] at this
      omega
     refine ⟨(by omega), (by omega), (by first | exact rd_w0 hb | exact congrArg (fun r => nth r 0) (row_at encS (l := ws) (i := 0) (by omega))), (by omega), (by omega), (by omega), ?_, ?_, ?_⟩
     · rw [List.take_of_length_le (by rw [List.length_drop]; omega), <- List.map_drop, List.drop_one]
     · rw [hd0]
     · rw [wdR, wdB, if_neg (by rw [hh]; decide), if_neg (by rw [hh]; decide)]
 exact w_of Tryz.f159 (gsB (fun i => if i.beq 2 then [.nilb 1 0 1] else []) (mkB spQ0 159 [(1, 12, rdL 1 encS ws 1 false), (4, 5, rdL 1 encS ws 1 false), (5, 5, fun _ => some (.sl 1 (ws.tail.map encS)))] noLa)) (by kernel_rfl) (by kernel_rfl) (by kernel_rfl) (by kernel_rfl) (by kernel_rfl) key (by kernel_rfl)
def digB (c:UInt8) : Bool := decide (48 <= c.toNat) && decide (c.toNat <= 57)
def digV (s : List UInt8) : Nat -> Int
 | 0 => 0
 | k + 1 => 10 * digV s k + ((s.getD k 0).toNat - 48 : Int)
def allDg (s : List UInt8) (n:Nat) : Bool := (List.range n).all fun i => digB (s.getD i 0)
def inOK (s : List UInt8) : Bool := decide (s.length <= 9) && allDg s s.length
def dgI (s : List UInt8) : Int := if inOK s then digV s s.length else 0
def inB (s : List UInt8) : Bool := inOK s && (!(s == []) && (decide (s.length = 1) || !(s.getD 0 0 == 48)))
theorem dg_bd {s : List UInt8} : ∀ k, allDg s k = true -> 0 <= digV s k ∧ digV s k < 10 ^ k
 | 0, _ => by simp [digV]
 | k + 1, h => by
  unfold allDg at h
  rw [List.range_succ, List.all_append, Bool.and_eq_true] at h
  have ih := dg_bd k h.1
  have h2 := h.2
  simp only [List.all_cons, List.all_nil, Bool.and_true, digB, Bool.and_eq_true, decide_eq_true_eq] at h2
  rw [digV, Int.pow_succ]
  omega
def la189 (s : List UInt8) : LA := {
 pre := [.keep [0, 4, 8] [5], .bound 6], post := [.keep [0, 4, 8] [5], .bound 6]
 Gh := Nat
 st := fun i => ⟨[(0, .str s), (4, .i (digV s i)), (8, .ref 5)], [(5, .iter (s.drop i) i)], 6⟩
 ok := fun i => i <= s.length ∧ allDg s i = true ∧ (0 < i -> s.length <= 9)
 ms := fun i => s.length - i
 it := some 5 }
theorem wr_dig {n : Int} (h : 48 <= n ∧ n <= 57) : IntKind.i64.wrap (IntKind.i32.wrap (n - 48)) = n - 48 ∧ IntKind.i64.wrap (IntKind.u8.wrap (n - 48)) = n - 48 := by
 have : n = 48 ∨ n = 49 ∨ n = 50 ∨ n = 51 ∨ n = 52 ∨ n = 53 ∨ n = 54 ∨ n = 55 ∨ n = 56 ∨ n = 57 := by omega
 rcases this with rfl | rfl | rfl | rfl | rfl | rfl | rfl | rfl | rfl | rfl <;> exact ⟨by decide, by decide⟩
theorem in_bad {s : List UInt8} (h : inOK s = false) : dgI s = 0 ∧ inB s = false := by
 unfold dgI inB
 rw [h]
 exact ⟨rfl, rfl⟩
theorem dg_fail {s : List UInt8} {g : Nat} (h : g < s.length) (hf : digB (s.getD g 0) = false) : inOK s = false := by
 have : allDg s s.length = false := List.all_eq_false.2 ⟨g, by simpa using h, by rw [hf]; decide⟩
 rw [inOK, this, Bool.and_false]
theorem dg_next {s : List UInt8} {g : Nat} (ha : allDg s g = true) (hf : digB (s.getD g 0) = true) : allDg s (g + 1) = true := by
 unfold allDg at ha ⊢
 rw [List.range_succ, List.all_append, ha]
 simp only [List.all_cons, List.all_nil, hf, Bool.and_self]
theorem in_end {s : List UInt8} (ha : allDg s s.length = true) (h9 : s.length <= 9) : inOK s = true := by
 rw [inOK, ha, decide_eq_true h9]
 rfl
theorem in_res {s : List UInt8} (h : inOK s = true) : inB s = if (!s == []) = true then if ((s.length : Int) == 1) = true then true else ((s.getD (Int.toNat 0) 0).toNat : Int) != 48 else false := by
 unfold inB
 rw [h, Bool.true_and]
 have e1 : ((s.length : Int) == 1) = decide (s.length = 1) := by
  by_cases q : s.length = 1
  · rw [q]; rfl
  · rw [decide_eq_false q, beq_eq_false_iff_ne]; omega
 have e2 : (((s.getD (Int.toNat 0) 0).toNat : Int) != 48) = !(s.getD 0 0 == 48) := by
  show (((s.getD 0 0).toNat : Int) != 48) = _
  by_cases q : s.getD 0 0 = 48
  · rw [q]; rfl
  · rw [beq_false_of_ne q, Bool.not_false, bne_iff_ne]
    intro h
    apply q
    apply UInt8.toNat_inj.1
    have : (48:UInt8).toNat = 48 := rfl
    omega
 rw [e1, e2]
 cases (!s == []) <;> cases decide (s.length = 1) <;> rfl
theorem dg_dec (c:UInt8) (r : List UInt8) : (digB c = true -> dec (c :: r) = (c.toNat, 1)) ∧ ((48 <= (dec (c :: r)).1 ∧ (dec (c :: r)).1 <= 57) ↔ digB c = true) := by
 by_cases h : c.toNat < 128
 · rw [dec_ascii r h]
   refine ⟨fun _ => rfl, ?_⟩
   unfold digB
   simp
 · have h1 := dec_big r h
   have h2 : digB c = false := by
    unfold digB
    rw [Bool.and_eq_false_iff, decide_eq_false_iff_not, decide_eq_false_iff_not]
    omega
   refine ⟨fun q => (by rw [h2] at q; cases q), ⟨fun q => (by omega), fun q => (by rw [h2] at q; cases q)⟩⟩
theorem c189 (s : List UInt8) (hs : s.length <= 1000000) : PCall Tryz.prog G0 189 [.str s] (.tup [.i (dgI s), .bool (inB s)]) := by
 have key :
  (∃ (g:Nat), (g <= s.length ∧ allDg s g = true ∧ (0 < g -> s.length <= 9)) ∧ AS.mk [(0, AV.str s), (4, AV.i 0), (8, AV.ref 5)] [(5, ABlk.iter s 0)] 6 = AS.mk [(0, AV.str s), (4, AV.i (digV s g)), (8, AV.ref 5)] [(5, ABlk.iter
  (List.drop g s) g)] 6) ∧ ∀ (g:Nat), g <= s.length ∧ allDg s g = true ∧ (0 < g -> s.length <= 9) -> (∀ (c:UInt8) (r : List UInt8), List.drop g s = c :: r -> (true = true -> ((!decide ((↑(dec (c :: r)).fst : Int) < 48)) = true →
  (!decide ((↑(dec (c :: r)).fst : Int) < 48)) = true) ∧ (decide ((↑(dec (c :: r)).fst : Int) < 48) = false -> (!decide ((↑(dec (c :: r)).fst : Int) < 48)) = true) ∧ ((!if decide ((↑(dec (c :: r)).fst : Int) < 48) = true then true
  else decide ((↑(dec (c :: r)).fst : Int) > 57)) = true -> (!if decide ((↑(dec (c :: r)).fst : Int) < 48) = true then true else decide ((↑(dec (c :: r)).fst : Int) > 57)) = true) ∧ ((!if decide ((↑(dec (c :: r)).fst : Int) < 48) =
  true then true else decide ((↑(dec (c :: r)).fst : Int) > 57)) = true -> (!if decide ((↑(dec (c :: r)).fst : Int) < 48) = true then true else decide ((↑(dec (c :: r)).fst : Int) > 57)) = true) ∧ ((if decide ((↑(dec (c :: r)).fst :
  Int) < 48) = true then true else decide ((↑(dec (c :: r)).fst : Int) > 57)) = false -> (!if decide ((↑(dec (c :: r)).fst : Int) < 48) = true then true else decide ((↑(dec (c :: r)).fst : Int) > 57)) = true) ∧ ((if (if decide ((↑(dec
  (c :: r)).fst : Int) < 48) = true then true else decide ((↑(dec (c :: r)).fst : Int) > 57)) = true then true else decide ((↑s.length : Int) > 9)) = true -> AV.tup [AV.i 0, AV.bool false] = AV.tup [AV.i (dgI s), AV.bool (inB s)]) ∧
  ((if (if decide ((↑(dec (c :: r)).fst : Int) < 48) = true then true else decide ((↑(dec (c :: r)).fst : Int) > 57)) = true then true else decide ((↑s.length : Int) > 9)) = false -> In64 ((10:Int) * digV s g) ∧ In64 ((10:Int) *
  digV s g + IntKind.i64.wrap (IntKind.i32.wrap ((↑(dec (c :: r)).fst : Int) - 48))) ∧ ∃ (g' : Nat), (g' <= s.length ∧ allDg s g' = true ∧ (0 < g' -> s.length <= 9)) ∧ s.length - g' < s.length - g ∧ AS.mk [(0, AV.str s), (4, AV.i ((10 :
  Int) * digV s g + IntKind.i64.wrap (IntKind.i32.wrap ((↑(dec (c :: r)).fst : Int) - 48)))), (8, AV.ref 5)] [(5, ABlk.iter (List.drop (dec (c :: r)).snd (c :: r)) (g + (dec (c :: r)).snd))] 6 = AS.mk [(0, AV.str s), (4, AV.i (digV s
  g')), (8, AV.ref 5)] [(5, ABlk.iter (List.drop g' s) g')] 6)) ∧ (true = false -> ((!s == []) = true -> (!s == []) = true) ∧ ((!s == []) = true -> (!s == []) = true) ∧ ((!s == []) = true -> (!s == []) = true) ∧ ((!s == [] && !(↑s.length
  : Int) == 1) = true -> (!s == [] && !(↑s.length : Int) == 1) = true) ∧ ((!s == [] && !(↑s.length : Int) == 1) = true -> (0:Int) <= 0) ∧ ((!s == [] && !(↑s.length : Int) == 1) = true -> (0:Int) < (↑s.length : Int)) ∧ ((!s == [] &&
  !(↑s.length : Int) == 1) = true -> (!s == [] && !(↑s.length : Int) == 1) = true) ∧ ((!s == []) = true -> (!s == []) = true) ∧ ((!s == []) = true -> ((↑s.length : Int) == 1) = false -> (!s == [] && !(↑s.length : Int) == 1) = true) ∧
  ((!s == []) = true -> (!s == []) = true) ∧ AV.tup [AV.i (digV s g), AV.bool (if (!s == []) = true then if ((↑s.length : Int) == 1) = true then true else (↑(s.getD (Int.toNat (0:Int)) (0:UInt8)).toNat : Int) != 48 else false)] =
  AV.tup [AV.i (dgI s), AV.bool (inB s)])) ∧ (List.drop g s = [] -> (false = true -> False) ∧ (false = false -> ((!s == []) = true -> (!s == []) = true) ∧ ((!s == []) = true -> (!s == []) = true) ∧ ((!s == []) = true -> (!s == []) = true)
  ∧ ((!s == [] && !(↑s.length : Int) == 1) = true -> (!s == [] && !(↑s.length : Int) == 1) = true) ∧ ((!s == [] && !(↑s.length : Int) == 1) = true -> (0:Int) <= 0) ∧ ((!s == [] && !(↑s.length : Int) == 1) = true -> (0:Int) <
  (↑s.length : Int)) ∧ ((!s == [] && !(↑s.length : Int) == 1) = true -> (!s == [] && !(↑s.length : Int) == 1) = true) ∧ ((!s == []) = true -> (!s == []) = true) ∧ ((!s == []) = true -> ((↑s.length : Int) == 1) = false -> (!s == [] &&
  !(↑s.length : Int) == 1) = true) ∧ ((!s == []) = true -> (!s == []) = true) ∧ AV.tup [AV.i (digV s g), AV.bool (if (!s == []) = true then if ((↑s.length : Int) == 1) = true then true else (↑(s.getD (Int.toNat (0:Int)) (0 :
  UInt8)).toNat : Int) != 48 else false)] = AV.tup [AV.i (dgI s), AV.bool (inB s)])) := by
   refine ⟨⟨0, ⟨Nat.zero_le _, rfl, fun h => absurd h (by decide)⟩, rfl⟩, fun g ⟨hg, ha, h9⟩ => ⟨fun c r hcr => ⟨fun _ => ?_, fun h => by cases h⟩, fun hnil => ⟨fun h => (by cases h), fun _ => ?_⟩⟩⟩
   · have hlt : g < s.length := by
      by_cases h : g < s.length
      · exact h
      · rw [List.drop_eq_nil_of_le (by omega)] at hcr; cases hcr
     have hcg : s.getD g 0 = c := by
      have := congrArg (fun l => l.getD 0 0) hcr
      simpa [List.getD_eq_getElem?_getD] using this
     have hr : r = s.drop (g + 1) := by
      have := congrArg (fun l => l.drop 1) hcr
      simpa using this.symm
     obtain ⟨d1, d2⟩ := dg_dec c r
     refine ⟨fun h => h, fun h => by rw [h]; rfl, fun h => h, fun h => h, fun h => by rw [h]; rfl, fun h => ?_, fun h => ?_⟩
     · have hb : inOK s = false := by
        cases q : digB c with
        | false => exact dg_fail hlt (by rw [hcg]; exact q)
        | true =>
         have := d2.2 q
         rw [decide_eq_false (show ¬ ((dec (c :: r)).1 : Int) < 48 by omega), decide_eq_false (show ¬ ((dec (c :: r)).1 : Int) > 57 by omega)] at h
         have h := of_decide_eq_true (show decide ((s.length : Int) > 9) = true from h)
         rw [inOK, decide_eq_false (by omega), Bool.false_and]
       rw [(in_bad hb).1, (in_bad hb).2]
     · obtain ⟨h1, h3⟩ := or_f h
       obtain ⟨h1, h2⟩ := or_f h1
       have h1 := of_decide_eq_false h1
       have h2 := of_decide_eq_false h2
       have h3 := of_decide_eq_false h3
       have q := d2.1 (by omega)
       have hd := d1 q
       have hb := dg_bd g ha
       have hp : (10:Int) ^ g <= 10 ^ 9 := by
        exact_mod_cast Nat.pow_le_pow_right (show 0 < 10 by decide) (show g <= 9 by omega)
       have hp : (10:Int) ^ g <= 1000000000 := hp
       rw [hd] at h1 h2 ⊢
       have hw := (wr_dig (n := (c.toNat : Int)) (by constructor <;> (dsimp only at h1 h2; omega))).1
       have h1 : ¬ (c.toNat : Int) < 48 := h1
       have h2 : ¬ (c.toNat : Int) > 57 := h2
       dsimp only
       rw [hw]
       refine ⟨by unfold In64; omega, by unfold In64; omega, g + 1, ⟨hlt, dg_next ha (by rw [hcg]; exact q), fun _ => by omega⟩, by omega, ?_⟩
       rw [show digV s (g + 1) = 10 * digV s g + ((c.toNat : Int) - 48) by rw [digV, hcg], hr]
       rfl
   · have hge : g = s.length := by
      have := congrArg List.length hnil
      rw [List.length_drop] at this
      simp only [List.length_nil] at this
      omega
     subst hge
     have hok : inOK s = true := in_end ha (by
      by_cases q : 0 < s.length
      · exact h9 q
      · omega)
     have hpos : (!s == [] && !(s.length : Int) == 1) = true -> (0:Int) < s.length := fun h => by
      cases s with
      | nil => cases h
      | cons x t => simp only [List.length_cons]; omega
     refine ⟨fun h => h, fun h => h, fun h => h, fun h => h, fun _ => by omega, hpos, fun h => h, fun h => h, fun h1 h2 => by rw [h1, h2]; rfl, fun h => h, ?_⟩
     rw [in_res hok, dgI, if_pos hok]
 exact c_of Tryz.f189 (mkB spQ0 189 [] (fun i => if i.beq 0 then some (la189 s) else none)) (by kernel_rfl) (by kernel_rfl) (by kernel_rfl) (by kernel_rfl) key (by kernel_rfl)
def hs158 : Nat -> List AV -> List ABlk -> Option AV
 | 159, _, [.box [.sl _ rows, .bool b]] => some (.gv true (.tup [.str ((dS rows).headD []), .agg [.sl 1 ((wdR (dS rows)).map encS), .bool (wdB (dS rows) b)]]))
 | _, _, _ => none
def sp158 : Nat -> List AV -> Option AV
 | 189, [.str s] => some (.tup [.i (dgI s), .bool (inB s)])
 | n, x => spQ0 n x
theorem w158 (ws : List (List UInt8)) (b : Bool) (hw : ws.length <= 1000000) (hl : ∀ x, x ∈ ws -> x.length <= 1000000) : WCall Tryz.prog G0 158 [.ptr 1 0] [ABlk.box [.sl 1 (ws.map encS), .bool b]] (.i (dgI (ws.headD []))) [ABlk.box [.sl 1 ((wdR ws).map encS), .bool (if wdB ws b then true else !inB (ws.headD []))]] := by
 have key :
  WCall Tryz.prog G0 159 [AV.ptr 1 0] [ABlk.box [AV.sl 1 (List.map encS ws), AV.bool b]] (AV.str ((dS (List.map encS ws)).headD [])) [ABlk.box [AV.sl 1 (List.map encS (wdR (dS (List.map encS ws)))), AV.bool (wdB (dS (List.map encS
  ws)) b)]] ∧ PCall Tryz.prog G0 189 [AV.str ((dS (List.map encS ws)).headD [])] (AV.tup [AV.i (dgI ((dS (List.map encS ws)).headD [])), AV.bool (inB ((dS (List.map encS ws)).headD []))]) ∧ ((!wdB (dS (List.map encS ws)) b) = true →
  (!wdB (dS (List.map encS ws)) b) = true) ∧ (wdB (dS (List.map encS ws)) b = false -> (!wdB (dS (List.map encS ws)) b) = true) ∧ AV.i (dgI ((dS (List.map encS ws)).headD [])) = AV.i (dgI (ws.headD [])) ∧ [ABlk.box [AV.sl 1 (List.map
  encS (wdR (dS (List.map encS ws)))), AV.bool (if wdB (dS (List.map encS ws)) b = true then true else !inB ((dS (List.map encS ws)).headD []))]] = [ABlk.box [AV.sl 1 (List.map encS (wdR ws)), AV.bool (if wdB ws b = true then true
  else !inB (ws.headD []))]] := by
   have hh : (ws.headD []).length <= 1000000 := by
    cases ws with
    | nil => exact Nat.zero_le _
    | cons x t => exact hl x (by simp)
   rw [dS_e]
   exact ⟨w159 ws b hw, c189 _ hh, fun h => h, fun h => by rw [h]; rfl, rfl, rfl⟩
 exact w_of Tryz.f158 ({ mkB sp158 158 [] noLa with hs := hs158 }) (by kernel_rfl) (by kernel_rfl) (by kernel_rfl) (by kernel_rfl) (by kernel_rfl) key (by kernel_rfl)
theorem spl_cut (c:UInt8) : ∀ (d:Nat) (t : List UInt8), d < t.length -> (∀ j, j < d -> t.getD j 0 ≠ c) -> t.getD d 0 = c -> spl c t = t.take d :: spl c (t.drop (d + 1))
 | _, [], h, _, _ => by simp at h
 | 0, x :: t, _, _, h => by
  have h : x = c := h
  rw [spl, if_pos (by rw [h]; exact beq_self_eq_true c)]
  rfl
 | d + 1, x :: t, h1, h2, h3 => by
  have hx : x ≠ c := h2 0 (Nat.succ_pos d)
  rw [spl, if_neg (by rw [beq_iff_eq]; exact hx), spl_cut c d t (by simpa using h1) (fun j hj => h2 (j + 1) (by omega)) h3]
  rfl
theorem spl_last (c:UInt8) : ∀ t : List UInt8, (∀ j, j < t.length -> t.getD j 0 ≠ c) -> spl c t = [t]
 | [], _ => rfl
 | x :: t, h => by
  have hx : x ≠ c := h 0 (by simp)
  rw [spl, if_neg (by rw [beq_iff_eq]; exact hx), spl_last c t (fun j hj => h (j + 1) (by simpa using hj))]
  rfl
theorem drop_getD {t : List UInt8} {a j : Nat} : (t.drop a).getD j 0 = t.getD (a + j) 0 := by
 rw [List.getD_eq_getElem?_getD, List.getD_eq_getElem?_getD, List.getElem?_drop]
def la95 (s : List UInt8) (c:Int) : LA := {
 pre := [.own 5 9 1, .reno 5 1, .keep [0, 1, 5, 6, 7] [1], .bound 2], post := [.reno 5 1, .keep [0, 1, 5, 6, 7] [1], .bound 2]
 Gh := Nat × Nat × List (List UInt8)
 st := fun q => ⟨[(0, .str s), (1, .int .u8 c), (5, .own 1 (q.2.2.map encS).length), (6, .i q.2.1), (7, .i q.1)], [(1, .buf 9 1 (q.2.2.map encS))], 2⟩
 ok := fun q => q.2.1 <= q.1 ∧ q.1 <= s.length ∧ q.2.2.length <= q.1 ∧ spl c.toNat.toUInt8 s = q.2.2 ++ spl c.toNat.toUInt8 (s.drop q.2.1) ∧ ∀ j, q.2.1 <= j -> j < q.1 -> s.getD j 0 ≠ c.toNat.toUInt8
 ms := fun q => s.length - q.1 }
theorem c95 (s : List UInt8) (c:Int) (hs : s.length <= 1000000) (hc : 0 <= c ∧ c <= 255) : PCall Tryz.prog G0 95 [.str s, .int .u8 c] (.sl 1 ((spl c.toNat.toUInt8 s).map encS)) := by
 have key :
  (∃ (g : Nat × Nat × List (List UInt8)), (g.snd.fst <= g.fst ∧ g.fst <= s.length ∧ g.snd.snd.length <= g.fst ∧ spl c.toNat.toUInt8 s = g.snd.snd ++ spl c.toNat.toUInt8 (List.drop g.snd.fst s) ∧ ∀ (j:Nat), g.snd.fst <= j -> j < g.fst →
  s.getD j (0:UInt8) ≠ c.toNat.toUInt8) ∧ AS.mk [(0, AV.str s), (1, AV.int IntKind.u8 c), (5, AV.own 1 0), (6, AV.i 0), (7, AV.i 0)] [(1, ABlk.buf 9 1 [])] 2 = AS.mk [(0, AV.str s), (1, AV.int IntKind.u8 c), (5, AV.own 1 (List.map
  encS g.snd.snd).length), (6, AV.i (↑g.snd.fst : Int)), (7, AV.i (↑g.fst : Int))] [(1, ABlk.buf 9 1 (List.map encS g.snd.snd))] 2) ∧ ∀ (g : Nat × Nat × List (List UInt8)), (g.snd.fst <= g.fst ∧ g.fst <= s.length ∧ g.snd.snd.length ≤
  g.fst ∧ spl c.toNat.toUInt8 s = g.snd.snd ++ spl c.toNat.toUInt8 (List.drop g.snd.fst s) ∧ ∀ (j:Nat), g.snd.fst <= j -> j < g.fst -> s.getD j (0:UInt8) ≠ c.toNat.toUInt8) -> (decide ((↑g.fst : Int) < (↑s.length : Int)) = true -> (0
  : Int) <= (↑g.fst : Int) ∧ (↑g.fst : Int) < (↑s.length : Int) ∧ (((↑(s.getD (↑g.fst : Int).toNat (0:UInt8)).toNat : Int) == c) = true -> (0:Int) <= (↑g.snd.fst : Int) ∧ (↑g.snd.fst : Int) <= (↑g.fst : Int) ∧ (↑g.fst : Int) ≤
  (↑s.length : Int) ∧ (List.map encS g.snd.snd).length + 1 <= 9223372036854775807 ∧ ((List.map encS g.snd.snd).length + 1) * 16 <= 140737488355328 ∧ In64 ((↑g.fst : Int) + 1) ∧ In64 ((↑g.fst : Int) + 1) ∧ ∃ (g' : Nat × Nat × List (List
  UInt8)), (g'.snd.fst <= g'.fst ∧ g'.fst <= s.length ∧ g'.snd.snd.length <= g'.fst ∧ spl c.toNat.toUInt8 s = g'.snd.snd ++ spl c.toNat.toUInt8 (List.drop g'.snd.fst s) ∧ ∀ (j:Nat), g'.snd.fst <= j -> j < g'.fst -> s.getD j (0:UInt8) ≠
  c.toNat.toUInt8) ∧ s.length - g'.fst < s.length - g.fst ∧ AS.mk [(0, AV.str s), (1, AV.int IntKind.u8 c), (5, AV.own 1 ((List.map encS g.snd.snd).length + 1)), (6, AV.i ((↑g.fst : Int) + 1)), (7, AV.i ((↑g.fst : Int) + 1))] [(1,
  ABlk.buf 9 1 (List.map encS g.snd.snd ++ [[AV.str (List.take ((↑g.fst : Int) - (↑g.snd.fst : Int)).toNat (List.drop (↑g.snd.fst : Int).toNat s))]]))] 2 = AS.mk [(0, AV.str s), (1, AV.int IntKind.u8 c), (5, AV.own 1 (List.map encS
  g'.snd.snd).length), (6, AV.i (↑g'.snd.fst : Int)), (7, AV.i (↑g'.fst : Int))] [(1, ABlk.buf 9 1 (List.map encS g'.snd.snd))] 2) ∧ (((↑(s.getD (↑g.fst : Int).toNat (0:UInt8)).toNat : Int) == c) = false -> In64 ((↑g.fst : Int) + 1)
  ∧ ∃ (g' : Nat × Nat × List (List UInt8)), (g'.snd.fst <= g'.fst ∧ g'.fst <= s.length ∧ g'.snd.snd.length <= g'.fst ∧ spl c.toNat.toUInt8 s = g'.snd.snd ++ spl c.toNat.toUInt8 (List.drop g'.snd.fst s) ∧ ∀ (j:Nat), g'.snd.fst <= j -> j
  < g'.fst -> s.getD j (0:UInt8) ≠ c.toNat.toUInt8) ∧ s.length - g'.fst < s.length - g.fst ∧ AS.mk [(0, AV.str s), (1, AV.int IntKind.u8 c), (5, AV.own 1 (List.map encS g.snd.snd).length), (6, AV.i (↑g.snd.fst : Int)), (7, AV.i
  ((↑g.fst : Int) + 1))] [(1, ABlk.buf 9 1 (List.map encS g.snd.snd))] 2 = AS.mk [(0, AV.str s), (1, AV.int IntKind.u8 c), (5, AV.own 1 (List.map encS g'.snd.snd).length), (6, AV.i (↑g'.snd.fst : Int)), (7, AV.i (↑g'.fst : Int))]
  [(1, ABlk.buf 9 1 (List.map encS g'.snd.snd))] 2)) ∧ (decide ((↑g.fst : Int) < (↑s.length : Int)) = false -> (0:Int) <= (↑g.snd.fst : Int) ∧ (↑g.snd.fst : Int) <= (↑s.length : Int) ∧ (↑s.length : Int) <= (↑s.length : Int) ∧ (List.map
  encS g.snd.snd).length + 1 <= 9223372036854775807 ∧ ((List.map encS g.snd.snd).length + 1) * 16 <= 140737488355328 ∧ AV.sl 1 (List.map encS g.snd.snd ++ [[AV.str (List.take ((↑s.length : Int) - (↑g.snd.fst : Int)).toNat (List.drop
  (↑g.snd.fst : Int).toNat s))]]) = AV.sl 1 (List.map encS (spl c.toNat.toUInt8 s))) := by
   obtain ⟨k, hk⟩ : ∃ k : UInt8, k = c.toNat.toUInt8 := ⟨_, rfl⟩
   rw [<- hk]
   have hkc : (k.toNat : Int) = c := by
    rw [hk]
    have : c.toNat < 256 := by omega
    rw [show (c.toNat.toUInt8).toNat = c.toNat % 256 from rfl, Nat.mod_eq_of_lt this]
    omega
   refine ⟨⟨(0, 0, []), ⟨Nat.le_refl _, Nat.zero_le _, Nat.le_refl _, by simp, fun j h1 h2 => absurd h2 (by simp)⟩, rfl⟩, fun q hq => ?_⟩
   obtain ⟨i, a, P⟩ := q
   dsimp only at hq ⊢
   obtain ⟨h1, h2, h3, h4, h5⟩ := hq
   have hPm : (List.map encS P).length = P.length := List.length_map _
   refine ⟨fun hlt => ?_, fun hge => ?_⟩
   · have hlt : i < s.length := by have := of_decide_eq_true hlt; omega
     rw [Int.toNat_natCast, Int.toNat_natCast, show ((i:Int) - (a:Int)).toNat = i - a by omega]
     refine ⟨by omega, by omega, fun he => ?_, fun he => ?_⟩
     · have he : s.getD i 0 = k := by
        apply UInt8.toNat_inj.1
        have := eq_of_beq he
        omega
       refine ⟨by omega, by omega, by omega, by omega, by omega, by unfold In64; omega, by unfold In64; omega, (i + 1, i + 1, P ++ [(s.drop a).take (i - a)]), ⟨Nat.le_refl _, hlt, by rw [List.length_append, List.length_singleton]; omega, ?_, fun j hj1 hj2 => by dsimp only at hj1 hj2; omega⟩, by dsimp only; omega, ?_⟩
       · dsimp only
         rw [h4, spl_cut k (i - a) (s.drop a) (by rw [List.length_drop]; omega) (fun j hj => by rw [drop_getD]; exact h5 _ (by omega) (by omega)) (by rw [drop_getD, show a + (i - a) = i by omega]; exact he), List.append_assoc, List.drop_drop, show a + (i - a + 1) = i + 1 by omega]
         rfl
       · dsimp only
         rw [List.map_append, List.length_append]
         rfl
     · refine ⟨by unfold In64; omega, (i + 1, a, P), ⟨by dsimp only; omega, hlt, by dsimp only; omega, h4, fun j hj1 hj2 => ?_⟩, by dsimp only; omega, rfl⟩
       dsimp only at hj1 hj2
       by_cases q : j = i
       · subst q
         intro e
         rw [e, hkc, beq_self_eq_true] at he
         cases he
       · exact h5 j hj1 (by omega)
   · have hi : i = s.length := by have := of_decide_eq_false hge; omega
     subst hi
     refine ⟨by omega, by omega, by omega, by omega, by omega, ?_⟩
     rw [h4, spl_last k (s.drop a) (fun j hj => by rw [List.length_drop] at hj; rw [drop_getD]; exact h5 _ (by omega) (by omega)), List.map_append, Int.toNat_natCast, show ((s.length : Int) - (a:Int)).toNat = s.length - a by omega, List.take_of_length_le (by rw [List.length_drop]; exact Nat.le_refl _)]
     rfl
 exact c_of Tryz.f95 ({ mkB spQ0 95 [] (fun i => if i.beq 0 then some (la95 s c) else none) with bx := fun i => if i.beq 0 then [] else [] }) (by kernel_rfl) (by kernel_rfl) (by kernel_rfl) (by kernel_rfl) key (by kernel_rfl)
end Go.Proofs.YtfoeefaamjknpaaGreatDoor
