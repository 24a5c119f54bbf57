/-
  Complaints, the source's: those that are due. Complaints: those that are due, the source's; what is wrong, the reference's; copies. Suffixes, words of a line, numbers in words, parts of a string: contracts. No condition but the theorems' own.
-/
import Derived.Test.YtfoeefaamjknpaaGreatDoorPB
import Derived.Test.YtfoeefaamjknpaaGreatDoorAvD
import Derived.Test.YtfoeefaamjknpaaGreatDoorPA
namespace Go.Proofs.YtfoeefaamjknpaaGreatDoor
open Go Go.Av Go.RowKit
theorem w_of {f : Nat} {args : List AV} {bs : List ABlk} {r : AV} {fin : List ABlk} (fn : Func) (B : BA) (hf : Tryz.prog.funcs[f]? = some fn) (hb : fn.body = some (bodyOf fn)) (hn : (fn.name == "runtime.NumGoroutine") = false) (hlen : Nat.ble args.length fn.ntmps = true) (hwf : wfB (bs.length + 1) (startW args bs) = true)
    {q : Prop} (hq : q) (h : VC (bodyE Tryz.prog T0 G0 fn.ntmps []) B 10000 0 (bodyOf fn) (startW args bs) (retQW T0 fn bs.length r fin) = q) : WCall Tryz.prog G0 f args bs r fin :=
  callW_of_VC tok mix hf hb hn (Nat.le_of_ble_eq_true hlen) hwf B (vc_of hq h)
end Go.Proofs.YtfoeefaamjknpaaGreatDoor
namespace Go.Proofs.YtfoeefaamjknpaaGreatDoor
open Go Go.Av Go.RowKit
end Go.Proofs.YtfoeefaamjknpaaGreatDoor
namespace Go.Proofs.YtfoeefaamjknpaaGreatDoor
open Go Go.Av Go.RowKit
theorem wr_u8 {n : Nat} (h : n < 10) : IntKind.u8.wrap (48 + (n : Int)) = 48 + (n : Int) := by
  have : n = 0 ∨ n = 1 ∨ n = 2 ∨ n = 3 ∨ n = 4 ∨ n = 5 ∨ n = 6 ∨ n = 7 ∨ n = 8 ∨ n = 9 := by omega
  rcases this with rfl | rfl | rfl | rfl | rfl | rfl | rfl | rfl | rfl | rfl <;> decide
theorem ddF_len : ∀ (k u : Nat), (ddF k u).length ≤ k + 1
  | 0, _ => Nat.le_refl _
  | k + 1, u => by
    have := ddF_len k (u / 10)
    rw [ddF]
    split
    · simp
    · rw [List.length_append, List.length_singleton]; omega
theorem dd_len {n : Nat} (h : n < 1000000000) : (Lib.decDigits n).length ≤ 10 := by
  rw [← ddF_eq 9 n (by omega)]
  exact ddF_len 9 n
theorem dd_step {m : Nat} (h : m ≠ 0) : Lib.decDigits m = (if m / 10 = 0 then [] else Lib.decDigits (m / 10)) ++ [UInt8.ofNat (48 + m % 10)] := by
  rw [Lib.decDigits]
  by_cases q : m < 10
  · rw [dif_pos q, if_pos (by omega), Nat.mod_eq_of_lt q]
    rfl
  · rw [dif_neg q, if_neg (by omega)]
def la91 (n : Nat) : LA := {
  pre := [.keep [0, 3, 4] [], .bound 1], post := [.keep [0, 3, 4] [], .bound 1]
  Gh := Nat × List UInt8
  st := fun q => ⟨[(0, .i n), (3, .str q.2), (4, .i q.1)], [], 1⟩
  ok := fun q => q.1 ≤ n ∧ (if q.1 = 0 then q.2 else Lib.decDigits q.1 ++ q.2) = Lib.decDigits n
  ms := fun q => q.1 }
theorem c91 (n : Nat) (hn : n < 1000000000) : PCall Tryz.prog G0 91 [.i n] (.str (Lib.decDigits n)) := by
  have key :
   (((↑n : Int) == 0) = true → AV.str [(48 : UInt8)] = AV.str (Lib.decDigits n)) ∧ (((↑n : Int) == 0) = false → (∃ (g : Nat × List UInt8), (g.fst ≤ n ∧ (if g.fst = 0 then g.snd else Lib.decDigits g.fst ++ g.snd) = Lib.decDigits n) ∧
   AS.mk [(0, AV.i (↑n : Int)), (3, AV.str []), (4, AV.i (↑n : Int))] [] 1 = AS.mk [(0, AV.i (↑n : Int)), (3, AV.str g.snd), (4, AV.i (↑g.fst : Int))] [] 1) ∧ ∀ (g : Nat × List UInt8), g.fst ≤ n ∧ (if g.fst = 0 then g.snd else
   Lib.decDigits g.fst ++ g.snd) = Lib.decDigits n → (((↑g.fst : Int) != 0) = true → ¬(10 : Int) = (0 : Int) ∧ ¬(10 : Int) = (0 : Int) ∧ In64 ((0 : Int) - (↑g.fst : Int).tmod (10 : Int)) ∧ In64 ((48 : Int) + maxI ((↑g.fst : Int).tmod
   (10 : Int)) ((0 : Int) - (↑g.fst : Int).tmod (10 : Int))) ∧ 1 + g.snd.length ≤ 9223372036854775807 ∧ ¬(10 : Int) = (0 : Int) ∧ In64 ((↑g.fst : Int).tdiv 10) ∧ ∃ (g' : Nat × List UInt8), (g'.fst ≤ n ∧ (if g'.fst = 0 then g'.snd else
   Lib.decDigits g'.fst ++ g'.snd) = Lib.decDigits n) ∧ g'.fst < g.fst ∧ AS.mk [(0, AV.i (↑n : Int)), (3, AV.str (UInt8.ofBitVec (BitVec.ofFin (Fin.mk ((IntKind.u8.wrap ((48 : Int) + maxI ((↑g.fst : Int).tmod (10 : Int)) ((0 : Int) -
   (↑g.fst : Int).tmod (10 : Int)))).toNat % 256) (Nat.mod_lt (IntKind.u8.wrap ((48 : Int) + maxI ((↑g.fst : Int).tmod (10 : Int)) ((0 : Int) - (↑g.fst : Int).tmod (10 : Int)))).toNat (BitVec.ofNat._proof_1 8)))) :: List.append._f []
   PUnit.unit g.snd)), (4, AV.i ((↑g.fst : Int).tdiv 10))] [] 1 = AS.mk [(0, AV.i (↑n : Int)), (3, AV.str g'.snd), (4, AV.i (↑g'.fst : Int))] [] 1) ∧ (((↑g.fst : Int) != 0) = false → (false = true → 1 + g.snd.length ≤
   9223372036854775807 ∧ AV.str ((45 : UInt8) :: List.append._f [] PUnit.unit g.snd) = AV.str (Lib.decDigits n)) ∧ (false = false → AV.str g.snd = AV.str (Lib.decDigits n)))) := by
    refine ⟨fun h => ?_, fun h => ⟨⟨(n, []), ⟨Nat.le_refl _, ?_⟩, rfl⟩, fun q hq => ?_⟩⟩
    · have h0 : n = 0 := by have := eq_of_beq h; omega
      rw [h0, Lib.decDigits, dif_pos (by decide)]
      rfl
    · have h0 : n ≠ 0 := fun q => by
        rw [q] at h
        exact absurd h (by decide)
      rw [if_neg h0, List.append_nil]
    · obtain ⟨m, acc⟩ := q
      obtain ⟨h1, h2⟩ := hq
      dsimp only at h1 h2 ⊢
      refine ⟨fun hm => ?_, fun hm => ⟨fun h => (by cases h), fun _ => ?_⟩⟩
      · have hm0 : m ≠ 0 := by
          intro q
          rw [q] at hm
          cases hm
        rw [if_neg hm0] at h2
        have hln := congrArg List.length h2
        rw [List.length_append] at hln
        have hl10 := dd_len hn
        have ht : (m : Int).tmod 10 = ((m % 10 : Nat) : Int) := by rw [Int.tmod_eq_emod_of_nonneg (by omega)]; norm_cast
        have hd : (m : Int).tdiv 10 = ((m / 10 : Nat) : Int) := by rw [Int.tdiv_eq_ediv_of_nonneg (by omega)]; norm_cast
        have hmx : maxI ((m % 10 : Nat) : Int) (0 - ((m % 10 : Nat) : Int)) = ((m % 10 : Nat) : Int) := by unfold maxI; split <;> omega
        have hlt : m % 10 < 10 := Nat.mod_lt _ (by decide)
        have hw := wr_u8 hlt
        refine ⟨by decide, by decide, by rw [ht]; unfold In64; omega, by rw [ht, hmx]; unfold In64; omega, by omega, by decide, by rw [hd]; unfold In64; omega, (m / 10, UInt8.ofNat (48 + m % 10) :: acc), ⟨by dsimp only; omega, ?_⟩, by dsimp only; omega, ?_⟩
        · dsimp only
          rw [← h2, dd_step hm0]
          by_cases q : m / 10 = 0
          · rw [if_pos q, if_pos q]; rfl
          · rw [if_neg q, if_neg q, List.append_assoc]; rfl
        · dsimp only
          rw [hd]
          show AS.mk [(0, AV.i (n : Int)), (3, AV.str (UInt8.ofNat (IntKind.u8.wrap (48 + maxI ((m : Int).tmod 10) (0 - (m : Int).tmod 10))).toNat :: acc)), (4, AV.i ((m / 10 : Nat) : Int))] [] 1 = _
          rw [ht, hmx, hw, show (48 + ((m % 10 : Nat) : Int)).toNat = 48 + m % 10 by omega]
      · have hm0 : m = 0 := by
          by_cases q : m = 0
          · exact q
          · rw [bne, beq_eq_false_iff_ne.2 (show (m : Int) ≠ 0 by omega)] at hm
            cases hm
        rw [if_pos hm0] at h2
        rw [h2]
  exact c_of Tryz.f91 (mkB spN 91 [] (fun i => if i.beq 0 then some (la91 n) else none)) (by kernel_rfl) (by kernel_rfl) (by kernel_rfl) (by kernel_rfl) key (by kernel_rfl)
end Go.Proofs.YtfoeefaamjknpaaGreatDoor
namespace Go.Proofs.YtfoeefaamjknpaaGreatDoor
open Go Go.Av Go.RowKit
def cutS (s t : List UInt8) : Bool := decide (t.length ≤ s.length) && s.drop (s.length - t.length) == t
theorem or_f {a b : Bool} (h : (if a = true then true else b) = false) : a = false ∧ b = false := by
  revert h
  cases a <;> cases b <;> decide
def spQ0 : Nat → List AV → Option AV
  | 201, [.str s, .str t] => some (.bool (decide (t.length ≤ s.length) && s.drop (s.length - t.length) == t))
  | 187, [.str s, .str t] => some (.tup [.str (if cutS s t then s.take (s.length - t.length) else s), .bool (cutS s t)])
  | 188, [.str s, .str [c], _, _] => some (.sl 1 ((spl c s).map encS))
  | n, x => spN n x
theorem c201 (s t : List UInt8) (hs : s.length ≤ 1000000) (ht : t.length ≤ 1000000) : PCall Tryz.prog G0 201 [.str s, .str t] (.bool (decide (t.length ≤ s.length) && s.drop (s.length - t.length) == t)) := by
  have key :
   (decide ((↑s.length : Int) ≥ (↑t.length : Int)) = true → decide ((↑s.length : Int) ≥ (↑t.length : Int)) = true) ∧ (decide ((↑s.length : Int) ≥ (↑t.length : Int)) = true → decide ((↑s.length : Int) ≥ (↑t.length : Int)) = true) ∧
   (decide ((↑s.length : Int) ≥ (↑t.length : Int)) = true → decide ((↑s.length : Int) ≥ (↑t.length : Int)) = true) ∧ (decide ((↑s.length : Int) ≥ (↑t.length : Int)) = true → decide ((↑s.length : Int) ≥ (↑t.length : Int)) = true) ∧
   (decide ((↑s.length : Int) ≥ (↑t.length : Int)) = true → In64 ((↑s.length : Int) - (↑t.length : Int))) ∧ (decide ((↑s.length : Int) ≥ (↑t.length : Int)) = true → decide ((↑s.length : Int) ≥ (↑t.length : Int)) = true) ∧ (decide
   ((↑s.length : Int) ≥ (↑t.length : Int)) = true → decide ((↑s.length : Int) ≥ (↑t.length : Int)) = true) ∧ (decide ((↑s.length : Int) ≥ (↑t.length : Int)) = true → (0 : Int) ≤ (↑s.length : Int) - (↑t.length : Int)) ∧ (decide
   ((↑s.length : Int) ≥ (↑t.length : Int)) = true → (↑s.length : Int) - (↑t.length : Int) ≤ (↑s.length : Int)) ∧ (decide ((↑s.length : Int) ≥ (↑t.length : Int)) = true → (↑s.length : Int) ≤ (↑s.length : Int)) ∧ (decide ((↑s.length :
   Int) ≥ (↑t.length : Int)) = true → decide ((↑s.length : Int) ≥ (↑t.length : Int)) = true) ∧ (decide ((↑s.length : Int) ≥ (↑t.length : Int)) = true → decide ((↑s.length : Int) ≥ (↑t.length : Int)) = true) ∧ (decide ((↑s.length :
   Int) ≥ (↑t.length : Int)) = true → decide ((↑s.length : Int) ≥ (↑t.length : Int)) = true) ∧ AV.bool (if decide ((↑s.length : Int) ≥ (↑t.length : Int)) = true then List.take ((↑s.length : Int) - ((↑s.length : Int) - (↑t.length :
   Int))).toNat (List.drop ((↑s.length : Int) - (↑t.length : Int)).toNat s) == t else false) = AV.bool (decide (t.length ≤ s.length) && List.drop (s.length - t.length) s == t) := by
    refine ⟨fun h => h, fun h => h, fun h => h, fun h => h, fun h => by have := of_decide_eq_true h; unfold In64; omega, fun h => h, fun h => h, fun h => by have := of_decide_eq_true h; omega, fun h => by omega, fun h => by omega, fun h => h, fun h => h, fun h => h, ?_⟩
    by_cases h : t.length ≤ s.length
    · rw [decide_eq_true (show (s.length : Int) ≥ t.length by omega), if_pos rfl, decide_eq_true h, Bool.true_and, show ((s.length : Int) - (s.length - t.length)).toNat = t.length by omega, show ((s.length : Int) - t.length).toNat = s.length - t.length by omega, List.take_of_length_le (by rw [List.length_drop]; omega)]
    · rw [decide_eq_false (show ¬ (s.length : Int) ≥ t.length by omega), if_neg (by decide), decide_eq_false h, Bool.false_and]
  exact c_of Tryz.f201 (mkB spQ0 201 [] noLa) (by kernel_rfl) (by kernel_rfl) (by kernel_rfl) (by kernel_rfl) key (by kernel_rfl)
theorem or_r {a b : Bool} (h : (if a = true then true else b) = true) (ha : a = false) : b = true := by
  rw [ha] at h
  exact h
theorem c187 (s t : List UInt8) (hs : s.length ≤ 1000000) (ht : t.length ≤ 1000000) : PCall Tryz.prog G0 187 [.str s, .str t] (.tup [.str (if cutS s t then s.take (s.length - t.length) else s), .bool (cutS s t)]) := by
  have key :
   PCall Tryz.prog G0 201 [AV.str s, AV.str t] (AV.bool (decide (t.length ≤ s.length) && List.drop (s.length - t.length) s == t)) ∧ ((!(decide (t.length ≤ s.length) && List.drop (s.length - t.length) s == t)) = true → AV.tup [AV.str
   s, AV.bool false] = AV.tup [AV.str (if cutS s t = true then List.take (s.length - t.length) s else s), AV.bool (cutS s t)]) ∧ ((!(decide (t.length ≤ s.length) && List.drop (s.length - t.length) s == t)) = false → In64 ((↑s.length :
   Int) - (↑t.length : Int)) ∧ (0 : Int) ≤ 0 ∧ (0 : Int) ≤ (↑s.length : Int) - (↑t.length : Int) ∧ (↑s.length : Int) - (↑t.length : Int) ≤ (↑s.length : Int) ∧ AV.tup [AV.str (List.take ((↑s.length : Int) - (↑t.length : Int) - 0).toNat
   (List.drop 0 s)), AV.bool true] = AV.tup [AV.str (if cutS s t = true then List.take (s.length - t.length) s else s), AV.bool (cutS s t)]) := by
    refine ⟨c201 s t hs ht, fun h => ?_, fun h => ?_⟩
    · have hc : cutS s t = false := by
        unfold cutS
        revert h
        cases (decide (t.length ≤ s.length) && List.drop (s.length - t.length) s == t) <;> simp
      rw [hc]
      rfl
    · have hc : cutS s t = true := by
        unfold cutS
        revert h
        cases (decide (t.length ≤ s.length) && List.drop (s.length - t.length) s == t) <;> simp
      have hle : t.length ≤ s.length := by
        have := hc
        unfold cutS at this
        rw [Bool.and_eq_true, decide_eq_true_eq] at this
        exact this.1
      refine ⟨by unfold In64; omega, by omega, by omega, by omega, ?_⟩
      rw [hc, if_pos rfl, List.drop_zero, show ((s.length : Int) - t.length - 0).toNat = s.length - t.length by omega]
  exact c_of Tryz.f187 (mkB spQ0 187 [] noLa) (by kernel_rfl) (by kernel_rfl) (by kernel_rfl) (by kernel_rfl) key (by kernel_rfl)
theorem c156 (s t : List UInt8) (hs : s.length ≤ 1000000) (ht : t.length ≤ 1000000) : PCall Tryz.prog G0 156 [.str s, .str t] (.tup [.str (if cutS s t then s.take (s.length - t.length) else s), .bool (cutS s t)]) := by
  have key :
   PCall Tryz.prog G0 187 [AV.str s, AV.str t] (AV.tup [AV.str (if cutS s t = true then List.take (s.length - t.length) s else s), AV.bool (cutS s t)]) ∧ AV.tup [AV.str (if cutS s t = true then List.take (s.length - t.length) s else
   s), AV.bool (cutS s t)] = AV.tup [AV.str (if cutS s t = true then List.take (s.length - t.length) s else s), AV.bool (cutS s t)] := by
    exact ⟨c187 s t hs ht, rfl⟩
  exact c_of Tryz.f156 (mkB spQ0 156 [] noLa) (by kernel_rfl) (by kernel_rfl) (by kernel_rfl) (by kernel_rfl) key (by kernel_rfl)
theorem c157 (s : List UInt8) (c : UInt8) (hs : s.length ≤ 1000000) : PCall Tryz.prog G0 157 [.str s, .str [c]] (.sl 1 ((spl c s).map encS)) := by
  have key :
   PCall Tryz.prog G0 188 [AV.str s, AV.str [c], AV.i 0, AV.i (-1)] (AV.sl 1 (List.map encS (spl c s))) ∧ AV.sl 1 (List.map encS (spl c s)) = AV.sl 1 (List.map encS (spl c s)) := by
    exact ⟨c188 s c hs, rfl⟩
  exact c_of Tryz.f157 (mkB spQ0 157 [] noLa) (by kernel_rfl) (by kernel_rfl) (by kernel_rfl) (by kernel_rfl) key (by kernel_rfl)
theorem c155 (s : List UInt8)  : PCall Tryz.prog G0 155 [.str s] (.fbox 185 [.str s]) := by
  have key :
   AV.fbox 185 [AV.str s] = AV.fbox 185 [AV.str s] := by
    rfl
  exact c_of Tryz.f155 (mkB spQ0 155 [] noLa) (by kernel_rfl) (by kernel_rfl) (by kernel_rfl) (by kernel_rfl) key (by kernel_rfl)
def wdR (ws : List (List UInt8)) : List (List UInt8) := if ws.headD [] == [] then [] else ws.tail
def wdB (ws : List (List UInt8)) (b : Bool) : Bool := if ws.headD [] == [] then true else b
theorem ne_len {ws : List (List UInt8)} (h : (!((ws.map encS).length : Int) == 0) = true) : (0 : Int) < ((ws.map encS).length : Int) := by
  simp only [Bool.not_eq_true', beq_eq_false_iff_ne] at h
  omega
theorem rd_w0 {ws : List (List UInt8)} (h : (!((ws.map encS).length : Int) == 0) = true) : nth (nthR (ws.map encS) 0) 0 = AV.str (ws.getD 0 []) := by
  have h1 := ne_len h
  rw [List.length_map] at h1
  exact congrArg (fun r => nth r 0) (row_at encS (l := ws) (i := 0) (by omega))
theorem w159 (ws : List (List UInt8)) (b : Bool) (hw : ws.length ≤ 1000000) : WCall Tryz.prog G0 159 [.ptr 1 0] [ABlk.box [.sl 1 (ws.map encS), .bool b]] (.str (ws.headD [])) [ABlk.box [.sl 1 ((wdR ws).map encS), .bool (wdB ws b)]] := by
  have key :
   ((!(↑(List.map encS ws).length : Int) == 0) = true → (!(↑(List.map encS ws).length : Int) == 0) = true) ∧ ((!(↑(List.map encS ws).length : Int) == 0) = true → (!(↑(List.map encS ws).length : Int) == 0) = true) ∧ ((!(↑(List.map encS
   ws).length : Int) == 0) = true → (!(↑(List.map encS ws).length : Int) == 0) = true) ∧ ((!(↑(List.map encS ws).length : Int) == 0) = true → (!(↑(List.map encS ws).length : Int) == 0) = true) ∧ ((!(↑(List.map encS ws).length : Int)
   == 0) = true → (0 : Int) ≤ 0) ∧ ((!(↑(List.map encS ws).length : Int) == 0) = true → (0 : Int) < (↑(List.map encS ws).length : Int)) ∧ ((!(↑(List.map encS ws).length : Int) == 0) = true → (!(↑(List.map encS ws).length : Int) == 0)
   = true) ∧ ((!(↑(List.map encS ws).length : Int) == 0) = true → (!(↑(List.map encS ws).length : Int) == 0) = true) ∧ (((↑(List.map encS ws).length : Int) == 0) = false → (!(↑(List.map encS ws).length : Int) == 0) = true) ∧ impB
   (!(↑(List.map encS ws).length : Int) == 0) (nth (nthR (List.map encS ws) 0) 0 = AV.str (ws.getD 0 [])) ∧ ((if ((↑(List.map encS ws).length : Int) == 0) = true then true else ws.getD 0 [] == []) = true → AV.str [] = AV.str (ws.headD
   []) ∧ [ABlk.box [AV.sl 1 [], AV.bool true]] = [ABlk.box [AV.sl 1 (List.map encS (wdR ws)), AV.bool (wdB ws b)]]) ∧ ((if ((↑(List.map encS ws).length : Int) == 0) = true then true else ws.getD 0 [] == []) = false → (0 : Int) ≤ 0 ∧
   (0 : Int) < (↑(List.map encS ws).length : Int) ∧ nth (nthR (List.map encS ws) 0) 0 = AV.str (ws.getD 0 []) ∧ (0 : Int) ≤ 1 ∧ (1 : Int) ≤ (↑(List.map encS ws).length : Int) ∧ (↑(List.map encS ws).length : Int) ≤ (↑(List.map encS
   ws).length : Int) ∧ AV.sl 1 (List.take ((↑(List.map encS ws).length : Int) - 1).toNat (List.drop 1 (List.map encS ws))) = AV.sl 1 (List.map encS ws.tail) ∧ AV.str (ws.getD 0 []) = AV.str (ws.headD []) ∧ [ABlk.box [AV.sl 1 (List.map
   encS ws.tail), AV.bool b]] = [ABlk.box [AV.sl 1 (List.map encS (wdR ws)), AV.bool (wdB ws b)]]) := by
    have hwm : (List.map encS ws).length = ws.length := List.length_map _
    have hd0 : ws.getD 0 [] = ws.headD [] := by cases ws <;> rfl
    have : (List.map encS ws).length = ws.length := by simp only [List.length_map]
    refine ⟨fun h => h, fun h => h, fun h => h, fun h => h, fun _ => by omega, fun hb => ne_len hb, fun h => h, fun h => h, fun h => by first | exact h | (rw [h]; rfl) | simp_all, impB_iff.2 fun hb => (by first | exact rd_w0 hb | exact congrArg (fun r => nth r 0) (row_at encS (l := ws) (i := 0) (by omega))), fun h1 => ?_, fun h1 => ?_⟩
    · have hh : (ws.headD [] == []) = true := by
        cases ws with
        | nil => rfl
        | cons x ws =>
          have := or_r h1 (by simp [beq_eq_false_iff_ne]; omega)
          exact this
      refine ⟨?_, ?_⟩
      · rw [eq_of_beq hh]
      · rw [wdR, wdB, if_pos hh, if_pos hh]
        rfl
    · obtain ⟨hl0, hh⟩ := or_f h1
      rw [hd0] at hh
      have hne : ws.length ≠ 0 := by
        have := hl0
        simp only [beq_eq_false_iff_ne] at this
        omega
      refine ⟨(by omega), (by omega), (by first | exact rd_w0 hb | exact congrArg (fun r => nth r 0) (row_at encS (l := ws) (i := 0) (by omega))), (by omega), (by omega), (by omega), ?_, ?_, ?_⟩
      · rw [List.take_of_length_le (by rw [List.length_drop]; omega), ← List.map_drop, List.drop_one]
      · rw [hd0]
      · rw [wdR, wdB, if_neg (by rw [hh]; decide), if_neg (by rw [hh]; decide)]
  exact w_of Tryz.f159 (gsB (fun i => if i.beq 2 then [.nilb 1 0 1] else []) (mkB spQ0 159 [(1, 12, rdL 1 encS ws 1 false), (4, 5, rdL 1 encS ws 1 false), (5, 5, fun _ => some (.sl 1 (ws.tail.map encS)))] noLa)) (by kernel_rfl) (by kernel_rfl) (by kernel_rfl) (by kernel_rfl) (by kernel_rfl) key (by kernel_rfl)
def digB (c : UInt8) : Bool := decide (48 ≤ c.toNat) && decide (c.toNat ≤ 57)
def digV (s : List UInt8) : Nat → Int
  | 0 => 0
  | k + 1 => 10 * digV s k + ((s.getD k 0).toNat - 48 : Int)
def allDg (s : List UInt8) (n : Nat) : Bool := (List.range n).all fun i => digB (s.getD i 0)
def inOK (s : List UInt8) : Bool := decide (s.length ≤ 9) && allDg s s.length
def dgI (s : List UInt8) : Int := if inOK s then digV s s.length else 0
def inB (s : List UInt8) : Bool := inOK s && (!(s == []) && (decide (s.length = 1) || !(s.getD 0 0 == 48)))
theorem dg_bd {s : List UInt8} : ∀ k, allDg s k = true → 0 ≤ digV s k ∧ digV s k < 10 ^ k
  | 0, _ => by simp [digV]
  | k + 1, h => by
    unfold allDg at h
    rw [List.range_succ, List.all_append, Bool.and_eq_true] at h
    have ih := dg_bd k h.1
    have h2 := h.2
    simp only [List.all_cons, List.all_nil, Bool.and_true, digB, Bool.and_eq_true, decide_eq_true_eq] at h2
    rw [digV, Int.pow_succ]
    omega
def la189 (s : List UInt8) : LA := {
  pre := [.keep [0, 4, 8] [5], .bound 6], post := [.keep [0, 4, 8] [5], .bound 6]
  Gh := Nat
  st := fun i => ⟨[(0, .str s), (4, .i (digV s i)), (8, .ref 5)], [(5, .iter (s.drop i) i)], 6⟩
  ok := fun i => i ≤ s.length ∧ allDg s i = true ∧ (0 < i → s.length ≤ 9)
  ms := fun i => s.length - i
  it := some 5 }
theorem wr_dig {n : Int} (h : 48 ≤ n ∧ n ≤ 57) : IntKind.i64.wrap (IntKind.i32.wrap (n - 48)) = n - 48 ∧ IntKind.i64.wrap (IntKind.u8.wrap (n - 48)) = n - 48 := by
  have : n = 48 ∨ n = 49 ∨ n = 50 ∨ n = 51 ∨ n = 52 ∨ n = 53 ∨ n = 54 ∨ n = 55 ∨ n = 56 ∨ n = 57 := by omega
  rcases this with rfl | rfl | rfl | rfl | rfl | rfl | rfl | rfl | rfl | rfl <;> exact ⟨by decide, by decide⟩
theorem in_bad {s : List UInt8} (h : inOK s = false) : dgI s = 0 ∧ inB s = false := by
  unfold dgI inB
  rw [h]
  exact ⟨rfl, rfl⟩
theorem dg_fail {s : List UInt8} {g : Nat} (h : g < s.length) (hf : digB (s.getD g 0) = false) : inOK s = false := by
  have : allDg s s.length = false := List.all_eq_false.2 ⟨g, by simpa using h, by rw [hf]; decide⟩
  rw [inOK, this, Bool.and_false]
theorem dg_next {s : List UInt8} {g : Nat} (ha : allDg s g = true) (hf : digB (s.getD g 0) = true) : allDg s (g + 1) = true := by
  unfold allDg at ha ⊢
  rw [List.range_succ, List.all_append, ha]
  simp only [List.all_cons, List.all_nil, hf, Bool.and_self]
theorem in_end {s : List UInt8} (ha : allDg s s.length = true) (h9 : s.length ≤ 9) : inOK s = true := by
  rw [inOK, ha, decide_eq_true h9]
  rfl
theorem in_res {s : List UInt8} (h : inOK s = true) : inB s = if (!s == []) = true then if ((s.length : Int) == 1) = true then true else ((s.getD (Int.toNat 0) 0).toNat : Int) != 48 else false := by
  unfold inB
  rw [h, Bool.true_and]
  have e1 : ((s.length : Int) == 1) = decide (s.length = 1) := by
    by_cases q : s.length = 1
    · rw [q]; rfl
    · rw [decide_eq_false q, beq_eq_false_iff_ne]; omega
  have e2 : (((s.getD (Int.toNat 0) 0).toNat : Int) != 48) = !(s.getD 0 0 == 48) := by
    show (((s.getD 0 0).toNat : Int) != 48) = _
    by_cases q : s.getD 0 0 = 48
    · rw [q]; rfl
    · rw [beq_false_of_ne q, Bool.not_false, bne_iff_ne]
      intro h
      apply q
      apply UInt8.toNat_inj.1
      have : (48 : UInt8).toNat = 48 := rfl
      omega
  rw [e1, e2]
  cases (!s == []) <;> cases decide (s.length = 1) <;> rfl
theorem dg_dec (c : UInt8) (r : List UInt8) : (digB c = true → dec (c :: r) = (c.toNat, 1)) ∧ ((48 ≤ (dec (c :: r)).1 ∧ (dec (c :: r)).1 ≤ 57) ↔ digB c = true) := by
  by_cases h : c.toNat < 128
  · rw [dec_ascii r h]
    refine ⟨fun _ => rfl, ?_⟩
    unfold digB
    simp
  · have h1 := dec_big r h
    have h2 : digB c = false := by
      unfold digB
      rw [Bool.and_eq_false_iff, decide_eq_false_iff_not, decide_eq_false_iff_not]
      omega
    refine ⟨fun q => (by rw [h2] at q; cases q), ⟨fun q => (by omega), fun q => (by rw [h2] at q; cases q)⟩⟩
theorem c189 (s : List UInt8) (hs : s.length ≤ 1000000) : PCall Tryz.prog G0 189 [.str s] (.tup [.i (dgI s), .bool (inB s)]) := by
  have key :
   (∃ (g : Nat), (g ≤ s.length ∧ allDg s g = true ∧ (0 < g → s.length ≤ 9)) ∧ AS.mk [(0, AV.str s), (4, AV.i 0), (8, AV.ref 5)] [(5, ABlk.iter s 0)] 6 = AS.mk [(0, AV.str s), (4, AV.i (digV s g)), (8, AV.ref 5)] [(5, ABlk.iter
   (List.drop g s) g)] 6) ∧ ∀ (g : Nat), g ≤ s.length ∧ allDg s g = true ∧ (0 < g → s.length ≤ 9) → (∀ (c : UInt8) (r : List UInt8), List.drop g s = c :: r → (true = true → ((!decide ((↑(dec (c :: r)).fst : Int) < 48)) = true →
   (!decide ((↑(dec (c :: r)).fst : Int) < 48)) = true) ∧ (decide ((↑(dec (c :: r)).fst : Int) < 48) = false → (!decide ((↑(dec (c :: r)).fst : Int) < 48)) = true) ∧ ((!if decide ((↑(dec (c :: r)).fst : Int) < 48) = true then true
   else decide ((↑(dec (c :: r)).fst : Int) > 57)) = true → (!if decide ((↑(dec (c :: r)).fst : Int) < 48) = true then true else decide ((↑(dec (c :: r)).fst : Int) > 57)) = true) ∧ ((!if decide ((↑(dec (c :: r)).fst : Int) < 48) =
   true then true else decide ((↑(dec (c :: r)).fst : Int) > 57)) = true → (!if decide ((↑(dec (c :: r)).fst : Int) < 48) = true then true else decide ((↑(dec (c :: r)).fst : Int) > 57)) = true) ∧ ((if decide ((↑(dec (c :: r)).fst :
   Int) < 48) = true then true else decide ((↑(dec (c :: r)).fst : Int) > 57)) = false → (!if decide ((↑(dec (c :: r)).fst : Int) < 48) = true then true else decide ((↑(dec (c :: r)).fst : Int) > 57)) = true) ∧ ((if (if decide ((↑(dec
   (c :: r)).fst : Int) < 48) = true then true else decide ((↑(dec (c :: r)).fst : Int) > 57)) = true then true else decide ((↑s.length : Int) > 9)) = true → AV.tup [AV.i 0, AV.bool false] = AV.tup [AV.i (dgI s), AV.bool (inB s)]) ∧
   ((if (if decide ((↑(dec (c :: r)).fst : Int) < 48) = true then true else decide ((↑(dec (c :: r)).fst : Int) > 57)) = true then true else decide ((↑s.length : Int) > 9)) = false → In64 ((10 : Int) * digV s g) ∧ In64 ((10 : Int) *
   digV s g + IntKind.i64.wrap (IntKind.i32.wrap ((↑(dec (c :: r)).fst : Int) - 48))) ∧ ∃ (g' : Nat), (g' ≤ s.length ∧ allDg s g' = true ∧ (0 < g' → s.length ≤ 9)) ∧ s.length - g' < s.length - g ∧ AS.mk [(0, AV.str s), (4, AV.i ((10 :
   Int) * digV s g + IntKind.i64.wrap (IntKind.i32.wrap ((↑(dec (c :: r)).fst : Int) - 48)))), (8, AV.ref 5)] [(5, ABlk.iter (List.drop (dec (c :: r)).snd (c :: r)) (g + (dec (c :: r)).snd))] 6 = AS.mk [(0, AV.str s), (4, AV.i (digV s
   g')), (8, AV.ref 5)] [(5, ABlk.iter (List.drop g' s) g')] 6)) ∧ (true = false → ((!s == []) = true → (!s == []) = true) ∧ ((!s == []) = true → (!s == []) = true) ∧ ((!s == []) = true → (!s == []) = true) ∧ ((!s == [] && !(↑s.length
   : Int) == 1) = true → (!s == [] && !(↑s.length : Int) == 1) = true) ∧ ((!s == [] && !(↑s.length : Int) == 1) = true → (0 : Int) ≤ 0) ∧ ((!s == [] && !(↑s.length : Int) == 1) = true → (0 : Int) < (↑s.length : Int)) ∧ ((!s == [] &&
   !(↑s.length : Int) == 1) = true → (!s == [] && !(↑s.length : Int) == 1) = true) ∧ ((!s == []) = true → (!s == []) = true) ∧ ((!s == []) = true → ((↑s.length : Int) == 1) = false → (!s == [] && !(↑s.length : Int) == 1) = true) ∧
   ((!s == []) = true → (!s == []) = true) ∧ AV.tup [AV.i (digV s g), AV.bool (if (!s == []) = true then if ((↑s.length : Int) == 1) = true then true else (↑(s.getD (Int.toNat (0 : Int)) (0 : UInt8)).toNat : Int) != 48 else false)] =
   AV.tup [AV.i (dgI s), AV.bool (inB s)])) ∧ (List.drop g s = [] → (false = true → False) ∧ (false = false → ((!s == []) = true → (!s == []) = true) ∧ ((!s == []) = true → (!s == []) = true) ∧ ((!s == []) = true → (!s == []) = true)
   ∧ ((!s == [] && !(↑s.length : Int) == 1) = true → (!s == [] && !(↑s.length : Int) == 1) = true) ∧ ((!s == [] && !(↑s.length : Int) == 1) = true → (0 : Int) ≤ 0) ∧ ((!s == [] && !(↑s.length : Int) == 1) = true → (0 : Int) <
   (↑s.length : Int)) ∧ ((!s == [] && !(↑s.length : Int) == 1) = true → (!s == [] && !(↑s.length : Int) == 1) = true) ∧ ((!s == []) = true → (!s == []) = true) ∧ ((!s == []) = true → ((↑s.length : Int) == 1) = false → (!s == [] &&
   !(↑s.length : Int) == 1) = true) ∧ ((!s == []) = true → (!s == []) = true) ∧ AV.tup [AV.i (digV s g), AV.bool (if (!s == []) = true then if ((↑s.length : Int) == 1) = true then true else (↑(s.getD (Int.toNat (0 : Int)) (0 :
   UInt8)).toNat : Int) != 48 else false)] = AV.tup [AV.i (dgI s), AV.bool (inB s)])) := by
    refine ⟨⟨0, ⟨Nat.zero_le _, rfl, fun h => absurd h (by decide)⟩, rfl⟩, fun g ⟨hg, ha, h9⟩ => ⟨fun c r hcr => ⟨fun _ => ?_, fun h => by cases h⟩, fun hnil => ⟨fun h => (by cases h), fun _ => ?_⟩⟩⟩
    · have hlt : g < s.length := by
        by_cases h : g < s.length
        · exact h
        · rw [List.drop_eq_nil_of_le (by omega)] at hcr; cases hcr
      have hcg : s.getD g 0 = c := by
        have := congrArg (fun l => l.getD 0 0) hcr
        simpa [List.getD_eq_getElem?_getD] using this
      have hr : r = s.drop (g + 1) := by
        have := congrArg (fun l => l.drop 1) hcr
        simpa using this.symm
      obtain ⟨d1, d2⟩ := dg_dec c r
      refine ⟨fun h => h, fun h => by rw [h]; rfl, fun h => h, fun h => h, fun h => by rw [h]; rfl, fun h => ?_, fun h => ?_⟩
      · have hb : inOK s = false := by
          cases q : digB c with
          | false => exact dg_fail hlt (by rw [hcg]; exact q)
          | true =>
            have := d2.2 q
            rw [decide_eq_false (show ¬ ((dec (c :: r)).1 : Int) < 48 by omega), decide_eq_false (show ¬ ((dec (c :: r)).1 : Int) > 57 by omega)] at h
            have h := of_decide_eq_true (show decide ((s.length : Int) > 9) = true from h)
            rw [inOK, decide_eq_false (by omega), Bool.false_and]
        rw [(in_bad hb).1, (in_bad hb).2]
      · obtain ⟨h1, h3⟩ := or_f h
        obtain ⟨h1, h2⟩ := or_f h1
        have h1 := of_decide_eq_false h1
        have h2 := of_decide_eq_false h2
        have h3 := of_decide_eq_false h3
        have q := d2.1 (by omega)
        have hd := d1 q
        have hb := dg_bd g ha
        have hp : (10 : Int) ^ g ≤ 10 ^ 9 := by
          exact_mod_cast Nat.pow_le_pow_right (show 0 < 10 by decide) (show g ≤ 9 by omega)
        have hp : (10 : Int) ^ g ≤ 1000000000 := hp
        rw [hd] at h1 h2 ⊢
        have hw := (wr_dig (n := (c.toNat : Int)) (by constructor <;> (dsimp only at h1 h2; omega))).1
        have h1 : ¬ (c.toNat : Int) < 48 := h1
        have h2 : ¬ (c.toNat : Int) > 57 := h2
        dsimp only
        rw [hw]
        refine ⟨by unfold In64; omega, by unfold In64; omega, g + 1, ⟨hlt, dg_next ha (by rw [hcg]; exact q), fun _ => by omega⟩, by omega, ?_⟩
        rw [show digV s (g + 1) = 10 * digV s g + ((c.toNat : Int) - 48) by rw [digV, hcg], hr]
        rfl
    · have hge : g = s.length := by
        have := congrArg List.length hnil
        rw [List.length_drop] at this
        simp only [List.length_nil] at this
        omega
      subst hge
      have hok : inOK s = true := in_end ha (by
        by_cases q : 0 < s.length
        · exact h9 q
        · omega)
      have hpos : (!s == [] && !(s.length : Int) == 1) = true → (0 : Int) < s.length := fun h => by
        cases s with
        | nil => cases h
        | cons x t => simp only [List.length_cons]; omega
      refine ⟨fun h => h, fun h => h, fun h => h, fun h => h, fun _ => by omega, hpos, fun h => h, fun h => h, fun h1 h2 => by rw [h1, h2]; rfl, fun h => h, ?_⟩
      rw [in_res hok, dgI, if_pos hok]
  exact c_of Tryz.f189 (mkB spQ0 189 [] (fun i => if i.beq 0 then some (la189 s) else none)) (by kernel_rfl) (by kernel_rfl) (by kernel_rfl) (by kernel_rfl) key (by kernel_rfl)
def hs158 : Nat → List AV → List ABlk → Option AV
  | 159, _, [.box [.sl _ rows, .bool b]] => some (.gv true (.tup [.str ((dS rows).headD []), .agg [.sl 1 ((wdR (dS rows)).map encS), .bool (wdB (dS rows) b)]]))
  | _, _, _ => none
def sp158 : Nat → List AV → Option AV
  | 189, [.str s] => some (.tup [.i (dgI s), .bool (inB s)])
  | n, x => spQ0 n x
theorem w158 (ws : List (List UInt8)) (b : Bool) (hw : ws.length ≤ 1000000) (hl : ∀ x, x ∈ ws → x.length ≤ 1000000) : WCall Tryz.prog G0 158 [.ptr 1 0] [ABlk.box [.sl 1 (ws.map encS), .bool b]] (.i (dgI (ws.headD []))) [ABlk.box [.sl 1 ((wdR ws).map encS), .bool (if wdB ws b then true else !inB (ws.headD []))]] := by
  have key :
   WCall Tryz.prog G0 159 [AV.ptr 1 0] [ABlk.box [AV.sl 1 (List.map encS ws), AV.bool b]] (AV.str ((dS (List.map encS ws)).headD [])) [ABlk.box [AV.sl 1 (List.map encS (wdR (dS (List.map encS ws)))), AV.bool (wdB (dS (List.map encS
   ws)) b)]] ∧ PCall Tryz.prog G0 189 [AV.str ((dS (List.map encS ws)).headD [])] (AV.tup [AV.i (dgI ((dS (List.map encS ws)).headD [])), AV.bool (inB ((dS (List.map encS ws)).headD []))]) ∧ ((!wdB (dS (List.map encS ws)) b) = true →
   (!wdB (dS (List.map encS ws)) b) = true) ∧ (wdB (dS (List.map encS ws)) b = false → (!wdB (dS (List.map encS ws)) b) = true) ∧ AV.i (dgI ((dS (List.map encS ws)).headD [])) = AV.i (dgI (ws.headD [])) ∧ [ABlk.box [AV.sl 1 (List.map
   encS (wdR (dS (List.map encS ws)))), AV.bool (if wdB (dS (List.map encS ws)) b = true then true else !inB ((dS (List.map encS ws)).headD []))]] = [ABlk.box [AV.sl 1 (List.map encS (wdR ws)), AV.bool (if wdB ws b = true then true
   else !inB (ws.headD []))]] := by
    have hh : (ws.headD []).length ≤ 1000000 := by
      cases ws with
      | nil => exact Nat.zero_le _
      | cons x t => exact hl x (by simp)
    rw [dS_e]
    exact ⟨w159 ws b hw, c189 _ hh, fun h => h, fun h => by rw [h]; rfl, rfl, rfl⟩
  exact w_of Tryz.f158 ({ mkB sp158 158 [] noLa with hs := hs158 }) (by kernel_rfl) (by kernel_rfl) (by kernel_rfl) (by kernel_rfl) (by kernel_rfl) key (by kernel_rfl)
def la160 (s : List UInt8) : LA := {
  pre := [.keep [0, 4, 5] [], .bound 1], post := [.keep [0, 4, 5] [], .bound 1]
  Gh := Nat
  st := fun i => ⟨[(0, .str s), (4, .i (digV s i)), (5, .i i)], [], 1⟩
  ok := fun i => i ≤ s.length ∧ allDg s i = true
  ms := fun i => s.length - i }
theorem c160 (s : List UInt8) (hs : s.length ≤ 1000000) : PCall Tryz.prog G0 160 [.str s] (.tup [.i (if inB s then digV s s.length else 0), .bool (inB s)]) := by
  have key :
   ((!s == []) = true → (!s == []) = true) ∧ ((!s == []) = true → (!s == []) = true) ∧ ((s == []) = false → (!s == []) = true) ∧ ((!if (s == []) = true then true else decide ((↑s.length : Int) > 9)) = true → (!if (s == []) = true then
   true else decide ((↑s.length : Int) > 9)) = true) ∧ ((!if (s == []) = true then true else decide ((↑s.length : Int) > 9)) = true → (!if (s == []) = true then true else decide ((↑s.length : Int) > 9)) = true) ∧ ((!if (s == []) =
   true then true else decide ((↑s.length : Int) > 9)) = true → (!if (s == []) = true then true else decide ((↑s.length : Int) > 9)) = true) ∧ (((!if (s == []) = true then true else decide ((↑s.length : Int) > 9)) && decide
   ((↑s.length : Int) > 1)) = true → ((!if (s == []) = true then true else decide ((↑s.length : Int) > 9)) && decide ((↑s.length : Int) > 1)) = true) ∧ (((!if (s == []) = true then true else decide ((↑s.length : Int) > 9)) && decide
   ((↑s.length : Int) > 1)) = true → (0 : Int) ≤ 0) ∧ (((!if (s == []) = true then true else decide ((↑s.length : Int) > 9)) && decide ((↑s.length : Int) > 1)) = true → (0 : Int) < (↑s.length : Int)) ∧ (((!if (s == []) = true then
   true else decide ((↑s.length : Int) > 9)) && decide ((↑s.length : Int) > 1)) = true → ((!if (s == []) = true then true else decide ((↑s.length : Int) > 9)) && decide ((↑s.length : Int) > 1)) = true) ∧ ((!if (s == []) = true then
   true else decide ((↑s.length : Int) > 9)) = true → (!if (s == []) = true then true else decide ((↑s.length : Int) > 9)) = true) ∧ ((!if (s == []) = true then true else decide ((↑s.length : Int) > 9)) = true → decide ((↑s.length :
   Int) > 1) = true → ((!if (s == []) = true then true else decide ((↑s.length : Int) > 9)) && decide ((↑s.length : Int) > 1)) = true) ∧ ((if (s == []) = true then true else decide ((↑s.length : Int) > 9)) = false → (!if (s == []) =
   true then true else decide ((↑s.length : Int) > 9)) = true) ∧ ((if (if (s == []) = true then true else decide ((↑s.length : Int) > 9)) = true then true else if decide ((↑s.length : Int) > 1) = true then (↑(s.getD (Int.toNat (0 :
   Int)) (0 : UInt8)).toNat : Int) == 48 else false) = true → AV.tup [AV.i 0, AV.bool false] = AV.tup [AV.i (if inB s = true then digV s s.length else (0 : Int)), AV.bool (inB s)]) ∧ ((if (if (s == []) = true then true else decide
   ((↑s.length : Int) > 9)) = true then true else if decide ((↑s.length : Int) > 1) = true then (↑(s.getD (Int.toNat (0 : Int)) (0 : UInt8)).toNat : Int) == 48 else false) = false → (∃ (g : Nat), (g ≤ s.length ∧ allDg s g = true) ∧
   AS.mk [(0, AV.str s), (4, AV.i 0), (5, AV.i 0)] [] 1 = AS.mk [(0, AV.str s), (4, AV.i (digV s g)), (5, AV.i (↑g : Int))] [] 1) ∧ ∀ (g : Nat), g ≤ s.length ∧ allDg s g = true → (decide ((↑g : Int) < (↑s.length : Int)) = true → (0 :
   Int) ≤ (↑g : Int) ∧ (↑g : Int) < (↑s.length : Int) ∧ ((!decide ((↑(s.getD (↑g : Int).toNat (0 : UInt8)).toNat : Int) < 48)) = true → (!decide ((↑(s.getD (↑g : Int).toNat (0 : UInt8)).toNat : Int) < 48)) = true) ∧ ((!decide
   ((↑(s.getD (↑g : Int).toNat (0 : UInt8)).toNat : Int) < 48)) = true → (!decide ((↑(s.getD (↑g : Int).toNat (0 : UInt8)).toNat : Int) < 48)) = true) ∧ ((!decide ((↑(s.getD (↑g : Int).toNat (0 : UInt8)).toNat : Int) < 48)) = true →
   (0 : Int) ≤ (↑g : Int)) ∧ ((!decide ((↑(s.getD (↑g : Int).toNat (0 : UInt8)).toNat : Int) < 48)) = true → (↑g : Int) < (↑s.length : Int)) ∧ ((!decide ((↑(s.getD (↑g : Int).toNat (0 : UInt8)).toNat : Int) < 48)) = true → (!decide
   ((↑(s.getD (↑g : Int).toNat (0 : UInt8)).toNat : Int) < 48)) = true) ∧ (decide ((↑(s.getD (↑g : Int).toNat (0 : UInt8)).toNat : Int) < 48) = false → (!decide ((↑(s.getD (↑g : Int).toNat (0 : UInt8)).toNat : Int) < 48)) = true) ∧
   ((if decide ((↑(s.getD (↑g : Int).toNat (0 : UInt8)).toNat : Int) < 48) = true then true else decide ((↑(s.getD (↑g : Int).toNat (0 : UInt8)).toNat : Int) > 57)) = true → AV.tup [AV.i 0, AV.bool false] = AV.tup [AV.i (if inB s =
   true then digV s s.length else (0 : Int)), AV.bool (inB s)]) ∧ ((if decide ((↑(s.getD (↑g : Int).toNat (0 : UInt8)).toNat : Int) < 48) = true then true else decide ((↑(s.getD (↑g : Int).toNat (0 : UInt8)).toNat : Int) > 57)) =
   false → In64 ((10 : Int) * digV s g) ∧ (0 : Int) ≤ (↑g : Int) ∧ (↑g : Int) < (↑s.length : Int) ∧ In64 ((10 : Int) * digV s g + IntKind.i64.wrap (IntKind.u8.wrap ((↑(s.getD (↑g : Int).toNat (0 : UInt8)).toNat : Int) - 48))) ∧ In64
   ((↑g : Int) + 1) ∧ ∃ (g' : Nat), (g' ≤ s.length ∧ allDg s g' = true) ∧ s.length - g' < s.length - g ∧ AS.mk [(0, AV.str s), (4, AV.i ((10 : Int) * digV s g + IntKind.i64.wrap (IntKind.u8.wrap ((↑(s.getD (↑g : Int).toNat (0 :
   UInt8)).toNat : Int) - 48)))), (5, AV.i ((↑g : Int) + 1))] [] 1 = AS.mk [(0, AV.str s), (4, AV.i (digV s g')), (5, AV.i (↑g' : Int))] [] 1)) ∧ (decide ((↑g : Int) < (↑s.length : Int)) = false → AV.tup [AV.i (digV s g), AV.bool
   true] = AV.tup [AV.i (if inB s = true then digV s s.length else (0 : Int)), AV.bool (inB s)])) := by
    have hbad : inB s = false → AV.tup [AV.i 0, AV.bool false] = AV.tup [AV.i (if inB s = true then digV s s.length else (0 : Int)), AV.bool (inB s)] := fun h => by rw [h]; rfl
    refine ⟨fun h => h, fun h => h, fun h => by rw [h]; rfl, fun h => h, fun h => h, fun h => h, fun h => h, fun _ => by omega, fun h => ?_, fun h => h, fun h => h, fun h1 h2 => by rw [h1, h2]; rfl, fun h => by rw [h]; rfl, fun h => ?_, fun h => ?_⟩
    · rw [Bool.and_eq_true] at h
      have := of_decide_eq_true h.2
      omega
    · apply hbad
      cases hs0 : (s == []) with
      | true => rw [eq_of_beq hs0]; rfl
      | false =>
        rw [hs0] at h
        by_cases h9 : s.length ≤ 9
        · rw [decide_eq_false (show ¬ (s.length : Int) > 9 by omega)] at h
          have h : (if decide ((s.length : Int) > 1) = true then ((s.getD (Int.toNat 0) 0).toNat : Int) == 48 else false) = true := h
          by_cases h1 : s.length = 1
          · rw [h1] at h; cases h
          · cases hd : decide ((s.length : Int) > 1) with
            | false => rw [hd] at h; cases h
            | true =>
              rw [hd, if_pos rfl] at h
              have e : s.getD 0 0 = 48 := by
                apply UInt8.toNat_inj.1
                have := eq_of_beq h
                have e48 : (48 : UInt8).toNat = 48 := rfl
                have : ((s.getD 0 0).toNat : Int) = 48 := this
                omega
              unfold inB
              rw [e, decide_eq_false h1]
              cases inOK s <;> cases (!s == []) <;> rfl
        · unfold inB inOK
          rw [decide_eq_false h9]
          rfl
    · obtain ⟨hc1, hc2⟩ := or_f h
      obtain ⟨hs0, h9⟩ := or_f hc1
      have h9 := of_decide_eq_false h9
      refine ⟨⟨0, ⟨Nat.zero_le _, rfl⟩, rfl⟩, fun g ⟨hg, ha⟩ => ⟨fun hd => ?_, fun hd => ?_⟩⟩
      · have hlt : g < s.length := by have := of_decide_eq_true hd; omega
        have hb := dg_bd g ha
        have hp : (10 : Int) ^ g ≤ 10 ^ 9 := by
          exact_mod_cast Nat.pow_le_pow_right (show 0 < 10 by decide) (show g ≤ 9 by omega)
        have hp : (10 : Int) ^ g ≤ 1000000000 := hp
        rw [Int.toNat_natCast]
        refine ⟨by omega, by omega, fun h => h, fun h => h, fun _ => by omega, fun _ => by omega, fun h => h, fun h => by rw [h]; rfl, fun h => ?_, fun h => ?_⟩
        · apply hbad
          apply (in_bad _).2
          apply dg_fail hlt
          unfold digB
          rw [Bool.and_eq_false_iff, decide_eq_false_iff_not, decide_eq_false_iff_not]
          cases q : decide (((s.getD g 0).toNat : Int) < 48) with
          | true => have := of_decide_eq_true q; omega
          | false =>
            rw [q] at h
            have := of_decide_eq_true (show decide (((s.getD g 0).toNat : Int) > 57) = true from h)
            omega
        · obtain ⟨h1, h2⟩ := or_f h
          have h1 := of_decide_eq_false h1
          have h2 := of_decide_eq_false h2
          have q : digB (s.getD g 0) = true := by
            unfold digB
            rw [Bool.and_eq_true, decide_eq_true_eq, decide_eq_true_eq]
            omega
          rw [(wr_dig (n := ((s.getD g 0).toNat : Int)) (by omega)).2]
          exact ⟨by unfold In64; omega, by omega, by omega, by unfold In64; omega, by unfold In64; omega, g + 1, ⟨hlt, dg_next ha q⟩, by omega, rfl⟩
      · have hge : g = s.length := by have := of_decide_eq_false hd; omega
        subst hge
        have hok := in_end ha (by omega)
        have hB : inB s = true := by
          rw [in_res hok, hs0, Bool.not_false, if_pos rfl]
          by_cases h1 : s.length = 1
          · rw [h1]; rfl
          · have hl1 : decide ((s.length : Int) > 1) = true := decide_eq_true (by
              have : s ≠ [] := fun q => by rw [q] at hs0; cases hs0
              have := List.length_pos_iff.2 this
              omega)
            rw [if_pos hl1] at hc2
            rw [if_neg (by rw [beq_iff_eq]; omega), bne, hc2]
            rfl
        rw [hB]
        rfl
  exact c_of Tryz.f160 (mkB spQ0 160 [] (fun i => if i.beq 0 then some (la160 s) else none)) (by kernel_rfl) (by kernel_rfl) (by kernel_rfl) (by kernel_rfl) key (by kernel_rfl)
theorem spl_cut (c : UInt8) : ∀ (d : Nat) (t : List UInt8), d < t.length → (∀ j, j < d → t.getD j 0 ≠ c) → t.getD d 0 = c → spl c t = t.take d :: spl c (t.drop (d + 1))
  | _, [], h, _, _ => by simp at h
  | 0, x :: t, _, _, h => by
    have h : x = c := h
    rw [spl, if_pos (by rw [h]; exact beq_self_eq_true c)]
    rfl
  | d + 1, x :: t, h1, h2, h3 => by
    have hx : x ≠ c := h2 0 (Nat.succ_pos d)
    rw [spl, if_neg (by rw [beq_iff_eq]; exact hx), spl_cut c d t (by simpa using h1) (fun j hj => h2 (j + 1) (by omega)) h3]
    rfl
theorem spl_last (c : UInt8) : ∀ t : List UInt8, (∀ j, j < t.length → t.getD j 0 ≠ c) → spl c t = [t]
  | [], _ => rfl
  | x :: t, h => by
    have hx : x ≠ c := h 0 (by simp)
    rw [spl, if_neg (by rw [beq_iff_eq]; exact hx), spl_last c t (fun j hj => h (j + 1) (by simpa using hj))]
    rfl
theorem drop_getD {t : List UInt8} {a j : Nat} : (t.drop a).getD j 0 = t.getD (a + j) 0 := by
  rw [List.getD_eq_getElem?_getD, List.getD_eq_getElem?_getD, List.getElem?_drop]
def la95 (s : List UInt8) (c : Int) : LA := {
  pre := [.own 5 9 1, .reno 5 1, .keep [0, 1, 5, 6, 7] [1], .bound 2], post := [.reno 5 1, .keep [0, 1, 5, 6, 7] [1], .bound 2]
  Gh := Nat × Nat × List (List UInt8)
  st := fun q => ⟨[(0, .str s), (1, .int .u8 c), (5, .own 1 (q.2.2.map encS).length), (6, .i q.2.1), (7, .i q.1)], [(1, .buf 9 1 (q.2.2.map encS))], 2⟩
  ok := fun q => q.2.1 ≤ q.1 ∧ q.1 ≤ s.length ∧ q.2.2.length ≤ q.1 ∧ spl c.toNat.toUInt8 s = q.2.2 ++ spl c.toNat.toUInt8 (s.drop q.2.1) ∧ ∀ j, q.2.1 ≤ j → j < q.1 → s.getD j 0 ≠ c.toNat.toUInt8
  ms := fun q => s.length - q.1 }
theorem c95 (s : List UInt8) (c : Int) (hs : s.length ≤ 1000000) (hc : 0 ≤ c ∧ c ≤ 255) : PCall Tryz.prog G0 95 [.str s, .int .u8 c] (.sl 1 ((spl c.toNat.toUInt8 s).map encS)) := by
  have key :
   (∃ (g : Nat × Nat × List (List UInt8)), (g.snd.fst ≤ g.fst ∧ g.fst ≤ s.length ∧ g.snd.snd.length ≤ g.fst ∧ spl c.toNat.toUInt8 s = g.snd.snd ++ spl c.toNat.toUInt8 (List.drop g.snd.fst s) ∧ ∀ (j : Nat), g.snd.fst ≤ j → j < g.fst →
   s.getD j (0 : UInt8) ≠ c.toNat.toUInt8) ∧ AS.mk [(0, AV.str s), (1, AV.int IntKind.u8 c), (5, AV.own 1 0), (6, AV.i 0), (7, AV.i 0)] [(1, ABlk.buf 9 1 [])] 2 = AS.mk [(0, AV.str s), (1, AV.int IntKind.u8 c), (5, AV.own 1 (List.map
   encS g.snd.snd).length), (6, AV.i (↑g.snd.fst : Int)), (7, AV.i (↑g.fst : Int))] [(1, ABlk.buf 9 1 (List.map encS g.snd.snd))] 2) ∧ ∀ (g : Nat × Nat × List (List UInt8)), (g.snd.fst ≤ g.fst ∧ g.fst ≤ s.length ∧ g.snd.snd.length ≤
   g.fst ∧ spl c.toNat.toUInt8 s = g.snd.snd ++ spl c.toNat.toUInt8 (List.drop g.snd.fst s) ∧ ∀ (j : Nat), g.snd.fst ≤ j → j < g.fst → s.getD j (0 : UInt8) ≠ c.toNat.toUInt8) → (decide ((↑g.fst : Int) < (↑s.length : Int)) = true → (0
   : Int) ≤ (↑g.fst : Int) ∧ (↑g.fst : Int) < (↑s.length : Int) ∧ (((↑(s.getD (↑g.fst : Int).toNat (0 : UInt8)).toNat : Int) == c) = true → (0 : Int) ≤ (↑g.snd.fst : Int) ∧ (↑g.snd.fst : Int) ≤ (↑g.fst : Int) ∧ (↑g.fst : Int) ≤
   (↑s.length : Int) ∧ (List.map encS g.snd.snd).length + 1 ≤ 9223372036854775807 ∧ ((List.map encS g.snd.snd).length + 1) * 16 ≤ 140737488355328 ∧ In64 ((↑g.fst : Int) + 1) ∧ In64 ((↑g.fst : Int) + 1) ∧ ∃ (g' : Nat × Nat × List (List
   UInt8)), (g'.snd.fst ≤ g'.fst ∧ g'.fst ≤ s.length ∧ g'.snd.snd.length ≤ g'.fst ∧ spl c.toNat.toUInt8 s = g'.snd.snd ++ spl c.toNat.toUInt8 (List.drop g'.snd.fst s) ∧ ∀ (j : Nat), g'.snd.fst ≤ j → j < g'.fst → s.getD j (0 : UInt8) ≠
   c.toNat.toUInt8) ∧ s.length - g'.fst < s.length - g.fst ∧ AS.mk [(0, AV.str s), (1, AV.int IntKind.u8 c), (5, AV.own 1 ((List.map encS g.snd.snd).length + 1)), (6, AV.i ((↑g.fst : Int) + 1)), (7, AV.i ((↑g.fst : Int) + 1))] [(1,
   ABlk.buf 9 1 (List.map encS g.snd.snd ++ [[AV.str (List.take ((↑g.fst : Int) - (↑g.snd.fst : Int)).toNat (List.drop (↑g.snd.fst : Int).toNat s))]]))] 2 = AS.mk [(0, AV.str s), (1, AV.int IntKind.u8 c), (5, AV.own 1 (List.map encS
   g'.snd.snd).length), (6, AV.i (↑g'.snd.fst : Int)), (7, AV.i (↑g'.fst : Int))] [(1, ABlk.buf 9 1 (List.map encS g'.snd.snd))] 2) ∧ (((↑(s.getD (↑g.fst : Int).toNat (0 : UInt8)).toNat : Int) == c) = false → In64 ((↑g.fst : Int) + 1)
   ∧ ∃ (g' : Nat × Nat × List (List UInt8)), (g'.snd.fst ≤ g'.fst ∧ g'.fst ≤ s.length ∧ g'.snd.snd.length ≤ g'.fst ∧ spl c.toNat.toUInt8 s = g'.snd.snd ++ spl c.toNat.toUInt8 (List.drop g'.snd.fst s) ∧ ∀ (j : Nat), g'.snd.fst ≤ j → j
   < g'.fst → s.getD j (0 : UInt8) ≠ c.toNat.toUInt8) ∧ s.length - g'.fst < s.length - g.fst ∧ AS.mk [(0, AV.str s), (1, AV.int IntKind.u8 c), (5, AV.own 1 (List.map encS g.snd.snd).length), (6, AV.i (↑g.snd.fst : Int)), (7, AV.i
   ((↑g.fst : Int) + 1))] [(1, ABlk.buf 9 1 (List.map encS g.snd.snd))] 2 = AS.mk [(0, AV.str s), (1, AV.int IntKind.u8 c), (5, AV.own 1 (List.map encS g'.snd.snd).length), (6, AV.i (↑g'.snd.fst : Int)), (7, AV.i (↑g'.fst : Int))]
   [(1, ABlk.buf 9 1 (List.map encS g'.snd.snd))] 2)) ∧ (decide ((↑g.fst : Int) < (↑s.length : Int)) = false → (0 : Int) ≤ (↑g.snd.fst : Int) ∧ (↑g.snd.fst : Int) ≤ (↑s.length : Int) ∧ (↑s.length : Int) ≤ (↑s.length : Int) ∧ (List.map
   encS g.snd.snd).length + 1 ≤ 9223372036854775807 ∧ ((List.map encS g.snd.snd).length + 1) * 16 ≤ 140737488355328 ∧ AV.sl 1 (List.map encS g.snd.snd ++ [[AV.str (List.take ((↑s.length : Int) - (↑g.snd.fst : Int)).toNat (List.drop
   (↑g.snd.fst : Int).toNat s))]]) = AV.sl 1 (List.map encS (spl c.toNat.toUInt8 s))) := by
    obtain ⟨k, hk⟩ : ∃ k : UInt8, k = c.toNat.toUInt8 := ⟨_, rfl⟩
    rw [← hk]
    have hkc : (k.toNat : Int) = c := by
      rw [hk]
      have : c.toNat < 256 := by omega
      rw [show (c.toNat.toUInt8).toNat = c.toNat % 256 from rfl, Nat.mod_eq_of_lt this]
      omega
    refine ⟨⟨(0, 0, []), ⟨Nat.le_refl _, Nat.zero_le _, Nat.le_refl _, by simp, fun j h1 h2 => absurd h2 (by simp)⟩, rfl⟩, fun q hq => ?_⟩
    obtain ⟨i, a, P⟩ := q
    dsimp only at hq ⊢
    obtain ⟨h1, h2, h3, h4, h5⟩ := hq
    have hPm : (List.map encS P).length = P.length := List.length_map _
    refine ⟨fun hlt => ?_, fun hge => ?_⟩
    · have hlt : i < s.length := by have := of_decide_eq_true hlt; omega
      rw [Int.toNat_natCast, Int.toNat_natCast, show ((i : Int) - (a : Int)).toNat = i - a by omega]
      refine ⟨by omega, by omega, fun he => ?_, fun he => ?_⟩
      · have he : s.getD i 0 = k := by
          apply UInt8.toNat_inj.1
          have := eq_of_beq he
          omega
        refine ⟨by omega, by omega, by omega, by omega, by omega, by unfold In64; omega, by unfold In64; omega, (i + 1, i + 1, P ++ [(s.drop a).take (i - a)]), ⟨Nat.le_refl _, hlt, by rw [List.length_append, List.length_singleton]; omega, ?_, fun j hj1 hj2 => by dsimp only at hj1 hj2; omega⟩, by dsimp only; omega, ?_⟩
        · dsimp only
          rw [h4, spl_cut k (i - a) (s.drop a) (by rw [List.length_drop]; omega) (fun j hj => by rw [drop_getD]; exact h5 _ (by omega) (by omega)) (by rw [drop_getD, show a + (i - a) = i by omega]; exact he), List.append_assoc, List.drop_drop, show a + (i - a + 1) = i + 1 by omega]
          rfl
        · dsimp only
          rw [List.map_append, List.length_append]
          rfl
      · refine ⟨by unfold In64; omega, (i + 1, a, P), ⟨by dsimp only; omega, hlt, by dsimp only; omega, h4, fun j hj1 hj2 => ?_⟩, by dsimp only; omega, rfl⟩
        dsimp only at hj1 hj2
        by_cases q : j = i
        · subst q
          intro e
          rw [e, hkc, beq_self_eq_true] at he
          cases he
        · exact h5 j hj1 (by omega)
    · have hi : i = s.length := by have := of_decide_eq_false hge; omega
      subst hi
      refine ⟨by omega, by omega, by omega, by omega, by omega, ?_⟩
      rw [h4, spl_last k (s.drop a) (fun j hj => by rw [List.length_drop] at hj; rw [drop_getD]; exact h5 _ (by omega) (by omega)), List.map_append, Int.toNat_natCast, show ((s.length : Int) - (a : Int)).toNat = s.length - a by omega, List.take_of_length_le (by rw [List.length_drop]; exact Nat.le_refl _)]
      rfl
  exact c_of Tryz.f95 ({ mkB spQ0 95 [] (fun i => if i.beq 0 then some (la95 s c) else none) with bx := fun i => if i.beq 0 then [] else [] }) (by kernel_rfl) (by kernel_rfl) (by kernel_rfl) (by kernel_rfl) key (by kernel_rfl)
end Go.Proofs.YtfoeefaamjknpaaGreatDoor
namespace Go.Proofs.YtfoeefaamjknpaaGreatDoor
open Go Go.Av Go.RowKit
def la0 (l : LA) : Nat → Option LA := fun i => if i.beq 0 then some l else none
def spW : Nat → List AV → Option AV
  | 173, [.int _ x] => some (.i (fO x))
  | 106, [.agg [.int _ x, .int _ y], .int _ m] => some (.i (fEnds x y m))
  | 115, [.agg [.int _ x, .int _ y], .int _ m] => some (.i (fEnds x y m))
  | 175, [.agg [.int _ x, .int _ y]] => some (.i (fI ⟨x, y⟩))
  | 205, [.int _ x, .int _ lo, .int _ hi] => some (.i (sWithin x lo hi))
  | 216, [.bool b, .int _ e] => some (.i (sWhen b e))
  | 33, [.int _ x] => some (.i (sWithin x 0 10000000000000))
  | 105, [.int _ x] => some (.i (sWithin x 0 10000000000000))
  | 190, [.int _ x] => some (.i (sWithin x 0 10000000000000))
  | n, x => spN n x
theorem c173 (x : Int)  : PCall Tryz.prog G0 173 [.i x] (.i (fO x)) := by
  have key :
   PCall Tryz.prog G0 118 [AV.i x, AV.i 0, AV.i 100000000] (AV.i (sWithin x (0 : Int) (100000000 : Int))) ∧ AV.i (sWithin x (0 : Int) (100000000 : Int)) = AV.i (fO x) := by
    refine ⟨(c118 _ _ _), ?_⟩
    · first | rfl | trivial
  exact c_of Tryz.f173 (mkB spW 173 [] noLa) (by kernel_rfl) (by kernel_rfl) (by kernel_rfl) (by kernel_rfl) key (by kernel_rfl)
def laMp (enc : Int → List AV) (F : AV) (f : Int → Int) (l : List Int) : LA := {
  pre := [.own 5 34 1, .reno 5 1, .keep [1, 5, 8, 9, 10] [1], .bound 2], post := [.reno 5 1, .keep [1, 5, 8, 9, 10] [1], .bound 2]
  Gh := Nat
  st := fun i => ⟨[(1, F), (5, .own 1 (((l.take i).map f).map encI).length), (8, .sl 1 (l.map enc)), (9, .i (l.map enc).length), (10, .i i)], [(1, .buf 34 1 (((l.take i).map f).map encI))], 2⟩
  ok := fun i => i ≤ l.length
  ms := fun i => l.length - i }
theorem c172 (l : List Int) (hl : l.length ≤ 1000) : PCall Tryz.prog G0 172 [.sl 1 (l.map encI), .fn (.func 173) [] []] (.fresh 34 1 ((l.map fO).map encI)) := by
  have key :
   (∃ (g : Nat), g ≤ l.length ∧ AS.mk [(1, AV.fn (Fn.func 173) [] []), (5, AV.own 1 0), (8, AV.sl 1 (List.map encI l)), (9, AV.i (↑(List.map encI l).length : Int)), (10, AV.i 0)] [(1, ABlk.buf 34 1 [])] 2 = AS.mk [(1, AV.fn (Fn.func
   173) [] []), (5, AV.own 1 (List.map encI (List.map fO (List.take g l))).length), (8, AV.sl 1 (List.map encI l)), (9, AV.i (↑(List.map encI l).length : Int)), (10, AV.i (↑g : Int))] [(1, ABlk.buf 34 1 (List.map encI (List.map fO
   (List.take g l))))] 2) ∧ ∀ (g : Nat), g ≤ l.length → (decide ((↑g : Int) < (↑(List.map encI l).length : Int)) = true → (0 : Int) ≤ (↑g : Int) ∧ (↑g : Int) < (↑(List.map encI l).length : Int) ∧ nth (nthR (List.map encI l) (↑g :
   Int).toNat) 0 = AV.i (l.getD (↑g : Int).toNat default) ∧ (List.map encI (List.map fO (List.take g l))).length + 1 ≤ 9223372036854775807 ∧ ((List.map encI (List.map fO (List.take g l))).length + 1) * 8 ≤ 140737488355328 ∧ PCall
   Tryz.prog G0 173 [AV.i (l.getD (↑g : Int).toNat default)] (AV.i (fO (l.getD (↑g : Int).toNat default))) ∧ In64 ((↑g : Int) + 1) ∧ ∃ (g' : Nat), g' ≤ l.length ∧ l.length - g' < l.length - g ∧ AS.mk [(1, AV.fn (Fn.func 173) [] []),
   (5, AV.own 1 ((List.map encI (List.map fO (List.take g l))).length + 1)), (8, AV.sl 1 (List.map encI l)), (9, AV.i (↑(List.map encI l).length : Int)), (10, AV.i ((↑g : Int) + 1))] [(1, ABlk.buf 34 1 (List.map encI (List.map fO
   (List.take g l)) ++ [[AV.i (fO (l.getD (↑g : Int).toNat default))]]))] 2 = AS.mk [(1, AV.fn (Fn.func 173) [] []), (5, AV.own 1 (List.map encI (List.map fO (List.take g' l))).length), (8, AV.sl 1 (List.map encI l)), (9, AV.i
   (↑(List.map encI l).length : Int)), (10, AV.i (↑g' : Int))] [(1, ABlk.buf 34 1 (List.map encI (List.map fO (List.take g' l))))] 2) ∧ (decide ((↑g : Int) < (↑(List.map encI l).length : Int)) = false → AV.fresh 34 1 (List.map encI
   (List.map fO (List.take g l))) = AV.fresh 34 1 (List.map encI (List.map fO l))) := by
    have hlm : (List.map encI l).length = l.length := List.length_map _
    have : (List.map encI l).length = l.length := by simp only [List.length_map]
    refine ⟨⟨0, by omega, rfl⟩, fun g hg => ⟨fun hd => ?_, fun hd => ?_⟩⟩
    · have hlt : g < l.length := by have h9 := of_decide_eq_true hd; have h8 := hg; (try simp only [List.length_map] at h8 h9); omega
      have : (List.map encI (List.map fO (List.take g l))).length = g := by simp only [List.length_map, List.length_take]; omega
      try rw [show (↑g : Int).toNat = g from Int.toNat_natCast g]
      refine ⟨(by omega), (by omega), congrArg (fun r => nth r 0) (row_at encI hlt), (by omega), (by omega), (c173 _), (by unfold In64; omega), ⟨g + 1, by omega, by omega, ?_⟩⟩
      · first | (rw [← take_succ_map _ _ hlt, List.length_append]; rfl) | (rw [← take_succ _ hlt, List.length_append]; rfl)
    · have hge : g = l.length := by have h9 := of_decide_eq_false hd; have h8 := hg; (try simp only [List.length_map] at h8 h9); omega
      subst hge
      exact (by rw [List.take_length])
  exact c_of Tryz.f172 (fzB (mkB spW 172 [(4, 1, rdL 1 encI l 1 false)] (la0 (laMp encI (.fn (.func 173) [] []) fO l)))) (by kernel_rfl) (by kernel_rfl) (by kernel_rfl) (by kernel_rfl) key (by kernel_rfl)
theorem c106 (x y m : Int)  : PCall Tryz.prog G0 106 [.agg [.i x, .i y], .i m] (.i (fEnds x y m)) := by
  have key :
   PCall Tryz.prog G0 118 [AV.i x, AV.i 0, AV.i m] (AV.i (sWithin x (0 : Int) m)) ∧ PCall Tryz.prog G0 118 [AV.i y, AV.i 0, AV.i m] (AV.i (sWithin y (0 : Int) m)) ∧ PCall Tryz.prog G0 116 [AV.bool (decide (x > y)), AV.i 11] (AV.i
   (sWhen (decide (x > y)) (11 : Int))) ∧ PCall Tryz.prog G0 104 [AV.sl 1 [[AV.i (sWithin x (0 : Int) m)], [AV.i (sWithin y (0 : Int) m)], [AV.i (sWhen (decide (x > y)) (11 : Int))]]] (AV.i (sFirst [hdI [AV.i (sWithin x (0 : Int) m)],
   hdI [AV.i (sWithin y (0 : Int) m)], hdI [AV.i (sWhen (decide (x > y)) (11 : Int))]])) ∧ AV.i (sFirst [hdI [AV.i (sWithin x (0 : Int) m)], hdI [AV.i (sWithin y (0 : Int) m)], hdI [AV.i (sWhen (decide (x > y)) (11 : Int))]]) = AV.i
   (fEnds x y m) := by
    refine ⟨(c118 _ _ _), (c118 _ _ _), (c116 _ _), (c104 [_, _, _] (by simp)), ?_⟩
    · first | rfl | trivial
  exact c_of Tryz.f106 (mkB spW 106 [] noLa) (by kernel_rfl) (by kernel_rfl) (by kernel_rfl) (by kernel_rfl) key (by kernel_rfl)
theorem c115 (x y m : Int)  : PCall Tryz.prog G0 115 [.agg [.i x, .i y], .i m] (.i (fEnds x y m)) := by
  have key :
   PCall Tryz.prog G0 81 [AV.i x, AV.i 0, AV.i m] (AV.i (sWithin x (0 : Int) m)) ∧ PCall Tryz.prog G0 81 [AV.i y, AV.i 0, AV.i m] (AV.i (sWithin y (0 : Int) m)) ∧ PCall Tryz.prog G0 109 [AV.bool (decide (x > y)), AV.i 11] (AV.i (sWhen
   (decide (x > y)) (11 : Int))) ∧ PCall Tryz.prog G0 107 [AV.sl 1 [[AV.i (sWithin x (0 : Int) m)], [AV.i (sWithin y (0 : Int) m)], [AV.i (sWhen (decide (x > y)) (11 : Int))]]] (AV.i (sFirst [hdI [AV.i (sWithin x (0 : Int) m)], hdI
   [AV.i (sWithin y (0 : Int) m)], hdI [AV.i (sWhen (decide (x > y)) (11 : Int))]])) ∧ AV.i (sFirst [hdI [AV.i (sWithin x (0 : Int) m)], hdI [AV.i (sWithin y (0 : Int) m)], hdI [AV.i (sWhen (decide (x > y)) (11 : Int))]]) = AV.i
   (fEnds x y m) := by
    refine ⟨(c81 _ _ _), (c81 _ _ _), (c109 _ _), (c107 [_, _, _] (by simp)), ?_⟩
    · first | rfl | trivial
  exact c_of Tryz.f115 (mkB spW 115 [] noLa) (by kernel_rfl) (by kernel_rfl) (by kernel_rfl) (by kernel_rfl) key (by kernel_rfl)
theorem c175 (x : Iv)  : PCall Tryz.prog G0 175 [.agg (encIv x)] (.i (fI x)) := by
  have key :
   PCall Tryz.prog G0 106 [AV.agg (encIv x), AV.i 1000] (AV.i (fEnds x.a x.b (1000 : Int))) ∧ AV.i (fEnds x.a x.b (1000 : Int)) = AV.i (fI x) := by
    refine ⟨(c106 _ _ _), ?_⟩
    · first | rfl | trivial
  exact c_of Tryz.f175 (mkB spW 175 [] noLa) (by kernel_rfl) (by kernel_rfl) (by kernel_rfl) (by kernel_rfl) key (by kernel_rfl)
def la174 (l : List Iv) : LA := {
  pre := [.own 5 34 1, .reno 5 1, .keep [1, 5, 8, 9, 10] [1], .bound 2], post := [.reno 5 1, .keep [1, 5, 8, 9, 10] [1], .bound 2]
  Gh := Nat
  st := fun i => ⟨[(1, .fn (.func 175) [] []), (5, .own 1 (((l.take i).map fI).map encI).length), (8, .sl 2 (l.map encIv)), (9, .i (l.map encIv).length), (10, .i i)], [(1, .buf 34 1 (((l.take i).map fI).map encI))], 2⟩
  ok := fun i => i ≤ l.length
  ms := fun i => l.length - i }
theorem c174 (l : List Iv) (hl : l.length ≤ 1000) : PCall Tryz.prog G0 174 [.sl 2 (l.map encIv), .fn (.func 175) [] []] (.fresh 34 1 ((l.map fI).map encI)) := by
  have key :
   (∃ (g : Nat), g ≤ l.length ∧ AS.mk [(1, AV.fn (Fn.func 175) [] []), (5, AV.own 1 0), (8, AV.sl 2 (List.map encIv l)), (9, AV.i (↑(List.map encIv l).length : Int)), (10, AV.i 0)] [(1, ABlk.buf 34 1 [])] 2 = AS.mk [(1, AV.fn (Fn.func
   175) [] []), (5, AV.own 1 (List.map encI (List.map fI (List.take g l))).length), (8, AV.sl 2 (List.map encIv l)), (9, AV.i (↑(List.map encIv l).length : Int)), (10, AV.i (↑g : Int))] [(1, ABlk.buf 34 1 (List.map encI (List.map fI
   (List.take g l))))] 2) ∧ ∀ (g : Nat), g ≤ l.length → (decide ((↑g : Int) < (↑(List.map encIv l).length : Int)) = true → (0 : Int) ≤ (↑g : Int) ∧ (↑g : Int) < (↑(List.map encIv l).length : Int) ∧ AV.agg (nthR (List.map encIv l) (↑g
   : Int).toNat) = AV.agg (encIv (l.getD (↑g : Int).toNat default)) ∧ (List.map encI (List.map fI (List.take g l))).length + 1 ≤ 9223372036854775807 ∧ ((List.map encI (List.map fI (List.take g l))).length + 1) * 8 ≤ 140737488355328 ∧
   PCall Tryz.prog G0 175 [AV.agg (encIv (l.getD (↑g : Int).toNat default))] (AV.i (fI (Iv.mk (l.getD (↑g : Int).toNat default).a (l.getD (↑g : Int).toNat default).b))) ∧ In64 ((↑g : Int) + 1) ∧ ∃ (g' : Nat), g' ≤ l.length ∧ l.length
   - g' < l.length - g ∧ AS.mk [(1, AV.fn (Fn.func 175) [] []), (5, AV.own 1 ((List.map encI (List.map fI (List.take g l))).length + 1)), (8, AV.sl 2 (List.map encIv l)), (9, AV.i (↑(List.map encIv l).length : Int)), (10, AV.i ((↑g :
   Int) + 1))] [(1, ABlk.buf 34 1 (List.map encI (List.map fI (List.take g l)) ++ [[AV.i (fI (Iv.mk (l.getD (↑g : Int).toNat default).a (l.getD (↑g : Int).toNat default).b))]]))] 2 = AS.mk [(1, AV.fn (Fn.func 175) [] []), (5, AV.own 1
   (List.map encI (List.map fI (List.take g' l))).length), (8, AV.sl 2 (List.map encIv l)), (9, AV.i (↑(List.map encIv l).length : Int)), (10, AV.i (↑g' : Int))] [(1, ABlk.buf 34 1 (List.map encI (List.map fI (List.take g' l))))] 2) ∧
   (decide ((↑g : Int) < (↑(List.map encIv l).length : Int)) = false → AV.fresh 34 1 (List.map encI (List.map fI (List.take g l))) = AV.fresh 34 1 (List.map encI (List.map fI l))) := by
    have hlm : (List.map encIv l).length = l.length := List.length_map _
    have : (List.map encIv l).length = l.length := by simp only [List.length_map]
    refine ⟨⟨0, by omega, rfl⟩, fun g hg => ⟨fun hd => ?_, fun hd => ?_⟩⟩
    · have hlt : g < l.length := by have h9 := of_decide_eq_true hd; have h8 := hg; (try simp only [List.length_map] at h8 h9); omega
      have : (List.map encI (List.map fI (List.take g l))).length = g := by simp only [List.length_map, List.length_take]; omega
      try rw [show (↑g : Int).toNat = g from Int.toNat_natCast g]
      refine ⟨(by omega), (by omega), congrArg AV.agg (row_at encIv hlt), (by omega), (by omega), (c175 _), (by unfold In64; omega), ⟨g + 1, by omega, by omega, ?_⟩⟩
      · first | (rw [← take_succ_map _ _ hlt, List.length_append]; rfl) | (rw [← take_succ _ hlt, List.length_append]; rfl)
    · have hge : g = l.length := by have h9 := of_decide_eq_false hd; have h8 := hg; (try simp only [List.length_map] at h8 h9); omega
      subst hge
      exact (by rw [List.take_length])
  exact c_of Tryz.f174 (fzB (mkB spW 174 [(4, 1, rdL 2 encIv l 2 true)] (la0 (la174 l)))) (by kernel_rfl) (by kernel_rfl) (by kernel_rfl) (by kernel_rfl) key (by kernel_rfl)
def sp121 (lo hi : Nat → Int) : Nat → List AV → Option AV
  | 174, _ => some (.fresh 34 1 (((pL lo hi).map fI).map encI))
  | n, x => spW n x
theorem c121 (lo hi : Nat → Int)  : PCall Tryz.prog G0 121 [.agg (encPa lo hi)] (.i (fPa lo hi)) := by
  have key :
   PCall Tryz.prog G0 174 [AV.sl 2 [[AV.i (lo 0), AV.i (hi 0)], [AV.i (lo 1), AV.i (hi 1)], [AV.i (lo 2), AV.i (hi 2)], [AV.i (lo 3), AV.i (hi 3)], [AV.i (lo 4), AV.i (hi 4)], [AV.i (lo 5), AV.i (hi 5)], [AV.i (lo 6), AV.i (hi 6)],
   [AV.i (lo 7), AV.i (hi 7)]], AV.fn (Fn.func 175) [] []] (AV.fresh 34 1 [[AV.i (fI (Iv.mk (lo 0) (hi 0)))], [AV.i (fI (Iv.mk (lo 1) (hi 1)))], [AV.i (fI (Iv.mk (lo 2) (hi 2)))], [AV.i (fI (Iv.mk (lo 3) (hi 3)))], [AV.i (fI (Iv.mk
   (lo 4) (hi 4)))], [AV.i (fI (Iv.mk (lo 5) (hi 5)))], [AV.i (fI (Iv.mk (lo 6) (hi 6)))], [AV.i (fI (Iv.mk (lo 7) (hi 7)))]]) ∧ PCall Tryz.prog G0 104 [AV.sl 1 [[AV.i (fI (Iv.mk (lo 0) (hi 0)))], [AV.i (fI (Iv.mk (lo 1) (hi 1)))],
   [AV.i (fI (Iv.mk (lo 2) (hi 2)))], [AV.i (fI (Iv.mk (lo 3) (hi 3)))], [AV.i (fI (Iv.mk (lo 4) (hi 4)))], [AV.i (fI (Iv.mk (lo 5) (hi 5)))], [AV.i (fI (Iv.mk (lo 6) (hi 6)))], [AV.i (fI (Iv.mk (lo 7) (hi 7)))]]] (AV.i (sFirst [hdI
   [AV.i (fI (Iv.mk (lo 0) (hi 0)))], hdI [AV.i (fI (Iv.mk (lo 1) (hi 1)))], hdI [AV.i (fI (Iv.mk (lo 2) (hi 2)))], hdI [AV.i (fI (Iv.mk (lo 3) (hi 3)))], hdI [AV.i (fI (Iv.mk (lo 4) (hi 4)))], hdI [AV.i (fI (Iv.mk (lo 5) (hi 5)))],
   hdI [AV.i (fI (Iv.mk (lo 6) (hi 6)))], hdI [AV.i (fI (Iv.mk (lo 7) (hi 7)))]])) ∧ AV.i (sFirst [hdI [AV.i (fI (Iv.mk (lo 0) (hi 0)))], hdI [AV.i (fI (Iv.mk (lo 1) (hi 1)))], hdI [AV.i (fI (Iv.mk (lo 2) (hi 2)))], hdI [AV.i (fI
   (Iv.mk (lo 3) (hi 3)))], hdI [AV.i (fI (Iv.mk (lo 4) (hi 4)))], hdI [AV.i (fI (Iv.mk (lo 5) (hi 5)))], hdI [AV.i (fI (Iv.mk (lo 6) (hi 6)))], hdI [AV.i (fI (Iv.mk (lo 7) (hi 7)))]]) = AV.i (fPa lo hi) := by
    refine ⟨(c174 (pL lo hi) (Nat.le_of_ble_eq_true rfl)), (c104 [_, _, _, _, _, _, _, _] (by simp)), ?_⟩
    · first | rfl | trivial
  exact c_of Tryz.f121 (fzB (mkB (sp121 lo hi) 121 [] noLa)) (by kernel_rfl) (by kernel_rfl) (by kernel_rfl) (by kernel_rfl) key (by kernel_rfl)
def sp120 (w : Wn) : Nat → List AV → Option AV
  | 172, _ => some (.fresh 34 1 (((oL w.o).map fO).map encI))
  | 121, _ => some (.i (fPa w.lo w.hi))
  | n, x => spW n x
theorem c120 (w : Wn)  : PCall Tryz.prog G0 120 [.agg (encWn w)] (.i (fWn w)) := by
  have key :
   PCall Tryz.prog G0 172 [AV.sl 1 [[AV.i w.o0], [AV.i w.o1], [AV.i w.o2], [AV.i w.o3], [AV.i w.o4], [AV.i w.o5], [AV.i w.o6], [AV.i w.o7]], AV.fn (Fn.func 173) [] []] (AV.fresh 34 1 [[AV.i (fO (w.o 0))], [AV.i (fO (w.o 1))], [AV.i
   (fO (w.o 2))], [AV.i (fO (w.o 3))], [AV.i (fO (w.o 4))], [AV.i (fO (w.o 5))], [AV.i (fO (w.o 6))], [AV.i (fO (w.o 7))]]) ∧ PCall Tryz.prog G0 104 [AV.sl 1 [[AV.i (fO (w.o 0))], [AV.i (fO (w.o 1))], [AV.i (fO (w.o 2))], [AV.i (fO
   (w.o 3))], [AV.i (fO (w.o 4))], [AV.i (fO (w.o 5))], [AV.i (fO (w.o 6))], [AV.i (fO (w.o 7))]]] (AV.i (sFirst [hdI [AV.i (fO (w.o 0))], hdI [AV.i (fO (w.o 1))], hdI [AV.i (fO (w.o 2))], hdI [AV.i (fO (w.o 3))], hdI [AV.i (fO (w.o
   4))], hdI [AV.i (fO (w.o 5))], hdI [AV.i (fO (w.o 6))], hdI [AV.i (fO (w.o 7))]])) ∧ PCall Tryz.prog G0 118 [AV.i w.ar, AV.i 1, AV.i 100] (AV.i (sWithin w.ar (1 : Int) (100 : Int))) ∧ PCall Tryz.prog G0 121 [AV.agg [AV.i w.p0, AV.i
   w.p1, AV.i w.p2, AV.i w.p3, AV.i w.p4, AV.i w.p5, AV.i w.p6, AV.i w.p7, AV.i w.p8, AV.i w.p9, AV.i w.p10, AV.i w.p11, AV.i w.p12, AV.i w.p13, AV.i w.p14, AV.i w.p15]] (AV.i (fPa w.lo w.hi)) ∧ PCall Tryz.prog G0 104 [AV.sl 1 [[AV.i
   (sFirst [hdI [AV.i (fO (w.o 0))], hdI [AV.i (fO (w.o 1))], hdI [AV.i (fO (w.o 2))], hdI [AV.i (fO (w.o 3))], hdI [AV.i (fO (w.o 4))], hdI [AV.i (fO (w.o 5))], hdI [AV.i (fO (w.o 6))], hdI [AV.i (fO (w.o 7))]])], [AV.i (sWithin w.ar
   (1 : Int) (100 : Int))], [AV.i (fPa w.lo w.hi)]]] (AV.i (sFirst [hdI [AV.i (sFirst [hdI [AV.i (fO (w.o 0))], hdI [AV.i (fO (w.o 1))], hdI [AV.i (fO (w.o 2))], hdI [AV.i (fO (w.o 3))], hdI [AV.i (fO (w.o 4))], hdI [AV.i (fO (w.o
   5))], hdI [AV.i (fO (w.o 6))], hdI [AV.i (fO (w.o 7))]])], hdI [AV.i (sWithin w.ar (1 : Int) (100 : Int))], hdI [AV.i (fPa w.lo w.hi)]])) ∧ AV.i (sFirst [hdI [AV.i (sFirst [hdI [AV.i (fO (w.o 0))], hdI [AV.i (fO (w.o 1))], hdI
   [AV.i (fO (w.o 2))], hdI [AV.i (fO (w.o 3))], hdI [AV.i (fO (w.o 4))], hdI [AV.i (fO (w.o 5))], hdI [AV.i (fO (w.o 6))], hdI [AV.i (fO (w.o 7))]])], hdI [AV.i (sWithin w.ar (1 : Int) (100 : Int))], hdI [AV.i (fPa w.lo w.hi)]]) =
   AV.i (fWn w) := by
    refine ⟨(c172 (oL w.o) (Nat.le_of_ble_eq_true rfl)), (c104 [_, _, _, _, _, _, _, _] (by simp)), (c118 _ _ _), (c121 w.lo w.hi), (c104 [_, _, _] (by simp)), ?_⟩
    · first | rfl | trivial
  exact c_of Tryz.f120 (fzB (mkB (sp120 w) 120 [] noLa)) (by kernel_rfl) (by kernel_rfl) (by kernel_rfl) (by kernel_rfl) key (by kernel_rfl)
def la119 (l : List Wn) : LA := {
  pre := [.own 5 34 1, .reno 5 1, .keep [1, 5, 8, 9, 10] [1], .bound 2], post := [.reno 5 1, .keep [1, 5, 8, 9, 10] [1], .bound 2]
  Gh := Nat
  st := fun i => ⟨[(1, .fn (.func 120) [] []), (5, .own 1 (((l.take i).map fWn).map encI).length), (8, .sl 25 (l.map encWn)), (9, .i (l.map encWn).length), (10, .i i)], [(1, .buf 34 1 (((l.take i).map fWn).map encI))], 2⟩
  ok := fun i => i ≤ l.length
  ms := fun i => l.length - i }
def sp119 (_ : List Wn) : Nat → List AV → Option AV
  | 120, [.agg c] => some (.i (fWn (decWn c)))
  | n, x => spW n x
theorem c119 (l : List Wn) (hl : l.length ≤ 1000) : PCall Tryz.prog G0 119 [.sl 25 (l.map encWn), .fn (.func 120) [] []] (.fresh 34 1 ((l.map fWn).map encI)) := by
  have key :
   (∃ (g : Nat), g ≤ l.length ∧ AS.mk [(1, AV.fn (Fn.func 120) [] []), (5, AV.own 1 0), (8, AV.sl 25 (List.map encWn l)), (9, AV.i (↑(List.map encWn l).length : Int)), (10, AV.i 0)] [(1, ABlk.buf 34 1 [])] 2 = AS.mk [(1, AV.fn
   (Fn.func 120) [] []), (5, AV.own 1 (List.map encI (List.map fWn (List.take g l))).length), (8, AV.sl 25 (List.map encWn l)), (9, AV.i (↑(List.map encWn l).length : Int)), (10, AV.i (↑g : Int))] [(1, ABlk.buf 34 1 (List.map encI
   (List.map fWn (List.take g l))))] 2) ∧ ∀ (g : Nat), g ≤ l.length → (decide ((↑g : Int) < (↑(List.map encWn l).length : Int)) = true → (0 : Int) ≤ (↑g : Int) ∧ (↑g : Int) < (↑(List.map encWn l).length : Int) ∧ AV.agg (nthR (List.map
   encWn l) (↑g : Int).toNat) = AV.agg (encWn (l.getD (↑g : Int).toNat default)) ∧ (List.map encI (List.map fWn (List.take g l))).length + 1 ≤ 9223372036854775807 ∧ ((List.map encI (List.map fWn (List.take g l))).length + 1) * 8 ≤
   140737488355328 ∧ PCall Tryz.prog G0 120 [AV.agg (encWn (l.getD (↑g : Int).toNat default))] (AV.i (fWn (decWn (encWn (l.getD (↑g : Int).toNat default))))) ∧ In64 ((↑g : Int) + 1) ∧ ∃ (g' : Nat), g' ≤ l.length ∧ l.length - g' <
   l.length - g ∧ AS.mk [(1, AV.fn (Fn.func 120) [] []), (5, AV.own 1 ((List.map encI (List.map fWn (List.take g l))).length + 1)), (8, AV.sl 25 (List.map encWn l)), (9, AV.i (↑(List.map encWn l).length : Int)), (10, AV.i ((↑g : Int)
   + 1))] [(1, ABlk.buf 34 1 (List.map encI (List.map fWn (List.take g l)) ++ [[AV.i (fWn (decWn (encWn (l.getD (↑g : Int).toNat default))))]]))] 2 = AS.mk [(1, AV.fn (Fn.func 120) [] []), (5, AV.own 1 (List.map encI (List.map fWn
   (List.take g' l))).length), (8, AV.sl 25 (List.map encWn l)), (9, AV.i (↑(List.map encWn l).length : Int)), (10, AV.i (↑g' : Int))] [(1, ABlk.buf 34 1 (List.map encI (List.map fWn (List.take g' l))))] 2) ∧ (decide ((↑g : Int) <
   (↑(List.map encWn l).length : Int)) = false → AV.fresh 34 1 (List.map encI (List.map fWn (List.take g l))) = AV.fresh 34 1 (List.map encI (List.map fWn l))) := by
    have hlm : (List.map encWn l).length = l.length := List.length_map _
    have : (List.map encWn l).length = l.length := by simp only [List.length_map]
    refine ⟨⟨0, by omega, rfl⟩, fun g hg => ⟨fun hd => ?_, fun hd => ?_⟩⟩
    · have hlt : g < l.length := by have h9 := of_decide_eq_true hd; have h8 := hg; (try simp only [List.length_map] at h8 h9); omega
      have : (List.map encI (List.map fWn (List.take g l))).length = g := by simp only [List.length_map, List.length_take]; omega
      try rw [show (↑g : Int).toNat = g from Int.toNat_natCast g]
      refine ⟨(by omega), (by omega), congrArg AV.agg (row_at encWn hlt), (by omega), (by omega), (c120 _), (by unfold In64; omega), ⟨g + 1, by omega, by omega, ?_⟩⟩
      · first | (rw [← take_succ_map _ _ hlt, List.length_append]; rfl) | (rw [← take_succ _ hlt, List.length_append]; rfl)
    · have hge : g = l.length := by have h9 := of_decide_eq_false hd; have h8 := hg; (try simp only [List.length_map] at h8 h9); omega
      subst hge
      exact (by rw [List.take_length])
  exact c_of Tryz.f119 (fzB (mkB (sp119 l) 119 [(4, 1, rdL 25 encWn l 25 true)] (la0 (la119 l)))) (by kernel_rfl) (by kernel_rfl) (by kernel_rfl) (by kernel_rfl) key (by kernel_rfl)
theorem fHd_m (h : Hm) : fHd h = sFirst [sWhen (!sName h.nm) 8, sWithin h.pe 0 1000, sWhen (((List.map encWn h.ws).length : Int) == 0) 12, sWhen (decide (((List.map encWn h.ws).length : Int) > 8)) 5] := by
  unfold fHd
  rw [List.length_map]
def sp38 (h : Hm) : Nat → List AV → Option AV
  | 119, _ => some (.fresh 34 1 ((h.ws.map fWn).map encI))
  | n, x => spW n x
theorem c38 (h : Hm) (hn : h.nm.length ≤ 1000000) (hl : h.ws.length ≤ 1000) : PCall Tryz.prog G0 38 [.agg (encHm h)] (.i (fHm h)) := by
  have key :
   PCall Tryz.prog G0 117 [AV.str h.nm] (AV.bool (sName h.nm)) ∧ PCall Tryz.prog G0 116 [AV.bool !sName h.nm, AV.i 8] (AV.i (sWhen (!sName h.nm) (8 : Int))) ∧ PCall Tryz.prog G0 118 [AV.i h.pe, AV.i 0, AV.i 1000] (AV.i (sWithin h.pe
   (0 : Int) (1000 : Int))) ∧ PCall Tryz.prog G0 116 [AV.bool ((↑(List.map encWn h.ws).length : Int) == 0), AV.i 12] (AV.i (sWhen ((↑(List.map encWn h.ws).length : Int) == 0) (12 : Int))) ∧ PCall Tryz.prog G0 116 [AV.bool (decide
   ((↑(List.map encWn h.ws).length : Int) > 8)), AV.i 5] (AV.i (sWhen (decide ((↑(List.map encWn h.ws).length : Int) > 8)) (5 : Int))) ∧ PCall Tryz.prog G0 104 [AV.sl 1 [[AV.i (sWhen (!sName h.nm) (8 : Int))], [AV.i (sWithin h.pe (0 :
   Int) (1000 : Int))], [AV.i (sWhen ((↑(List.map encWn h.ws).length : Int) == 0) (12 : Int))], [AV.i (sWhen (decide ((↑(List.map encWn h.ws).length : Int) > 8)) (5 : Int))]]] (AV.i (sFirst [hdI [AV.i (sWhen (!sName h.nm) (8 : Int))],
   hdI [AV.i (sWithin h.pe (0 : Int) (1000 : Int))], hdI [AV.i (sWhen ((↑(List.map encWn h.ws).length : Int) == 0) (12 : Int))], hdI [AV.i (sWhen (decide ((↑(List.map encWn h.ws).length : Int) > 8)) (5 : Int))]])) ∧ ((sFirst [hdI
   [AV.i (sWhen (!sName h.nm) (8 : Int))], hdI [AV.i (sWithin h.pe (0 : Int) (1000 : Int))], hdI [AV.i (sWhen ((↑(List.map encWn h.ws).length : Int) == 0) (12 : Int))], hdI [AV.i (sWhen (decide ((↑(List.map encWn h.ws).length : Int) >
   8)) (5 : Int))]] != 0) = true → AV.i (sFirst [hdI [AV.i (sWhen (!sName h.nm) (8 : Int))], hdI [AV.i (sWithin h.pe (0 : Int) (1000 : Int))], hdI [AV.i (sWhen ((↑(List.map encWn h.ws).length : Int) == 0) (12 : Int))], hdI [AV.i
   (sWhen (decide ((↑(List.map encWn h.ws).length : Int) > 8)) (5 : Int))]]) = AV.i (fHm h)) ∧ ((sFirst [hdI [AV.i (sWhen (!sName h.nm) (8 : Int))], hdI [AV.i (sWithin h.pe (0 : Int) (1000 : Int))], hdI [AV.i (sWhen ((↑(List.map encWn
   h.ws).length : Int) == 0) (12 : Int))], hdI [AV.i (sWhen (decide ((↑(List.map encWn h.ws).length : Int) > 8)) (5 : Int))]] != 0) = false → PCall Tryz.prog G0 119 [AV.sl 25 (List.map encWn h.ws), AV.fn (Fn.func 120) [] []] (AV.fresh
   34 1 (List.map encI (List.map fWn h.ws))) ∧ PCall Tryz.prog G0 104 [AV.sl 1 (List.map encI (List.map fWn h.ws))] (AV.i (sFirst (List.map hdI (List.map encI (List.map fWn h.ws))))) ∧ AV.i (sFirst (List.map hdI (List.map encI
   (List.map fWn h.ws)))) = AV.i (fHm h)) := by
    have hlm : (List.map encWn h.ws).length = h.ws.length := List.length_map _
    have : (List.map encWn h.ws).length = h.ws.length := by simp only [List.length_map]
    refine ⟨(c117 _ hn), (c116 _ _), (c118 _ _ _), (c116 _ _), (c116 _ _), (c104 [_, _, _, _] (by simp)), fun h1 => ?_, fun h1 => ⟨(c119 h.ws hl), ((by rw [hd_encI]; exact c104 _ (by simp; omega))), ?_⟩⟩
    · have e : fHm h = fHd h := ls_first (by rw [fHd_m]; exact h1)
      rw [e, fHd_m]
      rfl
    · have h2 : (fHd h != 0) = false := by rw [fHd_m]; exact h1
      rw [hd_encI, ← scan_getG]
      exact congrArg AV.i (if_neg (by rw [h2]; decide)).symm
  exact c_of Tryz.f38 (fzB (mkB (sp38 h) 38 [] noLa)) (by kernel_rfl) (by kernel_rfl) (by kernel_rfl) (by kernel_rfl) key (by kernel_rfl)
theorem c112 (lo hi : Nat → Int)  : PCall Tryz.prog G0 112 [.agg (encPa lo hi)] (.i (fPa lo hi)) := by
  have key :
   (0 : Int) ≤ 0 ∧ (0 : Int) < (↑8 : Int) ∧ PCall Tryz.prog G0 115 [AV.agg [AV.i (lo 0), AV.i (hi 0)], AV.i 1000] (AV.i (fEnds (lo 0) (hi 0) (1000 : Int))) ∧ ((fEnds (lo 0) (hi 0) (1000 : Int) != 0) = true → AV.i (fEnds (lo 0) (hi 0)
   (1000 : Int)) = AV.i (fPa lo hi)) ∧ ((fEnds (lo 0) (hi 0) (1000 : Int) != 0) = false → In64 ((0 : Int) + 1) ∧ (0 : Int) ≤ 0 + 1 ∧ (0 : Int) + 1 < (↑8 : Int) ∧ PCall Tryz.prog G0 115 [AV.agg [AV.i (lo 1), AV.i (hi 1)], AV.i 1000]
   (AV.i (fEnds (lo 1) (hi 1) (1000 : Int))) ∧ ((fEnds (lo 1) (hi 1) (1000 : Int) != 0) = true → AV.i (fEnds (lo 1) (hi 1) (1000 : Int)) = AV.i (fPa lo hi)) ∧ ((fEnds (lo 1) (hi 1) (1000 : Int) != 0) = false → In64 ((0 : Int) + 1 + 1)
   ∧ (0 : Int) ≤ 0 + 1 + 1 ∧ (0 : Int) + 1 + 1 < (↑8 : Int) ∧ PCall Tryz.prog G0 115 [AV.agg [AV.i (lo 2), AV.i (hi 2)], AV.i 1000] (AV.i (fEnds (lo 2) (hi 2) (1000 : Int))) ∧ ((fEnds (lo 2) (hi 2) (1000 : Int) != 0) = true → AV.i
   (fEnds (lo 2) (hi 2) (1000 : Int)) = AV.i (fPa lo hi)) ∧ ((fEnds (lo 2) (hi 2) (1000 : Int) != 0) = false → In64 ((0 : Int) + 1 + 1 + 1) ∧ (0 : Int) ≤ 0 + 1 + 1 + 1 ∧ (0 : Int) + 1 + 1 + 1 < (↑8 : Int) ∧ PCall Tryz.prog G0 115
   [AV.agg [AV.i (lo 3), AV.i (hi 3)], AV.i 1000] (AV.i (fEnds (lo 3) (hi 3) (1000 : Int))) ∧ ((fEnds (lo 3) (hi 3) (1000 : Int) != 0) = true → AV.i (fEnds (lo 3) (hi 3) (1000 : Int)) = AV.i (fPa lo hi)) ∧ ((fEnds (lo 3) (hi 3) (1000
   : Int) != 0) = false → In64 ((0 : Int) + 1 + 1 + 1 + 1) ∧ (0 : Int) ≤ 0 + 1 + 1 + 1 + 1 ∧ (0 : Int) + 1 + 1 + 1 + 1 < (↑8 : Int) ∧ PCall Tryz.prog G0 115 [AV.agg [AV.i (lo 4), AV.i (hi 4)], AV.i 1000] (AV.i (fEnds (lo 4) (hi 4)
   (1000 : Int))) ∧ ((fEnds (lo 4) (hi 4) (1000 : Int) != 0) = true → AV.i (fEnds (lo 4) (hi 4) (1000 : Int)) = AV.i (fPa lo hi)) ∧ ((fEnds (lo 4) (hi 4) (1000 : Int) != 0) = false → In64 ((0 : Int) + 1 + 1 + 1 + 1 + 1) ∧ (0 : Int) ≤
   0 + 1 + 1 + 1 + 1 + 1 ∧ (0 : Int) + 1 + 1 + 1 + 1 + 1 < (↑8 : Int) ∧ PCall Tryz.prog G0 115 [AV.agg [AV.i (lo 5), AV.i (hi 5)], AV.i 1000] (AV.i (fEnds (lo 5) (hi 5) (1000 : Int))) ∧ ((fEnds (lo 5) (hi 5) (1000 : Int) != 0) = true
   → AV.i (fEnds (lo 5) (hi 5) (1000 : Int)) = AV.i (fPa lo hi)) ∧ ((fEnds (lo 5) (hi 5) (1000 : Int) != 0) = false → In64 ((0 : Int) + 1 + 1 + 1 + 1 + 1 + 1) ∧ (0 : Int) ≤ 0 + 1 + 1 + 1 + 1 + 1 + 1 ∧ (0 : Int) + 1 + 1 + 1 + 1 + 1 + 1
   < (↑8 : Int) ∧ PCall Tryz.prog G0 115 [AV.agg [AV.i (lo 6), AV.i (hi 6)], AV.i 1000] (AV.i (fEnds (lo 6) (hi 6) (1000 : Int))) ∧ ((fEnds (lo 6) (hi 6) (1000 : Int) != 0) = true → AV.i (fEnds (lo 6) (hi 6) (1000 : Int)) = AV.i (fPa
   lo hi)) ∧ ((fEnds (lo 6) (hi 6) (1000 : Int) != 0) = false → In64 ((0 : Int) + 1 + 1 + 1 + 1 + 1 + 1 + 1) ∧ (0 : Int) ≤ 0 + 1 + 1 + 1 + 1 + 1 + 1 + 1 ∧ (0 : Int) + 1 + 1 + 1 + 1 + 1 + 1 + 1 < (↑8 : Int) ∧ PCall Tryz.prog G0 115
   [AV.agg [AV.i (lo 7), AV.i (hi 7)], AV.i 1000] (AV.i (fEnds (lo 7) (hi 7) (1000 : Int))) ∧ ((fEnds (lo 7) (hi 7) (1000 : Int) != 0) = true → AV.i (fEnds (lo 7) (hi 7) (1000 : Int)) = AV.i (fPa lo hi)) ∧ ((fEnds (lo 7) (hi 7) (1000
   : Int) != 0) = false → In64 ((0 : Int) + 1 + 1 + 1 + 1 + 1 + 1 + 1 + 1) ∧ AV.i 0 = AV.i (fPa lo hi))))))))) := by
    refine ⟨(by omega), (by omega), (c115 _ _ _), fun h1 => ?_, fun h1 => ⟨(by unfold In64; omega), (by omega), (by omega), (c115 _ _ _), fun h2 => ?_, fun h2 => ⟨(by unfold In64; omega), (by omega), (by omega), (c115 _ _ _), fun h3 => ?_, fun h3 => ⟨(by unfold In64; omega), (by omega), (by omega), (c115 _ _ _), fun h4 => ?_, fun h4 => ⟨(by unfold In64; omega), (by omega), (by omega), (c115 _ _ _), fun h5 => ?_, fun h5 => ⟨(by unfold In64; omega), (by omega), (by omega), (c115 _ _ _), fun h6 => ?_, fun h6 => ⟨(by unfold In64; omega), (by omega), (by omega), (c115 _ _ _), fun h7 => ?_, fun h7 => ⟨(by unfold In64; omega), (by omega), (by omega), (c115 _ _ _), fun h8 => ?_, fun h8 => ⟨(by unfold In64; omega), ?_⟩⟩⟩⟩⟩⟩⟩⟩⟩
    · simp_all [fPa_u, sFirst]
    · simp_all [fPa_u, sFirst]
    · simp_all [fPa_u, sFirst]
    · simp_all [fPa_u, sFirst]
    · simp_all [fPa_u, sFirst]
    · simp_all [fPa_u, sFirst]
    · simp_all [fPa_u, sFirst]
    · simp_all [fPa_u, sFirst]
    · simp_all [fPa_u, sFirst]
  exact c_of Tryz.f112 ({ fzB (mkB spW 112 [] noLa) with cl := clL [6] }) (by kernel_rfl) (by kernel_rfl) (by kernel_rfl) (by kernel_rfl) key (by kernel_rfl)
theorem c110 (w : Wn)  : PCall Tryz.prog G0 110 [.agg (encWn w)] (.i (fWn w)) := by
  have key :
   (0 : Int) ≤ 0 ∧ (0 : Int) < (↑8 : Int) ∧ PCall Tryz.prog G0 81 [AV.i w.o0, AV.i 0, AV.i 100000000] (AV.i (sWithin w.o0 (0 : Int) (100000000 : Int))) ∧ ((sWithin w.o0 (0 : Int) (100000000 : Int) != 0) = true → AV.i (sWithin w.o0 (0
   : Int) (100000000 : Int)) = AV.i (fWn w)) ∧ ((sWithin w.o0 (0 : Int) (100000000 : Int) != 0) = false → In64 ((0 : Int) + 1) ∧ (0 : Int) ≤ 0 + 1 ∧ (0 : Int) + 1 < (↑8 : Int) ∧ PCall Tryz.prog G0 81 [AV.i w.o1, AV.i 0, AV.i
   100000000] (AV.i (sWithin w.o1 (0 : Int) (100000000 : Int))) ∧ ((sWithin w.o1 (0 : Int) (100000000 : Int) != 0) = true → AV.i (sWithin w.o1 (0 : Int) (100000000 : Int)) = AV.i (fWn w)) ∧ ((sWithin w.o1 (0 : Int) (100000000 : Int)
   != 0) = false → In64 ((0 : Int) + 1 + 1) ∧ (0 : Int) ≤ 0 + 1 + 1 ∧ (0 : Int) + 1 + 1 < (↑8 : Int) ∧ PCall Tryz.prog G0 81 [AV.i w.o2, AV.i 0, AV.i 100000000] (AV.i (sWithin w.o2 (0 : Int) (100000000 : Int))) ∧ ((sWithin w.o2 (0 :
   Int) (100000000 : Int) != 0) = true → AV.i (sWithin w.o2 (0 : Int) (100000000 : Int)) = AV.i (fWn w)) ∧ ((sWithin w.o2 (0 : Int) (100000000 : Int) != 0) = false → In64 ((0 : Int) + 1 + 1 + 1) ∧ (0 : Int) ≤ 0 + 1 + 1 + 1 ∧ (0 : Int)
   + 1 + 1 + 1 < (↑8 : Int) ∧ PCall Tryz.prog G0 81 [AV.i w.o3, AV.i 0, AV.i 100000000] (AV.i (sWithin w.o3 (0 : Int) (100000000 : Int))) ∧ ((sWithin w.o3 (0 : Int) (100000000 : Int) != 0) = true → AV.i (sWithin w.o3 (0 : Int)
   (100000000 : Int)) = AV.i (fWn w)) ∧ ((sWithin w.o3 (0 : Int) (100000000 : Int) != 0) = false → In64 ((0 : Int) + 1 + 1 + 1 + 1) ∧ (0 : Int) ≤ 0 + 1 + 1 + 1 + 1 ∧ (0 : Int) + 1 + 1 + 1 + 1 < (↑8 : Int) ∧ PCall Tryz.prog G0 81 [AV.i
   w.o4, AV.i 0, AV.i 100000000] (AV.i (sWithin w.o4 (0 : Int) (100000000 : Int))) ∧ ((sWithin w.o4 (0 : Int) (100000000 : Int) != 0) = true → AV.i (sWithin w.o4 (0 : Int) (100000000 : Int)) = AV.i (fWn w)) ∧ ((sWithin w.o4 (0 : Int)
   (100000000 : Int) != 0) = false → In64 ((0 : Int) + 1 + 1 + 1 + 1 + 1) ∧ (0 : Int) ≤ 0 + 1 + 1 + 1 + 1 + 1 ∧ (0 : Int) + 1 + 1 + 1 + 1 + 1 < (↑8 : Int) ∧ PCall Tryz.prog G0 81 [AV.i w.o5, AV.i 0, AV.i 100000000] (AV.i (sWithin w.o5
   (0 : Int) (100000000 : Int))) ∧ ((sWithin w.o5 (0 : Int) (100000000 : Int) != 0) = true → AV.i (sWithin w.o5 (0 : Int) (100000000 : Int)) = AV.i (fWn w)) ∧ ((sWithin w.o5 (0 : Int) (100000000 : Int) != 0) = false → In64 ((0 : Int)
   + 1 + 1 + 1 + 1 + 1 + 1) ∧ (0 : Int) ≤ 0 + 1 + 1 + 1 + 1 + 1 + 1 ∧ (0 : Int) + 1 + 1 + 1 + 1 + 1 + 1 < (↑8 : Int) ∧ PCall Tryz.prog G0 81 [AV.i w.o6, AV.i 0, AV.i 100000000] (AV.i (sWithin w.o6 (0 : Int) (100000000 : Int))) ∧
   ((sWithin w.o6 (0 : Int) (100000000 : Int) != 0) = true → AV.i (sWithin w.o6 (0 : Int) (100000000 : Int)) = AV.i (fWn w)) ∧ ((sWithin w.o6 (0 : Int) (100000000 : Int) != 0) = false → In64 ((0 : Int) + 1 + 1 + 1 + 1 + 1 + 1 + 1) ∧
   (0 : Int) ≤ 0 + 1 + 1 + 1 + 1 + 1 + 1 + 1 ∧ (0 : Int) + 1 + 1 + 1 + 1 + 1 + 1 + 1 < (↑8 : Int) ∧ PCall Tryz.prog G0 81 [AV.i w.o7, AV.i 0, AV.i 100000000] (AV.i (sWithin w.o7 (0 : Int) (100000000 : Int))) ∧ ((sWithin w.o7 (0 : Int)
   (100000000 : Int) != 0) = true → AV.i (sWithin w.o7 (0 : Int) (100000000 : Int)) = AV.i (fWn w)) ∧ ((sWithin w.o7 (0 : Int) (100000000 : Int) != 0) = false → In64 ((0 : Int) + 1 + 1 + 1 + 1 + 1 + 1 + 1 + 1) ∧ PCall Tryz.prog G0 81
   [AV.i w.ar, AV.i 1, AV.i 100] (AV.i (sWithin w.ar (1 : Int) (100 : Int))) ∧ PCall Tryz.prog G0 112 [AV.agg [AV.i w.p0, AV.i w.p1, AV.i w.p2, AV.i w.p3, AV.i w.p4, AV.i w.p5, AV.i w.p6, AV.i w.p7, AV.i w.p8, AV.i w.p9, AV.i w.p10,
   AV.i w.p11, AV.i w.p12, AV.i w.p13, AV.i w.p14, AV.i w.p15]] (AV.i (fPa w.lo w.hi)) ∧ PCall Tryz.prog G0 107 [AV.sl 1 [[AV.i (sWithin w.ar (1 : Int) (100 : Int))], [AV.i (fPa w.lo w.hi)]]] (AV.i (sFirst [hdI [AV.i (sWithin w.ar (1
   : Int) (100 : Int))], hdI [AV.i (fPa w.lo w.hi)]])) ∧ AV.i (sFirst [hdI [AV.i (sWithin w.ar (1 : Int) (100 : Int))], hdI [AV.i (fPa w.lo w.hi)]]) = AV.i (fWn w))))))))) := by
    refine ⟨(by omega), (by omega), (c81 _ _ _), fun h1 => ?_, fun h1 => ⟨(by unfold In64; omega), (by omega), (by omega), (c81 _ _ _), fun h2 => ?_, fun h2 => ⟨(by unfold In64; omega), (by omega), (by omega), (c81 _ _ _), fun h3 => ?_, fun h3 => ⟨(by unfold In64; omega), (by omega), (by omega), (c81 _ _ _), fun h4 => ?_, fun h4 => ⟨(by unfold In64; omega), (by omega), (by omega), (c81 _ _ _), fun h5 => ?_, fun h5 => ⟨(by unfold In64; omega), (by omega), (by omega), (c81 _ _ _), fun h6 => ?_, fun h6 => ⟨(by unfold In64; omega), (by omega), (by omega), (c81 _ _ _), fun h7 => ?_, fun h7 => ⟨(by unfold In64; omega), (by omega), (by omega), (c81 _ _ _), fun h8 => ?_, fun h8 => ⟨(by unfold In64; omega), (c81 _ _ _), (c112 w.lo w.hi), (c107 [_, _] (by simp)), ?_⟩⟩⟩⟩⟩⟩⟩⟩⟩
    · simp_all [fWn, fOu_u, fO, Wn.o, sFirst]
    · simp_all [fWn, fOu_u, fO, Wn.o, sFirst]
    · simp_all [fWn, fOu_u, fO, Wn.o, sFirst]
    · simp_all [fWn, fOu_u, fO, Wn.o, sFirst]
    · simp_all [fWn, fOu_u, fO, Wn.o, sFirst]
    · simp_all [fWn, fOu_u, fO, Wn.o, sFirst]
    · simp_all [fWn, fOu_u, fO, Wn.o, sFirst]
    · simp_all [fWn, fOu_u, fO, Wn.o, sFirst]
    · have e : fOu w.o = 0 := by simp_all [fOu_u, fO, Wn.o, sFirst]
      show AV.i (sFirst [sWithin w.ar 1 100, fPa w.lo w.hi]) = _
      rw [fWn, e]
      rfl
  exact c_of Tryz.f110 ({ fzB (mkB (fun n x => if n.beq 112 then some (.i (fPa w.lo w.hi)) else spW n x) 110 [] noLa) with cl := clL [6] }) (by kernel_rfl) (by kernel_rfl) (by kernel_rfl) (by kernel_rfl) key (by kernel_rfl)
def la26 (h : Hm) : LA := {
  pre := [.keep [1, 4] [], .bound 1], post := [.keep [1, 4] [], .bound 1]
  Gh := Nat
  st := fun i => ⟨[(1, .elt 3 [encHm h] 0 0), (4, .i i)], [], 1⟩
  ok := fun i => i ≤ h.ws.length ∧ ∀ j, j < i → fWn (h.ws.getD j default) = 0
  ms := fun i => h.ws.length - i }
def sp26 : Nat → List AV → Option AV
  | 110, [.agg c] => some (.i (fWn (decWn c)))
  | n, x => spW n x
theorem c26 (h : Hm) (hn : h.nm.length ≤ 1000000) (hl : h.ws.length ≤ 1000) : PCall Tryz.prog G0 26 [.agg (encHm h)] (.i (fHm h)) := by
  have key :
   PCall Tryz.prog G0 108 [AV.str h.nm] (AV.i (sWhen (!sName h.nm) (8 : Int))) ∧ PCall Tryz.prog G0 81 [AV.i h.pe, AV.i 0, AV.i 1000] (AV.i (sWithin h.pe (0 : Int) (1000 : Int))) ∧ PCall Tryz.prog G0 109 [AV.bool ((↑(List.map encWn
   h.ws).length : Int) == 0), AV.i 12] (AV.i (sWhen ((↑(List.map encWn h.ws).length : Int) == 0) (12 : Int))) ∧ PCall Tryz.prog G0 109 [AV.bool (decide ((↑(List.map encWn h.ws).length : Int) > 8)), AV.i 5] (AV.i (sWhen (decide
   ((↑(List.map encWn h.ws).length : Int) > 8)) (5 : Int))) ∧ PCall Tryz.prog G0 107 [AV.sl 1 [[AV.i (sWhen (!sName h.nm) (8 : Int))], [AV.i (sWithin h.pe (0 : Int) (1000 : Int))], [AV.i (sWhen ((↑(List.map encWn h.ws).length : Int)
   == 0) (12 : Int))], [AV.i (sWhen (decide ((↑(List.map encWn h.ws).length : Int) > 8)) (5 : Int))]]] (AV.i (sFirst [hdI [AV.i (sWhen (!sName h.nm) (8 : Int))], hdI [AV.i (sWithin h.pe (0 : Int) (1000 : Int))], hdI [AV.i (sWhen
   ((↑(List.map encWn h.ws).length : Int) == 0) (12 : Int))], hdI [AV.i (sWhen (decide ((↑(List.map encWn h.ws).length : Int) > 8)) (5 : Int))]])) ∧ ((sFirst [hdI [AV.i (sWhen (!sName h.nm) (8 : Int))], hdI [AV.i (sWithin h.pe (0 :
   Int) (1000 : Int))], hdI [AV.i (sWhen ((↑(List.map encWn h.ws).length : Int) == 0) (12 : Int))], hdI [AV.i (sWhen (decide ((↑(List.map encWn h.ws).length : Int) > 8)) (5 : Int))]] != 0) = true → AV.i (sFirst [hdI [AV.i (sWhen
   (!sName h.nm) (8 : Int))], hdI [AV.i (sWithin h.pe (0 : Int) (1000 : Int))], hdI [AV.i (sWhen ((↑(List.map encWn h.ws).length : Int) == 0) (12 : Int))], hdI [AV.i (sWhen (decide ((↑(List.map encWn h.ws).length : Int) > 8)) (5 :
   Int))]]) = AV.i (fHm h)) ∧ ((sFirst [hdI [AV.i (sWhen (!sName h.nm) (8 : Int))], hdI [AV.i (sWithin h.pe (0 : Int) (1000 : Int))], hdI [AV.i (sWhen ((↑(List.map encWn h.ws).length : Int) == 0) (12 : Int))], hdI [AV.i (sWhen (decide
   ((↑(List.map encWn h.ws).length : Int) > 8)) (5 : Int))]] != 0) = false → (∃ (g : Nat), (g ≤ h.ws.length ∧ ∀ (j : Nat), j < g → fWn (h.ws.getD j default) = (0 : Int)) ∧ AS.mk [(1, AV.elt 3 [(encHm h)] 0 0), (4, AV.i 0)] [] 1 =
   AS.mk [(1, AV.elt 3 [(encHm h)] 0 0), (4, AV.i (↑g : Int))] [] 1) ∧ ∀ (g : Nat), (g ≤ h.ws.length ∧ ∀ (j : Nat), j < g → fWn (h.ws.getD j default) = (0 : Int)) → (decide ((↑g : Int) < (↑(List.map encWn h.ws).length : Int)) = true →
   (0 : Int) ≤ (↑g : Int) ∧ (↑g : Int) < (↑(List.map encWn h.ws).length : Int) ∧ AV.agg (nthR (List.map encWn h.ws) (↑g : Int).toNat) = AV.agg (encWn (h.ws.getD (↑g : Int).toNat default)) ∧ PCall Tryz.prog G0 110 [AV.agg (encWn
   (h.ws.getD (↑g : Int).toNat default))] (AV.i (fWn (decWn (encWn (h.ws.getD (↑g : Int).toNat default))))) ∧ ((fWn (decWn (encWn (h.ws.getD (↑g : Int).toNat default))) != 0) = true → AV.i (fWn (decWn (encWn (h.ws.getD (↑g :
   Int).toNat default)))) = AV.i (fHm h)) ∧ ((fWn (decWn (encWn (h.ws.getD (↑g : Int).toNat default))) != 0) = false → In64 ((↑g : Int) + 1) ∧ ∃ (g' : Nat), (g' ≤ h.ws.length ∧ ∀ (j : Nat), j < g' → fWn (h.ws.getD j default) = (0 :
   Int)) ∧ h.ws.length - g' < h.ws.length - g ∧ AS.mk [(1, AV.elt 3 [(encHm h)] 0 0), (4, AV.i ((↑g : Int) + 1))] [] 1 = AS.mk [(1, AV.elt 3 [(encHm h)] 0 0), (4, AV.i (↑g' : Int))] [] 1)) ∧ (decide ((↑g : Int) < (↑(List.map encWn
   h.ws).length : Int)) = false → AV.i 0 = AV.i (fHm h))) := by
    have hlm : (List.map encWn h.ws).length = h.ws.length := List.length_map _
    have : (List.map encWn h.ws).length = h.ws.length := by simp only [List.length_map]
    refine ⟨(c108 _ hn), (c81 _ _ _), (c109 _ _), (c109 _ _), (c107 [_, _, _, _] (by simp)), fun h1 => ?_, fun h1 => ?_⟩
    · have e : fHm h = fHd h := ls_first (by rw [fHd_m]; exact h1)
      rw [e, fHd_m]
      rfl
    · have hz : (fHd h != 0) = false := by rw [fHd_m]; exact h1
      refine ⟨⟨0, ⟨by omega, by intros; omega⟩, rfl⟩, fun g ⟨hg, ha⟩ => ⟨fun hd => ?_, fun hd => ?_⟩⟩
      · have hlt : g < h.ws.length := by have h9 := of_decide_eq_true hd; have h8 := hg; (try simp only [List.length_map] at h8 h9); omega
        try rw [show (↑g : Int).toNat = g from Int.toNat_natCast g]
        refine ⟨(by omega), (by omega), congrArg AV.agg (row_at encWn hlt), (c110 _), fun h2 => ?_, fun h2 => ⟨(by unfold In64; omega), ⟨g + 1, ⟨by omega, all_ext ha (bne_f h2)⟩, by omega, rfl⟩⟩⟩
        · exact congrArg AV.i (ls_hit (f := fun i => fWn (h.ws.getD i default)) hz (decide_eq_true (by omega)) ha h2).symm
      · have hge : g = h.ws.length := by have h9 := of_decide_eq_false hd; have h8 := hg; (try simp only [List.length_map] at h8 h9); omega
        subst hge
        exact congrArg AV.i (ls_end (f := fun i => fWn (h.ws.getD i default)) hz (decide_eq_false (Int.lt_irrefl _)) (Nat.le_refl _) ha).symm
  exact c_of Tryz.f26 (fzB (mkB sp26 26 [(7, 4, rdL 25 encWn h.ws 25 true)] (la0 (la26 h)))) (by kernel_rfl) (by kernel_rfl) (by kernel_rfl) (by kernel_rfl) key (by kernel_rfl)
end Go.Proofs.YtfoeefaamjknpaaGreatDoor
namespace Go.Proofs.YtfoeefaamjknpaaGreatDoor
open Go Go.Av Go.RowKit
end Go.Proofs.YtfoeefaamjknpaaGreatDoor
