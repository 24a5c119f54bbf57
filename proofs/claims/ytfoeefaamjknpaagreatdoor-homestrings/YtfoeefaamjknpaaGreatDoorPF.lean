/-
  Whether a set suffices, the verdict: the reference's; homes that are the same. No condition but the theorems' own. HomeZones returns true. No condition but the theorems' own. HomeStrings returns true. No condition but the theorems' own. What HomeStrings' row says of the program's text. No condition.
-/
import Derived.Test.YtfoeefaamjknpaaGreatDoorPE
import Derived.Test.YtfoeefaamjknpaaGreatDoorPB
import Derived.Test.YtfoeefaamjknpaaGreatDoorAvD
import Derived.Test.YtfoeefaamjknpaaGreatDoorPD
namespace Go.Proofs.YtfoeefaamjknpaaGreatDoor
open Go Go.Av Go.RowKit
def la41 (h : Hm) : LA := {
  pre := [.reno 3 3, .ownb 3 2 177 25, .renc 3 2 4, .keep [2, 3, 12, 13, 14] [2, 3, 4], .bound 5], post := [.renc 3 2 4, .keep [2, 3, 12, 13, 14] [2, 3, 4], .bound 5]
  Gh := Nat
  st := fun i => ⟨[(2, .ptr 2 0), (3, .ptr 3 0), (12, .sl 25 (h.ws.map encWn)), (13, .i (h.ws.map encWn).length), (14, .i i)], [(2, .box [.str [], .i 0, .ex (.slice none 0 0)]), (3, .box [.str h.nm, .i h.pe, .own 4 ((h.ws.take i).map encWn).length]), (4, .buf 177 25 ((h.ws.take i).map encWn))], 5⟩
  ok := fun i => i ≤ h.ws.length
  ms := fun i => h.ws.length - i }
theorem c41 (h : Hm) (hl : h.ws.length ≤ 1000) : PCall Tryz.prog G0 41 [.agg (encHm h)] (.agg (encHm h)) := by
  have key :
   (∃ (g : Nat), g ≤ h.ws.length ∧ AS.mk [(2, AV.ptr 2 0), (3, AV.ptr 3 0), (12, AV.sl 25 (List.map encWn h.ws)), (13, AV.i (↑(List.map encWn h.ws).length : Int)), (14, AV.i 0)] [(2, ABlk.box [AV.str [], AV.i 0, AV.ex (Value.slice
   none 0 0)]), (3, ABlk.box [AV.str h.nm, AV.i h.pe, AV.own 4 0]), (4, ABlk.buf 177 25 [])] 5 = AS.mk [(2, AV.ptr 2 0), (3, AV.ptr 3 0), (12, AV.sl 25 (List.map encWn h.ws)), (13, AV.i (↑(List.map encWn h.ws).length : Int)), (14,
   AV.i (↑g : Int))] [(2, ABlk.box [AV.str [], AV.i 0, AV.ex (Value.slice none 0 0)]), (3, ABlk.box [AV.str h.nm, AV.i h.pe, AV.own 4 (List.map encWn (List.take g h.ws)).length]), (4, ABlk.buf 177 25 (List.map encWn (List.take g
   h.ws)))] 5) ∧ ∀ (g : Nat), g ≤ h.ws.length → (decide ((↑g : Int) < (↑(List.map encWn h.ws).length : Int)) = true → (0 : Int) ≤ (↑g : Int) ∧ (↑g : Int) < (↑(List.map encWn h.ws).length : Int) ∧ AV.agg (nthR (List.map encWn h.ws) (↑g
   : Int).toNat) = AV.agg (encWn (h.ws.getD (↑g : Int).toNat default)) ∧ (List.map encWn (List.take g h.ws)).length + 1 ≤ 9223372036854775807 ∧ ((List.map encWn (List.take g h.ws)).length + 1) * 200 ≤ 140737488355328 ∧ In64 ((↑g :
   Int) + 1) ∧ ∃ (g' : Nat), g' ≤ h.ws.length ∧ h.ws.length - g' < h.ws.length - g ∧ AS.mk [(2, AV.ptr 2 0), (3, AV.ptr 3 0), (12, AV.sl 25 (List.map encWn h.ws)), (13, AV.i (↑(List.map encWn h.ws).length : Int)), (14, AV.i ((↑g :
   Int) + 1))] [(2, ABlk.box [AV.str [], AV.i 0, AV.ex (Value.slice none 0 0)]), (3, ABlk.box [AV.str h.nm, AV.i h.pe, AV.own 4 ((List.map encWn (List.take g h.ws)).length + 1)]), (4, ABlk.buf 177 25 (List.map encWn (List.take g h.ws)
   ++ [(encWn (h.ws.getD (↑g : Int).toNat default))]))] 5 = AS.mk [(2, AV.ptr 2 0), (3, AV.ptr 3 0), (12, AV.sl 25 (List.map encWn h.ws)), (13, AV.i (↑(List.map encWn h.ws).length : Int)), (14, AV.i (↑g' : Int))] [(2, ABlk.box [AV.str
   [], AV.i 0, AV.ex (Value.slice none 0 0)]), (3, ABlk.box [AV.str h.nm, AV.i h.pe, AV.own 4 (List.map encWn (List.take g' h.ws)).length]), (4, ABlk.buf 177 25 (List.map encWn (List.take g' h.ws)))] 5) ∧ (decide ((↑g : Int) <
   (↑(List.map encWn h.ws).length : Int)) = false → AV.agg [AV.str h.nm, AV.i h.pe, AV.sl 25 (List.map encWn (List.take g h.ws))] = AV.agg (encHm h)) := by
    have hlm : (List.map encWn h.ws).length = h.ws.length := List.length_map _
    have : (List.map encWn h.ws).length = h.ws.length := by simp only [List.length_map]
    refine ⟨⟨0, by omega, rfl⟩, fun g hg => ⟨fun hd => ?_, fun hd => ?_⟩⟩
    · have hlt : g < h.ws.length := by have h9 := of_decide_eq_true hd; have h8 := hg; (try simp only [List.length_map] at h8 h9); omega
      have : (List.map encWn (List.take g h.ws)).length = g := by simp only [List.length_map, List.length_take]; omega
      try rw [show (↑g : Int).toNat = g from Int.toNat_natCast g]
      refine ⟨(by omega), (by omega), congrArg AV.agg (row_at encWn hlt), (by omega), (by omega), (by unfold In64; omega), ⟨g + 1, by omega, by omega, ?_⟩⟩
      · first | (rw [← take_succ_map _ _ hlt, List.length_append]; rfl) | (rw [← take_succ _ hlt, List.length_append]; rfl)
    · have hge : g = h.ws.length := by have h9 := of_decide_eq_false hd; have h8 := hg; (try simp only [List.length_map] at h8 h9); omega
      subst hge
      rw [List.take_length]
      rfl
  exact c_of Tryz.f41 ({ modA 5 4 (fun a => { a with fz := false }) (mkB spW 41 [(4, 1, rdL 25 encWn h.ws 25 true)] (la0 (la41 h))) with bx := fun i => if i.beq 0 then [.frzc 3 2] else [] }) (by kernel_rfl) (by kernel_rfl) (by kernel_rfl) (by kernel_rfl) key (by kernel_rfl)
def la40 (h : Hm) : LA := {
  pre := [.keep [2, 3, 5] [], .bound 1], post := [.keep [2, 3, 5] [], .bound 1]
  Gh := Nat
  st := fun i => ⟨[(2, .elt 3 [encHm h] 0 0), (3, .elt 3 [encHm h] 0 0), (5, .i i)], [], 1⟩
  ok := fun i => i ≤ h.ws.length
  ms := fun i => h.ws.length - i }
theorem c40 (h : Hm) (hl : h.ws.length ≤ 1000) : PCall Tryz.prog G0 40 [.agg (encHm h), .agg (encHm h)] (.bool true) := by
  have key :
   (AV.bool !h.nm == h.nm) = AV.bool false ∧ AV.bool (h.pe != h.pe) = AV.bool false ∧ AV.bool ((↑(List.map encWn h.ws).length : Int) != (↑(List.map encWn h.ws).length : Int)) = AV.bool false ∧ (∃ (g : Nat), g ≤ h.ws.length ∧ AS.mk
   [(2, AV.elt 3 [(encHm h)] 0 0), (3, AV.elt 3 [(encHm h)] 0 0), (5, AV.i 0)] [] 1 = AS.mk [(2, AV.elt 3 [(encHm h)] 0 0), (3, AV.elt 3 [(encHm h)] 0 0), (5, AV.i (↑g : Int))] [] 1) ∧ ∀ (g : Nat), g ≤ h.ws.length → (decide ((↑g :
   Int) < (↑(List.map encWn h.ws).length : Int)) = true → (0 : Int) ≤ (↑g : Int) ∧ (↑g : Int) < (↑(List.map encWn h.ws).length : Int) ∧ (0 : Int) ≤ (↑g : Int) ∧ (↑g : Int) < (↑(List.map encWn h.ws).length : Int) ∧ AV.agg (nthR
   (List.map encWn h.ws) (↑g : Int).toNat) = AV.agg (encWn (h.ws.getD (↑g : Int).toNat default)) ∧ AV.agg (nthR (List.map encWn h.ws) (↑g : Int).toNat) = AV.agg (encWn (h.ws.getD (↑g : Int).toNat default)) ∧ (AV.bool !((h.ws.getD (↑g
   : Int).toNat default).o0 == (h.ws.getD (↑g : Int).toNat default).o0 && true && ((h.ws.getD (↑g : Int).toNat default).o1 == (h.ws.getD (↑g : Int).toNat default).o1 && true && ((h.ws.getD (↑g : Int).toNat default).o2 == (h.ws.getD
   (↑g : Int).toNat default).o2 && true && ((h.ws.getD (↑g : Int).toNat default).o3 == (h.ws.getD (↑g : Int).toNat default).o3 && true && ((h.ws.getD (↑g : Int).toNat default).o4 == (h.ws.getD (↑g : Int).toNat default).o4 && true &&
   ((h.ws.getD (↑g : Int).toNat default).o5 == (h.ws.getD (↑g : Int).toNat default).o5 && true && ((h.ws.getD (↑g : Int).toNat default).o6 == (h.ws.getD (↑g : Int).toNat default).o6 && true && ((h.ws.getD (↑g : Int).toNat default).o7
   == (h.ws.getD (↑g : Int).toNat default).o7 && true && true))))))) && ((h.ws.getD (↑g : Int).toNat default).ar == (h.ws.getD (↑g : Int).toNat default).ar && true && ((h.ws.getD (↑g : Int).toNat default).p0 == (h.ws.getD (↑g :
   Int).toNat default).p0 && true && ((h.ws.getD (↑g : Int).toNat default).p1 == (h.ws.getD (↑g : Int).toNat default).p1 && true && true) && ((h.ws.getD (↑g : Int).toNat default).p2 == (h.ws.getD (↑g : Int).toNat default).p2 && true
   && ((h.ws.getD (↑g : Int).toNat default).p3 == (h.ws.getD (↑g : Int).toNat default).p3 && true && true) && ((h.ws.getD (↑g : Int).toNat default).p4 == (h.ws.getD (↑g : Int).toNat default).p4 && true && ((h.ws.getD (↑g : Int).toNat
   default).p5 == (h.ws.getD (↑g : Int).toNat default).p5 && true && true) && ((h.ws.getD (↑g : Int).toNat default).p6 == (h.ws.getD (↑g : Int).toNat default).p6 && true && ((h.ws.getD (↑g : Int).toNat default).p7 == (h.ws.getD (↑g :
   Int).toNat default).p7 && true && true) && ((h.ws.getD (↑g : Int).toNat default).p8 == (h.ws.getD (↑g : Int).toNat default).p8 && true && ((h.ws.getD (↑g : Int).toNat default).p9 == (h.ws.getD (↑g : Int).toNat default).p9 && true
   && true) && ((h.ws.getD (↑g : Int).toNat default).p10 == (h.ws.getD (↑g : Int).toNat default).p10 && true && ((h.ws.getD (↑g : Int).toNat default).p11 == (h.ws.getD (↑g : Int).toNat default).p11 && true && true) && ((h.ws.getD (↑g
   : Int).toNat default).p12 == (h.ws.getD (↑g : Int).toNat default).p12 && true && ((h.ws.getD (↑g : Int).toNat default).p13 == (h.ws.getD (↑g : Int).toNat default).p13 && true && true) && ((h.ws.getD (↑g : Int).toNat default).p14 ==
   (h.ws.getD (↑g : Int).toNat default).p14 && true && ((h.ws.getD (↑g : Int).toNat default).p15 == (h.ws.getD (↑g : Int).toNat default).p15 && true && true) && true))))))) && true)))) = AV.bool false ∧ In64 ((↑g : Int) + 1) ∧ ∃ (g' :
   Nat), g' ≤ h.ws.length ∧ h.ws.length - g' < h.ws.length - g ∧ AS.mk [(2, AV.elt 3 [(encHm h)] 0 0), (3, AV.elt 3 [(encHm h)] 0 0), (5, AV.i ((↑g : Int) + 1))] [] 1 = AS.mk [(2, AV.elt 3 [(encHm h)] 0 0), (3, AV.elt 3 [(encHm h)] 0
   0), (5, AV.i (↑g' : Int))] [] 1) ∧ (decide ((↑g : Int) < (↑(List.map encWn h.ws).length : Int)) = false → AV.bool true = AV.bool true) := by
    have hlm : (List.map encWn h.ws).length = h.ws.length := List.length_map _
    have : (List.map encWn h.ws).length = h.ws.length := by simp only [List.length_map]
    refine ⟨?_, ?_, ?_, ⟨⟨0, by omega, rfl⟩, fun g hg => ⟨fun hd => ?_, fun hd => ?_⟩⟩⟩
    · simp
    · simp
    · simp
    · have hlt : g < h.ws.length := by have h9 := of_decide_eq_true hd; have h8 := hg; (try simp only [List.length_map] at h8 h9); omega
      try rw [show (↑g : Int).toNat = g from Int.toNat_natCast g]
      refine ⟨(by omega), (by omega), (by omega), (by omega), congrArg AV.agg (row_at encWn hlt), congrArg AV.agg (row_at encWn hlt), ?_, (by unfold In64; omega), ⟨g + 1, by omega, by omega, rfl⟩⟩
      · simp
    · have hge : g = h.ws.length := by have h9 := of_decide_eq_false hd; have h8 := hg; (try simp only [List.length_map] at h8 h9); omega
      subst hge
      exact rfl
  exact c_of Tryz.f40 ({ noSym 1 (fzB (mkB spW 40 (lits false [(1, 4), (1, 10), (1, 19), (6, 10)] ++ [(6, 4, rdL 25 encWn h.ws 25 true), (6, 9, rdL 25 encWn h.ws 25 true)]) (la0 (la40 h)))) with cl := clL [26, 44] }) (by kernel_rfl) (by kernel_rfl) (by kernel_rfl) (by kernel_rfl) key (by kernel_rfl)
end Go.Proofs.YtfoeefaamjknpaaGreatDoor
namespace Go.Proofs.YtfoeefaamjknpaaGreatDoor
open Go Go.Av Go.RowKit
structure K5 (l : List Zn) (h : Hm) : Prop where
  kl : l.length ≤ 7
  kn : ∀ x, x ∈ l → x.nm.length ≤ 1000
  ko : h.nm.length ≤ 40
  kw : h.ws.length ≤ 9
theorem sh_hm {h : Hm} (e : shH h = true) : h.nm.length ≤ 40 ∧ h.ws.length ≤ 9 := by
  unfold shH at e
  split at e
  · rename_i h1
    rw [decide_eq_true_eq] at h1
    have := of_decide_eq_true e
    exact ⟨by omega, by omega⟩
  · cases e
end Go.Proofs.YtfoeefaamjknpaaGreatDoor
namespace Go.Proofs.YtfoeefaamjknpaaGreatDoor
open Go Go.Av Go.RowKit
def mdS (p : Prop) (l : List (Nat × AV)) : Option (List GS × AS × Prop) := some ([.keep (l.map (·.1)) [], .bound 1], ⟨l, [], 1⟩, p)
def ioN (n : Int) : List UInt8 := if 0 ≤ n ∧ n < 1000000000 then Lib.itoa n else []
def joN (L : List (List UInt8)) : List UInt8 := Lib.join L [32]
theorem ioN_len (n : Int) : (ioN n).length ≤ 10 := by
  unfold ioN
  split
  · rename_i h
    rw [Lib.itoa, if_neg (by omega)]
    exact dd_len (by omega)
  · exact Nat.zero_le _
theorem ioN_e {n : Int} (h0 : 0 ≤ n) (h : n ≤ 100000000) : ioN n = Lib.itoa n := if_pos ⟨h0, by omega⟩
def prS (h : Hm) : List UInt8 := if (fHm h != 0) = true then [] else prT joN ioN h h.ws.length
theorem c85s {h : Hm} (hn : h.nm.length ≤ 40) (hw : h.ws.length ≤ 9) : PCall Tryz.prog G0 85 [.agg (encHm h)] (.tup [.str (prS h), .i (fHm h)]) :=
  c85 h ioN joN (by omega) (by omega) (fun _ n h0 h1 => by rw [ioN_e h0 h1]; exact c184 n (by unfold In64; omega)) (fun _ => rfl) (fun _ k hk => Nat.le_trans (prT_len (fun _ => rfl) ioN_len h k) (by omega)) (fun _ => Nat.le_trans (lnH_len (fun _ => rfl) ioN_len h) (by omega)) (fun _ k _ => Nat.le_trans (lnW_len (fun _ => rfl) ioN_len _) (by omega))
theorem c87s {h : Hm} (hz : fHm h = 0) (hn : h.nm.length ≤ 40) : PCall Tryz.prog G0 87 [.agg (encHm h)] (.str (prS h)) := by
  have e : prS h = prT joN ioN h h.ws.length := if_neg (by rw [hz]; decide)
  rw [e]
  refine c87 h _ ioN joN rfl hz (by omega) (fun n h0 h1 => ?_) (fun _ => rfl) ioN_len
  have := c91 n.toNat (by omega)
  rw [show ((n.toNat : Nat) : Int) = n by omega] at this
  rw [ioN_e h0 h1, Lib.itoa, if_neg (by omega)]
  first
    | exact this
    | (rw [show n.natAbs = n.toNat by omega]; exact this)
def hmV (s : List UInt8) : Hm := if (e88 s != 0) = true then ⟨[], 0, []⟩ else if kG s < (spl 10 s).length then ⟨[], 0, []⟩ else if (fHm (hmR s (spl 10 s).length) != 0) = true then ⟨[], 0, []⟩ else hmR s (spl 10 s).length
def kV (s : List UInt8) : Int := if (e88 s != 0) = true then 0 else if kG s < (spl 10 s).length then (kG s : Int) else if (fHm (hmR s (spl 10 s).length) != 0) = true then ((spl 10 s).length : Int) - 1 else 0
def eV (s : List UInt8) : Int := if (e88 s != 0) = true then e88 s else if kG s < (spl 10 s).length then 25 else fHm (hmR s (spl 10 s).length)
theorem ps_tup (s : List UInt8) : psG (e88 s) (kG s) (spl 10 s).length (hmR s (spl 10 s).length) = .tup [.agg (encHm (hmV s)), .i (kV s), .i (eV s)] := by
  unfold psG hmV kV eV
  by_cases h1 : (e88 s != 0) = true
  · rw [if_pos h1, if_pos h1, if_pos h1, if_pos h1]
  · rw [if_neg h1, if_neg h1, if_neg h1, if_neg h1]
    by_cases h2 : kG s < (spl 10 s).length
    · rw [if_pos h2, if_pos h2, if_pos h2, if_pos h2]
    · rw [if_neg h2, if_neg h2, if_neg h2, if_neg h2]
      by_cases h3 : (fHm (hmR s (spl 10 s).length) != 0) = true
      · rw [if_pos h3, if_pos h3, if_pos h3]
      · rw [if_neg h3, if_neg h3, if_neg h3, show fHm (hmR s (spl 10 s).length) = 0 from bne_f (by simpa using h3)]
theorem hmV_len {s : List UInt8} (hl : s.length ≤ 400 ∨ s.length = 4097) : (hmV s).ws.length ≤ 1000 := by
  unfold hmV
  split
  · exact Nat.zero_le _
  · rename_i h1
    split
    · exact Nat.zero_le _
    · split
      · exact Nat.zero_le _
      · have h2 := hmR_len s (spl 10 s).length
        have h3 := (spl_len 10 s).1
        have h4 := e88_z (s := s) (by simpa using h1)
        omega
structure K9 (h : Hm) (s : List UInt8) : Prop where
  ko : h.nm.length ≤ 40
  kw : h.ws.length ≤ 9
  ks : s.length ≤ 400 ∨ s.length = 4097
theorem guard9 {h : Hm} {s : List UInt8} (q : (if (!shH h) = true then true else if decide ((s.length : Int) > 400) = true then (s.length : Int) != 4097 else false) = false) : K9 h s := by
  cases q1 : shH h with
  | false => rw [q1] at q; cases q
  | true =>
    rw [q1] at q
    have h1 := sh_hm q1
    refine ⟨h1.1, h1.2, ?_⟩
    by_cases q2 : (s.length : Int) > 400
    · rw [decide_eq_true q2] at q
      have : (s.length : Int) = 4097 := by simpa using q
      omega
    · omega
def sp9 (h : Hm) (s : List UInt8) : Nat → List AV → Option AV
  | 16, _ => some (.bool true)
  | 14, _ => some (.bool (shH h))
  | 18, [.agg c] => some (.agg c)
  | 85, _ => some (.tup [.str (prS h), .i (fHm h)])
  | 86, _ => some (.tup [.agg (encHm (hmV s)), .i (kV s), .i (eV s)])
  | 26, _ => some (.i (fHm h))
  | 87, _ => some (.str (prS h))
  | 88, _ => some (.tup [.agg (encHm (hmV s)), .i (kV s), .i (eV s)])
  | 41, [.agg c] => some (.agg c)
  | 40, _ => some (.bool true)
  | n, y => spW n y
def m9 (h : Hm) (s : List UInt8) : List (Option (List GS × AS × Prop)) :=
  [none, none, none, none, none, none, none, none,
   mdS (K9 h s) [(1, .str s), (2, .elt 3 [encHm h] 0 0), (5, .str (prS h)), (6, .i (fHm h)), (7, .elt 3 [encHm (hmV s)] 0 0), (8, .i (kV s)), (9, .i (eV s)), (10, .i (fHm h)), (11, .str (prS h))], none, none]
theorem c9 (h : Hm) (s : List UInt8) (hA : PCall Tryz.prog G0 16 [] (.bool true)) : PCall Tryz.prog G0 9 [.agg (encHm h), .str s] (.bool true) := by
  have key :
   ((!!shH h) = true → (!!shH h) = true) ∧ ((!!shH h) = true → (!!shH h) = true) ∧ ((!!shH h) = true → (!!shH h) = true) ∧ ((!!shH h && decide ((↑s.length : Int) > 400)) = true → (!!shH h && decide ((↑s.length : Int) > 400)) = true) ∧
   ((!!shH h && decide ((↑s.length : Int) > 400)) = true → (!!shH h && decide ((↑s.length : Int) > 400)) = true) ∧ ((!!shH h) = true → (!!shH h) = true) ∧ ((!!shH h) = true → decide ((↑s.length : Int) > 400) = true → (!!shH h &&
   decide ((↑s.length : Int) > 400)) = true) ∧ ((!shH h) = false → (!!shH h) = true) ∧ PCall Tryz.prog G0 14 [AV.agg (encHm h)] (AV.bool (shH h)) ∧ ((if (!shH h) = true then true else if decide ((↑s.length : Int) > 400) = true then
   (↑s.length : Int) != 4097 else false) = true → PCall Tryz.prog G0 16 [] (AV.bool true) ∧ AV.bool true = AV.bool true) ∧ ((if (!shH h) = true then true else if decide ((↑s.length : Int) > 400) = true then (↑s.length : Int) != 4097
   else false) = false → PCall Tryz.prog G0 18 [AV.agg (encHm h)] (AV.agg (encHm h)) ∧ PCall Tryz.prog G0 85 [AV.agg (encHm h)] (AV.tup [AV.str (prS h), AV.i (fHm h)]) ∧ PCall Tryz.prog G0 86 [AV.str s] (AV.tup [AV.agg (encHm (hmV
   s)), AV.i (kV s), AV.i (eV s)]) ∧ PCall Tryz.prog G0 26 [AV.agg (encHm h)] (AV.i (fHm h)) ∧ (((fHm h == 0) = true → PCall Tryz.prog G0 87 [AV.agg (encHm h)] (AV.str (prS h)) ∧ AS.mk [(1, AV.str s), (2, AV.elt 3 [(encHm h)] 0 0),
   (5, AV.str (prS h)), (6, AV.i (fHm h)), (7, AV.elt 3 [(encHm (hmV s))] 0 0), (8, AV.i (kV s)), (9, AV.i (eV s)), (10, AV.i (fHm h)), (11, AV.str (prS h))] [] 1 = AS.mk [(1, AV.str s), (2, AV.elt 3 [(encHm h)] 0 0), (5, AV.str (prS
   h)), (6, AV.i (fHm h)), (7, AV.elt 3 [(encHm (hmV s))] 0 0), (8, AV.i (kV s)), (9, AV.i (eV s)), (10, AV.i (fHm h)), (11, AV.str (prS h))] [] 1 ∧ K9 h s) ∧ ((fHm h == 0) = false → AS.mk [(1, AV.str s), (2, AV.elt 3 [(encHm h)] 0
   0), (5, AV.str (prS h)), (6, AV.i (fHm h)), (7, AV.elt 3 [(encHm (hmV s))] 0 0), (8, AV.i (kV s)), (9, AV.i (eV s)), (10, AV.i (fHm h)), (11, AV.str [])] [] 1 = AS.mk [(1, AV.str s), (2, AV.elt 3 [(encHm h)] 0 0), (5, AV.str (prS
   h)), (6, AV.i (fHm h)), (7, AV.elt 3 [(encHm (hmV s))] 0 0), (8, AV.i (kV s)), (9, AV.i (eV s)), (10, AV.i (fHm h)), (11, AV.str (prS h))] [] 1 ∧ K9 h s)) ∧ (K9 h s → PCall Tryz.prog G0 88 [AV.str s] (AV.tup [AV.agg (encHm (hmV
   s)), AV.i (kV s), AV.i (eV s)]) ∧ ((prS h == prS h) = true → (prS h == prS h) = true) ∧ ((prS h == prS h) = true → (prS h == prS h) = true) ∧ ((prS h == prS h) = true → (prS h == prS h) = true) ∧ ((if (prS h == prS h) = true then
   fHm h == fHm h else false) = true → (if (prS h == prS h) = true then fHm h == fHm h else false) = true) ∧ ((if (prS h == prS h) = true then fHm h == fHm h else false) = true → (if (prS h == prS h) = true then fHm h == fHm h else
   false) = true) ∧ ((if (prS h == prS h) = true then fHm h == fHm h else false) = true → (if (prS h == prS h) = true then fHm h == fHm h else false) = true) ∧ ((if (prS h == prS h) = true then fHm h == fHm h else false) = true → (if
   (prS h == prS h) = true then fHm h == fHm h else false) = true) ∧ ((if (if (prS h == prS h) = true then fHm h == fHm h else false) = true then true else false) = true → (if (if (prS h == prS h) = true then fHm h == fHm h else
   false) = true then true else false) = true) ∧ ((if (if (prS h == prS h) = true then fHm h == fHm h else false) = true then true else false) = true → (if (if (prS h == prS h) = true then fHm h == fHm h else false) = true then true
   else false) = true) ∧ ((if (if (prS h == prS h) = true then fHm h == fHm h else false) = true then true else false) = true → (if (if (prS h == prS h) = true then fHm h == fHm h else false) = true then true else false) = true) ∧
   ((if (if (if (prS h == prS h) = true then fHm h == fHm h else false) = true then true else false) = true then kV s == kV s else false) = true → (if (if (if (prS h == prS h) = true then fHm h == fHm h else false) = true then true
   else false) = true then kV s == kV s else false) = true) ∧ ((if (if (if (prS h == prS h) = true then fHm h == fHm h else false) = true then true else false) = true then kV s == kV s else false) = true → (if (if (if (prS h == prS h)
   = true then fHm h == fHm h else false) = true then true else false) = true then kV s == kV s else false) = true) ∧ ((if (if (if (prS h == prS h) = true then fHm h == fHm h else false) = true then true else false) = true then kV s
   == kV s else false) = true → (if (if (if (prS h == prS h) = true then fHm h == fHm h else false) = true then true else false) = true then kV s == kV s else false) = true) ∧ ((if (if (if (if (prS h == prS h) = true then fHm h == fHm
   h else false) = true then true else false) = true then kV s == kV s else false) = true then eV s == eV s else false) = true → (if (if (if (if (prS h == prS h) = true then fHm h == fHm h else false) = true then true else false) =
   true then kV s == kV s else false) = true then eV s == eV s else false) = true) ∧ impB (if (prS h == prS h) = true then fHm h == fHm h else false) (PCall Tryz.prog G0 41 [AV.agg (encHm (hmV s))] (AV.agg (encHm (hmV s)))) ∧ impB (if
   (prS h == prS h) = true then fHm h == fHm h else false) (PCall Tryz.prog G0 40 [AV.agg (encHm (hmV s)), AV.agg (encHm (hmV s))] (AV.bool true)) ∧ impB (if (if (if (if (prS h == prS h) = true then fHm h == fHm h else false) = true
   then true else false) = true then kV s == kV s else false) = true then eV s == eV s else false) (PCall Tryz.prog G0 16 [] (AV.bool true)) ∧ AV.bool (if (if (if (if (if (prS h == prS h) = true then fHm h == fHm h else false) = true
   then true else false) = true then kV s == kV s else false) = true then eV s == eV s else false) = true then true else false) = AV.bool true)) := by
    refine ⟨fun h => h, fun h => h, fun h => h, fun h => h, fun h => h, fun h => h, fun h1 => fun h => by first | exact h | (rw [h]; rfl) | simp_all, fun h => by first | exact h | (rw [h]; rfl) | simp_all, (c14 h), fun h1 => ⟨hA, rfl⟩, fun h1 => ?_⟩
    · have hK := guard9 h1
      obtain ⟨k1, k2, k3⟩ := hK
      have hK := guard9 h1
      refine ⟨(c18 h (by omega)), (c85s k1 k2), ((by have e := c86 s k3; rw [ps_eq, ps_tup] at e; exact e)), (c26 h (by omega) (by omega)), ⟨fun h2 => ?_, fun h2 => ?_⟩, fun h2 => ?_⟩
      · have hz : fHm h = 0 := by simpa using h2
        exact ⟨(c87s hz k1), rfl, hK⟩
      · have hz : (fHm h != 0) = true := by simpa using h2
        refine ⟨?_, hK⟩
        · rw [show prS h = [] from if_pos hz]
      · have hK := h2
        obtain ⟨k1, k2, k3⟩ := hK
        have hK := h2
        refine ⟨((by have e := c88 s k3; rw [ps_tup] at e; exact e)), fun h => h, fun h => h, fun h => h, fun h => h, fun h => h, fun h => h, fun h => h, fun h => h, fun h => h, fun h => h, fun h => h, fun h => h, fun h => h, fun h => h, impB_iff.2 fun hb => (c41 (hmV s) (hmV_len k3)), impB_iff.2 fun hb => (c40 (hmV s) (hmV_len k3)), impB_iff.2 fun hb => hA, ?_⟩
        · simp
  exact c_ofH Tryz.f9 (fzB (mkB (sp9 h s) 9 [] noLa)) (m9 h s) (by kernel_rfl) (by kernel_rfl) (by kernel_rfl) (by kernel_rfl) key (by kernel_rfl)
end Go.Proofs.YtfoeefaamjknpaaGreatDoor
namespace Go.Proofs.YtfoeefaamjknpaaGreatDoor
open Go Go.Av Go.RowKit Go.ChangeShapes Go.WideShapes
theorem jp0_9 : (Rows.homeStringsRow.inPlace == Tryz.prog.inPlace 9) = true := by kernel_rfl
theorem jp1_9 : (Rows.homeStringsRow.unfollowed == Tryz.prog.unfollowed 9) = true := by kernel_rfl
theorem jp2_9 : (Rows.homeStringsRow.recurses == Tryz.prog.recurses 9) = true := by kernel_rfl
theorem jp3_9 : (Rows.homeStringsRow.named == Tryz.prog.varsNamed 9) = true := by kernel_rfl
theorem jfacts_9 : joinedFacts Tryz.prog 9 Tryz.f9 Rows.homeStringsSpec Rows.homeStringsRow = true := by
  unfold joinedFacts
  rw [jp0_9, jp1_9, jp2_9, jp3_9]
  kernel_rfl
end Go.Proofs.YtfoeefaamjknpaaGreatDoor
