/-
  A home after a set of measures: both sides. Complaints: those that are due, the source's; what is wrong, the reference's; copies. A contract from its body's parts. HomeZones returns true. HomeWindows returns true. No condition but the theorems' own.
-/
import Derived.Test.YtfoeefaamjknpaaGreatDoorPC
import Derived.Test.YtfoeefaamjknpaaGreatDoorAvD
import Derived.Test.YtfoeefaamjknpaaGreatDoorPB
namespace Go.Proofs.YtfoeefaamjknpaaGreatDoor
open Go Go.Av Go.RowKit
def afH (h : Hm) (l : List Ms) (g : List Int) : Hm := ⟨h.nm, h.pe, aft h.ws l g⟩
def la103 (h : Hm) (l : List Ms) (g : List Int) : LA := {
  pre := [.reno 7 3, .keep [1, 3, 6, 7, 18, 19, 20] [1, 2, 3], .bound 4], post := [.keep [1, 3, 6, 7, 18, 19, 20] [1, 2, 3], .bound 4]
  Gh := Nat
  st := fun i => ⟨[(1, .sl 19 (l.map encMs)), (3, .ptr 1 0), (6, .ptr 2 0), (7, .own 3 (h.ws.map encWn).length), (18, .sl 1 (g.map encI)), (19, .i (g.map encI).length), (20, .i i)], [(1, .box (encHm h)), (2, .box [.str [], .i 0, .ex (.slice none 0 0)]), (3, .buf 189 25 ((aftN h.ws l g i).map encWn))], 4⟩
  ok := fun i => i ≤ g.length
  ms := fun i => g.length - i }
theorem copy_all (rows : List (List AV)) (z : List AV) : List.take ((rows.length : Nat) : Int).toNat rows ++ List.drop rows.length (List.replicate ((rows.length : Nat) : Int).toNat z) = rows := by
  rw [Int.toNat_natCast, List.take_length, List.drop_replicate, Nat.sub_self]
  simp
theorem put_wi {ws : List Wn} {i : Nat} (hi : i < ws.length) (m : Ms) : putRow (ws.map encWn) i 9 (encPm m) = (ws.set i (wiM (ws.getD i default) m)).map encWn := by
  unfold putRow
  rw [row_at encWn hi, List.map_set]
  rfl
theorem c103 (h : Hm) (l : List Ms) (g : List Int) (hh : fMs h l = 0) (hg : fSet l g = 0) (hg0 : g.length ≤ 1000) : PCall Tryz.prog G0 103 [.agg (encHm h), .sl 19 (l.map encMs), .sl 1 (g.map encI)] (.agg (encHm (afH h l g))) := by
  have key :
   (0 : Int) ≤ (↑(List.map encWn h.ws).length : Int) ∧ (↑(List.map encWn h.ws).length : Int) ≤ (↑(List.map encWn h.ws).length : Int) ∧ (↑(List.map encWn h.ws).length : Int) ≤ 9223372036854775807 ∧ (↑(List.map encWn h.ws).length : Int)
   * (↑200 : Int) ≤ 140737488355328 ∧ (∃ (g_1 : Nat), g_1 ≤ g.length ∧ AS.mk [(1, AV.sl 19 (List.map encMs l)), (3, AV.ptr 1 0), (6, AV.ptr 2 0), (7, AV.own 3 (↑(List.map encWn h.ws).length : Int).toNat), (18, AV.sl 1 (List.map encI
   g)), (19, AV.i (↑(List.map encI g).length : Int)), (20, AV.i 0)] [(1, ABlk.box (encHm h)), (2, ABlk.box [AV.str [], AV.i 0, AV.ex (Value.slice none 0 0)]), (3, ABlk.buf 189 25 (List.take (↑(List.map encWn h.ws).length : Int).toNat
   (List.map encWn h.ws) ++ List.drop (List.map encWn h.ws).length (List.replicate (↑(List.map encWn h.ws).length : Int).toNat [AV.i 0, AV.i 0, AV.i 0, AV.i 0, AV.i 0, AV.i 0, AV.i 0, AV.i 0, AV.i 0, AV.i 0, AV.i 0, AV.i 0, AV.i 0,
   AV.i 0, AV.i 0, AV.i 0, AV.i 0, AV.i 0, AV.i 0, AV.i 0, AV.i 0, AV.i 0, AV.i 0, AV.i 0, AV.i 0])))] 4 = AS.mk [(1, AV.sl 19 (List.map encMs l)), (3, AV.ptr 1 0), (6, AV.ptr 2 0), (7, AV.own 3 (List.map encWn h.ws).length), (18,
   AV.sl 1 (List.map encI g)), (19, AV.i (↑(List.map encI g).length : Int)), (20, AV.i (↑g_1 : Int))] [(1, ABlk.box (encHm h)), (2, ABlk.box [AV.str [], AV.i 0, AV.ex (Value.slice none 0 0)]), (3, ABlk.buf 189 25 (List.map encWn (aftN
   h.ws l g g_1)))] 4) ∧ ∀ (g_1 : Nat), g_1 ≤ g.length → (decide ((↑g_1 : Int) < (↑(List.map encI g).length : Int)) = true → (0 : Int) ≤ (↑g_1 : Int) ∧ (↑g_1 : Int) < (↑(List.map encI g).length : Int) ∧ nth (nthR (List.map encI g)
   (↑g_1 : Int).toNat) 0 = AV.i (g.getD (↑g_1 : Int).toNat default) ∧ (0 : Int) ≤ g.getD (↑g_1 : Int).toNat default ∧ g.getD (↑g_1 : Int).toNat default < (↑(List.map encMs l).length : Int) ∧ (0 : Int) ≤ g.getD (↑g_1 : Int).toNat
   default ∧ g.getD (↑g_1 : Int).toNat default < (↑(List.map encMs l).length : Int) ∧ (0 : Int) ≤ (l.getD (g.getD (↑g_1 : Int).toNat default).toNat default).w ∧ (l.getD (g.getD (↑g_1 : Int).toNat default).toNat default).w <
   (↑(List.map encWn h.ws).length : Int) ∧ (l.getD (g.getD (↑g_1 : Int).toNat default).toNat default).w.toNat < (List.map encWn (aftN h.ws l g g_1)).length ∧ nth (nthR (List.map encMs l) (g.getD (↑g_1 : Int).toNat default).toNat) 1 =
   AV.i (l.getD (g.getD (↑g_1 : Int).toNat default).toNat default).w ∧ AV.agg (List.take 16 (List.drop 3 (nthR (List.map encMs l) (g.getD (↑g_1 : Int).toNat default).toNat))) = AV.agg (encPm (l.getD (g.getD (↑g_1 : Int).toNat
   default).toNat default)) ∧ In64 ((↑g_1 : Int) + 1) ∧ ∃ (g' : Nat), g' ≤ g.length ∧ g.length - g' < g.length - g_1 ∧ AS.mk [(1, AV.sl 19 (List.map encMs l)), (3, AV.ptr 1 0), (6, AV.ptr 2 0), (7, AV.own 3 (List.map encWn
   h.ws).length), (18, AV.sl 1 (List.map encI g)), (19, AV.i (↑(List.map encI g).length : Int)), (20, AV.i ((↑g_1 : Int) + 1))] [(1, ABlk.box (encHm h)), (2, ABlk.box [AV.str [], AV.i 0, AV.ex (Value.slice none 0 0)]), (3, ABlk.buf
   189 25 (putRow (List.map encWn (aftN h.ws l g g_1)) (l.getD (g.getD (↑g_1 : Int).toNat default).toNat default).w.toNat 9 (encPm (l.getD (g.getD (↑g_1 : Int).toNat default).toNat default))))] 4 = AS.mk [(1, AV.sl 19 (List.map encMs
   l)), (3, AV.ptr 1 0), (6, AV.ptr 2 0), (7, AV.own 3 (List.map encWn h.ws).length), (18, AV.sl 1 (List.map encI g)), (19, AV.i (↑(List.map encI g).length : Int)), (20, AV.i (↑g' : Int))] [(1, ABlk.box (encHm h)), (2, ABlk.box
   [AV.str [], AV.i 0, AV.ex (Value.slice none 0 0)]), (3, ABlk.buf 189 25 (List.map encWn (aftN h.ws l g g')))] 4) ∧ (decide ((↑g_1 : Int) < (↑(List.map encI g).length : Int)) = false → AV.agg [AV.str h.nm, AV.i h.pe, AV.sl 25
   (List.map encWn (aftN h.ws l g g_1))] = AV.agg [AV.str h.nm, AV.i h.pe, AV.sl 25 (List.map encWn (aft h.ws l g))]) := by
    have hlm : (List.map encMs l).length = l.length := List.length_map _
    have hgm : (List.map encI g).length = g.length := List.length_map _
    have hwm : (List.map encWn h.ws).length = h.ws.length := List.length_map _
    obtain ⟨y1, y2, y3⟩ := ms_z hh
    obtain ⟨z1, z2, z3, z4, z5, z6⟩ := hm_z y1
    obtain ⟨x0, _⟩ := set_z hg
    obtain ⟨x1, _⟩ := ix_z x0
    have : (List.map encWn h.ws).length = h.ws.length := by simp only [List.length_map]
    have : (List.map encI g).length = g.length := by simp only [List.length_map]
    have : (List.map encMs l).length = l.length := by simp only [List.length_map]
    refine ⟨(by omega), (by omega), (by omega), (by omega), ⟨⟨0, by omega, (by rw [copy_all]; rfl)⟩, fun g_1 hg => ⟨fun hd => ?_, fun hd => ?_⟩⟩⟩
    · have hlt : g_1 < g.length := by have h9 := of_decide_eq_true hd; have h8 := hg; (try simp only [List.length_map] at h8 h9); omega
      have hx := x1 g_1 hlt
      have hmk := (y3 (g.getD g_1 default).toNat (by omega)).w0
      have hal := aft_len h.ws l g g_1
      have ham : (List.map encWn (aftN h.ws l g g_1)).length = (aftN h.ws l g g_1).length := List.length_map _
      try rw [show (↑g_1 : Int).toNat = g_1 from Int.toNat_natCast g_1]
      refine ⟨(by omega), (by omega), (congrArg (fun r => nth r 0) (row_at encI hlt)), (by omega), (by omega), (by omega), (by omega), (by omega), (by omega), (by omega), (congrArg (fun r => nth r 1) (row_at encMs (by omega))), (congrArg (fun r => AV.agg (List.take 16 (List.drop 3 r))) (row_at encMs (by omega))), (by unfold In64; omega), ⟨g_1 + 1, by omega, by omega, ?_⟩⟩
      · rw [put_wi (by omega)]
        rfl
    · have hge : g_1 = g.length := by have h9 := of_decide_eq_false hd; have h8 := hg; (try simp only [List.length_map] at h8 h9); omega
      subst hge
      first | rfl | trivial
  exact c_of Tryz.f103 ({ fzB (mkB spW 103 [(5, 1, rdL 1 encI g 1 false), (6, 5, rdL 19 encMs l 1 false), (6, 10, rdL 19 encMs l 16 true)] (la0 (la103 h l g))) with bx := fun i => if i.beq 0 then [.frzo 7] else [] }) (by kernel_rfl) (by kernel_rfl) (by kernel_rfl) (by kernel_rfl) key (by kernel_rfl)
theorem w93 (h : Hm) (hw : h.ws.length ≤ 1000) : WCall Tryz.prog G0 93 [.agg (encHm h)] [] (.ax [.str h.nm, .i h.pe, .own 1 (h.ws.map encWn).length]) [ABlk.buf 177 25 (h.ws.map encWn)] := by
  have key :
   0 + (List.map encWn h.ws).length ≤ 9223372036854775807 ∧ (0 + (List.map encWn h.ws).length) * 200 ≤ 140737488355328 ∧ AV.ax [AV.str h.nm, AV.i h.pe, AV.own 1 (0 + (List.map encWn h.ws).length)] = AV.ax [AV.str h.nm, AV.i h.pe,
   AV.own 1 (List.map encWn h.ws).length] ∧ [ABlk.buf 177 25 ([] ++ List.map encWn h.ws)] = [ABlk.buf 177 25 (List.map encWn h.ws)] := by
    have hwm : (List.map encWn h.ws).length = h.ws.length := List.length_map _
    exact ⟨by omega, by omega, by rw [Nat.zero_add], rfl⟩
  exact w_of Tryz.f93 (modA 2 3 (fun a => { a with fz := false }) (mkB spW 93 [] noLa)) (by kernel_rfl) (by kernel_rfl) (by kernel_rfl) (by kernel_rfl) (by kernel_rfl) key (by kernel_rfl)
def hs35 (h : Hm) : Nat → List AV → List ABlk → Option AV
  | 93, _, _ => some (.gv true (.tup [.ax [.str h.nm, .i h.pe, .own 1 (h.ws.map encWn).length], .fresh 177 25 (h.ws.map encWn)]))
  | _, _, _ => none
def la35 (h : Hm) (l : List Ms) (g : List Int) : LA := {
  pre := [.reno 7 3, .renc 3 2 4, .keep [1, 2, 6, 7, 8] [2, 3, 4], .bound 5], post := [.keep [1, 2, 6, 7, 8] [2, 3, 4], .bound 5]
  Gh := Nat
  st := fun i => ⟨[(1, .sl 19 (l.map encMs)), (2, .sl 1 (g.map encI)), (6, .ptr 2 0), (7, .ptr 3 0), (8, .i i)], [(2, .box [.str [], .i 0, .ex (.slice none 0 0)]), (3, .box [.str h.nm, .i h.pe, .own 4 (h.ws.map encWn).length]), (4, .buf 177 25 ((aftN h.ws l g i).map encWn))], 5⟩
  ok := fun i => i ≤ g.length
  ms := fun i => g.length - i }
theorem c35 (h : Hm) (l : List Ms) (g : List Int) (hh : fMs h l = 0) (hg : fSet l g = 0) (hg0 : g.length ≤ 1000) : PCall Tryz.prog G0 35 [.agg (encHm h), .sl 19 (l.map encMs), .sl 1 (g.map encI)] (.agg (encHm (afH h l g))) := by
  have key :
   WCall Tryz.prog G0 93 [AV.agg (encHm h)] [] (AV.ax [AV.str h.nm, AV.i h.pe, AV.own 1 (List.map encWn h.ws).length]) [ABlk.buf 177 25 (List.map encWn h.ws)] ∧ (∃ (g_1 : Nat), g_1 ≤ g.length ∧ AS.mk [(1, AV.sl 19 (List.map encMs l)),
   (2, AV.sl 1 (List.map encI g)), (6, AV.ptr 2 0), (7, AV.ptr 3 0), (8, AV.i 0)] [(2, ABlk.box [AV.str [], AV.i 0, AV.ex (Value.slice none 0 0)]), (3, ABlk.box [AV.str h.nm, AV.i h.pe, AV.own 4 (List.map encWn h.ws).length]), (4,
   ABlk.buf 177 25 (List.map encWn h.ws))] 5 = AS.mk [(1, AV.sl 19 (List.map encMs l)), (2, AV.sl 1 (List.map encI g)), (6, AV.ptr 2 0), (7, AV.ptr 3 0), (8, AV.i (↑g_1 : Int))] [(2, ABlk.box [AV.str [], AV.i 0, AV.ex (Value.slice
   none 0 0)]), (3, ABlk.box [AV.str h.nm, AV.i h.pe, AV.own 4 (List.map encWn h.ws).length]), (4, ABlk.buf 177 25 (List.map encWn (aftN h.ws l g g_1)))] 5) ∧ ∀ (g_1 : Nat), g_1 ≤ g.length → (decide ((↑g_1 : Int) < (↑(List.map encI
   g).length : Int)) = true → (0 : Int) ≤ (↑g_1 : Int) ∧ (↑g_1 : Int) < (↑(List.map encI g).length : Int) ∧ (0 : Int) ≤ g.getD (↑g_1 : Int).toNat default ∧ g.getD (↑g_1 : Int).toNat default < (↑(List.map encMs l).length : Int) ∧ (0 :
   Int) ≤ (↑g_1 : Int) ∧ (↑g_1 : Int) < (↑(List.map encI g).length : Int) ∧ (0 : Int) ≤ g.getD (↑g_1 : Int).toNat default ∧ g.getD (↑g_1 : Int).toNat default < (↑(List.map encMs l).length : Int) ∧ (0 : Int) ≤ (l.getD (g.getD (↑g_1 :
   Int).toNat default).toNat default).w ∧ (l.getD (g.getD (↑g_1 : Int).toNat default).toNat default).w < (↑(List.map encWn h.ws).length : Int) ∧ (l.getD (g.getD (↑g_1 : Int).toNat default).toNat default).w.toNat < (List.map encWn
   (aftN h.ws l g g_1)).length ∧ nth (nthR (List.map encI g) (↑g_1 : Int).toNat) 0 = AV.i (g.getD (↑g_1 : Int).toNat default) ∧ nth (nthR (List.map encMs l) (g.getD (↑g_1 : Int).toNat default).toNat) 1 = AV.i (l.getD (g.getD (↑g_1 :
   Int).toNat default).toNat default).w ∧ nth (nthR (List.map encI g) (↑g_1 : Int).toNat) 0 = AV.i (g.getD (↑g_1 : Int).toNat default) ∧ AV.agg (List.take 16 (List.drop 3 (nthR (List.map encMs l) (g.getD (↑g_1 : Int).toNat
   default).toNat))) = AV.agg (encPm (l.getD (g.getD (↑g_1 : Int).toNat default).toNat default)) ∧ In64 ((↑g_1 : Int) + 1) ∧ ∃ (g' : Nat), g' ≤ g.length ∧ g.length - g' < g.length - g_1 ∧ AS.mk [(1, AV.sl 19 (List.map encMs l)), (2,
   AV.sl 1 (List.map encI g)), (6, AV.ptr 2 0), (7, AV.ptr 3 0), (8, AV.i ((↑g_1 : Int) + 1))] [(2, ABlk.box [AV.str [], AV.i 0, AV.ex (Value.slice none 0 0)]), (3, ABlk.box [AV.str h.nm, AV.i h.pe, AV.own 4 (List.map encWn
   h.ws).length]), (4, ABlk.buf 177 25 (putRow (List.map encWn (aftN h.ws l g g_1)) (l.getD (g.getD (↑g_1 : Int).toNat default).toNat default).w.toNat 9 (encPm (l.getD (g.getD (↑g_1 : Int).toNat default).toNat default))))] 5 = AS.mk
   [(1, AV.sl 19 (List.map encMs l)), (2, AV.sl 1 (List.map encI g)), (6, AV.ptr 2 0), (7, AV.ptr 3 0), (8, AV.i (↑g' : Int))] [(2, ABlk.box [AV.str [], AV.i 0, AV.ex (Value.slice none 0 0)]), (3, ABlk.box [AV.str h.nm, AV.i h.pe,
   AV.own 4 (List.map encWn h.ws).length]), (4, ABlk.buf 177 25 (List.map encWn (aftN h.ws l g g')))] 5) ∧ (decide ((↑g_1 : Int) < (↑(List.map encI g).length : Int)) = false → AV.agg [AV.str h.nm, AV.i h.pe, AV.sl 25 (List.map encWn
   (aftN h.ws l g g_1))] = AV.agg [AV.str h.nm, AV.i h.pe, AV.sl 25 (List.map encWn (aft h.ws l g))]) := by
    have hlm : (List.map encMs l).length = l.length := List.length_map _
    have hgm : (List.map encI g).length = g.length := List.length_map _
    have hwm : (List.map encWn h.ws).length = h.ws.length := List.length_map _
    obtain ⟨y1, y2, y3⟩ := ms_z hh
    obtain ⟨z1, z2, z3, z4, z5, z6⟩ := hm_z y1
    obtain ⟨x0, _⟩ := set_z hg
    obtain ⟨x1, _⟩ := ix_z x0
    have : (List.map encWn h.ws).length = h.ws.length := by simp only [List.length_map]
    have : (List.map encI g).length = g.length := by simp only [List.length_map]
    have : (List.map encMs l).length = l.length := by simp only [List.length_map]
    refine ⟨(w93 h (by omega)), ⟨⟨0, by omega, rfl⟩, fun g_1 hg => ⟨fun hd => ?_, fun hd => ?_⟩⟩⟩
    · have hlt : g_1 < g.length := by have h9 := of_decide_eq_true hd; have h8 := hg; (try simp only [List.length_map] at h8 h9); omega
      have hx := x1 g_1 hlt
      have hmk := (y3 (g.getD g_1 default).toNat (by omega)).w0
      have hal := aft_len h.ws l g g_1
      have ham : (List.map encWn (aftN h.ws l g g_1)).length = (aftN h.ws l g g_1).length := List.length_map _
      try rw [show (↑g_1 : Int).toNat = g_1 from Int.toNat_natCast g_1]
      refine ⟨(by omega), (by omega), (by omega), (by omega), (by omega), (by omega), (by omega), (by omega), (by omega), (by omega), (by omega), (congrArg (fun r => nth r 0) (row_at encI hlt)), (congrArg (fun r => nth r 1) (row_at encMs (by omega))), (congrArg (fun r => nth r 0) (row_at encI hlt)), (congrArg (fun r => AV.agg (List.take 16 (List.drop 3 r))) (row_at encMs (by omega))), (by unfold In64; omega), ⟨g_1 + 1, by omega, by omega, ?_⟩⟩
      · rw [put_wi (by omega)]
        rfl
    · have hge : g_1 = g.length := by have h9 := of_decide_eq_false hd; have h8 := hg; (try simp only [List.length_map] at h8 h9); omega
      subst hge
      first | rfl | trivial
  exact c_of Tryz.f35 ({ (mkB spW 35 [(5, 6, rdL 1 encI g 1 false), (5, 14, rdL 1 encI g 1 false), (5, 9, rdL 19 encMs l 1 false), (5, 17, rdL 19 encMs l 16 true)] (la0 (la35 h l g))) with bx := fun i => if i.beq 0 then [.frzc 3 2] else [], hs := hs35 h }) (by kernel_rfl) (by kernel_rfl) (by kernel_rfl) (by kernel_rfl) key (by kernel_rfl)
end Go.Proofs.YtfoeefaamjknpaaGreatDoor
namespace Go.Proofs.YtfoeefaamjknpaaGreatDoor
open Go Go.Av Go.RowKit
def la114a (n : Int) (l : List Int) : LA := {
  pre := [.keep [0, 1, 5] [], .bound 1], post := [.keep [0, 1, 5] [], .bound 1]
  Gh := Nat
  st := fun i => ⟨[(0, .sl 1 (l.map encI)), (1, .i n), (5, .i i)], [], 1⟩
  ok := fun i => i ≤ l.length ∧ ∀ j, j < i → badI n (l.getD j default) = false
  ms := fun i => l.length - i }
def la114b (l : List Int) : LA := {
  pre := [.keep [0, 6] [], .bound 1], post := [.keep [0, 6] [], .bound 1]
  Gh := Nat
  st := fun i => ⟨[(0, .sl 1 (l.map encI)), (6, .i ((i : Nat) + 1 : Int))], [], 1⟩
  ok := fun i => i ≤ l.length ∧ ∀ j, j < i + 1 → ordI l j = false
  ms := fun i => l.length - i }
theorem c114 (n : Int) (l : List Int) (hl : l.length ≤ 1000) : PCall Tryz.prog G0 114 [.sl 1 (l.map encI), .i n] (.i (fIx l n)) := by
  have key :
   (∃ (g : Nat), (g ≤ l.length ∧ ∀ (j : Nat), j < g → badI n (l.getD j default) = false) ∧ AS.mk [(0, AV.sl 1 (List.map encI l)), (1, AV.i n), (5, AV.i 0)] [] 1 = AS.mk [(0, AV.sl 1 (List.map encI l)), (1, AV.i n), (5, AV.i (↑g :
   Int))] [] 1) ∧ ∀ (g : Nat), (g ≤ l.length ∧ ∀ (j : Nat), j < g → badI n (l.getD j default) = false) → (decide ((↑g : Int) < (↑(List.map encI l).length : Int)) = true → (0 : Int) ≤ (↑g : Int) ∧ (↑g : Int) < (↑(List.map encI
   l).length : Int) ∧ ((!decide (l.getD (↑g : Int).toNat default < 0)) = true → (!decide (l.getD (↑g : Int).toNat default < 0)) = true) ∧ ((!decide (l.getD (↑g : Int).toNat default < 0)) = true → (!decide (l.getD (↑g : Int).toNat
   default < 0)) = true) ∧ ((!decide (l.getD (↑g : Int).toNat default < 0)) = true → (0 : Int) ≤ (↑g : Int)) ∧ ((!decide (l.getD (↑g : Int).toNat default < 0)) = true → (↑g : Int) < (↑(List.map encI l).length : Int)) ∧ ((!decide
   (l.getD (↑g : Int).toNat default < 0)) = true → (!decide (l.getD (↑g : Int).toNat default < 0)) = true) ∧ ((!decide (l.getD (↑g : Int).toNat default < 0)) = true → (!decide (l.getD (↑g : Int).toNat default < 0)) = true) ∧ ((!decide
   (l.getD (↑g : Int).toNat default < 0)) = true → (!decide (l.getD (↑g : Int).toNat default < 0)) = true) ∧ (decide (l.getD (↑g : Int).toNat default < 0) = false → (!decide (l.getD (↑g : Int).toNat default < 0)) = true) ∧ nth (nthR
   (List.map encI l) (↑g : Int).toNat) 0 = AV.i (l.getD (↑g : Int).toNat default) ∧ impB (!decide (l.getD (↑g : Int).toNat default < 0)) (nth (nthR (List.map encI l) (↑g : Int).toNat) 0 = AV.i (l.getD (↑g : Int).toNat default)) ∧ ((if
   decide (l.getD (↑g : Int).toNat default < 0) = true then true else decide (l.getD (↑g : Int).toNat default ≥ n)) = true → AV.i 10 = AV.i (fIx l n)) ∧ ((if decide (l.getD (↑g : Int).toNat default < 0) = true then true else decide
   (l.getD (↑g : Int).toNat default ≥ n)) = false → In64 ((↑g : Int) + 1) ∧ ∃ (g' : Nat), (g' ≤ l.length ∧ ∀ (j : Nat), j < g' → badI n (l.getD j default) = false) ∧ l.length - g' < l.length - g ∧ AS.mk [(0, AV.sl 1 (List.map encI
   l)), (1, AV.i n), (5, AV.i ((↑g : Int) + 1))] [] 1 = AS.mk [(0, AV.sl 1 (List.map encI l)), (1, AV.i n), (5, AV.i (↑g' : Int))] [] 1)) ∧ (decide ((↑g : Int) < (↑(List.map encI l).length : Int)) = false → (∃ (g : Nat), (g ≤ l.length
   ∧ ∀ (j : Nat), j < g + 1 → ordI l j = false) ∧ AS.mk [(0, AV.sl 1 (List.map encI l)), (6, AV.i 1)] [] 1 = AS.mk [(0, AV.sl 1 (List.map encI l)), (6, AV.i ((↑g : Int) + 1))] [] 1) ∧ ∀ (g : Nat), (g ≤ l.length ∧ ∀ (j : Nat), j < g +
   1 → ordI l j = false) → (decide ((↑g : Int) + 1 < (↑(List.map encI l).length : Int)) = true → (0 : Int) ≤ (↑g : Int) + 1 ∧ (↑g : Int) + 1 < (↑(List.map encI l).length : Int) ∧ In64 ((↑g : Int) + 1 - 1) ∧ (0 : Int) ≤ (↑g : Int) + 1
   - 1 ∧ (↑g : Int) + 1 - 1 < (↑(List.map encI l).length : Int) ∧ nth (nthR (List.map encI l) ((↑g : Int) + 1).toNat) 0 = AV.i (l.getD ((↑g : Int) + 1).toNat default) ∧ nth (nthR (List.map encI l) ((↑g : Int) + 1 - 1).toNat) 0 = AV.i
   (l.getD ((↑g : Int) + 1 - 1).toNat default) ∧ (decide (l.getD ((↑g : Int) + 1).toNat default ≤ l.getD ((↑g : Int) + 1 - 1).toNat default) = true → AV.i 11 = AV.i (fIx l n)) ∧ (decide (l.getD ((↑g : Int) + 1).toNat default ≤ l.getD
   ((↑g : Int) + 1 - 1).toNat default) = false → In64 ((↑g : Int) + 1 + 1) ∧ ∃ (g' : Nat), (g' ≤ l.length ∧ ∀ (j : Nat), j < g' + 1 → ordI l j = false) ∧ l.length - g' < l.length - g ∧ AS.mk [(0, AV.sl 1 (List.map encI l)), (6, AV.i
   ((↑g : Int) + 1 + 1))] [] 1 = AS.mk [(0, AV.sl 1 (List.map encI l)), (6, AV.i ((↑g' : Int) + 1))] [] 1)) ∧ (decide ((↑g : Int) + 1 < (↑(List.map encI l).length : Int)) = false → AV.i 0 = AV.i (fIx l n))) := by
    have hlm : (List.map encI l).length = l.length := List.length_map _
    have : (List.map encI l).length = l.length := by simp only [List.length_map]
    refine ⟨⟨0, ⟨by omega, by intros; omega⟩, rfl⟩, fun g ⟨hg, ha⟩ => ⟨fun hd => ?_, fun hd => ?_⟩⟩
    · have hlt : g < l.length := by have h9 := of_decide_eq_true hd; have h8 := hg; (try simp only [List.length_map] at h8 h9); omega
      try rw [show (↑g : Int).toNat = g from Int.toNat_natCast g]
      refine ⟨(by omega), (by omega), fun h => h, fun h => h, fun _ => by omega, fun _ => by omega, fun h => h, fun h => h, fun h => h, fun h => by first | exact h | (rw [h]; rfl) | simp_all, (congrArg (fun r => nth r 0) (row_at encI (by omega))), impB_iff.2 fun hb => (congrArg (fun r => nth r 0) (row_at encI (by omega))), fun h1 => ?_, fun h1 => ⟨(by unfold In64; omega), ⟨g + 1, ⟨by omega, all_ext ha h1⟩, by omega, rfl⟩⟩⟩
      · rw [fIx, if_pos (decide_eq_true (fi_ex (p := fun j => badI n (l.getD j default)) (j := g) hlt h1))]
    · have hge : g = l.length := by have h9 := of_decide_eq_false hd; have h8 := hg; (try simp only [List.length_map] at h8 h9); omega
      subst hge
      have hng : ¬ (fiN (fun j => badI n (l.getD j default)) l.length < l.length) := by
        rw [fi_none (p := fun j => badI n (l.getD j default)) ha]
        omega
      rw [hlm]
      refine ⟨⟨0, ⟨by omega, fun j hj => ?_⟩, rfl⟩, fun g ⟨hg, ha⟩ => ⟨fun hd => ?_, fun hd => ?_⟩⟩
      · have e : j = 0 := by omega
        rw [e]; rfl
      · have hlt := of_decide_eq_true hd
        rw [show ((g : Int) + 1).toNat = g + 1 by omega, show ((g : Int) + 1 - 1).toNat = g by omega]
        have hor : ordI l (g + 1) = decide (l.getD (g + 1) default ≤ l.getD g default) := by unfold ordI; rw [if_neg (by omega), Nat.add_sub_cancel]
        refine ⟨by omega, by omega, by unfold In64; omega, by omega, by omega, congrArg (fun r => nth r 0) (row_at encI (by omega)), congrArg (fun r => nth r 0) (row_at encI (by omega)), fun h2 => ?_, fun h2 => ⟨by unfold In64; omega, g + 1, ⟨by omega, fun j hj => ?_⟩, by omega, rfl⟩⟩
        · rw [fIx, if_neg (by rw [decide_eq_true_eq]; exact hng), if_pos (decide_eq_true (fi_ex (p := ordI l) (j := g + 1) (by omega) (hor.trans h2)))]
        · by_cases e : j = g + 1
          · rw [e, hor]; exact h2
          · exact ha j (by omega)
      · have hge := of_decide_eq_false hd
        rw [fIx, if_neg (by rw [decide_eq_true_eq]; exact hng), if_neg (by
          rw [decide_eq_true_eq]
          intro h
          have h2 := fi_hit h
          have h3 := ha _ (show fiN (ordI l) l.length < g + 1 by omega)
          rw [h3] at h2
          cases h2)]
  exact c_of Tryz.f114 (mkB spC 114 [(4, 3, rdL 1 encI l 1 false), (4, 9, rdL 1 encI l 1 false), (9, 3, rdL 1 encI l 1 false), (9, 8, rdL 1 encI l 1 false)] (la2 (la114a n l) (la114b l))) (by kernel_rfl) (by kernel_rfl) (by kernel_rfl) (by kernel_rfl) key (by kernel_rfl)
theorem beqI_comm (a b : Int) : (a == b) = (b == a) := by
  rw [Bool.eq_iff_iff, beq_iff_eq, beq_iff_eq]
  exact eq_comm
theorem c23 (g : List Int) (hg0 : g.length ≤ 1000) : PCall Tryz.prog G0 23 [.sl 1 (g.map encI)] (.sl 1 (g.map encI)) := by
  have key :
   0 + (List.map encI g).length ≤ 9223372036854775807 ∧ (0 + (List.map encI g).length) * 8 ≤ 140737488355328 ∧ AV.sl 1 ([] ++ List.map encI g) = AV.sl 1 (List.map encI g) := by
    have : (List.map encI g).length = g.length := by simp only [List.length_map]
    refine ⟨(by omega), (by omega), ?_⟩
    · first | rfl | trivial
  exact c_of Tryz.f23 (fzB (mkB spC 23 [] noLa)) (by kernel_rfl) (by kernel_rfl) (by kernel_rfl) (by kernel_rfl) key (by kernel_rfl)
end Go.Proofs.YtfoeefaamjknpaaGreatDoor
namespace Go.Proofs.YtfoeefaamjknpaaGreatDoor
open Go Go.Av Go.RowKit
def mdH (g : List GS) (p : Prop) (l : List (Nat × AV)) : Option (List GS × AS × Prop) := some (g ++ [.keep (l.map (·.1)) [], .bound 1], ⟨l, [], 1⟩, p)
theorem c_ofH {f : Nat} {args : List AV} {r : AV} (fn : Func) (B : BA) (ms : List (Option (List GS × AS × Prop))) (hf : Tryz.prog.funcs[f]? = some fn) (hb : fn.body = some (bodyOf fn)) (hn : (fn.name == "runtime.NumGoroutine") = false) (hlen : Nat.ble args.length fn.ntmps = true)
    {q : Prop} (hq : q) (h : partsH (bodyE Tryz.prog T0 G0 fn.ntmps []) B (retQ T0 fn fun v => v = r) (flatSeq (bodyOf fn)) ms (startS args) = q) : PCall Tryz.prog G0 f args r :=
  call_of_partsH tok mix hf hb hn (Nat.le_of_ble_eq_true hlen) B ms (vc_of hq h)
end Go.Proofs.YtfoeefaamjknpaaGreatDoor
namespace Go.Proofs.YtfoeefaamjknpaaGreatDoor
open Go Go.Av Go.RowKit
def BET : List UInt8 := [98, 101, 116, 116, 101, 114]
def WOR : List UInt8 := [119, 111, 114, 115, 101]
def PLA : List UInt8 := [97, 115, 32, 112, 108, 97, 110, 110, 101, 100]
def vdS (lo hi : Int) (x : Iv) : List UInt8 := if decide (x.b < lo) = true then BET else if decide (x.a > hi) = true then WOR else PLA
def afL (h : Hm) (l : List Ms) (g : List Int) : Int := inL (aft h.ws l g) h.ws.length
def afU (h : Hm) (l : List Ms) (g : List Int) : Int := inH (aft h.ws l g) h.ws.length
theorem af_ok {h : Hm} {l : List Ms} {g : List Int} (hh : fMs h l = 0) (hg : fSet l g = 0) : WsOK (aft h.ws l g) ∧ (aft h.ws l g).length = h.ws.length ∧ h.ws.length ≤ 8 ∧ 1 ≤ h.ws.length := by
  obtain ⟨y1, y2, y3⟩ := ms_z hh
  obtain ⟨z1, z2, z3, z4, z5, z6⟩ := hm_z y1
  obtain ⟨x0, _⟩ := set_z hg
  obtain ⟨x1, _⟩ := ix_z x0
  have hal : (aft h.ws l g).length = h.ws.length := aft_len h.ws l g g.length
  exact ⟨fun i hi => aft_ok z6 y3 x1 g.length (Nat.le_refl _) i (by omega), hal, z3, z2⟩
def sp21 (h : Hm) (l : List Ms) (g : List Int) : Nat → List AV → Option AV
  | 102, _ => some (.i (ckE h l g))
  | 103, _ => some (.agg (encHm (afH h l g)))
  | 35, _ => some (.agg (encHm (afH h l g)))
  | 100, _ => some (.agg [.i (afL h l g), .i (afU h l g)])
  | 29, _ => some (.agg [.i (afL h l g), .i (afU h l g)])
  | n, x => spW n x
theorem ck_z {h : Hm} {l : List Ms} {g : List Int} (e : ckE h l g = 0) : fMs h l = 0 ∧ fSet l g = 0 := by
  unfold ckE at e
  split at e
  · rename_i h1
    exact absurd e (bne_t h1)
  · rename_i h1
    exact ⟨bne_f (by simpa using h1), e⟩
def afV (h : Hm) (l : List Ms) (g : List Int) : Hm := if (ckE h l g != 0) = true then ⟨[], 0, []⟩ else afH h l g
theorem c21 (h : Hm) (l : List Ms) (g : List Int) (hm : h.nm.length ≤ 1000000) (hw : h.ws.length ≤ 1000) (hl : l.length ≤ 1000) (hn : ∀ x, x ∈ l → x.nm.length ≤ 1000) (hg0 : g.length ≤ 1000) : PCall Tryz.prog G0 21 [.agg (encHm h), .sl 19 (l.map encMs), .sl 1 (g.map encI)] (.tup [.agg (encHm (afV h l g)), .i (ckE h l g)]) := by
  have key :
   PCall Tryz.prog G0 102 [AV.agg (encHm h), AV.sl 19 (List.map encMs l), AV.sl 1 (List.map encI g)] (AV.i (ckE h l g)) ∧ ((ckE h l g != 0) = true → AV.tup [AV.agg [AV.str [], AV.i 0, AV.sl 25 []], AV.i (ckE h l g)] = AV.tup [AV.agg
   (encHm (afV h l g)), AV.i (ckE h l g)]) ∧ ((ckE h l g != 0) = false → PCall Tryz.prog G0 103 [AV.agg (encHm h), AV.sl 19 (List.map encMs l), AV.sl 1 (List.map encI g)] (AV.agg [AV.str h.nm, AV.i h.pe, AV.sl 25 (List.map encWn (aft
   h.ws l g))]) ∧ AV.tup [AV.agg [AV.str h.nm, AV.i h.pe, AV.sl 25 (List.map encWn (aft h.ws l g))], AV.i 0] = AV.tup [AV.agg (encHm (afV h l g)), AV.i (ckE h l g)]) := by
    refine ⟨(c102 h l g hm hw hl hn hg0), fun h1 => ?_, fun h1 => ?_⟩
    · rw [show afV h l g = ⟨[], 0, []⟩ from if_pos h1]
      rfl
    · have hz : ckE h l g = 0 := bne_f h1
      obtain ⟨q1, q2⟩ := ck_z hz
      refine ⟨(c103 h l g q1 q2 hg0), ?_⟩
      · rw [show afV h l g = afH h l g from if_neg (by rw [hz]; decide), hz]
        rfl
  exact c_of Tryz.f21 (gsB (fun i => if i.beq 3 then [.nilb 2 2 25] else []) (fzB (mkB (sp21 h l g) 21 [] noLa))) (by kernel_rfl) (by kernel_rfl) (by kernel_rfl) (by kernel_rfl) key (by kernel_rfl)
def suE (h : Hm) (l : List Ms) (g : List Int) (t : Int) : Int := sFirst [ckE h l g, fEn t]
def suV (h : Hm) (l : List Ms) (g : List Int) (t : Int) : Bool := if (suE h l g t != 0) = true then false else decide (afU h l g ≤ t)
theorem c24 (h : Hm) (l : List Ms) (g : List Int) (t : Int) (hm : h.nm.length ≤ 1000000) (hw : h.ws.length ≤ 1000) (hl : l.length ≤ 1000) (hn : ∀ x, x ∈ l → x.nm.length ≤ 1000) (hg0 : g.length ≤ 1000) : PCall Tryz.prog G0 24 [.agg (encHm h), .sl 19 (l.map encMs), .sl 1 (g.map encI), .i t] (.tup [.bool (suV h l g t), .i (suE h l g t)]) := by
  have key :
   PCall Tryz.prog G0 102 [AV.agg (encHm h), AV.sl 19 (List.map encMs l), AV.sl 1 (List.map encI g)] (AV.i (ckE h l g)) ∧ PCall Tryz.prog G0 105 [AV.i t] (AV.i (sWithin t (0 : Int) (10000000000000 : Int))) ∧ PCall Tryz.prog G0 104
   [AV.sl 1 [[AV.i (ckE h l g)], [AV.i (sWithin t (0 : Int) (10000000000000 : Int))]]] (AV.i (sFirst [hdI [AV.i (ckE h l g)], hdI [AV.i (sWithin t (0 : Int) (10000000000000 : Int))]])) ∧ ((sFirst [hdI [AV.i (ckE h l g)], hdI [AV.i
   (sWithin t (0 : Int) (10000000000000 : Int))]] != 0) = true → AV.tup [AV.bool false, AV.i (sFirst [hdI [AV.i (ckE h l g)], hdI [AV.i (sWithin t (0 : Int) (10000000000000 : Int))]])] = AV.tup [AV.bool (suV h l g t), AV.i (suE h l g
   t)]) ∧ ((sFirst [hdI [AV.i (ckE h l g)], hdI [AV.i (sWithin t (0 : Int) (10000000000000 : Int))]] != 0) = false → PCall Tryz.prog G0 103 [AV.agg (encHm h), AV.sl 19 (List.map encMs l), AV.sl 1 (List.map encI g)] (AV.agg [AV.str
   h.nm, AV.i h.pe, AV.sl 25 (List.map encWn (aft h.ws l g))]) ∧ PCall Tryz.prog G0 100 [AV.agg [AV.str h.nm, AV.i h.pe, AV.sl 25 (List.map encWn (aft h.ws l g))]] (AV.agg [AV.i (afL h l g), AV.i (afU h l g)]) ∧ AV.tup [AV.bool
   (decide (afU h l g ≤ t)), AV.i 0] = AV.tup [AV.bool (suV h l g t), AV.i (suE h l g t)]) := by
    refine ⟨(c102 h l g hm hw hl hn hg0), (c105 _), (c104 [_, _] (by simp)), fun h1 => ?_, fun h1 => ?_⟩
    · rw [show suV h l g t = false from if_pos h1]
      rfl
    · have hz : suE h l g t = 0 := bne_f h1
      have hz2 := hz
      unfold suE at hz2
      rw [first_zero] at hz2
      obtain ⟨q1, q2⟩ := ck_z hz2.1
      obtain ⟨a1, a2, a3, a4⟩ := af_ok q1 q2
      refine ⟨(c103 h l g q1 q2 hg0), ((by have e := c100 (afH h l g) (show (aft h.ws l g).length ≤ 8 by omega) a1; rw [show (afH h l g).ws.length = h.ws.length from a2] at e; exact e)), ?_⟩
      · rw [show suV h l g t = decide (afU h l g ≤ t) from if_neg (by rw [hz]; decide), hz]
  exact c_of Tryz.f24 (fzB (mkB (sp21 h l g) 24 [] noLa)) (by kernel_rfl) (by kernel_rfl) (by kernel_rfl) (by kernel_rfl) key (by kernel_rfl)
def veE (h : Hm) (l : List Ms) (g : List Int) (x : Iv) : Int := sFirst [ckE h l g, fEnds x.a x.b 10000000000000]
def veV (h : Hm) (l : List Ms) (g : List Int) (x : Iv) : List UInt8 := if (veE h l g x != 0) = true then [] else vdS (afL h l g) (afU h l g) x
theorem c25 (h : Hm) (l : List Ms) (g : List Int) (x : Iv) (hm : h.nm.length ≤ 1000000) (hw : h.ws.length ≤ 1000) (hl : l.length ≤ 1000) (hn : ∀ x, x ∈ l → x.nm.length ≤ 1000) (hg0 : g.length ≤ 1000) : PCall Tryz.prog G0 25 [.agg (encHm h), .sl 19 (l.map encMs), .sl 1 (g.map encI), .agg (encIv x)] (.tup [.str (veV h l g x), .i (veE h l g x)]) := by
  have key :
   PCall Tryz.prog G0 102 [AV.agg (encHm h), AV.sl 19 (List.map encMs l), AV.sl 1 (List.map encI g)] (AV.i (ckE h l g)) ∧ PCall Tryz.prog G0 106 [AV.agg (encIv x), AV.i 10000000000000] (AV.i (fEnds x.a x.b (10000000000000 : Int))) ∧
   PCall Tryz.prog G0 104 [AV.sl 1 [[AV.i (ckE h l g)], [AV.i (fEnds x.a x.b (10000000000000 : Int))]]] (AV.i (sFirst [hdI [AV.i (ckE h l g)], hdI [AV.i (fEnds x.a x.b (10000000000000 : Int))]])) ∧ ((sFirst [hdI [AV.i (ckE h l g)],
   hdI [AV.i (fEnds x.a x.b (10000000000000 : Int))]] != 0) = true → AV.tup [AV.str [], AV.i (sFirst [hdI [AV.i (ckE h l g)], hdI [AV.i (fEnds x.a x.b (10000000000000 : Int))]])] = AV.tup [AV.str (veV h l g x), AV.i (veE h l g x)]) ∧
   ((sFirst [hdI [AV.i (ckE h l g)], hdI [AV.i (fEnds x.a x.b (10000000000000 : Int))]] != 0) = false → PCall Tryz.prog G0 103 [AV.agg (encHm h), AV.sl 19 (List.map encMs l), AV.sl 1 (List.map encI g)] (AV.agg [AV.str h.nm, AV.i h.pe,
   AV.sl 25 (List.map encWn (aft h.ws l g))]) ∧ PCall Tryz.prog G0 100 [AV.agg [AV.str h.nm, AV.i h.pe, AV.sl 25 (List.map encWn (aft h.ws l g))]] (AV.agg [AV.i (afL h l g), AV.i (afU h l g)]) ∧ (decide (x.b < afL h l g) = true → (0 :
   Int) ≤ 0 ∧ (0 : Int) < (↑3 : Int) ∧ AV.tup [AV.str [(98 : UInt8), (101 : UInt8), (116 : UInt8), (116 : UInt8), (101 : UInt8), (114 : UInt8)], AV.i 0] = AV.tup [AV.str (veV h l g x), AV.i (veE h l g x)]) ∧ (decide (x.b < afL h l g)
   = false → (decide (x.a > afU h l g) = true → (0 : Int) ≤ 1 ∧ (1 : Int) < (↑3 : Int) ∧ AV.tup [AV.str [(119 : UInt8), (111 : UInt8), (114 : UInt8), (115 : UInt8), (101 : UInt8)], AV.i 0] = AV.tup [AV.str (veV h l g x), AV.i (veE h l
   g x)]) ∧ (decide (x.a > afU h l g) = false → (0 : Int) ≤ 2 ∧ (2 : Int) < (↑3 : Int) ∧ AV.tup [AV.str [(97 : UInt8), (115 : UInt8), (32 : UInt8), (112 : UInt8), (108 : UInt8), (97 : UInt8), (110 : UInt8), (110 : UInt8), (101 :
   UInt8), (100 : UInt8)], AV.i 0] = AV.tup [AV.str (veV h l g x), AV.i (veE h l g x)]))) := by
    refine ⟨(c102 h l g hm hw hl hn hg0), (c106 _ _ _), (c104 [_, _] (by simp)), fun h1 => ?_, fun h1 => ?_⟩
    · rw [show veV h l g x = [] from if_pos h1]
      rfl
    · have hz : veE h l g x = 0 := bne_f h1
      have hz2 := hz
      unfold veE at hz2
      rw [first_zero] at hz2
      obtain ⟨q1, q2⟩ := ck_z hz2.1
      obtain ⟨a1, a2, a3, a4⟩ := af_ok q1 q2
      have hv : veV h l g x = vdS (afL h l g) (afU h l g) x := if_neg (by rw [hz]; decide)
      refine ⟨(c103 h l g q1 q2 hg0), ((by have e := c100 (afH h l g) (show (aft h.ws l g).length ≤ 8 by omega) a1; rw [show (afH h l g).ws.length = h.ws.length from a2] at e; exact e)), fun h2 => ⟨(by omega), (by omega), ?_⟩, fun h2 => ⟨fun h3 => ⟨(by omega), (by omega), ?_⟩, fun h3 => ⟨(by omega), (by omega), ?_⟩⟩⟩
      · rw [hv, hz, vdS, if_pos h2]
        rfl
      · rw [hv, hz, vdS, if_neg (by rw [h2]; decide), if_pos h3]
        rfl
      · rw [hv, hz, vdS, if_neg (by rw [h2]; decide), if_neg (by rw [h3]; decide)]
        rfl
  exact c_of Tryz.f25 (fzB (mkB (sp21 h l g) 25 [] noLa)) (by kernel_rfl) (by kernel_rfl) (by kernel_rfl) (by kernel_rfl) key (by kernel_rfl)
def lnM (l : List Ms) (j : Nat) : Bool := decide (((l.getD j default).nm.length : Int) > 40)
def shM (l : List Ms) : Bool := if decide (fiN (lnM l) l.length < l.length) = true then false else if decide ((l.length : Int) ≤ 6) = true then true else (l.length : Int) == 9
def la15 (l : List Ms) : LA := {
  pre := [.keep [0, 3] [], .bound 1], post := [.keep [0, 3] [], .bound 1]
  Gh := Nat
  st := fun i => ⟨[(0, .sl 19 (l.map encMs)), (3, .i i)], [], 1⟩
  ok := fun i => i ≤ l.length ∧ ∀ j, j < i → lnM l j = false
  ms := fun i => l.length - i }
theorem c15 (l : List Ms) (hl : l.length ≤ maxLen) : PCall Tryz.prog G0 15 [.sl 19 (l.map encMs)] (.bool (shM l)) := by
  have key :
   (∃ (g : Nat), (g ≤ l.length ∧ ∀ (j : Nat), j < g → lnM l j = false) ∧ AS.mk [(0, AV.sl 19 (List.map encMs l)), (3, AV.i 0)] [] 1 = AS.mk [(0, AV.sl 19 (List.map encMs l)), (3, AV.i (↑g : Int))] [] 1) ∧ ∀ (g : Nat), (g ≤ l.length ∧
   ∀ (j : Nat), j < g → lnM l j = false) → (decide ((↑g : Int) < (↑(List.map encMs l).length : Int)) = true → (0 : Int) ≤ (↑g : Int) ∧ (↑g : Int) < (↑(List.map encMs l).length : Int) ∧ nth (nthR (List.map encMs l) (↑g : Int).toNat) 0
   = AV.str (l.getD (↑g : Int).toNat default).nm ∧ (decide ((↑(l.getD (↑g : Int).toNat default).nm.length : Int) > 40) = true → AV.bool false = AV.bool (shM l)) ∧ (decide ((↑(l.getD (↑g : Int).toNat default).nm.length : Int) > 40) =
   false → In64 ((↑g : Int) + 1) ∧ ∃ (g' : Nat), (g' ≤ l.length ∧ ∀ (j : Nat), j < g' → lnM l j = false) ∧ l.length - g' < l.length - g ∧ AS.mk [(0, AV.sl 19 (List.map encMs l)), (3, AV.i ((↑g : Int) + 1))] [] 1 = AS.mk [(0, AV.sl 19
   (List.map encMs l)), (3, AV.i (↑g' : Int))] [] 1)) ∧ (decide ((↑g : Int) < (↑(List.map encMs l).length : Int)) = false → ((!decide ((↑(List.map encMs l).length : Int) ≤ 6)) = true → (!decide ((↑(List.map encMs l).length : Int) ≤
   6)) = true) ∧ ((!decide ((↑(List.map encMs l).length : Int) ≤ 6)) = true → (!decide ((↑(List.map encMs l).length : Int) ≤ 6)) = true) ∧ (decide ((↑(List.map encMs l).length : Int) ≤ 6) = false → (!decide ((↑(List.map encMs
   l).length : Int) ≤ 6)) = true) ∧ AV.bool (if decide ((↑(List.map encMs l).length : Int) ≤ 6) = true then true else (↑(List.map encMs l).length : Int) == 9) = AV.bool (shM l)) := by
    have hlm : (List.map encMs l).length = l.length := List.length_map _
    have hmx : maxLen = 9223372036854775807 := rfl
    have : (List.map encMs l).length = l.length := by simp only [List.length_map]
    refine ⟨⟨0, ⟨by omega, by intros; omega⟩, rfl⟩, fun g ⟨hg, ha⟩ => ⟨fun hd => ?_, fun hd => ?_⟩⟩
    · have hlt : g < l.length := by have h9 := of_decide_eq_true hd; have h8 := hg; (try simp only [List.length_map] at h8 h9); omega
      try rw [show (↑g : Int).toNat = g from Int.toNat_natCast g]
      refine ⟨(by omega), (by omega), congrArg (fun r => nth r 0) (row_at encMs hlt), fun h1 => ?_, fun h1 => ⟨(by unfold In64; omega), ⟨g + 1, ⟨by omega, all_ext ha h1⟩, by omega, rfl⟩⟩⟩
      · rw [shM, if_pos (decide_eq_true (fi_ex (p := lnM l) hlt h1))]
    · have hge : g = l.length := by have h9 := of_decide_eq_false hd; have h8 := hg; (try simp only [List.length_map] at h8 h9); omega
      subst hge
      refine ⟨fun h => h, fun h => h, fun h => by first | exact h | (rw [h]; rfl) | simp_all, ?_⟩
      · have e : shM l = if decide ((l.length : Int) ≤ 6) = true then true else (l.length : Int) == 9 := if_neg (by rw [fi_none ha]; simp)
        rw [hlm, e]
  exact c_of Tryz.f15 (fzB (mkB spW 15 [(4, 4, rdL 19 encMs l 1 false)] (la0 (la15 l)))) (by kernel_rfl) (by kernel_rfl) (by kernel_rfl) (by kernel_rfl) key (by kernel_rfl)
def la27 (h : Hm) (l : List Ms) : LA := {
  pre := [.own 6 9 1, .reno 6 1, .keep [1, 2, 6, 7] [1], .bound 2], post := [.reno 6 1, .keep [1, 2, 6, 7] [1], .bound 2]
  Gh := Nat
  st := fun i => ⟨[(1, .sl 19 (l.map encMs)), (2, .elt 3 [encHm h] 0 0), (6, .own 1 (((l.take i).map Ms.nm).map encS).length), (7, .i i)], [(1, .buf 9 1 (((l.take i).map Ms.nm).map encS))], 2⟩
  ok := fun i => i ≤ l.length ∧ ∀ j, j < i → fM1 h.ws.length l j = 0
  ms := fun i => l.length - i }
def sp27 (h : Hm) : Nat → List AV → Option AV
  | 111, [.sl _ rows, .str s] => some (.bool (hwR rows s))
  | n, x => sp39 h n x
theorem fM1_r (h : Hm) (l : List Ms) (i : Nat) : fM1 h.ws.length l i = sFirst [sWhen (!sName (l.getD i default).nm) 8, sWhen (hwR (((l.take i).map Ms.nm).map encS) (l.getD i default).nm) 9, sWhen (if decide ((l.getD i default).w < 0) = true then true else decide ((l.getD i default).w ≥ ((List.map encWn h.ws).length : Int))) 10, sWithin (l.getD i default).c 0 1000000, fPaC (encPm (l.getD i default))] := by
  rw [fM1_m, hwR, dS_e]
theorem c27 (h : Hm) (l : List Ms) (hm : h.nm.length ≤ 1000000) (hw : h.ws.length ≤ 1000) (hl : l.length ≤ 1000) (hn : ∀ x, x ∈ l → x.nm.length ≤ 1000) : PCall Tryz.prog G0 27 [.agg (encHm h), .sl 19 (l.map encMs)] (.i (fMs h l)) := by
  have key :
   PCall Tryz.prog G0 26 [AV.agg (encHm h)] (AV.i (fHm h)) ∧ PCall Tryz.prog G0 109 [AV.bool (decide ((↑(List.map encMs l).length : Int) > 8)), AV.i 5] (AV.i (sWhen (decide ((↑(List.map encMs l).length : Int) > 8)) (5 : Int))) ∧ PCall
   Tryz.prog G0 107 [AV.sl 1 [[AV.i (fHm h)], [AV.i (sWhen (decide ((↑(List.map encMs l).length : Int) > 8)) (5 : Int))]]] (AV.i (sFirst [hdI [AV.i (fHm h)], hdI [AV.i (sWhen (decide ((↑(List.map encMs l).length : Int) > 8)) (5 :
   Int))]])) ∧ ((sFirst [hdI [AV.i (fHm h)], hdI [AV.i (sWhen (decide ((↑(List.map encMs l).length : Int) > 8)) (5 : Int))]] != 0) = true → AV.i (sFirst [hdI [AV.i (fHm h)], hdI [AV.i (sWhen (decide ((↑(List.map encMs l).length : Int)
   > 8)) (5 : Int))]]) = AV.i (fMs h l)) ∧ ((sFirst [hdI [AV.i (fHm h)], hdI [AV.i (sWhen (decide ((↑(List.map encMs l).length : Int) > 8)) (5 : Int))]] != 0) = false → (∃ (g : Nat), (g ≤ l.length ∧ ∀ (j : Nat), j < g → fM1
   h.ws.length l j = (0 : Int)) ∧ AS.mk [(1, AV.sl 19 (List.map encMs l)), (2, AV.elt 3 [(encHm h)] 0 0), (6, AV.own 1 0), (7, AV.i 0)] [(1, ABlk.buf 9 1 [])] 2 = AS.mk [(1, AV.sl 19 (List.map encMs l)), (2, AV.elt 3 [(encHm h)] 0 0),
   (6, AV.own 1 (List.map encS (List.map Ms.nm (List.take g l))).length), (7, AV.i (↑g : Int))] [(1, ABlk.buf 9 1 (List.map encS (List.map Ms.nm (List.take g l))))] 2) ∧ ∀ (g : Nat), (g ≤ l.length ∧ ∀ (j : Nat), j < g → fM1
   h.ws.length l j = (0 : Int)) → (decide ((↑g : Int) < (↑(List.map encMs l).length : Int)) = true → (0 : Int) ≤ (↑g : Int) ∧ (↑g : Int) < (↑(List.map encMs l).length : Int) ∧ AV.agg (nthR (List.map encMs l) (↑g : Int).toNat) = AV.agg
   (encMs (l.getD (↑g : Int).toNat default)) ∧ ((!decide ((l.getD (↑g : Int).toNat default).w < 0)) = true → (!decide ((l.getD (↑g : Int).toNat default).w < 0)) = true) ∧ ((!decide ((l.getD (↑g : Int).toNat default).w < 0)) = true →
   (!decide ((l.getD (↑g : Int).toNat default).w < 0)) = true) ∧ ((!decide ((l.getD (↑g : Int).toNat default).w < 0)) = true → (!decide ((l.getD (↑g : Int).toNat default).w < 0)) = true) ∧ ((!decide ((l.getD (↑g : Int).toNat
   default).w < 0)) = true → (!decide ((l.getD (↑g : Int).toNat default).w < 0)) = true) ∧ ((!decide ((l.getD (↑g : Int).toNat default).w < 0)) = true → (!decide ((l.getD (↑g : Int).toNat default).w < 0)) = true) ∧ (decide ((l.getD
   (↑g : Int).toNat default).w < 0) = false → (!decide ((l.getD (↑g : Int).toNat default).w < 0)) = true) ∧ PCall Tryz.prog G0 108 [AV.str (l.getD (↑g : Int).toNat default).nm] (AV.i (sWhen (!sName (l.getD (↑g : Int).toNat
   default).nm) (8 : Int))) ∧ PCall Tryz.prog G0 111 [AV.sl 1 (List.map encS (List.map Ms.nm (List.take g l))), AV.str (l.getD (↑g : Int).toNat default).nm] (AV.bool (hwR (List.map encS (List.map Ms.nm (List.take g l))) (l.getD (↑g :
   Int).toNat default).nm)) ∧ PCall Tryz.prog G0 109 [AV.bool (hwR (List.map encS (List.map Ms.nm (List.take g l))) (l.getD (↑g : Int).toNat default).nm), AV.i 9] (AV.i (sWhen (hwR (List.map encS (List.map Ms.nm (List.take g l)))
   (l.getD (↑g : Int).toNat default).nm) (9 : Int))) ∧ PCall Tryz.prog G0 109 [AV.bool (if decide ((l.getD (↑g : Int).toNat default).w < 0) = true then true else decide ((l.getD (↑g : Int).toNat default).w ≥ (↑(List.map encWn
   h.ws).length : Int))), AV.i 10] (AV.i (sWhen (if decide ((l.getD (↑g : Int).toNat default).w < 0) = true then true else decide ((l.getD (↑g : Int).toNat default).w ≥ (↑(List.map encWn h.ws).length : Int))) (10 : Int))) ∧ PCall
   Tryz.prog G0 81 [AV.i (l.getD (↑g : Int).toNat default).c, AV.i 0, AV.i 1000000] (AV.i (sWithin (l.getD (↑g : Int).toNat default).c (0 : Int) (1000000 : Int))) ∧ PCall Tryz.prog G0 112 [AV.agg (encPm (l.getD (↑g : Int).toNat
   default))] (AV.i (fPaC (encPm (l.getD (↑g : Int).toNat default)))) ∧ PCall Tryz.prog G0 107 [AV.sl 1 [[AV.i (sWhen (!sName (l.getD (↑g : Int).toNat default).nm) (8 : Int))], [AV.i (sWhen (hwR (List.map encS (List.map Ms.nm
   (List.take g l))) (l.getD (↑g : Int).toNat default).nm) (9 : Int))], [AV.i (sWhen (if decide ((l.getD (↑g : Int).toNat default).w < 0) = true then true else decide ((l.getD (↑g : Int).toNat default).w ≥ (↑(List.map encWn
   h.ws).length : Int))) (10 : Int))], [AV.i (sWithin (l.getD (↑g : Int).toNat default).c (0 : Int) (1000000 : Int))], [AV.i (fPaC (encPm (l.getD (↑g : Int).toNat default)))]]] (AV.i (sFirst [hdI [AV.i (sWhen (!sName (l.getD (↑g :
   Int).toNat default).nm) (8 : Int))], hdI [AV.i (sWhen (hwR (List.map encS (List.map Ms.nm (List.take g l))) (l.getD (↑g : Int).toNat default).nm) (9 : Int))], hdI [AV.i (sWhen (if decide ((l.getD (↑g : Int).toNat default).w < 0) =
   true then true else decide ((l.getD (↑g : Int).toNat default).w ≥ (↑(List.map encWn h.ws).length : Int))) (10 : Int))], hdI [AV.i (sWithin (l.getD (↑g : Int).toNat default).c (0 : Int) (1000000 : Int))], hdI [AV.i (fPaC (encPm
   (l.getD (↑g : Int).toNat default)))]])) ∧ ((sFirst [hdI [AV.i (sWhen (!sName (l.getD (↑g : Int).toNat default).nm) (8 : Int))], hdI [AV.i (sWhen (hwR (List.map encS (List.map Ms.nm (List.take g l))) (l.getD (↑g : Int).toNat
   default).nm) (9 : Int))], hdI [AV.i (sWhen (if decide ((l.getD (↑g : Int).toNat default).w < 0) = true then true else decide ((l.getD (↑g : Int).toNat default).w ≥ (↑(List.map encWn h.ws).length : Int))) (10 : Int))], hdI [AV.i
   (sWithin (l.getD (↑g : Int).toNat default).c (0 : Int) (1000000 : Int))], hdI [AV.i (fPaC (encPm (l.getD (↑g : Int).toNat default)))]] != 0) = true → AV.i (sFirst [hdI [AV.i (sWhen (!sName (l.getD (↑g : Int).toNat default).nm) (8 :
   Int))], hdI [AV.i (sWhen (hwR (List.map encS (List.map Ms.nm (List.take g l))) (l.getD (↑g : Int).toNat default).nm) (9 : Int))], hdI [AV.i (sWhen (if decide ((l.getD (↑g : Int).toNat default).w < 0) = true then true else decide
   ((l.getD (↑g : Int).toNat default).w ≥ (↑(List.map encWn h.ws).length : Int))) (10 : Int))], hdI [AV.i (sWithin (l.getD (↑g : Int).toNat default).c (0 : Int) (1000000 : Int))], hdI [AV.i (fPaC (encPm (l.getD (↑g : Int).toNat
   default)))]]) = AV.i (fMs h l)) ∧ ((sFirst [hdI [AV.i (sWhen (!sName (l.getD (↑g : Int).toNat default).nm) (8 : Int))], hdI [AV.i (sWhen (hwR (List.map encS (List.map Ms.nm (List.take g l))) (l.getD (↑g : Int).toNat default).nm) (9
   : Int))], hdI [AV.i (sWhen (if decide ((l.getD (↑g : Int).toNat default).w < 0) = true then true else decide ((l.getD (↑g : Int).toNat default).w ≥ (↑(List.map encWn h.ws).length : Int))) (10 : Int))], hdI [AV.i (sWithin (l.getD
   (↑g : Int).toNat default).c (0 : Int) (1000000 : Int))], hdI [AV.i (fPaC (encPm (l.getD (↑g : Int).toNat default)))]] != 0) = false → (List.map encS (List.map Ms.nm (List.take g l))).length + 1 ≤ 9223372036854775807 ∧ ((List.map
   encS (List.map Ms.nm (List.take g l))).length + 1) * 16 ≤ 140737488355328 ∧ In64 ((↑g : Int) + 1) ∧ ∃ (g' : Nat), (g' ≤ l.length ∧ ∀ (j : Nat), j < g' → fM1 h.ws.length l j = (0 : Int)) ∧ l.length - g' < l.length - g ∧ AS.mk [(1,
   AV.sl 19 (List.map encMs l)), (2, AV.elt 3 [(encHm h)] 0 0), (6, AV.own 1 ((List.map encS (List.map Ms.nm (List.take g l))).length + 1)), (7, AV.i ((↑g : Int) + 1))] [(1, ABlk.buf 9 1 (List.map encS (List.map Ms.nm (List.take g l))
   ++ [[AV.str (l.getD (↑g : Int).toNat default).nm]]))] 2 = AS.mk [(1, AV.sl 19 (List.map encMs l)), (2, AV.elt 3 [(encHm h)] 0 0), (6, AV.own 1 (List.map encS (List.map Ms.nm (List.take g' l))).length), (7, AV.i (↑g' : Int))] [(1,
   ABlk.buf 9 1 (List.map encS (List.map Ms.nm (List.take g' l))))] 2)) ∧ (decide ((↑g : Int) < (↑(List.map encMs l).length : Int)) = false → AV.i 0 = AV.i (fMs h l))) := by
    have hlm : (List.map encMs l).length = l.length := List.length_map _
    have : (List.map encMs l).length = l.length := by simp only [List.length_map]
    have : (List.map encWn h.ws).length = h.ws.length := by simp only [List.length_map]
    refine ⟨(c26 h hm hw), (c109 _ _), (c107 [_, _] (by simp)), fun h1 => ?_, fun h1 => ?_⟩
    · have e : fMs h l = fMh h l := ls_first (by rw [fMh_m]; exact h1)
      rw [e, fMh_m]
      rfl
    · have hz : (fMh h l != 0) = false := by rw [fMh_m]; exact h1
      refine ⟨⟨0, ⟨by omega, by intros; omega⟩, rfl⟩, fun g ⟨hg, ha⟩ => ⟨fun hd => ?_, fun hd => ?_⟩⟩
      · have hlt : g < l.length := by have h9 := of_decide_eq_true hd; have h8 := hg; (try simp only [List.length_map] at h8 h9); omega
        have : (List.map encS (List.map Ms.nm (List.take g l))).length = g := by simp only [List.length_map, List.length_take]; omega
        have hfe := fM1_r h l g
        have hpl : (List.map encS (List.map Ms.nm (List.take g l))).length = g := by rw [List.length_map, List.length_map, List.length_take]; omega
        try rw [show (↑g : Int).toNat = g from Int.toNat_natCast g]
        refine ⟨(by omega), (by omega), congrArg AV.agg (row_at encMs hlt), fun h => h, fun h => h, fun h => h, fun h => h, fun h => h, fun h => by first | exact h | (rw [h]; rfl) | simp_all, (c108 _ (by have := hn _ (getD_mem hlt); omega)), (c111h _ _ (by rw [List.length_map, List.length_take]; omega)), (c109 _ _), (c109 _ _), (c81 _ _ _), ((by rw [fPaC_m]; exact c112 (l.getD g default).lo (l.getD g default).hi)), (c107 [_, _, _, _, _] (by simp)), fun h2 => ?_, fun h2 => ?_⟩
        · have h3 : (fM1 h.ws.length l g != 0) = true := by rw [hfe]; exact h2
          have e := ls_hit (fin := 0) (f := fM1 h.ws.length l) hz (decide_eq_true (show (g : Int) < l.length by omega)) ha h3
          rw [show fMs h l = fM1 h.ws.length l g from e, hfe]
          rfl
        · have hgz : fM1 h.ws.length l g = 0 := hfe.trans (bne_f h2)
          refine ⟨(by omega), (by omega), (by unfold In64; omega), ⟨g + 1, ⟨by omega, all_ext ha hgz⟩, by omega, ?_⟩⟩
          · rw [take_nm Ms.nm hlt, List.map_append, List.length_append]
            rfl
      · have hge : g = l.length := by have h9 := of_decide_eq_false hd; have h8 := hg; (try simp only [List.length_map] at h8 h9); omega
        subst hge
        exact congrArg AV.i (ls_end (f := fM1 h.ws.length l) hz (decide_eq_false (Int.lt_irrefl _)) (Nat.le_refl _) ha).symm
  exact c_of Tryz.f27 (fzB (mkB (sp27 h) 27 [(8, 3, rdL 19 encMs l 19 true)] (la0 (la27 h l)))) (by kernel_rfl) (by kernel_rfl) (by kernel_rfl) (by kernel_rfl) key (by kernel_rfl)
theorem cfI_d {l : List Ms} {g : List Int} {i : Nat} (hi : i ≤ g.length) : cfI l g i = decide (fiN (fun j => (msI l (g.getD j default)).w == (msI l (g.getD i default)).w) i < i) :=
  any_take (q := fun k => (msI l k).w == (msI l (g.getD i default)).w) hi
def la31 (l : List Ms) (g : List Int) (b : Nat) : Option LA :=
  if b.beq 0 then
    some { pre := [.keep [0, 1, 6] [], .bound 1], post := [.keep [0, 1, 6] [], .bound 1]
           Gh := Nat
           st := fun i => ⟨[(0, .sl 19 (l.map encMs)), (1, .sl 1 (g.map encI)), (6, .i i)], [], 1⟩
           ok := fun i => i ≤ g.length ∧ ∀ j, j < i → cfI l g j = false
           ms := fun i => g.length - i }
  else
    some { pre := [.keep [0, 1, 6, 7] [], .bound 1], post := [.keep [0, 1, 6, 7] [], .bound 1]
           Gh := Nat × Nat
           st := fun q => ⟨[(0, .sl 19 (l.map encMs)), (1, .sl 1 (g.map encI)), (6, .i q.1), (7, .i q.2)], [], 1⟩
           ok := fun q => q.1 < g.length ∧ q.2 ≤ q.1 ∧ ∀ j, j < q.2 → ((msI l (g.getD q.1 default)).w == (msI l (g.getD j default)).w) = false
           rel := some fun q0 q => q.1 = q0.1
           ms := fun q => q.1 - q.2 }
theorem c31 (l : List Ms) (g : List Int) (hg0 : g.length ≤ 1000) : PCall Tryz.prog G0 31 [.sl 19 (l.map encMs), .sl 1 (g.map encI)] (.i (fSet l g)) := by
  have key :
   PCall Tryz.prog G0 114 [AV.sl 1 (List.map encI g), AV.i (↑(List.map encMs l).length : Int)] (AV.i (fIx g (↑l.length : Int))) ∧ ((fIx g (↑l.length : Int) != 0) = true → AV.i (fIx g (↑l.length : Int)) = AV.i (fSet l g)) ∧ ((fIx g
   (↑l.length : Int) != 0) = false → (∃ (g_1 : Nat), (g_1 ≤ g.length ∧ ∀ (j : Nat), j < g_1 → cfI l g j = false) ∧ AS.mk [(0, AV.sl 19 (List.map encMs l)), (1, AV.sl 1 (List.map encI g)), (6, AV.i 0)] [] 1 = AS.mk [(0, AV.sl 19
   (List.map encMs l)), (1, AV.sl 1 (List.map encI g)), (6, AV.i (↑g_1 : Int))] [] 1) ∧ ∀ (g_1 : Nat), (g_1 ≤ g.length ∧ ∀ (j : Nat), j < g_1 → cfI l g j = false) → (decide ((↑g_1 : Int) < (↑(List.map encI g).length : Int)) = true → ∃
   (g0 : Nat × Nat), (g0.fst < g.length ∧ g0.snd ≤ g0.fst ∧ ∀ (j : Nat), j < g0.snd → ((msI l (g.getD g0.fst default)).w == (msI l (g.getD j default)).w) = false) ∧ g0.fst = g0.fst ∧ AS.mk [(0, AV.sl 19 (List.map encMs l)), (1, AV.sl
   1 (List.map encI g)), (6, AV.i (↑g_1 : Int)), (7, AV.i 0)] [] 1 = AS.mk [(0, AV.sl 19 (List.map encMs l)), (1, AV.sl 1 (List.map encI g)), (6, AV.i (↑g0.fst : Int)), (7, AV.i (↑g0.snd : Int))] [] 1 ∧ ∀ (g_2 : Nat × Nat), (g_2.fst <
   g.length ∧ g_2.snd ≤ g_2.fst ∧ ∀ (j : Nat), j < g_2.snd → ((msI l (g.getD g_2.fst default)).w == (msI l (g.getD j default)).w) = false) → g_2.fst = g0.fst → (decide ((↑g_2.snd : Int) < (↑g_2.fst : Int)) = true → (0 : Int) ≤
   (↑g_2.fst : Int) ∧ (↑g_2.fst : Int) < (↑(List.map encI g).length : Int) ∧ (0 : Int) ≤ g.getD (↑g_2.fst : Int).toNat default ∧ g.getD (↑g_2.fst : Int).toNat default < (↑(List.map encMs l).length : Int) ∧ (0 : Int) ≤ (↑g_2.snd : Int)
   ∧ (↑g_2.snd : Int) < (↑(List.map encI g).length : Int) ∧ (0 : Int) ≤ g.getD (↑g_2.snd : Int).toNat default ∧ g.getD (↑g_2.snd : Int).toNat default < (↑(List.map encMs l).length : Int) ∧ nth (nthR (List.map encI g) (↑g_2.fst :
   Int).toNat) 0 = AV.i (g.getD (↑g_2.fst : Int).toNat default) ∧ nth (nthR (List.map encMs l) (g.getD (↑g_2.fst : Int).toNat default).toNat) 1 = AV.i (l.getD (g.getD (↑g_2.fst : Int).toNat default).toNat default).w ∧ nth (nthR
   (List.map encI g) (↑g_2.snd : Int).toNat) 0 = AV.i (g.getD (↑g_2.snd : Int).toNat default) ∧ nth (nthR (List.map encMs l) (g.getD (↑g_2.snd : Int).toNat default).toNat) 1 = AV.i (l.getD (g.getD (↑g_2.snd : Int).toNat default).toNat
   default).w ∧ (((l.getD (g.getD (↑g_2.fst : Int).toNat default).toNat default).w == (l.getD (g.getD (↑g_2.snd : Int).toNat default).toNat default).w) = true → AV.i 24 = AV.i (fSet l g)) ∧ (((l.getD (g.getD (↑g_2.fst : Int).toNat
   default).toNat default).w == (l.getD (g.getD (↑g_2.snd : Int).toNat default).toNat default).w) = false → In64 ((↑g_2.snd : Int) + 1) ∧ ∃ (g' : Nat × Nat), (g'.fst < g.length ∧ g'.snd ≤ g'.fst ∧ ∀ (j : Nat), j < g'.snd → ((msI l
   (g.getD g'.fst default)).w == (msI l (g.getD j default)).w) = false) ∧ g'.fst = g0.fst ∧ g'.fst - g'.snd < g_2.fst - g_2.snd ∧ AS.mk [(0, AV.sl 19 (List.map encMs l)), (1, AV.sl 1 (List.map encI g)), (6, AV.i (↑g_2.fst : Int)), (7,
   AV.i ((↑g_2.snd : Int) + 1))] [] 1 = AS.mk [(0, AV.sl 19 (List.map encMs l)), (1, AV.sl 1 (List.map encI g)), (6, AV.i (↑g'.fst : Int)), (7, AV.i (↑g'.snd : Int))] [] 1)) ∧ (decide ((↑g_2.snd : Int) < (↑g_2.fst : Int)) = false →
   In64 ((↑g_2.fst : Int) + 1) ∧ ∃ (g' : Nat), (g' ≤ g.length ∧ ∀ (j : Nat), j < g' → cfI l g j = false) ∧ g.length - g' < g.length - g_1 ∧ AS.mk [(0, AV.sl 19 (List.map encMs l)), (1, AV.sl 1 (List.map encI g)), (6, AV.i ((↑g_2.fst :
   Int) + 1))] [] 1 = AS.mk [(0, AV.sl 19 (List.map encMs l)), (1, AV.sl 1 (List.map encI g)), (6, AV.i (↑g' : Int))] [] 1)) ∧ (decide ((↑g_1 : Int) < (↑(List.map encI g).length : Int)) = false → AV.i 0 = AV.i (fSet l g))) := by
    have hlm : (List.map encMs l).length = l.length := List.length_map _
    have hgm : (List.map encI g).length = g.length := List.length_map _
    have : (List.map encMs l).length = l.length := by simp only [List.length_map]
    have : (List.map encI g).length = g.length := by simp only [List.length_map]
    refine ⟨((by rw [hlm]; exact c114 _ _ hg0)), fun h1 => ?_, fun h1 => ?_⟩
    · rw [fSet, if_pos h1]
    · have hz : fIx g l.length = 0 := bne_f h1
      obtain ⟨x1, x2⟩ := ix_z hz
      refine ⟨⟨0, ⟨by omega, by intros; omega⟩, rfl⟩, fun g_1 ⟨hg, ha⟩ => ⟨fun hd => ?_, fun hd => ?_⟩⟩
      · have hlt : g_1 < g.length := by have h9 := of_decide_eq_true hd; have h8 := hg; (try simp only [List.length_map] at h8 h9); omega
        have hx := x1 g_1 hlt
        refine ⟨(g_1, 0), ⟨by (try dsimp only); omega, by (try dsimp only); omega, by first | (intro j hj; exact absurd hj (Nat.not_lt_zero j)) | exact all_ext hb2 (by assumption)⟩, rfl, rfl, fun g_2 hok2 hr2 => ?_⟩
        · obtain ⟨i2, j2⟩ := g_2
          dsimp only at hok2 hr2 ⊢
          obtain ⟨hi2, hg2, hb2⟩ := hok2
          have hr3 : g_1 = i2 := hr2.symm
          subst hr3
          refine ⟨fun hd2 => ?_, fun hd2 => ?_⟩
          · have hlt2 : j2 < (0 + g_1) := by have h9 := of_decide_eq_true hd2; have h8 := hg2; (try simp only [List.length_map] at h8 h9); omega
            try rw [show (↑g_1 : Int).toNat = g_1 from Int.toNat_natCast g_1]
            have hy := x1 j2 (by omega)
            try rw [show (↑j2 : Int).toNat = j2 from Int.toNat_natCast j2]
            refine ⟨(by omega), (by omega), (by omega), (by omega), (by omega), (by omega), (by omega), (by omega), (congrArg (fun r => nth r 0) (row_at encI hlt)), (congrArg (fun r => nth r 1) (row_at encMs (by omega))), (congrArg (fun r => nth r 0) (row_at encI (by omega))), (congrArg (fun r => nth r 1) (row_at encMs (by omega))), fun h2 => ?_, fun h2 => ⟨(by unfold In64; omega), ⟨(g_1, j2 + 1), ⟨by (try dsimp only); omega, by (try dsimp only); omega, by first | (intro j hj; exact absurd hj (Nat.not_lt_zero j)) | exact all_ext hb2 (by assumption)⟩, rfl, (by (try dsimp only); omega), rfl⟩⟩⟩
            · have hcf : cfI l g g_1 = true := by rw [cfI_d (by omega)]; exact decide_eq_true (fi_ex (p := fun j => (msI l (g.getD j default)).w == (msI l (g.getD g_1 default)).w) (show j2 < g_1 by omega) ((beqI_comm _ _).trans (by assumption)))
              rw [fSet, if_neg (by rw [hz]; decide), if_pos (decide_eq_true (fi_ex (p := cfI l g) hlt hcf))]
          · have hge2 : j2 = (0 + g_1) := by have h9 := of_decide_eq_false hd2; have h8 := hg2; (try simp only [List.length_map] at h8 h9); omega
            subst hge2
            refine ⟨(by unfold In64; omega), ⟨g_1 + 1, ⟨by omega, all_ext ha ?_⟩, by omega, rfl⟩⟩
            · rw [cfI_d (by omega), fi_none fun j hj => (beqI_comm _ _).trans (hb2 j (by omega))]
              exact decide_eq_false (Nat.lt_irrefl _)
      · have hge : g_1 = g.length := by have h9 := of_decide_eq_false hd; have h8 := hg; (try simp only [List.length_map] at h8 h9); omega
        subst hge
        rw [fSet, if_neg (by rw [hz]; decide), if_neg (by rw [decide_eq_true_eq, fi_none (p := cfI l g) ha]; omega)]
  exact c_of Tryz.f31 (fzB (mkB (sp169 l g) 31 [(10, 4, rdL 1 encI g 1 false), (10, 12, rdL 1 encI g 1 false), (10, 7, rdL 19 encMs l 1 false), (10, 15, rdL 19 encMs l 1 false)] (la31 l g))) (by kernel_rfl) (by kernel_rfl) (by kernel_rfl) (by kernel_rfl) key (by kernel_rfl)
end Go.Proofs.YtfoeefaamjknpaaGreatDoor
namespace Go.Proofs.YtfoeefaamjknpaaGreatDoor
open Go Go.Av Go.RowKit
theorem c36 (h : Hm) (l : List Ms) (g : List Int) (t : Int) (q1 : fMs h l = 0) (q2 : fSet l g = 0) (hg0 : g.length ≤ 1000) : PCall Tryz.prog G0 36 [.agg (encHm h), .sl 19 (l.map encMs), .sl 1 (g.map encI), .i t] (.bool (decide (afU h l g ≤ t))) := by
  have key :
   PCall Tryz.prog G0 35 [AV.agg (encHm h), AV.sl 19 (List.map encMs l), AV.sl 1 (List.map encI g)] (AV.agg [AV.str h.nm, AV.i h.pe, AV.sl 25 (List.map encWn (aft h.ws l g))]) ∧ PCall Tryz.prog G0 29 [AV.agg [AV.str h.nm, AV.i h.pe,
   AV.sl 25 (List.map encWn (aft h.ws l g))]] (AV.agg [AV.i (afL h l g), AV.i (afU h l g)]) ∧ AV.bool (decide (afU h l g ≤ t)) = AV.bool (decide (afU h l g ≤ t)) := by
    obtain ⟨a1, a2, a3, a4⟩ := af_ok q1 q2
    exact ⟨(c35 h l g q1 q2 hg0), ((by have e := c29 (afH h l g) (show (aft h.ws l g).length ≤ 8 by omega) a1; rw [show (afH h l g).ws.length = h.ws.length from a2] at e; exact e)), rfl⟩
  exact c_of Tryz.f36 (fzB (mkB (sp21 h l g) 36 [] noLa)) (by kernel_rfl) (by kernel_rfl) (by kernel_rfl) (by kernel_rfl) key (by kernel_rfl)
theorem c37 (h : Hm) (l : List Ms) (g : List Int) (x : Iv) (q1 : fMs h l = 0) (q2 : fSet l g = 0) (hg0 : g.length ≤ 1000) : PCall Tryz.prog G0 37 [.agg (encHm h), .sl 19 (l.map encMs), .sl 1 (g.map encI), .agg (encIv x)] (.str (vdS (afL h l g) (afU h l g) x)) := by
  have key :
   PCall Tryz.prog G0 35 [AV.agg (encHm h), AV.sl 19 (List.map encMs l), AV.sl 1 (List.map encI g)] (AV.agg [AV.str h.nm, AV.i h.pe, AV.sl 25 (List.map encWn (aft h.ws l g))]) ∧ PCall Tryz.prog G0 29 [AV.agg [AV.str h.nm, AV.i h.pe,
   AV.sl 25 (List.map encWn (aft h.ws l g))]] (AV.agg [AV.i (afL h l g), AV.i (afU h l g)]) ∧ (decide (x.b < afL h l g) = true → AV.str [(98 : UInt8), (101 : UInt8), (116 : UInt8), (116 : UInt8), (101 : UInt8), (114 : UInt8)] = AV.str
   (vdS (afL h l g) (afU h l g) x)) ∧ (decide (x.b < afL h l g) = false → (decide (x.a > afU h l g) = true → AV.str [(119 : UInt8), (111 : UInt8), (114 : UInt8), (115 : UInt8), (101 : UInt8)] = AV.str (vdS (afL h l g) (afU h l g) x))
   ∧ (decide (x.a > afU h l g) = false → AV.str [(97 : UInt8), (115 : UInt8), (32 : UInt8), (112 : UInt8), (108 : UInt8), (97 : UInt8), (110 : UInt8), (110 : UInt8), (101 : UInt8), (100 : UInt8)] = AV.str (vdS (afL h l g) (afU h l g)
   x))) := by
    obtain ⟨a1, a2, a3, a4⟩ := af_ok q1 q2
    refine ⟨(c35 h l g q1 q2 hg0), ((by have e := c29 (afH h l g) (show (aft h.ws l g).length ≤ 8 by omega) a1; rw [show (afH h l g).ws.length = h.ws.length from a2] at e; exact e)), fun h1 => ?_, fun h1 => ⟨fun h2 => ?_, fun h2 => ?_⟩⟩
    · rw [vdS, if_pos h1]
      rfl
    · rw [vdS, if_neg (by rw [h1]; decide), if_pos h2]
      rfl
    · rw [vdS, if_neg (by rw [h1]; decide), if_neg (by rw [h2]; decide)]
      rfl
  exact c_of Tryz.f37 (fzB (mkB (sp21 h l g) 37 [] noLa)) (by kernel_rfl) (by kernel_rfl) (by kernel_rfl) (by kernel_rfl) key (by kernel_rfl)
theorem c34 (x : Iv)  : PCall Tryz.prog G0 34 [.agg (encIv x)] (.i (fEnds x.a x.b 10000000000000)) := by
  have key :
   PCall Tryz.prog G0 115 [AV.agg (encIv x), AV.i 10000000000000] (AV.i (fEnds x.a x.b (10000000000000 : Int))) ∧ AV.i (fEnds x.a x.b (10000000000000 : Int)) = AV.i (fEnds x.a x.b (10000000000000 : Int)) := by
    exact ⟨(c115 _ _ _), rfl⟩
  exact c_of Tryz.f34 (mkB spW 34 [] noLa) (by kernel_rfl) (by kernel_rfl) (by kernel_rfl) (by kernel_rfl) key (by kernel_rfl)
def la41 (h : Hm) : LA := {
  pre := [.reno 3 3, .ownb 3 2 177 25, .renc 3 2 4, .keep [2, 3, 12, 13, 14] [2, 3, 4], .bound 5], post := [.renc 3 2 4, .keep [2, 3, 12, 13, 14] [2, 3, 4], .bound 5]
  Gh := Nat
  st := fun i => ⟨[(2, .ptr 2 0), (3, .ptr 3 0), (12, .sl 25 (h.ws.map encWn)), (13, .i (h.ws.map encWn).length), (14, .i i)], [(2, .box [.str [], .i 0, .ex (.slice none 0 0)]), (3, .box [.str h.nm, .i h.pe, .own 4 ((h.ws.take i).map encWn).length]), (4, .buf 177 25 ((h.ws.take i).map encWn))], 5⟩
  ok := fun i => i ≤ h.ws.length
  ms := fun i => h.ws.length - i }
theorem c41 (h : Hm) (hl : h.ws.length ≤ 1000) : PCall Tryz.prog G0 41 [.agg (encHm h)] (.agg (encHm h)) := by
  have key :
   (∃ (g : Nat), g ≤ h.ws.length ∧ AS.mk [(2, AV.ptr 2 0), (3, AV.ptr 3 0), (12, AV.sl 25 (List.map encWn h.ws)), (13, AV.i (↑(List.map encWn h.ws).length : Int)), (14, AV.i 0)] [(2, ABlk.box [AV.str [], AV.i 0, AV.ex (Value.slice
   none 0 0)]), (3, ABlk.box [AV.str h.nm, AV.i h.pe, AV.own 4 0]), (4, ABlk.buf 177 25 [])] 5 = AS.mk [(2, AV.ptr 2 0), (3, AV.ptr 3 0), (12, AV.sl 25 (List.map encWn h.ws)), (13, AV.i (↑(List.map encWn h.ws).length : Int)), (14,
   AV.i (↑g : Int))] [(2, ABlk.box [AV.str [], AV.i 0, AV.ex (Value.slice none 0 0)]), (3, ABlk.box [AV.str h.nm, AV.i h.pe, AV.own 4 (List.map encWn (List.take g h.ws)).length]), (4, ABlk.buf 177 25 (List.map encWn (List.take g
   h.ws)))] 5) ∧ ∀ (g : Nat), g ≤ h.ws.length → (decide ((↑g : Int) < (↑(List.map encWn h.ws).length : Int)) = true → (0 : Int) ≤ (↑g : Int) ∧ (↑g : Int) < (↑(List.map encWn h.ws).length : Int) ∧ AV.agg (nthR (List.map encWn h.ws) (↑g
   : Int).toNat) = AV.agg (encWn (h.ws.getD (↑g : Int).toNat default)) ∧ (List.map encWn (List.take g h.ws)).length + 1 ≤ 9223372036854775807 ∧ ((List.map encWn (List.take g h.ws)).length + 1) * 200 ≤ 140737488355328 ∧ In64 ((↑g :
   Int) + 1) ∧ ∃ (g' : Nat), g' ≤ h.ws.length ∧ h.ws.length - g' < h.ws.length - g ∧ AS.mk [(2, AV.ptr 2 0), (3, AV.ptr 3 0), (12, AV.sl 25 (List.map encWn h.ws)), (13, AV.i (↑(List.map encWn h.ws).length : Int)), (14, AV.i ((↑g :
   Int) + 1))] [(2, ABlk.box [AV.str [], AV.i 0, AV.ex (Value.slice none 0 0)]), (3, ABlk.box [AV.str h.nm, AV.i h.pe, AV.own 4 ((List.map encWn (List.take g h.ws)).length + 1)]), (4, ABlk.buf 177 25 (List.map encWn (List.take g h.ws)
   ++ [(encWn (h.ws.getD (↑g : Int).toNat default))]))] 5 = AS.mk [(2, AV.ptr 2 0), (3, AV.ptr 3 0), (12, AV.sl 25 (List.map encWn h.ws)), (13, AV.i (↑(List.map encWn h.ws).length : Int)), (14, AV.i (↑g' : Int))] [(2, ABlk.box [AV.str
   [], AV.i 0, AV.ex (Value.slice none 0 0)]), (3, ABlk.box [AV.str h.nm, AV.i h.pe, AV.own 4 (List.map encWn (List.take g' h.ws)).length]), (4, ABlk.buf 177 25 (List.map encWn (List.take g' h.ws)))] 5) ∧ (decide ((↑g : Int) <
   (↑(List.map encWn h.ws).length : Int)) = false → AV.agg [AV.str h.nm, AV.i h.pe, AV.sl 25 (List.map encWn (List.take g h.ws))] = AV.agg (encHm h)) := by
    have hlm : (List.map encWn h.ws).length = h.ws.length := List.length_map _
    have : (List.map encWn h.ws).length = h.ws.length := by simp only [List.length_map]
    refine ⟨⟨0, by omega, rfl⟩, fun g hg => ⟨fun hd => ?_, fun hd => ?_⟩⟩
    · have hlt : g < h.ws.length := by have h9 := of_decide_eq_true hd; have h8 := hg; (try simp only [List.length_map] at h8 h9); omega
      have : (List.map encWn (List.take g h.ws)).length = g := by simp only [List.length_map, List.length_take]; omega
      try rw [show (↑g : Int).toNat = g from Int.toNat_natCast g]
      refine ⟨(by omega), (by omega), congrArg AV.agg (row_at encWn hlt), (by omega), (by omega), (by unfold In64; omega), ⟨g + 1, by omega, by omega, ?_⟩⟩
      · first | (rw [← take_succ_map _ _ hlt, List.length_append]; rfl) | (rw [← take_succ _ hlt, List.length_append]; rfl)
    · have hge : g = h.ws.length := by have h9 := of_decide_eq_false hd; have h8 := hg; (try simp only [List.length_map] at h8 h9); omega
      subst hge
      rw [List.take_length]
      rfl
  exact c_of Tryz.f41 ({ modA 5 4 (fun a => { a with fz := false }) (mkB spW 41 [(4, 1, rdL 25 encWn h.ws 25 true)] (la0 (la41 h))) with bx := fun i => if i.beq 0 then [.frzc 3 2] else [] }) (by kernel_rfl) (by kernel_rfl) (by kernel_rfl) (by kernel_rfl) key (by kernel_rfl)
def la40 (h : Hm) : LA := {
  pre := [.keep [2, 3, 5] [], .bound 1], post := [.keep [2, 3, 5] [], .bound 1]
  Gh := Nat
  st := fun i => ⟨[(2, .elt 3 [encHm h] 0 0), (3, .elt 3 [encHm h] 0 0), (5, .i i)], [], 1⟩
  ok := fun i => i ≤ h.ws.length
  ms := fun i => h.ws.length - i }
theorem c40 (h : Hm) (hl : h.ws.length ≤ 1000) : PCall Tryz.prog G0 40 [.agg (encHm h), .agg (encHm h)] (.bool true) := by
  have key :
   (AV.bool !h.nm == h.nm) = AV.bool false ∧ AV.bool (h.pe != h.pe) = AV.bool false ∧ AV.bool ((↑(List.map encWn h.ws).length : Int) != (↑(List.map encWn h.ws).length : Int)) = AV.bool false ∧ (∃ (g : Nat), g ≤ h.ws.length ∧ AS.mk
   [(2, AV.elt 3 [(encHm h)] 0 0), (3, AV.elt 3 [(encHm h)] 0 0), (5, AV.i 0)] [] 1 = AS.mk [(2, AV.elt 3 [(encHm h)] 0 0), (3, AV.elt 3 [(encHm h)] 0 0), (5, AV.i (↑g : Int))] [] 1) ∧ ∀ (g : Nat), g ≤ h.ws.length → (decide ((↑g :
   Int) < (↑(List.map encWn h.ws).length : Int)) = true → (0 : Int) ≤ (↑g : Int) ∧ (↑g : Int) < (↑(List.map encWn h.ws).length : Int) ∧ (0 : Int) ≤ (↑g : Int) ∧ (↑g : Int) < (↑(List.map encWn h.ws).length : Int) ∧ AV.agg (nthR
   (List.map encWn h.ws) (↑g : Int).toNat) = AV.agg (encWn (h.ws.getD (↑g : Int).toNat default)) ∧ AV.agg (nthR (List.map encWn h.ws) (↑g : Int).toNat) = AV.agg (encWn (h.ws.getD (↑g : Int).toNat default)) ∧ (AV.bool !((h.ws.getD (↑g
   : Int).toNat default).o0 == (h.ws.getD (↑g : Int).toNat default).o0 && true && ((h.ws.getD (↑g : Int).toNat default).o1 == (h.ws.getD (↑g : Int).toNat default).o1 && true && ((h.ws.getD (↑g : Int).toNat default).o2 == (h.ws.getD
   (↑g : Int).toNat default).o2 && true && ((h.ws.getD (↑g : Int).toNat default).o3 == (h.ws.getD (↑g : Int).toNat default).o3 && true && ((h.ws.getD (↑g : Int).toNat default).o4 == (h.ws.getD (↑g : Int).toNat default).o4 && true &&
   ((h.ws.getD (↑g : Int).toNat default).o5 == (h.ws.getD (↑g : Int).toNat default).o5 && true && ((h.ws.getD (↑g : Int).toNat default).o6 == (h.ws.getD (↑g : Int).toNat default).o6 && true && ((h.ws.getD (↑g : Int).toNat default).o7
   == (h.ws.getD (↑g : Int).toNat default).o7 && true && true))))))) && ((h.ws.getD (↑g : Int).toNat default).ar == (h.ws.getD (↑g : Int).toNat default).ar && true && ((h.ws.getD (↑g : Int).toNat default).p0 == (h.ws.getD (↑g :
   Int).toNat default).p0 && true && ((h.ws.getD (↑g : Int).toNat default).p1 == (h.ws.getD (↑g : Int).toNat default).p1 && true && true) && ((h.ws.getD (↑g : Int).toNat default).p2 == (h.ws.getD (↑g : Int).toNat default).p2 && true
   && ((h.ws.getD (↑g : Int).toNat default).p3 == (h.ws.getD (↑g : Int).toNat default).p3 && true && true) && ((h.ws.getD (↑g : Int).toNat default).p4 == (h.ws.getD (↑g : Int).toNat default).p4 && true && ((h.ws.getD (↑g : Int).toNat
   default).p5 == (h.ws.getD (↑g : Int).toNat default).p5 && true && true) && ((h.ws.getD (↑g : Int).toNat default).p6 == (h.ws.getD (↑g : Int).toNat default).p6 && true && ((h.ws.getD (↑g : Int).toNat default).p7 == (h.ws.getD (↑g :
   Int).toNat default).p7 && true && true) && ((h.ws.getD (↑g : Int).toNat default).p8 == (h.ws.getD (↑g : Int).toNat default).p8 && true && ((h.ws.getD (↑g : Int).toNat default).p9 == (h.ws.getD (↑g : Int).toNat default).p9 && true
   && true) && ((h.ws.getD (↑g : Int).toNat default).p10 == (h.ws.getD (↑g : Int).toNat default).p10 && true && ((h.ws.getD (↑g : Int).toNat default).p11 == (h.ws.getD (↑g : Int).toNat default).p11 && true && true) && ((h.ws.getD (↑g
   : Int).toNat default).p12 == (h.ws.getD (↑g : Int).toNat default).p12 && true && ((h.ws.getD (↑g : Int).toNat default).p13 == (h.ws.getD (↑g : Int).toNat default).p13 && true && true) && ((h.ws.getD (↑g : Int).toNat default).p14 ==
   (h.ws.getD (↑g : Int).toNat default).p14 && true && ((h.ws.getD (↑g : Int).toNat default).p15 == (h.ws.getD (↑g : Int).toNat default).p15 && true && true) && true))))))) && true)))) = AV.bool false ∧ In64 ((↑g : Int) + 1) ∧ ∃ (g' :
   Nat), g' ≤ h.ws.length ∧ h.ws.length - g' < h.ws.length - g ∧ AS.mk [(2, AV.elt 3 [(encHm h)] 0 0), (3, AV.elt 3 [(encHm h)] 0 0), (5, AV.i ((↑g : Int) + 1))] [] 1 = AS.mk [(2, AV.elt 3 [(encHm h)] 0 0), (3, AV.elt 3 [(encHm h)] 0
   0), (5, AV.i (↑g' : Int))] [] 1) ∧ (decide ((↑g : Int) < (↑(List.map encWn h.ws).length : Int)) = false → AV.bool true = AV.bool true) := by
    have hlm : (List.map encWn h.ws).length = h.ws.length := List.length_map _
    have : (List.map encWn h.ws).length = h.ws.length := by simp only [List.length_map]
    refine ⟨?_, ?_, ?_, ⟨⟨0, by omega, rfl⟩, fun g hg => ⟨fun hd => ?_, fun hd => ?_⟩⟩⟩
    · simp
    · simp
    · simp
    · have hlt : g < h.ws.length := by have h9 := of_decide_eq_true hd; have h8 := hg; (try simp only [List.length_map] at h8 h9); omega
      try rw [show (↑g : Int).toNat = g from Int.toNat_natCast g]
      refine ⟨(by omega), (by omega), (by omega), (by omega), congrArg AV.agg (row_at encWn hlt), congrArg AV.agg (row_at encWn hlt), ?_, (by unfold In64; omega), ⟨g + 1, by omega, by omega, rfl⟩⟩
      · simp
    · have hge : g = h.ws.length := by have h9 := of_decide_eq_false hd; have h8 := hg; (try simp only [List.length_map] at h8 h9); omega
      subst hge
      exact rfl
  exact c_of Tryz.f40 ({ noSym 1 (fzB (mkB spW 40 (lits false [(1, 4), (1, 10), (1, 19), (6, 10)] ++ [(6, 4, rdL 25 encWn h.ws 25 true), (6, 9, rdL 25 encWn h.ws 25 true)]) (la0 (la40 h)))) with cl := clL [26, 44] }) (by kernel_rfl) (by kernel_rfl) (by kernel_rfl) (by kernel_rfl) key (by kernel_rfl)
end Go.Proofs.YtfoeefaamjknpaaGreatDoor
namespace Go.Proofs.YtfoeefaamjknpaaGreatDoor
open Go Go.Av Go.RowKit
theorem hd_rintW (es : List Int) : (rInt es).map hdI = es := hd_encI es
theorem c32w (es : List Int) (hl : es.length ≤ 1000000) : PCall Tryz.prog G0 32 [.sl 1 (rInt es)] (.i (sFirst es)) := by
  have key :
   PCall Tryz.prog G0 107 [AV.sl 1 (rInt es)] (AV.i (sFirst (List.map hdI (rInt es)))) ∧ AV.i (sFirst (List.map hdI (rInt es))) = AV.i (sFirst es) := by
    refine ⟨((by rw [hd_rintW]; exact c107 es hl)), ?_⟩
    · rw [hd_rintW]
  exact c_of Tryz.f32 (mkB spW 32 [] noLa) (by kernel_rfl) (by kernel_rfl) (by kernel_rfl) (by kernel_rfl) key (by kernel_rfl)
def sp5 (l : List Zn) (h : Hm) (e : Int) : Nat → List AV → Option AV
  | 16, _ => some (.bool true)
  | 48, _ => some (.bool (shZ l))
  | 14, _ => some (.bool (shH h))
  | 50, [.sl _ rows] => some (.sl 4 rows)
  | 18, [.agg c] => some (.agg c)
  | 49, _ => some (.tup [.i (zfV l e), .i (zfE l e)])
  | 51, _ => some (.tup [.bool (egV l h), .i (egE l h)])
  | 52, _ => some (.i (fZs l))
  | 55, _ => some (.i (fZs l))
  | 26, _ => some (.i (fHm h))
  | 53, _ => some (.tup [.i (zrV l e), .i (zrE l e)])
  | 54, _ => some (.bool (elB l h))
  | 32, [.sl _ rows] => some (.i (sFirst (rows.map hdI)))
  | n, y => spW n y
structure K5 (l : List Zn) (h : Hm) : Prop where
  kl : l.length ≤ 7
  kn : ∀ x, x ∈ l → x.nm.length ≤ 1000
  ko : h.nm.length ≤ 40
  kw : h.ws.length ≤ 9
def m5a (l : List Zn) (h : Hm) (e : Int) : List (Nat × AV) := [(0, .sl 4 (l.map encZn)), (2, .i e), (4, .elt 3 [encHm h] 0 0), (7, .i (zfV l e)), (8, .i (zfE l e)), (9, .bool (egV l h)), (10, .i (egE l h)), (11, .i (fZs l)), (13, .i (egE l h))]
def m5 (l : List Zn) (h : Hm) (e : Int) : List (Option (List GS × AS × Prop)) :=
  [none, none, none, none, none, none, none, mdH [] (K5 l h) (m5a l h e ++ [(12, .i (zsE l e)), (14, .i 0), (15, .bool false)]), none, mdH [] (K5 l h) (m5a l h e ++ [(12, .i (zfE l e)), (14, .i (zfV l e)), (15, .bool false)]), none, mdH [] (K5 l h) (m5a l h e ++ [(12, .i (zfE l e)), (14, .i (zfV l e)), (15, .bool (egV l h))]), none]
theorem sh_zn {l : List Zn} (h : shZ l = true) : l.length ≤ 7 ∧ ∀ x, x ∈ l → x.nm.length ≤ 1000 := by
  unfold shZ at h
  split at h
  · cases h
  · rename_i h1
    rw [decide_eq_true_eq] at h1
    have h2 := of_decide_eq_true h
    refine ⟨by omega, fun x hx => ?_⟩
    obtain ⟨i, hi, e⟩ := List.mem_iff_getElem.1 hx
    have h3 := fi_all h1 i hi
    unfold lnZ at h3
    rw [List.getD_eq_getElem?_getD, List.getElem?_eq_getElem hi, e] at h3
    have h3 : decide ((x.nm.length : Int) > 40) = false := h3
    have := of_decide_eq_false h3
    omega
theorem sh_hm {h : Hm} (e : shH h = true) : h.nm.length ≤ 40 ∧ h.ws.length ≤ 9 := by
  unfold shH at e
  split at e
  · rename_i h1
    rw [decide_eq_true_eq] at h1
    have := of_decide_eq_true e
    exact ⟨by omega, by omega⟩
  · cases e
theorem guard5 {l : List Zn} {h : Hm} (q : (if (!shZ l) = true then true else !shH h) = false) : K5 l h := by
  cases q1 : shZ l with
  | false => rw [q1] at q; cases q
  | true =>
    cases q2 : shH h with
    | false => rw [q1, q2] at q; cases q
    | true =>
      have h1 := sh_zn q1
      have h2 := sh_hm q2
      exact ⟨h1.1, h1.2, h2.1, h2.2⟩
theorem c5 (l : List Zn) (h : Hm) (e : Int) (hA : PCall Tryz.prog G0 16 [] (.bool true)) (hl : l.length ≤ maxLen) : PCall Tryz.prog G0 5 [.sl 4 (l.map encZn), .agg (encHm h), .i e] (.bool true) := by
  have key :
   ((!!shZ l) = true → (!!shZ l) = true) ∧ ((!!shZ l) = true → (!!shZ l) = true) ∧ ((!shZ l) = false → (!!shZ l) = true) ∧ PCall Tryz.prog G0 48 [AV.sl 4 (List.map encZn l)] (AV.bool (shZ l)) ∧ impB (!!shZ l) (PCall Tryz.prog G0 14
   [AV.agg (encHm h)] (AV.bool (shH h))) ∧ ((if (!shZ l) = true then true else !shH h) = true → PCall Tryz.prog G0 16 [] (AV.bool true) ∧ AV.bool true = AV.bool true) ∧ ((if (!shZ l) = true then true else !shH h) = false → PCall
   Tryz.prog G0 50 [AV.sl 4 (List.map encZn l)] (AV.sl 4 (List.map encZn l)) ∧ PCall Tryz.prog G0 49 [AV.sl 4 (List.map encZn l), AV.i e] (AV.tup [AV.i (zfV l e), AV.i (zfE l e)]) ∧ PCall Tryz.prog G0 50 [AV.sl 4 (List.map encZn l)]
   (AV.sl 4 (List.map encZn l)) ∧ PCall Tryz.prog G0 18 [AV.agg (encHm h)] (AV.agg (encHm h)) ∧ PCall Tryz.prog G0 51 [AV.sl 4 (List.map encZn l), AV.agg (encHm h)] (AV.tup [AV.bool (egV l h), AV.i (egE l h)]) ∧ PCall Tryz.prog G0 52
   [AV.sl 4 (List.map encZn l)] (AV.i (fZs l)) ∧ PCall Tryz.prog G0 33 [AV.i e] (AV.i (sWithin e (0 : Int) (10000000000000 : Int))) ∧ PCall Tryz.prog G0 32 [AV.sl 1 [[AV.i (fZs l)], [AV.i (sWithin e (0 : Int) (10000000000000 :
   Int))]]] (AV.i (sFirst [hdI [AV.i (fZs l)], hdI [AV.i (sWithin e (0 : Int) (10000000000000 : Int))]])) ∧ PCall Tryz.prog G0 26 [AV.agg (encHm h)] (AV.i (fHm h)) ∧ PCall Tryz.prog G0 32 [AV.sl 1 [[AV.i (fZs l)], [AV.i (fHm h)]]]
   (AV.i (sFirst [hdI [AV.i (fZs l)], hdI [AV.i (fHm h)]])) ∧ (AS.mk [(0, AV.sl 4 (List.map encZn l)), (2, AV.i e), (4, AV.elt 3 [(encHm h)] 0 0), (7, AV.i (zfV l e)), (8, AV.i (zfE l e)), (9, AV.bool (egV l h)), (10, AV.i (egE l h)),
   (11, AV.i (fZs l)), (13, AV.i (sFirst [hdI [AV.i (fZs l)], hdI [AV.i (fHm h)]])), (12, AV.i (sFirst [hdI [AV.i (fZs l)], hdI [AV.i (sWithin e (0 : Int) (10000000000000 : Int))]])), (14, AV.i 0), (15, AV.bool false)] [] 1 = AS.mk
   [(0, AV.sl 4 (List.map encZn l)), (2, AV.i e), (4, AV.elt 3 [(encHm h)] 0 0), (7, AV.i (zfV l e)), (8, AV.i (zfE l e)), (9, AV.bool (egV l h)), (10, AV.i (egE l h)), (11, AV.i (fZs l)), (13, AV.i (egE l h)), (12, AV.i (zsE l e)),
   (14, AV.i 0), (15, AV.bool false)] [] 1 ∧ K5 l h) ∧ (K5 l h → (((zsE l e == 0) = true → PCall Tryz.prog G0 53 [AV.sl 4 (List.map encZn l), AV.i e] (AV.tup [AV.i (zrV l e), AV.i (zrE l e)]) ∧ AS.mk [(0, AV.sl 4 (List.map encZn l)),
   (2, AV.i e), (4, AV.elt 3 [(encHm h)] 0 0), (7, AV.i (zfV l e)), (8, AV.i (zfE l e)), (9, AV.bool (egV l h)), (10, AV.i (egE l h)), (11, AV.i (fZs l)), (13, AV.i (egE l h)), (12, AV.i (zrE l e)), (14, AV.i (zrV l e)), (15, AV.bool
   false)] [] 1 = AS.mk [(0, AV.sl 4 (List.map encZn l)), (2, AV.i e), (4, AV.elt 3 [(encHm h)] 0 0), (7, AV.i (zfV l e)), (8, AV.i (zfE l e)), (9, AV.bool (egV l h)), (10, AV.i (egE l h)), (11, AV.i (fZs l)), (13, AV.i (egE l h)),
   (12, AV.i (zfE l e)), (14, AV.i (zfV l e)), (15, AV.bool false)] [] 1 ∧ K5 l h) ∧ ((zsE l e == 0) = false → AS.mk [(0, AV.sl 4 (List.map encZn l)), (2, AV.i e), (4, AV.elt 3 [(encHm h)] 0 0), (7, AV.i (zfV l e)), (8, AV.i (zfE l
   e)), (9, AV.bool (egV l h)), (10, AV.i (egE l h)), (11, AV.i (fZs l)), (13, AV.i (egE l h)), (12, AV.i (zsE l e)), (14, AV.i 0), (15, AV.bool false)] [] 1 = AS.mk [(0, AV.sl 4 (List.map encZn l)), (2, AV.i e), (4, AV.elt 3 [(encHm
   h)] 0 0), (7, AV.i (zfV l e)), (8, AV.i (zfE l e)), (9, AV.bool (egV l h)), (10, AV.i (egE l h)), (11, AV.i (fZs l)), (13, AV.i (egE l h)), (12, AV.i (zfE l e)), (14, AV.i (zfV l e)), (15, AV.bool false)] [] 1 ∧ K5 l h)) ∧ (K5 l h
   → (((egE l h == 0) = true → PCall Tryz.prog G0 54 [AV.sl 4 (List.map encZn l), AV.agg (encHm h)] (AV.bool (elB l h)) ∧ AS.mk [(0, AV.sl 4 (List.map encZn l)), (2, AV.i e), (4, AV.elt 3 [(encHm h)] 0 0), (7, AV.i (zfV l e)), (8,
   AV.i (zfE l e)), (9, AV.bool (egV l h)), (10, AV.i (egE l h)), (11, AV.i (fZs l)), (13, AV.i (egE l h)), (12, AV.i (zfE l e)), (14, AV.i (zfV l e)), (15, AV.bool (elB l h))] [] 1 = AS.mk [(0, AV.sl 4 (List.map encZn l)), (2, AV.i
   e), (4, AV.elt 3 [(encHm h)] 0 0), (7, AV.i (zfV l e)), (8, AV.i (zfE l e)), (9, AV.bool (egV l h)), (10, AV.i (egE l h)), (11, AV.i (fZs l)), (13, AV.i (egE l h)), (12, AV.i (zfE l e)), (14, AV.i (zfV l e)), (15, AV.bool (egV l
   h))] [] 1 ∧ K5 l h) ∧ ((egE l h == 0) = false → AS.mk [(0, AV.sl 4 (List.map encZn l)), (2, AV.i e), (4, AV.elt 3 [(encHm h)] 0 0), (7, AV.i (zfV l e)), (8, AV.i (zfE l e)), (9, AV.bool (egV l h)), (10, AV.i (egE l h)), (11, AV.i
   (fZs l)), (13, AV.i (egE l h)), (12, AV.i (zfE l e)), (14, AV.i (zfV l e)), (15, AV.bool false)] [] 1 = AS.mk [(0, AV.sl 4 (List.map encZn l)), (2, AV.i e), (4, AV.elt 3 [(encHm h)] 0 0), (7, AV.i (zfV l e)), (8, AV.i (zfE l e)),
   (9, AV.bool (egV l h)), (10, AV.i (egE l h)), (11, AV.i (fZs l)), (13, AV.i (egE l h)), (12, AV.i (zfE l e)), (14, AV.i (zfV l e)), (15, AV.bool (egV l h))] [] 1 ∧ K5 l h)) ∧ (K5 l h → PCall Tryz.prog G0 50 [AV.sl 4 (List.map encZn
   l)] (AV.sl 4 (List.map encZn l)) ∧ PCall Tryz.prog G0 55 [AV.sl 4 (List.map encZn l)] (AV.i (fZs l)) ∧ AV.bool (fZs l == fZs l) = AV.bool true ∧ AV.bool (zfV l e == zfV l e) = AV.bool true ∧ AV.bool (zfE l e == zfE l e) = AV.bool
   true ∧ AV.bool (egV l h == egV l h) = AV.bool true ∧ AV.bool (egE l h == egE l h) = AV.bool true ∧ PCall Tryz.prog G0 16 [] (AV.bool true) ∧ AV.bool true = AV.bool true)))) := by
    have hlm : (List.map encZn l).length = l.length := List.length_map _
    refine ⟨fun h => h, fun h => h, fun h => by first | exact h | (rw [h]; rfl) | simp_all, (c48 l hl), impB_iff.2 fun hb => (c14 h), fun h1 => ⟨hA, rfl⟩, fun h1 => ?_⟩
    · have hK := guard5 h1
      obtain ⟨k1, k2, k3, k4⟩ := hK
      refine ⟨((c50 l (by omega)).un), (c49 l e (by omega) k2), ((c50 l (by omega)).un), (c18 h (by omega)), (c51 l h (by omega) k2 (by omega) (by omega)), (c52 l (by omega) k2), (c33 _), (c32w [_, _] (by simp)), (c26 h (by omega) (by omega)), (c32w [_, _] (by simp)), ⟨rfl, ⟨k1, k2, k3, k4⟩⟩, fun h2 => ?_⟩
      · have hK := h2
        obtain ⟨k1, k2, k3, k4⟩ := h2
        refine ⟨⟨fun h3 => ?_, fun h3 => ?_⟩, fun h3 => ?_⟩
        · have zt : zsE l e = 0 := by simpa using h3
          refine ⟨(c53 l e (by omega)), ?_, ⟨k1, k2, k3, k4⟩⟩
          · rw [show zfV l e = zrV l e from if_neg (by rw [zt]; decide), show zfE l e = zrE l e from if_neg (by rw [zt]; decide)]
        · have zf : (zsE l e != 0) = true := by simpa using h3
          refine ⟨?_, ⟨k1, k2, k3, k4⟩⟩
          · rw [show zfV l e = 0 from if_pos zf, show zfE l e = zsE l e from if_pos zf]
        · have hK := h3
          obtain ⟨k1, k2, k3, k4⟩ := h3
          refine ⟨⟨fun h4 => ?_, fun h4 => ?_⟩, fun h4 => ?_⟩
          · have yt : egE l h = 0 := by simpa using h4
            have yt2 := yt
            unfold egE at yt2
            rw [first_zero, first_zero] at yt2
            refine ⟨(c54 l h yt2.2.1 yt2.1), ?_, ⟨k1, k2, k3, k4⟩⟩
            · rw [show egV l h = elB l h from if_neg (by rw [yt]; decide)]
          · have yf : (egE l h != 0) = true := by simpa using h4
            refine ⟨?_, ⟨k1, k2, k3, k4⟩⟩
            · rw [show egV l h = false from if_pos yf]
          · have hK := h4
            obtain ⟨k1, k2, k3, k4⟩ := h4
            exact ⟨((c50 l (by omega)).un), (c55 l (by omega) k2), congrArg AV.bool (beq_self_eq_true _), congrArg AV.bool (beq_self_eq_true _), congrArg AV.bool (beq_self_eq_true _), congrArg AV.bool (beq_self_eq_true _), congrArg AV.bool (beq_self_eq_true _), hA, rfl⟩
  exact c_ofH Tryz.f5 (noSyms [12] (fzB (mkB (sp5 l h e) 5 (lits true [(12, 4), (12, 8), (12, 13), (12, 18), (12, 23)]) noLa))) (m5 l h e) (by kernel_rfl) (by kernel_rfl) (by kernel_rfl) (by kernel_rfl) key (by kernel_rfl)
end Go.Proofs.YtfoeefaamjknpaaGreatDoor
namespace Go.Proofs.YtfoeefaamjknpaaGreatDoor
open Go Go.Av Go.RowKit
structure Wk where
  s : List Int
  t : Int
  p : Int
  m : Iv
def encWk (x : Wk) : List AV := [.sl 1 (x.s.map encI), .i x.t, .i x.p, .i x.m.a, .i x.m.b]
def iV1 (h : Hm) : Int := if (fHm h != 0) = true then 0 else inL h.ws h.ws.length
def iV2 (h : Hm) : Int := if (fHm h != 0) = true then 0 else inH h.ws h.ws.length
def lV1 (h : Hm) : Int := if (fHm h != 0) = true then 0 else lvl (inL h.ws h.ws.length)
def lV2 (h : Hm) : Int := if (fHm h != 0) = true then 0 else lvl (inH h.ws h.ws.length)
def sp3 (h : Hm) (l : List Ms) (x : Wk) : Nat → List AV → Option AV
  | 16, _ => some (.bool true)
  | 14, _ => some (.bool (shH h))
  | 15, _ => some (.bool (shM l))
  | 18, [.agg c] => some (.agg c)
  | 22, [.sl _ rows] => some (.sl 19 rows)
  | 23, [.sl _ rows] => some (.sl 1 rows)
  | 41, [.agg c] => some (.agg c)
  | 40, _ => some (.bool true)
  | 17, _ => some (.tup [.i (ouV h), .i (fHm h)])
  | 19, _ => some (.tup [.agg [.i (iV1 h), .i (iV2 h)], .i (fHm h)])
  | 20, _ => some (.tup [.agg [.i (lV1 h), .i (lV2 h)], .i (fHm h)])
  | 21, _ => some (.tup [.agg (encHm (afV h l x.s)), .i (ckE h l x.s)])
  | 24, _ => some (.tup [.bool (suV h l x.s x.t), .i (suE h l x.s x.t)])
  | 25, _ => some (.tup [.str (veV h l x.s x.m), .i (veE h l x.s x.m)])
  | 26, _ => some (.i (fHm h))
  | 38, _ => some (.i (fHm h))
  | 27, _ => some (.i (fMs h l))
  | 39, _ => some (.i (fMs h l))
  | 28, _ => some (.i (outM h.ws h.ws.length))
  | 29, _ => some (.agg [.i (inL h.ws h.ws.length), .i (inH h.ws h.ws.length)])
  | 30, _ => some (.agg [.i (lvl (inL h.ws h.ws.length)), .i (lvl (inH h.ws h.ws.length))])
  | 31, _ => some (.i (fSet l x.s))
  | 32, [.sl _ rows] => some (.i (sFirst (rows.map hdI)))
  | 34, [.agg [.int _ a, .int _ b]] => some (.i (fEnds a b 10000000000000))
  | 35, _ => some (.agg (encHm (afH h l x.s)))
  | 36, _ => some (.bool (decide (afU h l x.s ≤ x.t)))
  | 37, _ => some (.str (vdS (afL h l x.s) (afU h l x.s) x.m))
  | n, y => spW n y
structure K3 (h : Hm) (l : List Ms) (x : Wk) : Prop where
  ko : h.nm.length ≤ 40
  kw : h.ws.length ≤ 9
  kl : l.length ≤ 9
  kn : ∀ y, y ∈ l → y.nm.length ≤ 1000
  ks : x.s.length ≤ 9
def mdB (g : List GS) (p : Prop) (l : List (Nat × AV)) (b : BL) (n : Nat) : Option (List GS × AS × Prop) := some (g ++ [.keep (l.map (·.1)) (b.map (·.1)), .bound n], ⟨l, b, n⟩, p)
def m3a (h : Hm) (l : List Ms) (x : Wk) : List (Nat × AV) := [(1, .sl 19 (l.map encMs)), (3, .elt 3 [encHm h] 0 0), (5, .elt 5 [encWk x] 0 0), (7, .i (ouV h)), (8, .i (fHm h)), (9, .elt 2 [[.i (iV1 h), .i (iV2 h)]] 0 0), (10, .i (fHm h)), (11, .elt 2 [[.i (lV1 h), .i (lV2 h)]] 0 0), (12, .i (fHm h)), (13, .elt 3 [encHm (afV h l x.s)] 0 0), (14, .i (ckE h l x.s)), (15, .bool (suV h l x.s x.t)), (16, .i (suE h l x.s x.t)), (17, .str (veV h l x.s x.m)), (18, .i (veE h l x.s x.m)), (19, .i (fHm h))]
def m3b (h : Hm) (_ : List Ms) (_ : Wk) : List (Nat × AV) := [(21, .i (ouV h)), (24, .elt 2 [[.i (iV1 h), .i (iV2 h)]] 0 0), (25, .elt 2 [[.i (lV1 h), .i (lV2 h)]] 0 0)]
def b26 : ABlk := .box [.str [], .i 0, .sl 25 []]
def m3 (h : Hm) (l : List Ms) (x : Wk) : List (Option (List GS × AS × Prop)) :=
  [none, none, none, none, none, none, none, none, none, none, none, none, none,
   mdB [.reno 24 1, .reno 25 2, .reno 26 3, .nilb 3 2 25] (K3 h l x) (m3a h l x ++ [(20, .i (fMs h l)), (21, .i 0), (22, .bool false), (23, .str []), (24, .ptr 1 0), (25, .ptr 2 0), (26, .ptr 3 0)]) [(1, .box [.i 0, .i 0]), (2, .box [.i 0, .i 0]), (3, b26)] 4, none,
   mdB [.frzo 24, .frzo 25, .reno 26 1] (K3 h l x) (m3a h l x ++ [(20, .i (fMs h l)), (22, .bool false), (23, .str []), (26, .ptr 1 0)] ++ m3b h l x) [(1, b26)] 2, none,
   mdB [] (K3 h l x) (m3a h l x ++ [(20, .i (ckE h l x.s)), (22, .bool false), (23, .str []), (26, .ptr 1 0)] ++ m3b h l x) [(1, b26)] 2,
   mdB [] (K3 h l x) (m3a h l x ++ [(20, .i (ckE h l x.s)), (22, .bool false), (23, .str []), (26, .ptr 1 0), (27, .i (suE h l x.s x.t)), (28, .i (veE h l x.s x.m))] ++ m3b h l x) [(1, b26)] 2, none,
   mdB [.frzo 26] (K3 h l x) (m3a h l x ++ [(20, .i (ckE h l x.s)), (22, .bool false), (23, .str []), (26, .elt 3 [encHm (afV h l x.s)] 0 0), (27, .i (suE h l x.s x.t)), (28, .i (veE h l x.s x.m))] ++ m3b h l x) [] 1, none,
   mdB [] (K3 h l x) (m3a h l x ++ [(20, .i (ckE h l x.s)), (22, .bool (suV h l x.s x.t)), (23, .str []), (26, .elt 3 [encHm (afV h l x.s)] 0 0), (27, .i (suE h l x.s x.t)), (28, .i (veE h l x.s x.m))] ++ m3b h l x) [] 1, none,
   mdB [] (K3 h l x) (m3a h l x ++ [(20, .i (ckE h l x.s)), (22, .bool (suV h l x.s x.t)), (23, .str (veV h l x.s x.m)), (26, .elt 3 [encHm (afV h l x.s)] 0 0), (27, .i (suE h l x.s x.t)), (28, .i (veE h l x.s x.m))] ++ m3b h l x) [] 1, none]
theorem sh_ms {l : List Ms} (h : shM l = true) : l.length ≤ 9 ∧ ∀ x, x ∈ l → x.nm.length ≤ 1000 := by
  unfold shM at h
  split at h
  · cases h
  · rename_i h1
    rw [decide_eq_true_eq] at h1
    refine ⟨?_, fun x hx => ?_⟩
    · split at h
      · rename_i h2
        rw [decide_eq_true_eq] at h2
        omega
      · have : (l.length : Int) = 9 := by simpa using h
        omega
    · obtain ⟨i, hi, e⟩ := List.mem_iff_getElem.1 hx
      have h3 := fi_all h1 i hi
      unfold lnM at h3
      rw [List.getD_eq_getElem?_getD, List.getElem?_eq_getElem hi, e] at h3
      have h3 : decide ((x.nm.length : Int) > 40) = false := h3
      have := of_decide_eq_false h3
      omega
theorem guard3 {h : Hm} {l : List Ms} {x : Wk} (q : (if (if (!shH h) = true then true else !shM l) = true then true else decide ((x.s.length : Int) > 9)) = false) : K3 h l x := by
  cases q1 : shH h with
  | false => rw [q1] at q; cases q
  | true =>
    cases q2 : shM l with
    | false => rw [q1, q2] at q; cases q
    | true =>
      rw [q1, q2] at q
      have h1 := sh_hm q1
      have h2 := sh_ms q2
      have h3 := of_decide_eq_false (show decide ((x.s.length : Int) > 9) = false from q)
      exact ⟨h1.1, h1.2, h2.1, h2.2, by omega⟩
theorem afV_len (h : Hm) (l : List Ms) (g : List Int) : (afV h l g).ws.length ≤ h.ws.length := by
  unfold afV
  split
  · exact Nat.zero_le _
  · exact Nat.le_of_eq (aft_len h.ws l g g.length)
theorem c3 (h : Hm) (l : List Ms) (x : Wk) (hA : PCall Tryz.prog G0 16 [] (.bool true)) (hl : l.length ≤ maxLen) : PCall Tryz.prog G0 3 [.agg (encHm h), .sl 19 (l.map encMs), .agg (encWk x)] (.bool true) := by
  have key :
   ((!!shH h) = true → (!!shH h) = true) ∧ ((!!shH h) = true → (!!shH h) = true) ∧ ((!shH h) = false → (!!shH h) = true) ∧ ((!if (!shH h) = true then true else !shM l) = true → (!if (!shH h) = true then true else !shM l) = true) ∧
   ((!if (!shH h) = true then true else !shM l) = true → (!if (!shH h) = true then true else !shM l) = true) ∧ ((!if (!shH h) = true then true else !shM l) = true → (!if (!shH h) = true then true else !shM l) = true) ∧ ((if (!shH h) =
   true then true else !shM l) = false → (!if (!shH h) = true then true else !shM l) = true) ∧ PCall Tryz.prog G0 14 [AV.agg (encHm h)] (AV.bool (shH h)) ∧ impB (!!shH h) (PCall Tryz.prog G0 15 [AV.sl 19 (List.map encMs l)] (AV.bool
   (shM l))) ∧ ((if (if (!shH h) = true then true else !shM l) = true then true else decide ((↑(List.map encI x.s).length : Int) > 9)) = true → PCall Tryz.prog G0 16 [] (AV.bool true) ∧ AV.bool true = AV.bool true) ∧ ((if (if (!shH h)
   = true then true else !shM l) = true then true else decide ((↑(List.map encI x.s).length : Int) > 9)) = false → PCall Tryz.prog G0 18 [AV.agg (encHm h)] (AV.agg (encHm h)) ∧ PCall Tryz.prog G0 17 [AV.agg (encHm h)] (AV.tup [AV.i
   (ouV h), AV.i (fHm h)]) ∧ PCall Tryz.prog G0 18 [AV.agg (encHm h)] (AV.agg (encHm h)) ∧ PCall Tryz.prog G0 19 [AV.agg (encHm h)] (AV.tup [AV.agg [AV.i (iV1 h), AV.i (iV2 h)], AV.i (fHm h)]) ∧ PCall Tryz.prog G0 18 [AV.agg (encHm
   h)] (AV.agg (encHm h)) ∧ PCall Tryz.prog G0 20 [AV.agg (encHm h)] (AV.tup [AV.agg [AV.i (lV1 h), AV.i (lV2 h)], AV.i (fHm h)]) ∧ PCall Tryz.prog G0 18 [AV.agg (encHm h)] (AV.agg (encHm h)) ∧ PCall Tryz.prog G0 22 [AV.sl 19
   (List.map encMs l)] (AV.sl 19 (List.map encMs l)) ∧ PCall Tryz.prog G0 23 [AV.sl 1 (List.map encI x.s)] (AV.sl 1 (List.map encI x.s)) ∧ PCall Tryz.prog G0 21 [AV.agg (encHm h), AV.sl 19 (List.map encMs l), AV.sl 1 (List.map encI
   x.s)] (AV.tup [AV.agg (encHm (afV h l x.s)), AV.i (ckE h l x.s)]) ∧ PCall Tryz.prog G0 18 [AV.agg (encHm h)] (AV.agg (encHm h)) ∧ PCall Tryz.prog G0 22 [AV.sl 19 (List.map encMs l)] (AV.sl 19 (List.map encMs l)) ∧ PCall Tryz.prog
   G0 23 [AV.sl 1 (List.map encI x.s)] (AV.sl 1 (List.map encI x.s)) ∧ PCall Tryz.prog G0 24 [AV.agg (encHm h), AV.sl 19 (List.map encMs l), AV.sl 1 (List.map encI x.s), AV.i x.t] (AV.tup [AV.bool (suV h l x.s x.t), AV.i (suE h l x.s
   x.t)]) ∧ PCall Tryz.prog G0 18 [AV.agg (encHm h)] (AV.agg (encHm h)) ∧ PCall Tryz.prog G0 22 [AV.sl 19 (List.map encMs l)] (AV.sl 19 (List.map encMs l)) ∧ PCall Tryz.prog G0 23 [AV.sl 1 (List.map encI x.s)] (AV.sl 1 (List.map encI
   x.s)) ∧ PCall Tryz.prog G0 25 [AV.agg (encHm h), AV.sl 19 (List.map encMs l), AV.sl 1 (List.map encI x.s), AV.agg [AV.i x.m.a, AV.i x.m.b]] (AV.tup [AV.str (veV h l x.s x.m), AV.i (veE h l x.s x.m)]) ∧ PCall Tryz.prog G0 26 [AV.agg
   (encHm h)] (AV.i (fHm h)) ∧ PCall Tryz.prog G0 27 [AV.agg (encHm h), AV.sl 19 (List.map encMs l)] (AV.i (fMs h l)) ∧ (AS.mk [(1, AV.sl 19 (List.map encMs l)), (3, AV.elt 3 [(encHm h)] 0 0), (5, AV.elt 5 [(encWk x)] 0 0), (7, AV.i
   (ouV h)), (8, AV.i (fHm h)), (9, AV.elt 2 [[AV.i (iV1 h), AV.i (iV2 h)]] 0 0), (10, AV.i (fHm h)), (11, AV.elt 2 [[AV.i (lV1 h), AV.i (lV2 h)]] 0 0), (12, AV.i (fHm h)), (13, AV.elt 3 [(encHm (afV h l x.s))] 0 0), (14, AV.i (ckE h
   l x.s)), (15, AV.bool (suV h l x.s x.t)), (16, AV.i (suE h l x.s x.t)), (17, AV.str (veV h l x.s x.m)), (18, AV.i (veE h l x.s x.m)), (19, AV.i (fHm h)), (20, AV.i (fMs h l)), (21, AV.i 0), (22, AV.bool false), (23, AV.str []),
   (24, AV.ptr 1 0), (25, AV.ptr 2 0), (26, AV.ptr 3 0)] [(1, ABlk.box [AV.i 0, AV.i 0]), (2, ABlk.box [AV.i 0, AV.i 0]), (3, ABlk.box [AV.str [], AV.i 0, AV.sl 25 []])] 4 = AS.mk [(1, AV.sl 19 (List.map encMs l)), (3, AV.elt 3
   [(encHm h)] 0 0), (5, AV.elt 5 [(encWk x)] 0 0), (7, AV.i (ouV h)), (8, AV.i (fHm h)), (9, AV.elt 2 [[AV.i (iV1 h), AV.i (iV2 h)]] 0 0), (10, AV.i (fHm h)), (11, AV.elt 2 [[AV.i (lV1 h), AV.i (lV2 h)]] 0 0), (12, AV.i (fHm h)),
   (13, AV.elt 3 [(encHm (afV h l x.s))] 0 0), (14, AV.i (ckE h l x.s)), (15, AV.bool (suV h l x.s x.t)), (16, AV.i (suE h l x.s x.t)), (17, AV.str (veV h l x.s x.m)), (18, AV.i (veE h l x.s x.m)), (19, AV.i (fHm h)), (20, AV.i (fMs h
   l)), (21, AV.i 0), (22, AV.bool false), (23, AV.str []), (24, AV.ptr 1 0), (25, AV.ptr 2 0), (26, AV.ptr 3 0)] [(1, ABlk.box [AV.i 0, AV.i 0]), (2, ABlk.box [AV.i 0, AV.i 0]), (3, ABlk.box [AV.str [], AV.i 0, AV.sl 25 []])] 4 ∧ K3
   h l x) ∧ (K3 h l x → (((fHm h == 0) = true → PCall Tryz.prog G0 28 [AV.agg (encHm h)] (AV.i (outM h.ws h.ws.length)) ∧ PCall Tryz.prog G0 29 [AV.agg (encHm h)] (AV.agg [AV.i (inL h.ws h.ws.length), AV.i (inH h.ws h.ws.length)]) ∧
   PCall Tryz.prog G0 30 [AV.agg (encHm h)] (AV.agg [AV.i (lvl (inL h.ws h.ws.length)), AV.i (lvl (inH h.ws h.ws.length))]) ∧ AS.mk [(1, AV.sl 19 (List.map encMs l)), (3, AV.elt 3 [(encHm h)] 0 0), (5, AV.elt 5 [(encWk x)] 0 0), (7,
   AV.i (ouV h)), (8, AV.i (fHm h)), (9, AV.elt 2 [[AV.i (iV1 h), AV.i (iV2 h)]] 0 0), (10, AV.i (fHm h)), (11, AV.elt 2 [[AV.i (lV1 h), AV.i (lV2 h)]] 0 0), (12, AV.i (fHm h)), (13, AV.elt 3 [(encHm (afV h l x.s))] 0 0), (14, AV.i
   (ckE h l x.s)), (15, AV.bool (suV h l x.s x.t)), (16, AV.i (suE h l x.s x.t)), (17, AV.str (veV h l x.s x.m)), (18, AV.i (veE h l x.s x.m)), (19, AV.i (fHm h)), (20, AV.i (fMs h l)), (22, AV.bool false), (23, AV.str []), (26,
   AV.ptr 1 0), (21, AV.i (outM h.ws h.ws.length)), (24, AV.elt 2 [[AV.i (inL h.ws h.ws.length), AV.i (inH h.ws h.ws.length)]] 0 0), (25, AV.elt 2 [[AV.i (lvl (inL h.ws h.ws.length)), AV.i (lvl (inH h.ws h.ws.length))]] 0 0)] [(1,
   ABlk.box [AV.str [], AV.i 0, AV.sl 25 []])] 2 = AS.mk [(1, AV.sl 19 (List.map encMs l)), (3, AV.elt 3 [(encHm h)] 0 0), (5, AV.elt 5 [(encWk x)] 0 0), (7, AV.i (ouV h)), (8, AV.i (fHm h)), (9, AV.elt 2 [[AV.i (iV1 h), AV.i (iV2
   h)]] 0 0), (10, AV.i (fHm h)), (11, AV.elt 2 [[AV.i (lV1 h), AV.i (lV2 h)]] 0 0), (12, AV.i (fHm h)), (13, AV.elt 3 [(encHm (afV h l x.s))] 0 0), (14, AV.i (ckE h l x.s)), (15, AV.bool (suV h l x.s x.t)), (16, AV.i (suE h l x.s
   x.t)), (17, AV.str (veV h l x.s x.m)), (18, AV.i (veE h l x.s x.m)), (19, AV.i (fHm h)), (20, AV.i (fMs h l)), (22, AV.bool false), (23, AV.str []), (26, AV.ptr 1 0), (21, AV.i (ouV h)), (24, AV.elt 2 [[AV.i (iV1 h), AV.i (iV2 h)]]
   0 0), (25, AV.elt 2 [[AV.i (lV1 h), AV.i (lV2 h)]] 0 0)] [(1, ABlk.box [AV.str [], AV.i 0, AV.sl 25 []])] 2 ∧ K3 h l x) ∧ ((fHm h == 0) = false → AS.mk [(1, AV.sl 19 (List.map encMs l)), (3, AV.elt 3 [(encHm h)] 0 0), (5, AV.elt 5
   [(encWk x)] 0 0), (7, AV.i (ouV h)), (8, AV.i (fHm h)), (9, AV.elt 2 [[AV.i (iV1 h), AV.i (iV2 h)]] 0 0), (10, AV.i (fHm h)), (11, AV.elt 2 [[AV.i (lV1 h), AV.i (lV2 h)]] 0 0), (12, AV.i (fHm h)), (13, AV.elt 3 [(encHm (afV h l
   x.s))] 0 0), (14, AV.i (ckE h l x.s)), (15, AV.bool (suV h l x.s x.t)), (16, AV.i (suE h l x.s x.t)), (17, AV.str (veV h l x.s x.m)), (18, AV.i (veE h l x.s x.m)), (19, AV.i (fHm h)), (20, AV.i (fMs h l)), (22, AV.bool false), (23,
   AV.str []), (26, AV.ptr 1 0), (21, AV.i 0), (24, AV.elt 2 [[AV.i 0, AV.i 0]] 0 0), (25, AV.elt 2 [[AV.i 0, AV.i 0]] 0 0)] [(1, ABlk.box [AV.str [], AV.i 0, AV.sl 25 []])] 2 = AS.mk [(1, AV.sl 19 (List.map encMs l)), (3, AV.elt 3
   [(encHm h)] 0 0), (5, AV.elt 5 [(encWk x)] 0 0), (7, AV.i (ouV h)), (8, AV.i (fHm h)), (9, AV.elt 2 [[AV.i (iV1 h), AV.i (iV2 h)]] 0 0), (10, AV.i (fHm h)), (11, AV.elt 2 [[AV.i (lV1 h), AV.i (lV2 h)]] 0 0), (12, AV.i (fHm h)),
   (13, AV.elt 3 [(encHm (afV h l x.s))] 0 0), (14, AV.i (ckE h l x.s)), (15, AV.bool (suV h l x.s x.t)), (16, AV.i (suE h l x.s x.t)), (17, AV.str (veV h l x.s x.m)), (18, AV.i (veE h l x.s x.m)), (19, AV.i (fHm h)), (20, AV.i (fMs h
   l)), (22, AV.bool false), (23, AV.str []), (26, AV.ptr 1 0), (21, AV.i (ouV h)), (24, AV.elt 2 [[AV.i (iV1 h), AV.i (iV2 h)]] 0 0), (25, AV.elt 2 [[AV.i (lV1 h), AV.i (lV2 h)]] 0 0)] [(1, ABlk.box [AV.str [], AV.i 0, AV.sl 25 []])]
   2 ∧ K3 h l x)) ∧ (K3 h l x → (((fMs h l == 0) = true → PCall Tryz.prog G0 31 [AV.sl 19 (List.map encMs l), AV.sl 1 (List.map encI x.s)] (AV.i (fSet l x.s)) ∧ AS.mk [(1, AV.sl 19 (List.map encMs l)), (3, AV.elt 3 [(encHm h)] 0 0),
   (5, AV.elt 5 [(encWk x)] 0 0), (7, AV.i (ouV h)), (8, AV.i (fHm h)), (9, AV.elt 2 [[AV.i (iV1 h), AV.i (iV2 h)]] 0 0), (10, AV.i (fHm h)), (11, AV.elt 2 [[AV.i (lV1 h), AV.i (lV2 h)]] 0 0), (12, AV.i (fHm h)), (13, AV.elt 3 [(encHm
   (afV h l x.s))] 0 0), (14, AV.i (ckE h l x.s)), (15, AV.bool (suV h l x.s x.t)), (16, AV.i (suE h l x.s x.t)), (17, AV.str (veV h l x.s x.m)), (18, AV.i (veE h l x.s x.m)), (19, AV.i (fHm h)), (20, AV.i (fSet l x.s)), (22, AV.bool
   false), (23, AV.str []), (26, AV.ptr 1 0), (21, AV.i (ouV h)), (24, AV.elt 2 [[AV.i (iV1 h), AV.i (iV2 h)]] 0 0), (25, AV.elt 2 [[AV.i (lV1 h), AV.i (lV2 h)]] 0 0)] [(1, ABlk.box [AV.str [], AV.i 0, AV.sl 25 []])] 2 = AS.mk [(1,
   AV.sl 19 (List.map encMs l)), (3, AV.elt 3 [(encHm h)] 0 0), (5, AV.elt 5 [(encWk x)] 0 0), (7, AV.i (ouV h)), (8, AV.i (fHm h)), (9, AV.elt 2 [[AV.i (iV1 h), AV.i (iV2 h)]] 0 0), (10, AV.i (fHm h)), (11, AV.elt 2 [[AV.i (lV1 h),
   AV.i (lV2 h)]] 0 0), (12, AV.i (fHm h)), (13, AV.elt 3 [(encHm (afV h l x.s))] 0 0), (14, AV.i (ckE h l x.s)), (15, AV.bool (suV h l x.s x.t)), (16, AV.i (suE h l x.s x.t)), (17, AV.str (veV h l x.s x.m)), (18, AV.i (veE h l x.s
   x.m)), (19, AV.i (fHm h)), (20, AV.i (ckE h l x.s)), (22, AV.bool false), (23, AV.str []), (26, AV.ptr 1 0), (21, AV.i (ouV h)), (24, AV.elt 2 [[AV.i (iV1 h), AV.i (iV2 h)]] 0 0), (25, AV.elt 2 [[AV.i (lV1 h), AV.i (lV2 h)]] 0 0)]
   [(1, ABlk.box [AV.str [], AV.i 0, AV.sl 25 []])] 2 ∧ K3 h l x) ∧ ((fMs h l == 0) = false → AS.mk [(1, AV.sl 19 (List.map encMs l)), (3, AV.elt 3 [(encHm h)] 0 0), (5, AV.elt 5 [(encWk x)] 0 0), (7, AV.i (ouV h)), (8, AV.i (fHm h)),
   (9, AV.elt 2 [[AV.i (iV1 h), AV.i (iV2 h)]] 0 0), (10, AV.i (fHm h)), (11, AV.elt 2 [[AV.i (lV1 h), AV.i (lV2 h)]] 0 0), (12, AV.i (fHm h)), (13, AV.elt 3 [(encHm (afV h l x.s))] 0 0), (14, AV.i (ckE h l x.s)), (15, AV.bool (suV h
   l x.s x.t)), (16, AV.i (suE h l x.s x.t)), (17, AV.str (veV h l x.s x.m)), (18, AV.i (veE h l x.s x.m)), (19, AV.i (fHm h)), (20, AV.i (fMs h l)), (22, AV.bool false), (23, AV.str []), (26, AV.ptr 1 0), (21, AV.i (ouV h)), (24,
   AV.elt 2 [[AV.i (iV1 h), AV.i (iV2 h)]] 0 0), (25, AV.elt 2 [[AV.i (lV1 h), AV.i (lV2 h)]] 0 0)] [(1, ABlk.box [AV.str [], AV.i 0, AV.sl 25 []])] 2 = AS.mk [(1, AV.sl 19 (List.map encMs l)), (3, AV.elt 3 [(encHm h)] 0 0), (5,
   AV.elt 5 [(encWk x)] 0 0), (7, AV.i (ouV h)), (8, AV.i (fHm h)), (9, AV.elt 2 [[AV.i (iV1 h), AV.i (iV2 h)]] 0 0), (10, AV.i (fHm h)), (11, AV.elt 2 [[AV.i (lV1 h), AV.i (lV2 h)]] 0 0), (12, AV.i (fHm h)), (13, AV.elt 3 [(encHm
   (afV h l x.s))] 0 0), (14, AV.i (ckE h l x.s)), (15, AV.bool (suV h l x.s x.t)), (16, AV.i (suE h l x.s x.t)), (17, AV.str (veV h l x.s x.m)), (18, AV.i (veE h l x.s x.m)), (19, AV.i (fHm h)), (20, AV.i (ckE h l x.s)), (22, AV.bool
   false), (23, AV.str []), (26, AV.ptr 1 0), (21, AV.i (ouV h)), (24, AV.elt 2 [[AV.i (iV1 h), AV.i (iV2 h)]] 0 0), (25, AV.elt 2 [[AV.i (lV1 h), AV.i (lV2 h)]] 0 0)] [(1, ABlk.box [AV.str [], AV.i 0, AV.sl 25 []])] 2 ∧ K3 h l x)) ∧
   (K3 h l x → (PCall Tryz.prog G0 33 [AV.i x.t] (AV.i (sWithin x.t (0 : Int) (10000000000000 : Int))) ∧ PCall Tryz.prog G0 32 [AV.sl 1 [[AV.i (ckE h l x.s)], [AV.i (sWithin x.t (0 : Int) (10000000000000 : Int))]]] (AV.i (sFirst [hdI
   [AV.i (ckE h l x.s)], hdI [AV.i (sWithin x.t (0 : Int) (10000000000000 : Int))]])) ∧ PCall Tryz.prog G0 34 [AV.agg [AV.i x.m.a, AV.i x.m.b]] (AV.i (fEnds x.m.a x.m.b (10000000000000 : Int))) ∧ PCall Tryz.prog G0 32 [AV.sl 1 [[AV.i
   (ckE h l x.s)], [AV.i (fEnds x.m.a x.m.b (10000000000000 : Int))]]] (AV.i (sFirst [hdI [AV.i (ckE h l x.s)], hdI [AV.i (fEnds x.m.a x.m.b (10000000000000 : Int))]])) ∧ AS.mk [(1, AV.sl 19 (List.map encMs l)), (3, AV.elt 3 [(encHm
   h)] 0 0), (5, AV.elt 5 [(encWk x)] 0 0), (7, AV.i (ouV h)), (8, AV.i (fHm h)), (9, AV.elt 2 [[AV.i (iV1 h), AV.i (iV2 h)]] 0 0), (10, AV.i (fHm h)), (11, AV.elt 2 [[AV.i (lV1 h), AV.i (lV2 h)]] 0 0), (12, AV.i (fHm h)), (13, AV.elt
   3 [(encHm (afV h l x.s))] 0 0), (14, AV.i (ckE h l x.s)), (15, AV.bool (suV h l x.s x.t)), (16, AV.i (suE h l x.s x.t)), (17, AV.str (veV h l x.s x.m)), (18, AV.i (veE h l x.s x.m)), (19, AV.i (fHm h)), (20, AV.i (ckE h l x.s)),
   (22, AV.bool false), (23, AV.str []), (26, AV.ptr 1 0), (27, AV.i (sFirst [hdI [AV.i (ckE h l x.s)], hdI [AV.i (sWithin x.t (0 : Int) (10000000000000 : Int))]])), (28, AV.i (sFirst [hdI [AV.i (ckE h l x.s)], hdI [AV.i (fEnds x.m.a
   x.m.b (10000000000000 : Int))]])), (21, AV.i (ouV h)), (24, AV.elt 2 [[AV.i (iV1 h), AV.i (iV2 h)]] 0 0), (25, AV.elt 2 [[AV.i (lV1 h), AV.i (lV2 h)]] 0 0)] [(1, ABlk.box [AV.str [], AV.i 0, AV.sl 25 []])] 2 = AS.mk [(1, AV.sl 19
   (List.map encMs l)), (3, AV.elt 3 [(encHm h)] 0 0), (5, AV.elt 5 [(encWk x)] 0 0), (7, AV.i (ouV h)), (8, AV.i (fHm h)), (9, AV.elt 2 [[AV.i (iV1 h), AV.i (iV2 h)]] 0 0), (10, AV.i (fHm h)), (11, AV.elt 2 [[AV.i (lV1 h), AV.i (lV2
   h)]] 0 0), (12, AV.i (fHm h)), (13, AV.elt 3 [(encHm (afV h l x.s))] 0 0), (14, AV.i (ckE h l x.s)), (15, AV.bool (suV h l x.s x.t)), (16, AV.i (suE h l x.s x.t)), (17, AV.str (veV h l x.s x.m)), (18, AV.i (veE h l x.s x.m)), (19,
   AV.i (fHm h)), (20, AV.i (ckE h l x.s)), (22, AV.bool false), (23, AV.str []), (26, AV.ptr 1 0), (27, AV.i (suE h l x.s x.t)), (28, AV.i (veE h l x.s x.m)), (21, AV.i (ouV h)), (24, AV.elt 2 [[AV.i (iV1 h), AV.i (iV2 h)]] 0 0),
   (25, AV.elt 2 [[AV.i (lV1 h), AV.i (lV2 h)]] 0 0)] [(1, ABlk.box [AV.str [], AV.i 0, AV.sl 25 []])] 2 ∧ K3 h l x) ∧ (K3 h l x → (((ckE h l x.s == 0) = true → PCall Tryz.prog G0 35 [AV.agg (encHm h), AV.sl 19 (List.map encMs l),
   AV.sl 1 (List.map encI x.s)] (AV.agg [AV.str h.nm, AV.i h.pe, AV.sl 25 (List.map encWn (aft h.ws l x.s))]) ∧ AS.mk [(1, AV.sl 19 (List.map encMs l)), (3, AV.elt 3 [(encHm h)] 0 0), (5, AV.elt 5 [(encWk x)] 0 0), (7, AV.i (ouV h)),
   (8, AV.i (fHm h)), (9, AV.elt 2 [[AV.i (iV1 h), AV.i (iV2 h)]] 0 0), (10, AV.i (fHm h)), (11, AV.elt 2 [[AV.i (lV1 h), AV.i (lV2 h)]] 0 0), (12, AV.i (fHm h)), (13, AV.elt 3 [(encHm (afV h l x.s))] 0 0), (14, AV.i (ckE h l x.s)),
   (15, AV.bool (suV h l x.s x.t)), (16, AV.i (suE h l x.s x.t)), (17, AV.str (veV h l x.s x.m)), (18, AV.i (veE h l x.s x.m)), (19, AV.i (fHm h)), (20, AV.i (ckE h l x.s)), (22, AV.bool false), (23, AV.str []), (26, AV.elt 3 [[AV.str
   h.nm, AV.i h.pe, AV.sl 25 (List.map encWn (aft h.ws l x.s))]] 0 0), (27, AV.i (suE h l x.s x.t)), (28, AV.i (veE h l x.s x.m)), (21, AV.i (ouV h)), (24, AV.elt 2 [[AV.i (iV1 h), AV.i (iV2 h)]] 0 0), (25, AV.elt 2 [[AV.i (lV1 h),
   AV.i (lV2 h)]] 0 0)] [] 1 = AS.mk [(1, AV.sl 19 (List.map encMs l)), (3, AV.elt 3 [(encHm h)] 0 0), (5, AV.elt 5 [(encWk x)] 0 0), (7, AV.i (ouV h)), (8, AV.i (fHm h)), (9, AV.elt 2 [[AV.i (iV1 h), AV.i (iV2 h)]] 0 0), (10, AV.i
   (fHm h)), (11, AV.elt 2 [[AV.i (lV1 h), AV.i (lV2 h)]] 0 0), (12, AV.i (fHm h)), (13, AV.elt 3 [(encHm (afV h l x.s))] 0 0), (14, AV.i (ckE h l x.s)), (15, AV.bool (suV h l x.s x.t)), (16, AV.i (suE h l x.s x.t)), (17, AV.str (veV
   h l x.s x.m)), (18, AV.i (veE h l x.s x.m)), (19, AV.i (fHm h)), (20, AV.i (ckE h l x.s)), (22, AV.bool false), (23, AV.str []), (26, AV.elt 3 [(encHm (afV h l x.s))] 0 0), (27, AV.i (suE h l x.s x.t)), (28, AV.i (veE h l x.s
   x.m)), (21, AV.i (ouV h)), (24, AV.elt 2 [[AV.i (iV1 h), AV.i (iV2 h)]] 0 0), (25, AV.elt 2 [[AV.i (lV1 h), AV.i (lV2 h)]] 0 0)] [] 1 ∧ K3 h l x) ∧ ((ckE h l x.s == 0) = false → AS.mk [(1, AV.sl 19 (List.map encMs l)), (3, AV.elt 3
   [(encHm h)] 0 0), (5, AV.elt 5 [(encWk x)] 0 0), (7, AV.i (ouV h)), (8, AV.i (fHm h)), (9, AV.elt 2 [[AV.i (iV1 h), AV.i (iV2 h)]] 0 0), (10, AV.i (fHm h)), (11, AV.elt 2 [[AV.i (lV1 h), AV.i (lV2 h)]] 0 0), (12, AV.i (fHm h)),
   (13, AV.elt 3 [(encHm (afV h l x.s))] 0 0), (14, AV.i (ckE h l x.s)), (15, AV.bool (suV h l x.s x.t)), (16, AV.i (suE h l x.s x.t)), (17, AV.str (veV h l x.s x.m)), (18, AV.i (veE h l x.s x.m)), (19, AV.i (fHm h)), (20, AV.i (ckE h
   l x.s)), (22, AV.bool false), (23, AV.str []), (26, AV.elt 3 [[AV.str [], AV.i 0, AV.sl 25 []]] 0 0), (27, AV.i (suE h l x.s x.t)), (28, AV.i (veE h l x.s x.m)), (21, AV.i (ouV h)), (24, AV.elt 2 [[AV.i (iV1 h), AV.i (iV2 h)]] 0
   0), (25, AV.elt 2 [[AV.i (lV1 h), AV.i (lV2 h)]] 0 0)] [] 1 = AS.mk [(1, AV.sl 19 (List.map encMs l)), (3, AV.elt 3 [(encHm h)] 0 0), (5, AV.elt 5 [(encWk x)] 0 0), (7, AV.i (ouV h)), (8, AV.i (fHm h)), (9, AV.elt 2 [[AV.i (iV1 h),
   AV.i (iV2 h)]] 0 0), (10, AV.i (fHm h)), (11, AV.elt 2 [[AV.i (lV1 h), AV.i (lV2 h)]] 0 0), (12, AV.i (fHm h)), (13, AV.elt 3 [(encHm (afV h l x.s))] 0 0), (14, AV.i (ckE h l x.s)), (15, AV.bool (suV h l x.s x.t)), (16, AV.i (suE h
   l x.s x.t)), (17, AV.str (veV h l x.s x.m)), (18, AV.i (veE h l x.s x.m)), (19, AV.i (fHm h)), (20, AV.i (ckE h l x.s)), (22, AV.bool false), (23, AV.str []), (26, AV.elt 3 [(encHm (afV h l x.s))] 0 0), (27, AV.i (suE h l x.s
   x.t)), (28, AV.i (veE h l x.s x.m)), (21, AV.i (ouV h)), (24, AV.elt 2 [[AV.i (iV1 h), AV.i (iV2 h)]] 0 0), (25, AV.elt 2 [[AV.i (lV1 h), AV.i (lV2 h)]] 0 0)] [] 1 ∧ K3 h l x)) ∧ (K3 h l x → (((suE h l x.s x.t == 0) = true → PCall
   Tryz.prog G0 36 [AV.agg (encHm h), AV.sl 19 (List.map encMs l), AV.sl 1 (List.map encI x.s), AV.i x.t] (AV.bool (decide (afU h l x.s ≤ x.t))) ∧ AS.mk [(1, AV.sl 19 (List.map encMs l)), (3, AV.elt 3 [(encHm h)] 0 0), (5, AV.elt 5
   [(encWk x)] 0 0), (7, AV.i (ouV h)), (8, AV.i (fHm h)), (9, AV.elt 2 [[AV.i (iV1 h), AV.i (iV2 h)]] 0 0), (10, AV.i (fHm h)), (11, AV.elt 2 [[AV.i (lV1 h), AV.i (lV2 h)]] 0 0), (12, AV.i (fHm h)), (13, AV.elt 3 [(encHm (afV h l
   x.s))] 0 0), (14, AV.i (ckE h l x.s)), (15, AV.bool (suV h l x.s x.t)), (16, AV.i (suE h l x.s x.t)), (17, AV.str (veV h l x.s x.m)), (18, AV.i (veE h l x.s x.m)), (19, AV.i (fHm h)), (20, AV.i (ckE h l x.s)), (22, AV.bool (decide
   (afU h l x.s ≤ x.t))), (23, AV.str []), (26, AV.elt 3 [(encHm (afV h l x.s))] 0 0), (27, AV.i (suE h l x.s x.t)), (28, AV.i (veE h l x.s x.m)), (21, AV.i (ouV h)), (24, AV.elt 2 [[AV.i (iV1 h), AV.i (iV2 h)]] 0 0), (25, AV.elt 2
   [[AV.i (lV1 h), AV.i (lV2 h)]] 0 0)] [] 1 = AS.mk [(1, AV.sl 19 (List.map encMs l)), (3, AV.elt 3 [(encHm h)] 0 0), (5, AV.elt 5 [(encWk x)] 0 0), (7, AV.i (ouV h)), (8, AV.i (fHm h)), (9, AV.elt 2 [[AV.i (iV1 h), AV.i (iV2 h)]] 0
   0), (10, AV.i (fHm h)), (11, AV.elt 2 [[AV.i (lV1 h), AV.i (lV2 h)]] 0 0), (12, AV.i (fHm h)), (13, AV.elt 3 [(encHm (afV h l x.s))] 0 0), (14, AV.i (ckE h l x.s)), (15, AV.bool (suV h l x.s x.t)), (16, AV.i (suE h l x.s x.t)),
   (17, AV.str (veV h l x.s x.m)), (18, AV.i (veE h l x.s x.m)), (19, AV.i (fHm h)), (20, AV.i (ckE h l x.s)), (22, AV.bool (suV h l x.s x.t)), (23, AV.str []), (26, AV.elt 3 [(encHm (afV h l x.s))] 0 0), (27, AV.i (suE h l x.s x.t)),
   (28, AV.i (veE h l x.s x.m)), (21, AV.i (ouV h)), (24, AV.elt 2 [[AV.i (iV1 h), AV.i (iV2 h)]] 0 0), (25, AV.elt 2 [[AV.i (lV1 h), AV.i (lV2 h)]] 0 0)] [] 1 ∧ K3 h l x) ∧ ((suE h l x.s x.t == 0) = false → AS.mk [(1, AV.sl 19
   (List.map encMs l)), (3, AV.elt 3 [(encHm h)] 0 0), (5, AV.elt 5 [(encWk x)] 0 0), (7, AV.i (ouV h)), (8, AV.i (fHm h)), (9, AV.elt 2 [[AV.i (iV1 h), AV.i (iV2 h)]] 0 0), (10, AV.i (fHm h)), (11, AV.elt 2 [[AV.i (lV1 h), AV.i (lV2
   h)]] 0 0), (12, AV.i (fHm h)), (13, AV.elt 3 [(encHm (afV h l x.s))] 0 0), (14, AV.i (ckE h l x.s)), (15, AV.bool (suV h l x.s x.t)), (16, AV.i (suE h l x.s x.t)), (17, AV.str (veV h l x.s x.m)), (18, AV.i (veE h l x.s x.m)), (19,
   AV.i (fHm h)), (20, AV.i (ckE h l x.s)), (22, AV.bool false), (23, AV.str []), (26, AV.elt 3 [(encHm (afV h l x.s))] 0 0), (27, AV.i (suE h l x.s x.t)), (28, AV.i (veE h l x.s x.m)), (21, AV.i (ouV h)), (24, AV.elt 2 [[AV.i (iV1
   h), AV.i (iV2 h)]] 0 0), (25, AV.elt 2 [[AV.i (lV1 h), AV.i (lV2 h)]] 0 0)] [] 1 = AS.mk [(1, AV.sl 19 (List.map encMs l)), (3, AV.elt 3 [(encHm h)] 0 0), (5, AV.elt 5 [(encWk x)] 0 0), (7, AV.i (ouV h)), (8, AV.i (fHm h)), (9,
   AV.elt 2 [[AV.i (iV1 h), AV.i (iV2 h)]] 0 0), (10, AV.i (fHm h)), (11, AV.elt 2 [[AV.i (lV1 h), AV.i (lV2 h)]] 0 0), (12, AV.i (fHm h)), (13, AV.elt 3 [(encHm (afV h l x.s))] 0 0), (14, AV.i (ckE h l x.s)), (15, AV.bool (suV h l
   x.s x.t)), (16, AV.i (suE h l x.s x.t)), (17, AV.str (veV h l x.s x.m)), (18, AV.i (veE h l x.s x.m)), (19, AV.i (fHm h)), (20, AV.i (ckE h l x.s)), (22, AV.bool (suV h l x.s x.t)), (23, AV.str []), (26, AV.elt 3 [(encHm (afV h l
   x.s))] 0 0), (27, AV.i (suE h l x.s x.t)), (28, AV.i (veE h l x.s x.m)), (21, AV.i (ouV h)), (24, AV.elt 2 [[AV.i (iV1 h), AV.i (iV2 h)]] 0 0), (25, AV.elt 2 [[AV.i (lV1 h), AV.i (lV2 h)]] 0 0)] [] 1 ∧ K3 h l x)) ∧ (K3 h l x →
   (((veE h l x.s x.m == 0) = true → PCall Tryz.prog G0 37 [AV.agg (encHm h), AV.sl 19 (List.map encMs l), AV.sl 1 (List.map encI x.s), AV.agg [AV.i x.m.a, AV.i x.m.b]] (AV.str (vdS (afL h l x.s) (afU h l x.s) x.m)) ∧ AS.mk [(1, AV.sl
   19 (List.map encMs l)), (3, AV.elt 3 [(encHm h)] 0 0), (5, AV.elt 5 [(encWk x)] 0 0), (7, AV.i (ouV h)), (8, AV.i (fHm h)), (9, AV.elt 2 [[AV.i (iV1 h), AV.i (iV2 h)]] 0 0), (10, AV.i (fHm h)), (11, AV.elt 2 [[AV.i (lV1 h), AV.i
   (lV2 h)]] 0 0), (12, AV.i (fHm h)), (13, AV.elt 3 [(encHm (afV h l x.s))] 0 0), (14, AV.i (ckE h l x.s)), (15, AV.bool (suV h l x.s x.t)), (16, AV.i (suE h l x.s x.t)), (17, AV.str (veV h l x.s x.m)), (18, AV.i (veE h l x.s x.m)),
   (19, AV.i (fHm h)), (20, AV.i (ckE h l x.s)), (22, AV.bool (suV h l x.s x.t)), (23, AV.str (vdS (afL h l x.s) (afU h l x.s) x.m)), (26, AV.elt 3 [(encHm (afV h l x.s))] 0 0), (27, AV.i (suE h l x.s x.t)), (28, AV.i (veE h l x.s
   x.m)), (21, AV.i (ouV h)), (24, AV.elt 2 [[AV.i (iV1 h), AV.i (iV2 h)]] 0 0), (25, AV.elt 2 [[AV.i (lV1 h), AV.i (lV2 h)]] 0 0)] [] 1 = AS.mk [(1, AV.sl 19 (List.map encMs l)), (3, AV.elt 3 [(encHm h)] 0 0), (5, AV.elt 5 [(encWk
   x)] 0 0), (7, AV.i (ouV h)), (8, AV.i (fHm h)), (9, AV.elt 2 [[AV.i (iV1 h), AV.i (iV2 h)]] 0 0), (10, AV.i (fHm h)), (11, AV.elt 2 [[AV.i (lV1 h), AV.i (lV2 h)]] 0 0), (12, AV.i (fHm h)), (13, AV.elt 3 [(encHm (afV h l x.s))] 0
   0), (14, AV.i (ckE h l x.s)), (15, AV.bool (suV h l x.s x.t)), (16, AV.i (suE h l x.s x.t)), (17, AV.str (veV h l x.s x.m)), (18, AV.i (veE h l x.s x.m)), (19, AV.i (fHm h)), (20, AV.i (ckE h l x.s)), (22, AV.bool (suV h l x.s
   x.t)), (23, AV.str (veV h l x.s x.m)), (26, AV.elt 3 [(encHm (afV h l x.s))] 0 0), (27, AV.i (suE h l x.s x.t)), (28, AV.i (veE h l x.s x.m)), (21, AV.i (ouV h)), (24, AV.elt 2 [[AV.i (iV1 h), AV.i (iV2 h)]] 0 0), (25, AV.elt 2
   [[AV.i (lV1 h), AV.i (lV2 h)]] 0 0)] [] 1 ∧ K3 h l x) ∧ ((veE h l x.s x.m == 0) = false → AS.mk [(1, AV.sl 19 (List.map encMs l)), (3, AV.elt 3 [(encHm h)] 0 0), (5, AV.elt 5 [(encWk x)] 0 0), (7, AV.i (ouV h)), (8, AV.i (fHm h)),
   (9, AV.elt 2 [[AV.i (iV1 h), AV.i (iV2 h)]] 0 0), (10, AV.i (fHm h)), (11, AV.elt 2 [[AV.i (lV1 h), AV.i (lV2 h)]] 0 0), (12, AV.i (fHm h)), (13, AV.elt 3 [(encHm (afV h l x.s))] 0 0), (14, AV.i (ckE h l x.s)), (15, AV.bool (suV h
   l x.s x.t)), (16, AV.i (suE h l x.s x.t)), (17, AV.str (veV h l x.s x.m)), (18, AV.i (veE h l x.s x.m)), (19, AV.i (fHm h)), (20, AV.i (ckE h l x.s)), (22, AV.bool (suV h l x.s x.t)), (23, AV.str []), (26, AV.elt 3 [(encHm (afV h l
   x.s))] 0 0), (27, AV.i (suE h l x.s x.t)), (28, AV.i (veE h l x.s x.m)), (21, AV.i (ouV h)), (24, AV.elt 2 [[AV.i (iV1 h), AV.i (iV2 h)]] 0 0), (25, AV.elt 2 [[AV.i (lV1 h), AV.i (lV2 h)]] 0 0)] [] 1 = AS.mk [(1, AV.sl 19 (List.map
   encMs l)), (3, AV.elt 3 [(encHm h)] 0 0), (5, AV.elt 5 [(encWk x)] 0 0), (7, AV.i (ouV h)), (8, AV.i (fHm h)), (9, AV.elt 2 [[AV.i (iV1 h), AV.i (iV2 h)]] 0 0), (10, AV.i (fHm h)), (11, AV.elt 2 [[AV.i (lV1 h), AV.i (lV2 h)]] 0 0),
   (12, AV.i (fHm h)), (13, AV.elt 3 [(encHm (afV h l x.s))] 0 0), (14, AV.i (ckE h l x.s)), (15, AV.bool (suV h l x.s x.t)), (16, AV.i (suE h l x.s x.t)), (17, AV.str (veV h l x.s x.m)), (18, AV.i (veE h l x.s x.m)), (19, AV.i (fHm
   h)), (20, AV.i (ckE h l x.s)), (22, AV.bool (suV h l x.s x.t)), (23, AV.str (veV h l x.s x.m)), (26, AV.elt 3 [(encHm (afV h l x.s))] 0 0), (27, AV.i (suE h l x.s x.t)), (28, AV.i (veE h l x.s x.m)), (21, AV.i (ouV h)), (24, AV.elt
   2 [[AV.i (iV1 h), AV.i (iV2 h)]] 0 0), (25, AV.elt 2 [[AV.i (lV1 h), AV.i (lV2 h)]] 0 0)] [] 1 ∧ K3 h l x)) ∧ (K3 h l x → PCall Tryz.prog G0 18 [AV.agg (encHm h)] (AV.agg (encHm h)) ∧ PCall Tryz.prog G0 38 [AV.agg (encHm h)] (AV.i
   (fHm h)) ∧ AV.bool (fHm h == fHm h) = AV.bool true ∧ PCall Tryz.prog G0 18 [AV.agg (encHm h)] (AV.agg (encHm h)) ∧ PCall Tryz.prog G0 22 [AV.sl 19 (List.map encMs l)] (AV.sl 19 (List.map encMs l)) ∧ PCall Tryz.prog G0 39 [AV.agg
   (encHm h), AV.sl 19 (List.map encMs l)] (AV.i (fMs h l)) ∧ PCall Tryz.prog G0 27 [AV.agg (encHm h), AV.sl 19 (List.map encMs l)] (AV.i (fMs h l)) ∧ AV.bool (fMs h l == fMs h l) = AV.bool true ∧ AV.bool (ouV h == ouV h) = AV.bool
   true ∧ AV.bool (fHm h == fHm h) = AV.bool true ∧ AV.bool (iV1 h == iV1 h && true && (iV2 h == iV2 h && true && true)) = AV.bool true ∧ AV.bool (fHm h == fHm h) = AV.bool true ∧ AV.bool (lV1 h == lV1 h && true && (lV2 h == lV2 h &&
   true && true)) = AV.bool true ∧ AV.bool (fHm h == fHm h) = AV.bool true ∧ PCall Tryz.prog G0 41 [AV.agg (encHm (afV h l x.s))] (AV.agg (encHm (afV h l x.s))) ∧ PCall Tryz.prog G0 40 [AV.agg (encHm (afV h l x.s)), AV.agg (encHm (afV
   h l x.s))] (AV.bool true) ∧ AV.bool (ckE h l x.s == ckE h l x.s) = AV.bool true ∧ AV.bool (suV h l x.s x.t == suV h l x.s x.t) = AV.bool true ∧ AV.bool (suE h l x.s x.t == suE h l x.s x.t) = AV.bool true ∧ AV.bool (veV h l x.s x.m
   == veV h l x.s x.m) = AV.bool true ∧ AV.bool (veE h l x.s x.m == veE h l x.s x.m) = AV.bool true ∧ PCall Tryz.prog G0 16 [] (AV.bool true) ∧ AV.bool true = AV.bool true)))))))) := by
    have hlm : (List.map encMs l).length = l.length := List.length_map _
    have hsm : (List.map encI x.s).length = x.s.length := List.length_map _
    have hafl := afV_len h l x.s
    have : (List.map encI x.s).length = x.s.length := by simp only [List.length_map]
    refine ⟨fun h => h, fun h => h, fun h => by first | exact h | (rw [h]; rfl) | simp_all, fun h => h, fun h => h, fun h => h, fun h => by first | exact h | (rw [h]; rfl) | simp_all, (c14 h), impB_iff.2 fun hb => (c15 l hl), fun h1 => ⟨hA, rfl⟩, fun h1 => ?_⟩
    · have hK := guard3 (h := h) (l := l) (x := x) (by rw [hsm] at h1; exact h1)
      obtain ⟨k1, k2, k3, k4, k5⟩ := hK
      refine ⟨(c18 h (by omega)), (c17 h (by omega) (by omega)), (c18 h (by omega)), (c19 h (by omega) (by omega)), (c18 h (by omega)), (c20 h (by omega) (by omega)), (c18 h (by omega)), ((c22 l (by omega)).un), (c23 _ (by omega)), (c21 h l x.s (by omega) (by omega) (by omega) k4 (by omega)), (c18 h (by omega)), ((c22 l (by omega)).un), (c23 _ (by omega)), (c24 h l x.s x.t (by omega) (by omega) (by omega) k4 (by omega)), (c18 h (by omega)), ((c22 l (by omega)).un), (c23 _ (by omega)), (c25 h l x.s x.m (by omega) (by omega) (by omega) k4 (by omega)), (c26 h (by omega) (by omega)), (c27 h l (by omega) (by omega) (by omega) k4), ⟨rfl, ⟨k1, k2, k3, k4, k5⟩⟩, fun h2 => ?_⟩
      · have hK := h2
        obtain ⟨k1, k2, k3, k4, k5⟩ := h2
        refine ⟨⟨fun h3 => ?_, fun h3 => ?_⟩, fun h3 => ?_⟩
        · have f0 : fHm h = 0 := by simpa using h3
          obtain ⟨f1, f2, f3, f4, f5, f6⟩ := hm_z f0
          refine ⟨(c28 h f3 f6), (c29 h f3 f6), (c30 h f3 f6), ?_, ⟨k1, k2, k3, k4, k5⟩⟩
          · rw [show ouV h = outM h.ws h.ws.length from if_neg (by rw [f0]; decide), show iV1 h = inL h.ws h.ws.length from if_neg (by rw [f0]; decide), show iV2 h = inH h.ws h.ws.length from if_neg (by rw [f0]; decide), show lV1 h = lvl (inL h.ws h.ws.length) from if_neg (by rw [f0]; decide), show lV2 h = lvl (inH h.ws h.ws.length) from if_neg (by rw [f0]; decide)]
        · have f0 : (fHm h != 0) = true := by simpa using h3
          refine ⟨?_, ⟨k1, k2, k3, k4, k5⟩⟩
          · rw [show ouV h = 0 from if_pos f0, show iV1 h = 0 from if_pos f0, show iV2 h = 0 from if_pos f0, show lV1 h = 0 from if_pos f0, show lV2 h = 0 from if_pos f0]
        · have hK := h3
          obtain ⟨k1, k2, k3, k4, k5⟩ := h3
          refine ⟨⟨fun h4 => ?_, fun h4 => ?_⟩, fun h4 => ?_⟩
          · have m0 : fMs h l = 0 := by simpa using h4
            refine ⟨(c31 l x.s (by omega)), ?_, ⟨k1, k2, k3, k4, k5⟩⟩
            · rw [show ckE h l x.s = fSet l x.s from if_neg (by rw [m0]; decide)]
          · have m0 : (fMs h l != 0) = true := by simpa using h4
            refine ⟨?_, ⟨k1, k2, k3, k4, k5⟩⟩
            · rw [show ckE h l x.s = fMs h l from if_pos m0]
          · have hK := h4
            obtain ⟨k1, k2, k3, k4, k5⟩ := h4
            refine ⟨⟨(c33 _), (c32w [_, _] (by simp)), (c34 x.m), (c32w [_, _] (by simp)), rfl, ⟨k1, k2, k3, k4, k5⟩⟩, fun h5 => ?_⟩
            · have hK := h5
              obtain ⟨k1, k2, k3, k4, k5⟩ := h5
              refine ⟨⟨fun h6 => ?_, fun h6 => ?_⟩, fun h6 => ?_⟩
              · have c0 : ckE h l x.s = 0 := by simpa using h6
                obtain ⟨n1, n2⟩ := ck_z c0
                refine ⟨(c35 h l x.s n1 n2 (by omega)), ?_, ⟨k1, k2, k3, k4, k5⟩⟩
                · rw [show afV h l x.s = afH h l x.s from if_neg (by rw [c0]; decide)]
                  rfl
              · have c0 : (ckE h l x.s != 0) = true := by simpa using h6
                refine ⟨?_, ⟨k1, k2, k3, k4, k5⟩⟩
                · rw [show afV h l x.s = ⟨[], 0, []⟩ from if_pos c0]
                  rfl
              · have hK := h6
                obtain ⟨k1, k2, k3, k4, k5⟩ := h6
                refine ⟨⟨fun h7 => ?_, fun h7 => ?_⟩, fun h7 => ?_⟩
                · have s0 : suE h l x.s x.t = 0 := by simpa using h7
                  have s1 := s0
                  unfold suE at s1
                  rw [first_zero] at s1
                  obtain ⟨n1, n2⟩ := ck_z s1.1
                  refine ⟨(c36 h l x.s x.t n1 n2 (by omega)), ?_, ⟨k1, k2, k3, k4, k5⟩⟩
                  · rw [show suV h l x.s x.t = decide (afU h l x.s ≤ x.t) from if_neg (by rw [s0]; decide)]
                · have s0 : (suE h l x.s x.t != 0) = true := by simpa using h7
                  refine ⟨?_, ⟨k1, k2, k3, k4, k5⟩⟩
                  · rw [show suV h l x.s x.t = false from if_pos s0]
                · have hK := h7
                  obtain ⟨k1, k2, k3, k4, k5⟩ := h7
                  refine ⟨⟨fun h8 => ?_, fun h8 => ?_⟩, fun h8 => ?_⟩
                  · have v0 : veE h l x.s x.m = 0 := by simpa using h8
                    have v1 := v0
                    unfold veE at v1
                    rw [first_zero] at v1
                    obtain ⟨n1, n2⟩ := ck_z v1.1
                    refine ⟨(c37 h l x.s x.m n1 n2 (by omega)), ?_, ⟨k1, k2, k3, k4, k5⟩⟩
                    · rw [show veV h l x.s x.m = vdS (afL h l x.s) (afU h l x.s) x.m from if_neg (by rw [v0]; decide)]
                  · have v0 : (veE h l x.s x.m != 0) = true := by simpa using h8
                    refine ⟨?_, ⟨k1, k2, k3, k4, k5⟩⟩
                    · rw [show veV h l x.s x.m = [] from if_pos v0]
                  · have hK := h8
                    obtain ⟨k1, k2, k3, k4, k5⟩ := h8
                    refine ⟨(c18 h (by omega)), (c38 h (by omega) (by omega)), congrArg AV.bool (beq_self_eq_true _), (c18 h (by omega)), ((c22 l (by omega)).un), (c39 h l (by omega) (by omega) (by omega) k4), (c27 h l (by omega) (by omega) (by omega) k4), congrArg AV.bool (beq_self_eq_true _), congrArg AV.bool (beq_self_eq_true _), congrArg AV.bool (beq_self_eq_true _), ?_, congrArg AV.bool (beq_self_eq_true _), ?_, congrArg AV.bool (beq_self_eq_true _), (c41 _ (by omega)), (c40 _ (by omega)), congrArg AV.bool (beq_self_eq_true _), congrArg AV.bool (beq_self_eq_true _), congrArg AV.bool (beq_self_eq_true _), congrArg AV.bool (beq_self_eq_true _), congrArg AV.bool (beq_self_eq_true _), hA, rfl⟩
                    · simp
                    · simp
  exact c_ofH Tryz.f3 (noSyms [25] (fzB (mkB (sp3 h l x) 3 (lits true [(25, 4), (25, 14), (25, 19), (25, 24), (25, 29), (25, 34), (25, 39), (25, 44), (25, 55), (25, 60), (25, 65), (25, 70), (25, 75)]) noLa))) (m3 h l x) (by kernel_rfl) (by kernel_rfl) (by kernel_rfl) (by kernel_rfl) key (by kernel_rfl)
end Go.Proofs.YtfoeefaamjknpaaGreatDoor
namespace Go.Proofs.YtfoeefaamjknpaaGreatDoor
open Go Go.Av Go.RowKit Go.ChangeShapes Go.WideShapes
theorem iw_of {n : Nat} {r : List AV} (hn : shapeT T0 n 3 = [.int .i64]) (hp : plainT T0 n 3 = true) (h : ASh T0 n 3 r) : ∃ x : Int, r = encI x ∧ True := by
  have := ash_shape n 3 r hp h
  rw [hn] at this
  obtain ⟨_, _, rfl, ⟨d, rfl, _⟩, rfl⟩ := this
  exact ⟨d, rfl, trivial⟩
theorem wk_arg {a : AV} (h : ASh1 T0 8 30 a) : ∃ x : Wk, a = .agg (encWk x) := by
  obtain ⟨l, rfl, h2⟩ := ash1_agg (cs := [.sl 6 3 1, .int .i64, .int .i64, .int .i64, .int .i64])
    (ti := ⟨(.struct [(0, 26, 1), (1, 3, 1), (2, 3, 1), (3, 28, 2)]), 5, 56, true, [.ex (.slice none 0 0), .int .i64 0, .int .i64 0, .int .i64 0, .int .i64 0], true⟩)
    (by kernel_rfl) rfl (by kernel_rfl) (by kernel_rfl) h
  obtain ⟨_, _, rfl, ⟨ra, rfl, _, hra⟩, _, _, rfl, ⟨t, rfl, _⟩, _, _, rfl, ⟨d, rfl, _⟩, _, _, rfl, ⟨b, rfl, _⟩, _, _, rfl, ⟨e, rfl, _⟩, rfl⟩ := h2
  obtain ⟨an, rfl, _⟩ := rows_enc (enc := encI) (Q := fun _ => True) (fun r hm => iw_of (by kernel_rfl) (by kernel_rfl) (hra r hm))
  exact ⟨⟨an, t, d, ⟨b, e⟩⟩, rfl⟩
end Go.Proofs.YtfoeefaamjknpaaGreatDoor
namespace Go.Proofs.YtfoeefaamjknpaaGreatDoor
open Go Go.Av Go.RowKit Go.ChangeShapes Go.WideShapes
theorem jp0_3 : (Rows.homeWindowsRow.inPlace == Tryz.prog.inPlace 3) = true := by kernel_rfl
theorem jp1_3 : (Rows.homeWindowsRow.unfollowed == Tryz.prog.unfollowed 3) = true := by kernel_rfl
theorem jp2_3 : (Rows.homeWindowsRow.recurses == Tryz.prog.recurses 3) = true := by kernel_rfl
theorem jp3_3 : (Rows.homeWindowsRow.named == Tryz.prog.varsNamed 3) = true := by kernel_rfl
theorem jfacts_3 : joinedFacts Tryz.prog 3 Tryz.f3 Rows.homeWindowsSpec Rows.homeWindowsRow = true := by
  unfold joinedFacts
  rw [jp0_3, jp1_3, jp2_3, jp3_3]
  kernel_rfl
end Go.Proofs.YtfoeefaamjknpaaGreatDoor
