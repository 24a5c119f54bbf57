/-
  What chapter 7's SameInts and sum return. No condition but the theorems' own. What chapter 7's list and ShortMoves return, and the fees. No condition but the theorems' own. What checked rules and movements have, and that counts, fees and funds are the reference's. No condition but the theorems' own. NightCounts returns true. No condition but the theorems' own. What NightParts says, in plain terms: spans and their complements, sums over nights. No condition but the theorems' own. NightParts returns true. No condition but the theorems' own. What chapter 7's functions of requests and bounds return. No condition but the theorems' own. NightBounds returns true. No condition but the theorems' own.
-/
import Derived.Test.YtimgfogakgakhaaGreatDoorPB
import Derived.Test.YtimgfogakgakhaaGreatDoorAvD
namespace Go.Proofs.YtimgfogakgakhaaGreatDoor
open Go Go.Av Go.RowKit
def leW (r : Ru) (l : List Mv) : Nat → Int
  | 0 => r.q
  | i + 1 => IntKind.i64.wrap (leW r l i - rCo r (l.getD i default))
def inR (r : Ru) (x y : Int) (m : Mv) : Bool := if (if wiR r.a r.b m.mi then decide (niI r.a r.b m.day m.mi ≥ x) else false) then decide (niI r.a r.b m.day m.mi < y) else false
def spW (r : Ru) (x y : Int) (l : List Mv) : Nat → Int
  | 0 => 0
  | i + 1 => if inR r x y (l.getD i default) then IntKind.i64.wrap (spW r x y l i + rCo r (l.getD i default)) else spW r x y l i
end Go.Proofs.YtimgfogakgakhaaGreatDoor
namespace Go.Proofs.YtimgfogakgakhaaGreatDoor
open Go Go.Av Go.RowKit
theorem all_ext {P : Nat → Prop} {g : Nat} (h : ∀ j, j < g → P j) (h2 : P g) : ∀ j, j < g + 1 → P j := fun j hj => by
  by_cases e : j = g
  · rw [e]; exact h2
  · exact h j (by omega)
def la32 (l : List Mv) : LA := {
  pre := [.own 3 165 5, .reno 3 1, .keep [3, 6, 7, 8] [1], .bound 2], post := [.reno 3 1, .keep [3, 6, 7, 8] [1], .bound 2]
  Gh := Nat
  st := fun i => ⟨[(3, .own 1 ((l.take i).map encMv).length), (6, .sl 5 (l.map encMv)), (7, .i (l.map encMv).length), (8, .i i)], [(1, .buf 165 5 ((l.take i).map encMv))], 2⟩
  ok := fun i => i ≤ (l.map encMv).length
  ms := fun i => (l.map encMv).length - i }
theorem c32 (l : List Mv) (hl : l.length ≤ 1000) : PCall Tryz.prog G0 32 [.sl 5 (l.map encMv)] (.fresh 165 5 (l.map encMv)) := by
  have key :
   (∃ (g : Nat), g ≤ (List.map encMv l).length ∧ AS.mk [(3, AV.own 1 0), (6, AV.sl 5 (List.map encMv l)), (7, AV.i (↑(List.map encMv l).length : Int)), (8, AV.i 0)] [(1, ABlk.buf 165 5 [])] 2 = AS.mk [(3, AV.own 1 (List.map encMv
   (List.take g l)).length), (6, AV.sl 5 (List.map encMv l)), (7, AV.i (↑(List.map encMv l).length : Int)), (8, AV.i (↑g : Int))] [(1, ABlk.buf 165 5 (List.map encMv (List.take g l)))] 2) ∧ ∀ (g : Nat), g ≤ (List.map encMv l).length →
   (decide ((↑g : Int) < (↑(List.map encMv l).length : Int)) = true → (0 : Int) ≤ (↑g : Int) ∧ (↑g : Int) < (↑(List.map encMv l).length : Int) ∧ AV.agg (nthR (List.map encMv l) (↑g : Int).toNat) = AV.agg (encMv (l.getD (↑g :
   Int).toNat default)) ∧ (List.map encMv (List.take g l)).length + 1 ≤ 9223372036854775807 ∧ ((List.map encMv (List.take g l)).length + 1) * 64 ≤ 140737488355328 ∧ In64 ((↑g : Int) + 1) ∧ ∃ (g' : Nat), g' ≤ (List.map encMv l).length
   ∧ (List.map encMv l).length - g' < (List.map encMv l).length - g ∧ AS.mk [(3, AV.own 1 ((List.map encMv (List.take g l)).length + 1)), (6, AV.sl 5 (List.map encMv l)), (7, AV.i (↑(List.map encMv l).length : Int)), (8, AV.i ((↑g :
   Int) + 1))] [(1, ABlk.buf 165 5 (List.map encMv (List.take g l) ++ [(encMv (l.getD (↑g : Int).toNat default))]))] 2 = AS.mk [(3, AV.own 1 (List.map encMv (List.take g' l)).length), (6, AV.sl 5 (List.map encMv l)), (7, AV.i
   (↑(List.map encMv l).length : Int)), (8, AV.i (↑g' : Int))] [(1, ABlk.buf 165 5 (List.map encMv (List.take g' l)))] 2) ∧ (decide ((↑g : Int) < (↑(List.map encMv l).length : Int)) = false → AV.fresh 165 5 (List.map encMv (List.take
   g l)) = AV.fresh 165 5 (List.map encMv l)) := by
    have hlm : (List.map encMv l).length = l.length := List.length_map _
    have hT : ∀ g, g ≤ l.length → (List.map encMv (List.take g l)).length = g := fun g hg => by rw [List.length_map, List.length_take]; omega
    refine ⟨⟨0, by omega, rfl⟩, fun g hg => ⟨fun hd => ?_, fun hd => ?_⟩⟩
    · have hlt : g < l.length := by have h9 := of_decide_eq_true hd; have h8 := hg; (try simp only [List.length_map] at h8); (try simp only [List.length_map] at h9); omega
      have : (List.map encMv (List.take g l)).length = g := by simp only [List.length_map, List.length_take]; omega
      refine ⟨(by omega), (by omega), congrArg AV.agg (row_at encMv hlt), (by omega), (by omega), (by unfold In64; omega), ⟨g + 1, by omega, by omega, ?_⟩⟩
      · rw [← take_succ encMv hlt, List.length_append]; rfl
    · have hge : g = l.length := by have h9 := of_decide_eq_false hd; have h8 := hg; (try simp only [List.length_map] at h8); (try simp only [List.length_map] at h9); omega
      subst hge
      rw [List.take_length]
  exact c_of Tryz.f32 (fzB (mkB spS 32 [(4, 1, rdL 5 encMv l 5 true)] (fun i => if i.beq 0 then some (la32 l) else none))) (by kernel_rfl) (by kernel_rfl) (by kernel_rfl) (by kernel_rfl) key (by kernel_rfl)
def okM (m : Mv) : Bool := if (if decide ((m.fl.length : Int) > 40) then true else decide ((m.al.length : Int) > 40)) then false else !decide ((m.ty.length : Int) > 40)
def shM (l : List Mv) : Bool := if (if decide ((l.length : Int) > 12) then (l.length : Int) != 257 else false) then false else l.all okM
def la30 (l : List Mv) : LA := {
  pre := [.keep [0, 3] [], .bound 1], post := [.keep [0, 3] [], .bound 1]
  Gh := Nat
  st := fun i => ⟨[(0, .sl 5 (l.map encMv)), (3, .i i)], [], 1⟩
  ok := fun i => i ≤ l.length ∧ ∀ j, j < i → okM (l.getD j default) = true
  ms := fun i => l.length - i }
theorem all_f {α : Type} [Inhabited α] {l : List α} {q : α → Bool} {g : Nat} (hlt : g < l.length) (h : q (l.getD g default) = false) : l.all q = false :=
  List.all_eq_false.2 ⟨_, getD_mem hlt, by rw [h]; decide⟩
theorem all_t {α : Type} [Inhabited α] {l : List α} {q : α → Bool} (h : ∀ j, j < l.length → q (l.getD j default) = true) : l.all q = true :=
  List.all_eq_true.2 fun t ht => by
    obtain ⟨i, hi, e⟩ := List.mem_iff_getElem.1 ht
    have h := h i hi
    rw [List.getD_eq_getElem?_getD, List.getElem?_eq_getElem hi, e] at h
    exact h
theorem shM_f {m : Mv} (h : (if (if decide ((m.fl.length : Int) > 40) = true then true else decide ((m.al.length : Int) > 40)) = true then true else decide ((m.ty.length : Int) > 40)) = true) : okM m = false := by
  unfold okM
  revert h
  cases (if decide ((m.fl.length : Int) > 40) = true then true else decide ((m.al.length : Int) > 40)) <;> cases decide ((m.ty.length : Int) > 40) <;> simp
theorem shM_t {m : Mv} (h : (if (if decide ((m.fl.length : Int) > 40) = true then true else decide ((m.al.length : Int) > 40)) = true then true else decide ((m.ty.length : Int) > 40)) = false) : okM m = true := by
  unfold okM
  revert h
  cases (if decide ((m.fl.length : Int) > 40) = true then true else decide ((m.al.length : Int) > 40)) <;> cases decide ((m.ty.length : Int) > 40) <;> simp
theorem c30 (l : List Mv) (hl : l.length ≤ maxLen) : PCall Tryz.prog G0 30 [.sl 5 (l.map encMv)] (.bool (shM l)) := by
  have key :
   (decide ((↑(List.map encMv l).length : Int) > 12) = true → decide ((↑(List.map encMv l).length : Int) > 12) = true) ∧ (decide ((↑(List.map encMv l).length : Int) > 12) = true → decide ((↑(List.map encMv l).length : Int) > 12) =
   true) ∧ (decide ((↑(List.map encMv l).length : Int) > 12) = true → decide ((↑(List.map encMv l).length : Int) > 12) = true) ∧ ((if decide ((↑(List.map encMv l).length : Int) > 12) = true then (↑(List.map encMv l).length : Int) !=
   257 else false) = true → AV.bool false = AV.bool (shM l)) ∧ ((if decide ((↑(List.map encMv l).length : Int) > 12) = true then (↑(List.map encMv l).length : Int) != 257 else false) = false → (∃ (g : Nat), (g ≤ l.length ∧ ∀ (j :
   Nat), j < g → okM (l.getD j default) = true) ∧ AS.mk [(0, AV.sl 5 (List.map encMv l)), (3, AV.i 0)] [] 1 = AS.mk [(0, AV.sl 5 (List.map encMv l)), (3, AV.i (↑g : Int))] [] 1) ∧ ∀ (g : Nat), (g ≤ l.length ∧ ∀ (j : Nat), j < g → okM
   (l.getD j default) = true) → (decide ((↑g : Int) < (↑(List.map encMv l).length : Int)) = true → (0 : Int) ≤ (↑g : Int) ∧ (↑g : Int) < (↑(List.map encMv l).length : Int) ∧ ((!decide ((↑(l.getD (↑g : Int).toNat default).fl.length :
   Int) > 40)) = true → (!decide ((↑(l.getD (↑g : Int).toNat default).fl.length : Int) > 40)) = true) ∧ ((!decide ((↑(l.getD (↑g : Int).toNat default).fl.length : Int) > 40)) = true → (!decide ((↑(l.getD (↑g : Int).toNat
   default).fl.length : Int) > 40)) = true) ∧ ((!decide ((↑(l.getD (↑g : Int).toNat default).fl.length : Int) > 40)) = true → (0 : Int) ≤ (↑g : Int)) ∧ ((!decide ((↑(l.getD (↑g : Int).toNat default).fl.length : Int) > 40)) = true →
   (↑g : Int) < (↑(List.map encMv l).length : Int)) ∧ ((!decide ((↑(l.getD (↑g : Int).toNat default).fl.length : Int) > 40)) = true → (!decide ((↑(l.getD (↑g : Int).toNat default).fl.length : Int) > 40)) = true) ∧ ((!decide ((↑(l.getD
   (↑g : Int).toNat default).fl.length : Int) > 40)) = true → (!decide ((↑(l.getD (↑g : Int).toNat default).fl.length : Int) > 40)) = true) ∧ ((!decide ((↑(l.getD (↑g : Int).toNat default).fl.length : Int) > 40)) = true → (!decide
   ((↑(l.getD (↑g : Int).toNat default).fl.length : Int) > 40)) = true) ∧ ((!decide ((↑(l.getD (↑g : Int).toNat default).fl.length : Int) > 40)) = true → (!decide ((↑(l.getD (↑g : Int).toNat default).fl.length : Int) > 40)) = true) ∧
   (decide ((↑(l.getD (↑g : Int).toNat default).fl.length : Int) > 40) = false → (!decide ((↑(l.getD (↑g : Int).toNat default).fl.length : Int) > 40)) = true) ∧ ((!if decide ((↑(l.getD (↑g : Int).toNat default).fl.length : Int) > 40)
   = true then true else decide ((↑(l.getD (↑g : Int).toNat default).al.length : Int) > 40)) = true → (!if decide ((↑(l.getD (↑g : Int).toNat default).fl.length : Int) > 40) = true then true else decide ((↑(l.getD (↑g : Int).toNat
   default).al.length : Int) > 40)) = true) ∧ ((!if decide ((↑(l.getD (↑g : Int).toNat default).fl.length : Int) > 40) = true then true else decide ((↑(l.getD (↑g : Int).toNat default).al.length : Int) > 40)) = true → (!if decide
   ((↑(l.getD (↑g : Int).toNat default).fl.length : Int) > 40) = true then true else decide ((↑(l.getD (↑g : Int).toNat default).al.length : Int) > 40)) = true) ∧ ((!if decide ((↑(l.getD (↑g : Int).toNat default).fl.length : Int) >
   40) = true then true else decide ((↑(l.getD (↑g : Int).toNat default).al.length : Int) > 40)) = true → (0 : Int) ≤ (↑g : Int)) ∧ ((!if decide ((↑(l.getD (↑g : Int).toNat default).fl.length : Int) > 40) = true then true else decide
   ((↑(l.getD (↑g : Int).toNat default).al.length : Int) > 40)) = true → (↑g : Int) < (↑(List.map encMv l).length : Int)) ∧ ((!if decide ((↑(l.getD (↑g : Int).toNat default).fl.length : Int) > 40) = true then true else decide
   ((↑(l.getD (↑g : Int).toNat default).al.length : Int) > 40)) = true → (!if decide ((↑(l.getD (↑g : Int).toNat default).fl.length : Int) > 40) = true then true else decide ((↑(l.getD (↑g : Int).toNat default).al.length : Int) > 40))
   = true) ∧ ((!if decide ((↑(l.getD (↑g : Int).toNat default).fl.length : Int) > 40) = true then true else decide ((↑(l.getD (↑g : Int).toNat default).al.length : Int) > 40)) = true → (!if decide ((↑(l.getD (↑g : Int).toNat
   default).fl.length : Int) > 40) = true then true else decide ((↑(l.getD (↑g : Int).toNat default).al.length : Int) > 40)) = true) ∧ ((!if decide ((↑(l.getD (↑g : Int).toNat default).fl.length : Int) > 40) = true then true else
   decide ((↑(l.getD (↑g : Int).toNat default).al.length : Int) > 40)) = true → (!if decide ((↑(l.getD (↑g : Int).toNat default).fl.length : Int) > 40) = true then true else decide ((↑(l.getD (↑g : Int).toNat default).al.length : Int)
   > 40)) = true) ∧ ((!if decide ((↑(l.getD (↑g : Int).toNat default).fl.length : Int) > 40) = true then true else decide ((↑(l.getD (↑g : Int).toNat default).al.length : Int) > 40)) = true → (!if decide ((↑(l.getD (↑g : Int).toNat
   default).fl.length : Int) > 40) = true then true else decide ((↑(l.getD (↑g : Int).toNat default).al.length : Int) > 40)) = true) ∧ ((if decide ((↑(l.getD (↑g : Int).toNat default).fl.length : Int) > 40) = true then true else
   decide ((↑(l.getD (↑g : Int).toNat default).al.length : Int) > 40)) = false → (!if decide ((↑(l.getD (↑g : Int).toNat default).fl.length : Int) > 40) = true then true else decide ((↑(l.getD (↑g : Int).toNat default).al.length :
   Int) > 40)) = true) ∧ nth (nthR (List.map encMv l) (↑g : Int).toNat) 0 = AV.str (l.getD (↑g : Int).toNat default).fl ∧ impB (!decide ((↑(l.getD (↑g : Int).toNat default).fl.length : Int) > 40)) (nth (nthR (List.map encMv l) (↑g :
   Int).toNat) 1 = AV.str (l.getD (↑g : Int).toNat default).al) ∧ impB (!if decide ((↑(l.getD (↑g : Int).toNat default).fl.length : Int) > 40) = true then true else decide ((↑(l.getD (↑g : Int).toNat default).al.length : Int) > 40))
   (nth (nthR (List.map encMv l) (↑g : Int).toNat) 2 = AV.str (l.getD (↑g : Int).toNat default).ty) ∧ ((if (if decide ((↑(l.getD (↑g : Int).toNat default).fl.length : Int) > 40) = true then true else decide ((↑(l.getD (↑g : Int).toNat
   default).al.length : Int) > 40)) = true then true else decide ((↑(l.getD (↑g : Int).toNat default).ty.length : Int) > 40)) = true → AV.bool false = AV.bool (shM l)) ∧ ((if (if decide ((↑(l.getD (↑g : Int).toNat default).fl.length :
   Int) > 40) = true then true else decide ((↑(l.getD (↑g : Int).toNat default).al.length : Int) > 40)) = true then true else decide ((↑(l.getD (↑g : Int).toNat default).ty.length : Int) > 40)) = false → In64 ((↑g : Int) + 1) ∧ ∃ (g'
   : Nat), (g' ≤ l.length ∧ ∀ (j : Nat), j < g' → okM (l.getD j default) = true) ∧ l.length - g' < l.length - g ∧ AS.mk [(0, AV.sl 5 (List.map encMv l)), (3, AV.i ((↑g : Int) + 1))] [] 1 = AS.mk [(0, AV.sl 5 (List.map encMv l)), (3,
   AV.i (↑g' : Int))] [] 1)) ∧ (decide ((↑g : Int) < (↑(List.map encMv l).length : Int)) = false → AV.bool true = AV.bool (shM l))) := by
    have hlm : (List.map encMv l).length = l.length := List.length_map _
    have hM : maxLen ≤ 9223372036854775807 := by unfold maxLen; omega
    refine ⟨fun h => h, fun h => h, fun h => h, fun h1 => ?_, fun h1 => ⟨⟨0, ⟨by omega, by intros; omega⟩, rfl⟩, fun g ⟨hg, ha⟩ => ⟨fun hd => ?_, fun hd => ?_⟩⟩⟩
    · first
        | (rw [shM, ← hlm, if_pos h1]; done)
        | (rw [shM, ← hlm, if_neg (by rw [h1]; decide), all_f hlt (shM_f h2)])
    · have hlt : g < l.length := by have h9 := of_decide_eq_true hd; have h8 := hg; (try simp only [List.length_map] at h8); (try simp only [List.length_map] at h9); omega
      refine ⟨(by omega), (by omega), fun h => h, fun h => h, fun _ => by omega, fun _ => by omega, fun h => h, fun h => h, fun h => h, fun h => h, fun h => by first | exact h | (rw [h]; rfl) | simp_all, fun h => h, fun h => h, fun _ => by omega, fun _ => by omega, fun h => h, fun h => h, fun h => h, fun h => h, fun h => by first | exact h | (rw [h]; rfl) | simp_all, congrArg (fun r => nth r 0) (row_at encMv hlt), impB_iff.2 fun _ => congrArg (fun r => nth r 1) (row_at encMv hlt), impB_iff.2 fun _ => congrArg (fun r => nth r 2) (row_at encMv hlt), fun h2 => ?_, fun h2 => ⟨(by unfold In64; omega), ⟨g + 1, ⟨by omega, all_ext ha (shM_t h2)⟩, by omega, rfl⟩⟩⟩
      · first
          | (rw [shM, ← hlm, if_pos h1]; done)
          | (rw [shM, ← hlm, if_neg (by rw [h1]; decide), all_f hlt (shM_f h2)])
    · have hge : g = l.length := by have h9 := of_decide_eq_false hd; have h8 := hg; (try simp only [List.length_map] at h8); (try simp only [List.length_map] at h9); omega
      subst hge
      rw [shM, ← hlm, if_neg (by rw [h1]; decide), all_t ha]
  exact c_of Tryz.f30 (mkB spS 30 [(6, 4, rdL 5 encMv l 1 false), (6, 12, rdL 5 encMv l 1 false), (6, 21, rdL 5 encMv l 1 false)] (fun i => if i.beq 0 then some (la30 l) else none)) (by kernel_rfl) (by kernel_rfl) (by kernel_rfl) (by kernel_rfl) key (by kernel_rfl)
end Go.Proofs.YtimgfogakgakhaaGreatDoor
namespace Go.Proofs.YtimgfogakgakhaaGreatDoor
open Go Go.Av Go.RowKit
theorem ite_z {a b : Int} (h : (if a != 0 then a else b) = 0) : a = 0 ∧ b = 0 := by
  by_cases q : a = 0
  · subst q; exact ⟨rfl, by simpa using h⟩
  · rw [if_pos (by simpa using q)] at h; exact absurd h q
theorem gt5 {n m : Int} {x : Int} (h : (if decide (n > m) then 5 else x) = 0) : n ≤ m ∧ x = 0 := by
  by_cases q : n > m
  · rw [if_pos (by simpa using q)] at h; cases h
  · rw [if_neg (by simpa using q)] at h; exact ⟨by omega, h⟩
theorem mem_get {α : Type} [Inhabited α] {l : List α} {x : α} (h : x ∈ l) : ∃ i, i < l.length ∧ l.getD i default = x := by
  obtain ⟨i, hi, e⟩ := List.mem_iff_getElem.1 h
  exact ⟨i, hi, by rw [List.getD_eq_getElem?_getD, List.getElem?_eq_getElem hi, e]; rfl⟩
theorem ru_ok {r : Ru} (h : chkR r = 0) : RuOK r := by
  unfold chkR at h
  obtain ⟨h1, h2⟩ := ite_z h
  obtain ⟨-, h3⟩ := scan_zero h2
  obtain ⟨hl, h4⟩ := gt5 h3
  obtain ⟨hT, h5⟩ := scan_zero h4
  obtain ⟨h6, -⟩ := ite_z h5
  unfold e1 at h1
  rw [first_zero, first_zero] at h1
  have p := sp_ok h1.1
  unfold e4 at h6
  rw [first_zero, within_zero] at h6
  refine ⟨p.1, p.2.1, p.2.2, by omega, fun t ht => ?_, h6.1⟩
  obtain ⟨i, hi, rfl⟩ := mem_get ht
  have h7 := hT i hi
  unfold fT at h7
  rw [first_zero, first_zero, first_zero, first_zero, within_zero, within_zero] at h7
  exact ⟨h7.2.2.1, h7.2.2.2.1⟩
theorem mv_ok {r : Ru} {l : List Mv} (h : chkMR r l = 0) : chkR r = 0 ∧ (RuOK r ∧ ∀ m, m ∈ l → MvOK r m) ∧ l.length ≤ 256 := by
  unfold chkMR at h
  obtain ⟨h1, h2⟩ := ite_z h
  rw [first_zero, first_zero] at h1
  have hl := when_z (by decide) h1.2.1
  simp only [decide_eq_false_iff_not] at hl
  refine ⟨h1.1, ⟨ru_ok h1.1, fun m hm => ?_⟩, by omega⟩
  obtain ⟨i, hi, rfl⟩ := mem_get hm
  have h7 := (scan_zero h2).1 i hi
  unfold fMv at h7
  rw [first_zero, first_zero, first_zero, first_zero, first_zero, first_zero, within_zero, within_zero] at h7
  obtain ⟨-, -, -, h8, h9, h10, -⟩ := h7
  have h8 := when_z (by decide) h8
  rw [← not_found] at h8
  exact ⟨by simpa using h8, h9, h10⟩
end Go.Proofs.YtimgfogakgakhaaGreatDoor
namespace Go.Proofs.YtimgfogakgakhaaGreatDoor
open Go Go.Av Go.RowKit
def cs4 (r : Ru) (l : List Mv) : List Int := if chkMR r l == 0 then l.map (rCo r) else []
def fs4 (r : Ru) (l : List Mv) : List Int := if chkMR r l == 0 then l.map (rFe r) else []
def eSr (r : Ru) (l : List Mv) (x y : Int) : Int := sFirst [chkMR r l, sWhen (if decide (x < 0) then true else decide (x > y)) 14]
def sp4v (r : Ru) (l : List Mv) (x y : Int) : Int := if eSr r l x y == 0 then spW r x y l l.length else 0
def le4 (r : Ru) (l : List Mv) : Int := if chkMR r l == 0 then leW r l l.length else 0
structure Sh (r : Ru) (l : List Mv) : Prop where
  t : r.ts.length ≤ 1000
  s : r.rs.length ≤ 1000
  n : ∀ t, t ∈ r.ts → t.n.length ≤ 1000
  m : ∀ s, s ∈ r.rs → s.length ≤ 1000
  k : l.length ≤ 1000
  v : ∀ m, m ∈ l → m.fl.length ≤ 1000 ∧ m.al.length ≤ 1000
theorem sh_mv {r : Ru} {l : List Mv} (h : shR r = true) (h2 : shM l = true) : Sh r l := by
  obtain ⟨a, b, c, d⟩ := sh_of h
  unfold shM at h2
  by_cases q : (if decide ((l.length : Int) > 12) = true then (l.length : Int) != 257 else false) = true
  · rw [if_pos q] at h2; cases h2
  · rw [if_neg q] at h2
    refine ⟨by omega, by omega, c, d, ?_, fun m hm => ?_⟩
    · by_cases q2 : decide ((l.length : Int) > 12) = true
      · rw [if_pos q2] at q
        simp only [bne_iff_ne, ne_eq, Classical.not_not] at q
        omega
      · simp only [decide_eq_true_eq] at q2
        omega
    · have := List.all_eq_true.1 h2 m hm
      unfold okM at this
      by_cases q1 : (m.fl.length : Int) > 40
      · rw [decide_eq_true q1] at this; simp at this
      · by_cases q2 : (m.al.length : Int) > 40
        · rw [decide_eq_true q2] at this; simp at this
        · exact ⟨by omega, by omega⟩
theorem c42r {r : Ru} {l : List Mv} (h : Sh r l) : PCall Tryz.prog G0 42 [.agg (encRu r), .sl 5 (l.map encMv)] (.i (chkMR r l)) := by
  have := c42 r l h.t h.s h.n h.m h.k h.v
  rw [chkM_eq] at this
  exact this
def b4 (r : Ru) (l : List Mv) (x y : Int) : List (Nat × AV) := [(1, .sl 5 (l.map encMv)), (3, .elt 18 [encRu r] 0 0), (5, .elt 2 [[.i x, .i y]] 0 0), (6, .bool false)]
def w4 (r : Ru) (l : List Mv) (x y : Int) : List (Nat × AV) := [(7, .sl 1 ((cs4 r l).map encI)), (8, .i (chkMR r l)), (9, .sl 1 ((fs4 r l).map encI)), (10, .i (chkMR r l)), (11, .i (sp4v r l x y)), (12, .i (eSr r l x y)), (13, .i (le4 r l)), (14, .i (chkMR r l)), (15, .i (chkMR r l)), (16, .i (eSr r l x y))]
def bs4 (a b : List (List AV)) : BL := [(1, .buf 3 1 a), (2, .buf 3 1 b)]
def mb (g : List GS) (l : List (Nat × AV)) (bs : BL) : Option (List GS × AS) := some (g ++ [.keep (l.map (·.1)) (bs.map (·.1)), .bound (bs.length + 1)], ⟨l, bs, bs.length + 1⟩)
def m4 (r : Ru) (l : List Mv) (x y : Int) : List (Option (List GS × AS)) :=
  let B := b4 r l x y
  let W := w4 r l x y
  let V := B ++ W
  let O : List (Nat × AV) := [(17, .own 1 0), (18, .own 2 0)]
  let S : List (Nat × AV) := [(17, .sl 1 ((cs4 r l).map encI)), (18, .sl 1 ((fs4 r l).map encI))]
  [md [] B, md [] (B ++ [(33, .bool false)]), md [] B, md [] (B ++ W.take 2), md [] (B ++ W.take 4), md [] (B ++ W.take 6), md [] (B ++ W.take 8), md [] (B ++ W.take 9), md [] V,
   mb [.own 17 3 1, .own 18 3 1, .reno 17 1, .reno 18 2] (V ++ O) (bs4 [] []), mb [] (V ++ O ++ [(19, .i 0), (20, .i 0)]) (bs4 [] []), mb [] (V ++ O ++ [(19, .i 0), (20, .i 0), (86, .bool (chkMR r l == 0))]) (bs4 [] []),
   md [.frzo 17, .frzo 18] (V ++ S ++ [(19, .i 0), (20, .i (le4 r l))]),
   md [] (V ++ S ++ [(19, .i 0), (20, .i (le4 r l)), (115, .bool (eSr r l x y == 0))]),
   md [] (V ++ S ++ [(19, .i (sp4v r l x y)), (20, .i (le4 r l))])]
end Go.Proofs.YtimgfogakgakhaaGreatDoor
namespace Go.Proofs.YtimgfogakgakhaaGreatDoor
open Go Go.Av Go.RowKit
theorem or_f {a b : Bool} (h : (if a = true then true else b) = false) : a = false ∧ b = false := by
  cases a <;> simp_all
theorem nor_t {x : Bool} (h : (!x) = true) : x = false := by simpa using h
end Go.Proofs.YtimgfogakgakhaaGreatDoor
namespace Go.Proofs.YtimgfogakgakhaaGreatDoor
open Go Go.Av Go.RowKit
def noSyms (l : List Nat) (B : BA) : BA := l.foldl (fun B r => noSym r B) B
def lits (b : Bool) (l : List (Nat × Nat)) : List (Nat × Nat × (List AV → Option AV)) := l.map fun p => (p.1, p.2, fun _ => some (.bool b))
theorem c36s {r : Ru} {l : List Mv} (h : Sh r l) : PCall Tryz.prog G0 36 [.agg (encRu r), .sl 5 (l.map encMv)] (.i (chkMR r l)) := c36 r l h.t h.s h.n h.m h.k h.v
theorem sh_g {r : Ru} {l : List Mv} {c : Bool} (h : (!if (if (!shR r) = true then true else !shM l) = true then true else c) = true) : Sh r l := by
  obtain ⟨h1, h2⟩ := or_f (or_f (nor_t h)).1
  exact sh_mv (by simpa using h1) (by simpa using h2)
end Go.Proofs.YtimgfogakgakhaaGreatDoor
namespace Go.Proofs.YtimgfogakgakhaaGreatDoor
open Go Go.Av Go.RowKit
def sFloor (n d : Int) : Int := if n.tdiv d * d > n then n.tdiv d - 1 else n.tdiv d
def hrS (a b : Int) : Int := (offM a b + 59).tdiv 60
def hrR (a b : Int) : Int := 0 - sFloor (0 - (cntN (fun m => wiR a b m) 1440 : Nat)) 60
end Go.Proofs.YtimgfogakgakhaaGreatDoor
namespace Go.Proofs.YtimgfogakgakhaaGreatDoor
open Go Go.Av Go.RowKit
structure RqOK (r : Ru) (x : Tp) : Prop where
  t : fiN (pN r.ts x.n) r.ts.length < r.ts.length
  h : 0 ≤ x.c ∧ x.c ≤ hrR r.a r.b - 1
  v : 0 ≤ x.f ∧ x.f ≤ 1000
end Go.Proofs.YtimgfogakgakhaaGreatDoor
