/-
  What chapter 7's counts and fees are. No condition but the theorems' own. What chapter 7's SameInts and sum return. No condition but the theorems' own. What chapter 7's list and ShortMoves return, and the fees. No condition but the theorems' own. What checked rules and movements have, and that counts, fees and funds are the reference's. No condition but the theorems' own. NightCounts returns true. No condition but the theorems' own. What NightParts says, in plain terms: spans and their complements, sums over nights. No condition but the theorems' own. NightParts returns true. No condition but the theorems' own. Respites, of both sides. No condition but the theorems' own. What NightRespite' row says of the program's text. No condition.
-/
import Derived.Test.YtimgfogakgakhaaGreatDoorPB
import Derived.Test.YtimgfogakgakhaaGreatDoorAvD
namespace Go.Proofs.YtimgfogakgakhaaGreatDoor
open Go Go.Av Go.RowKit
structure MvOK (r : Ru) (m : Mv) : Prop where
  t : fiN (pN r.ts m.ty) r.ts.length < r.ts.length
  d : 1 ≤ m.day ∧ m.day ≤ 100000
  m : 0 ≤ m.mi ∧ m.mi ≤ 1439
structure RuOK (r : Ru) : Prop where
  a : 0 ≤ r.a ∧ r.a < 1440
  b : 0 ≤ r.b ∧ r.b < 1440
  n : r.a ≠ r.b
  l : r.ts.length ≤ 16
  k : ∀ t, t ∈ r.ts → (0 ≤ t.c ∧ t.c ≤ 64) ∧ (0 ≤ t.f ∧ t.f ≤ 100000)
  q : 0 ≤ r.q ∧ r.q ≤ 100000
def F105 (r : Ru) : AV := .fn (.func 105) [.agg (encRu r)] []
def decMv : List AV → Mv
  | [.str a, .str b, .str c, .int _ d, .int _ e] => ⟨a, b, c, d, e⟩
  | _ => default
def sp104 (r : Ru) : Nat → List AV → Option AV
  | 105, [_, .agg c] => some (.agg (encDt (dtOf r (decMv c))))
  | n, x => sp105 r n x
def la104 (r : Ru) (l : List Mv) : LA := {
  pre := [.own 5 168 10, .reno 5 1, .keep [1, 5, 8, 9, 10] [1], .bound 2], post := [.reno 5 1, .keep [1, 5, 8, 9, 10] [1], .bound 2]
  Gh := Nat
  st := fun i => ⟨[(1, F105 r), (5, .own 1 (((l.take i).map (dtOf r)).map encDt).length), (8, .sl 5 (l.map encMv)), (9, .i (l.map encMv).length), (10, .i i)], [(1, .buf 168 10 (((l.take i).map (dtOf r)).map encDt))], 2⟩
  ok := fun i => i ≤ (l.map encMv).length
  ms := fun i => (l.map encMv).length - i }
theorem c104 (r : Ru) (l : List Mv) (hR : RuOK r) (hM : ∀ m, m ∈ l → MvOK r m) (hl : l.length ≤ 1000) : PCall Tryz.prog G0 104 [.sl 5 (l.map encMv), F105 r] (.fresh 168 10 ((l.map (dtOf r)).map encDt)) := by
  have key :
   (∃ (g : Nat), g ≤ (List.map encMv l).length ∧ AS.mk [(1, AV.fn (Fn.func 105) [AV.agg (encRu r)] []), (5, AV.own 1 0), (8, AV.sl 5 (List.map encMv l)), (9, AV.i (↑(List.map encMv l).length : Int)), (10, AV.i 0)] [(1, ABlk.buf 168 10
   [])] 2 = AS.mk [(1, AV.fn (Fn.func 105) [AV.agg (encRu r)] []), (5, AV.own 1 (List.map encDt (List.map (dtOf r) (List.take g l))).length), (8, AV.sl 5 (List.map encMv l)), (9, AV.i (↑(List.map encMv l).length : Int)), (10, AV.i (↑g
   : Int))] [(1, ABlk.buf 168 10 (List.map encDt (List.map (dtOf r) (List.take g l))))] 2) ∧ ∀ (g : Nat), g ≤ (List.map encMv l).length → (decide ((↑g : Int) < (↑(List.map encMv l).length : Int)) = true → (0 : Int) ≤ (↑g : Int) ∧ (↑g
   : Int) < (↑(List.map encMv l).length : Int) ∧ AV.agg (nthR (List.map encMv l) (↑g : Int).toNat) = AV.agg (encMv (l.getD (↑g : Int).toNat default)) ∧ (List.map encDt (List.map (dtOf r) (List.take g l))).length + 1 ≤
   9223372036854775807 ∧ ((List.map encDt (List.map (dtOf r) (List.take g l))).length + 1) * 112 ≤ 140737488355328 ∧ PCall Tryz.prog G0 105 [AV.agg (encRu r), AV.agg (encMv (l.getD (↑g : Int).toNat default))] (AV.agg [AV.str (l.getD
   (↑g : Int).toNat default).fl, AV.str (l.getD (↑g : Int).toNat default).al, AV.str (l.getD (↑g : Int).toNat default).ty, AV.i (l.getD (↑g : Int).toNat default).day, AV.i (l.getD (↑g : Int).toNat default).mi, AV.str (dtOf r (decMv
   (encMv (l.getD (↑g : Int).toNat default)))).k.n, AV.i (dtOf r (decMv (encMv (l.getD (↑g : Int).toNat default)))).k.c, AV.i (dtOf r (decMv (encMv (l.getD (↑g : Int).toNat default)))).k.f, AV.bool (hasS r.a r.b (l.getD (↑g :
   Int).toNat default).mi), AV.i (niI r.a r.b (l.getD (↑g : Int).toNat default).day (l.getD (↑g : Int).toNat default).mi)]) ∧ In64 ((↑g : Int) + 1) ∧ ∃ (g' : Nat), g' ≤ (List.map encMv l).length ∧ (List.map encMv l).length - g' <
   (List.map encMv l).length - g ∧ AS.mk [(1, AV.fn (Fn.func 105) [AV.agg (encRu r)] []), (5, AV.own 1 ((List.map encDt (List.map (dtOf r) (List.take g l))).length + 1)), (8, AV.sl 5 (List.map encMv l)), (9, AV.i (↑(List.map encMv
   l).length : Int)), (10, AV.i ((↑g : Int) + 1))] [(1, ABlk.buf 168 10 (List.map encDt (List.map (dtOf r) (List.take g l)) ++ [[AV.str (l.getD (↑g : Int).toNat default).fl, AV.str (l.getD (↑g : Int).toNat default).al, AV.str (l.getD
   (↑g : Int).toNat default).ty, AV.i (l.getD (↑g : Int).toNat default).day, AV.i (l.getD (↑g : Int).toNat default).mi, AV.str (dtOf r (decMv (encMv (l.getD (↑g : Int).toNat default)))).k.n, AV.i (dtOf r (decMv (encMv (l.getD (↑g :
   Int).toNat default)))).k.c, AV.i (dtOf r (decMv (encMv (l.getD (↑g : Int).toNat default)))).k.f, AV.bool (hasS r.a r.b (l.getD (↑g : Int).toNat default).mi), AV.i (niI r.a r.b (l.getD (↑g : Int).toNat default).day (l.getD (↑g :
   Int).toNat default).mi)]]))] 2 = AS.mk [(1, AV.fn (Fn.func 105) [AV.agg (encRu r)] []), (5, AV.own 1 (List.map encDt (List.map (dtOf r) (List.take g' l))).length), (8, AV.sl 5 (List.map encMv l)), (9, AV.i (↑(List.map encMv
   l).length : Int)), (10, AV.i (↑g' : Int))] [(1, ABlk.buf 168 10 (List.map encDt (List.map (dtOf r) (List.take g' l))))] 2) ∧ (decide ((↑g : Int) < (↑(List.map encMv l).length : Int)) = false → AV.fresh 168 10 (List.map encDt
   (List.map (dtOf r) (List.take g l))) = AV.fresh 168 10 (List.map encDt (List.map (dtOf r) l))) := by
    have hlm : (List.map encMv l).length = l.length := List.length_map _
    refine ⟨⟨0, by omega, rfl⟩, fun g hg => ⟨fun hd => ?_, fun hd => ?_⟩⟩
    · rw [hlm] at hd
      have hlt := lt_of_dec hd
      have hmem := getD_mem hlt
      have h2 := take_succ_map encDt (dtOf r) hlt
      have h7 : (List.map encDt (List.map (dtOf r) (List.take g l))).length = g := by rw [List.length_map, List.length_map, List.length_take]; omega
      have h8 : (List.map encDt (List.map (dtOf r) (List.take (g + 1) l))).length = g + 1 := by rw [List.length_map, List.length_map, List.length_take]; omega
      refine ⟨by omega, by omega, congrArg AV.agg (row_at encMv hlt), by omega, by omega, c105 r (l.getD g default) (by have := hR.l; omega) hR.a hR.b (hM _ hmem).d (hM _ hmem).m, by unfold In64; omega, g + 1, by omega, by omega, ?_⟩
      rw [h8, ← h2, h7]
      rfl
    · rw [ge_of_dec hd hg, hlm, List.take_length]
  exact c_of Tryz.f104 (fzB (mkB (sp104 r) 104 [(4, 1, rdL 5 encMv l 5 true)] (fun i => if i.beq 0 then some (la104 r l) else none))) (by kernel_rfl) (by kernel_rfl) (by kernel_rfl) (by kernel_rfl) key (by kernel_rfl)
def rCo (r : Ru) (m : Mv) : Int := if (!wiR r.a r.b m.mi) then 0 else (tpAt r.ts m.ty).c
def rFe (r : Ru) (m : Mv) : Int := if wiR r.a r.b m.mi then 2 * (tpAt r.ts m.ty).f else (tpAt r.ts m.ty).f
end Go.Proofs.YtimgfogakgakhaaGreatDoor
namespace Go.Proofs.YtimgfogakgakhaaGreatDoor
open Go Go.Av Go.RowKit
def leW (r : Ru) (l : List Mv) : Nat → Int
  | 0 => r.q
  | i + 1 => IntKind.i64.wrap (leW r l i - rCo r (l.getD i default))
def inR (r : Ru) (x y : Int) (m : Mv) : Bool := if (if wiR r.a r.b m.mi then decide (niI r.a r.b m.day m.mi ≥ x) else false) then decide (niI r.a r.b m.day m.mi < y) else false
def spW (r : Ru) (x y : Int) (l : List Mv) : Nat → Int
  | 0 => 0
  | i + 1 => if inR r x y (l.getD i default) then IntKind.i64.wrap (spW r x y l i + rCo r (l.getD i default)) else spW r x y l i
end Go.Proofs.YtimgfogakgakhaaGreatDoor
namespace Go.Proofs.YtimgfogakgakhaaGreatDoor
open Go Go.Av Go.RowKit
theorem all_ext {P : Nat → Prop} {g : Nat} (h : ∀ j, j < g → P j) (h2 : P g) : ∀ j, j < g + 1 → P j := fun j hj => by
  by_cases e : j = g
  · rw [e]; exact h2
  · exact h j (by omega)
def la32 (l : List Mv) : LA := {
  pre := [.own 3 165 5, .reno 3 1, .keep [3, 6, 7, 8] [1], .bound 2], post := [.reno 3 1, .keep [3, 6, 7, 8] [1], .bound 2]
  Gh := Nat
  st := fun i => ⟨[(3, .own 1 ((l.take i).map encMv).length), (6, .sl 5 (l.map encMv)), (7, .i (l.map encMv).length), (8, .i i)], [(1, .buf 165 5 ((l.take i).map encMv))], 2⟩
  ok := fun i => i ≤ (l.map encMv).length
  ms := fun i => (l.map encMv).length - i }
theorem c32 (l : List Mv) (hl : l.length ≤ 1000) : PCall Tryz.prog G0 32 [.sl 5 (l.map encMv)] (.fresh 165 5 (l.map encMv)) := by
  have key :
   (∃ (g : Nat), g ≤ (List.map encMv l).length ∧ AS.mk [(3, AV.own 1 0), (6, AV.sl 5 (List.map encMv l)), (7, AV.i (↑(List.map encMv l).length : Int)), (8, AV.i 0)] [(1, ABlk.buf 165 5 [])] 2 = AS.mk [(3, AV.own 1 (List.map encMv
   (List.take g l)).length), (6, AV.sl 5 (List.map encMv l)), (7, AV.i (↑(List.map encMv l).length : Int)), (8, AV.i (↑g : Int))] [(1, ABlk.buf 165 5 (List.map encMv (List.take g l)))] 2) ∧ ∀ (g : Nat), g ≤ (List.map encMv l).length →
   (decide ((↑g : Int) < (↑(List.map encMv l).length : Int)) = true → (0 : Int) ≤ (↑g : Int) ∧ (↑g : Int) < (↑(List.map encMv l).length : Int) ∧ AV.agg (nthR (List.map encMv l) (↑g : Int).toNat) = AV.agg (encMv (l.getD (↑g :
   Int).toNat default)) ∧ (List.map encMv (List.take g l)).length + 1 ≤ 9223372036854775807 ∧ ((List.map encMv (List.take g l)).length + 1) * 64 ≤ 140737488355328 ∧ In64 ((↑g : Int) + 1) ∧ ∃ (g' : Nat), g' ≤ (List.map encMv l).length
   ∧ (List.map encMv l).length - g' < (List.map encMv l).length - g ∧ AS.mk [(3, AV.own 1 ((List.map encMv (List.take g l)).length + 1)), (6, AV.sl 5 (List.map encMv l)), (7, AV.i (↑(List.map encMv l).length : Int)), (8, AV.i ((↑g :
   Int) + 1))] [(1, ABlk.buf 165 5 (List.map encMv (List.take g l) ++ [(encMv (l.getD (↑g : Int).toNat default))]))] 2 = AS.mk [(3, AV.own 1 (List.map encMv (List.take g' l)).length), (6, AV.sl 5 (List.map encMv l)), (7, AV.i
   (↑(List.map encMv l).length : Int)), (8, AV.i (↑g' : Int))] [(1, ABlk.buf 165 5 (List.map encMv (List.take g' l)))] 2) ∧ (decide ((↑g : Int) < (↑(List.map encMv l).length : Int)) = false → AV.fresh 165 5 (List.map encMv (List.take
   g l)) = AV.fresh 165 5 (List.map encMv l)) := by
    have hlm : (List.map encMv l).length = l.length := List.length_map _
    have hT : ∀ g, g ≤ l.length → (List.map encMv (List.take g l)).length = g := fun g hg => by rw [List.length_map, List.length_take]; omega
    refine ⟨⟨0, by omega, rfl⟩, fun g hg => ⟨fun hd => ?_, fun hd => ?_⟩⟩
    · have hlt : g < l.length := by have h9 := of_decide_eq_true hd; have h8 := hg; (try simp only [List.length_map] at h8); (try simp only [List.length_map] at h9); omega
      have : (List.map encMv (List.take g l)).length = g := by simp only [List.length_map, List.length_take]; omega
      refine ⟨(by omega), (by omega), congrArg AV.agg (row_at encMv hlt), (by omega), (by omega), (by unfold In64; omega), ⟨g + 1, by omega, by omega, ?_⟩⟩
      · rw [← take_succ encMv hlt, List.length_append]; rfl
    · have hge : g = l.length := by have h9 := of_decide_eq_false hd; have h8 := hg; (try simp only [List.length_map] at h8); (try simp only [List.length_map] at h9); omega
      subst hge
      rw [List.take_length]
  exact c_of Tryz.f32 (fzB (mkB spS 32 [(4, 1, rdL 5 encMv l 5 true)] (fun i => if i.beq 0 then some (la32 l) else none))) (by kernel_rfl) (by kernel_rfl) (by kernel_rfl) (by kernel_rfl) key (by kernel_rfl)
def okM (m : Mv) : Bool := if (if decide ((m.fl.length : Int) > 40) then true else decide ((m.al.length : Int) > 40)) then false else !decide ((m.ty.length : Int) > 40)
def shM (l : List Mv) : Bool := if (if decide ((l.length : Int) > 12) then (l.length : Int) != 257 else false) then false else l.all okM
def la30 (l : List Mv) : LA := {
  pre := [.keep [0, 3] [], .bound 1], post := [.keep [0, 3] [], .bound 1]
  Gh := Nat
  st := fun i => ⟨[(0, .sl 5 (l.map encMv)), (3, .i i)], [], 1⟩
  ok := fun i => i ≤ l.length ∧ ∀ j, j < i → okM (l.getD j default) = true
  ms := fun i => l.length - i }
theorem all_f {α : Type} [Inhabited α] {l : List α} {q : α → Bool} {g : Nat} (hlt : g < l.length) (h : q (l.getD g default) = false) : l.all q = false :=
  List.all_eq_false.2 ⟨_, getD_mem hlt, by rw [h]; decide⟩
theorem all_t {α : Type} [Inhabited α] {l : List α} {q : α → Bool} (h : ∀ j, j < l.length → q (l.getD j default) = true) : l.all q = true :=
  List.all_eq_true.2 fun t ht => by
    obtain ⟨i, hi, e⟩ := List.mem_iff_getElem.1 ht
    have h := h i hi
    rw [List.getD_eq_getElem?_getD, List.getElem?_eq_getElem hi, e] at h
    exact h
theorem shM_f {m : Mv} (h : (if (if decide ((m.fl.length : Int) > 40) = true then true else decide ((m.al.length : Int) > 40)) = true then true else decide ((m.ty.length : Int) > 40)) = true) : okM m = false := by
  unfold okM
  revert h
  cases (if decide ((m.fl.length : Int) > 40) = true then true else decide ((m.al.length : Int) > 40)) <;> cases decide ((m.ty.length : Int) > 40) <;> simp
theorem shM_t {m : Mv} (h : (if (if decide ((m.fl.length : Int) > 40) = true then true else decide ((m.al.length : Int) > 40)) = true then true else decide ((m.ty.length : Int) > 40)) = false) : okM m = true := by
  unfold okM
  revert h
  cases (if decide ((m.fl.length : Int) > 40) = true then true else decide ((m.al.length : Int) > 40)) <;> cases decide ((m.ty.length : Int) > 40) <;> simp
theorem c30 (l : List Mv) (hl : l.length ≤ maxLen) : PCall Tryz.prog G0 30 [.sl 5 (l.map encMv)] (.bool (shM l)) := by
  have key :
   (decide ((↑(List.map encMv l).length : Int) > 12) = true → decide ((↑(List.map encMv l).length : Int) > 12) = true) ∧ (decide ((↑(List.map encMv l).length : Int) > 12) = true → decide ((↑(List.map encMv l).length : Int) > 12) =
   true) ∧ (decide ((↑(List.map encMv l).length : Int) > 12) = true → decide ((↑(List.map encMv l).length : Int) > 12) = true) ∧ ((if decide ((↑(List.map encMv l).length : Int) > 12) = true then (↑(List.map encMv l).length : Int) !=
   257 else false) = true → AV.bool false = AV.bool (shM l)) ∧ ((if decide ((↑(List.map encMv l).length : Int) > 12) = true then (↑(List.map encMv l).length : Int) != 257 else false) = false → (∃ (g : Nat), (g ≤ l.length ∧ ∀ (j :
   Nat), j < g → okM (l.getD j default) = true) ∧ AS.mk [(0, AV.sl 5 (List.map encMv l)), (3, AV.i 0)] [] 1 = AS.mk [(0, AV.sl 5 (List.map encMv l)), (3, AV.i (↑g : Int))] [] 1) ∧ ∀ (g : Nat), (g ≤ l.length ∧ ∀ (j : Nat), j < g → okM
   (l.getD j default) = true) → (decide ((↑g : Int) < (↑(List.map encMv l).length : Int)) = true → (0 : Int) ≤ (↑g : Int) ∧ (↑g : Int) < (↑(List.map encMv l).length : Int) ∧ ((!decide ((↑(l.getD (↑g : Int).toNat default).fl.length :
   Int) > 40)) = true → (!decide ((↑(l.getD (↑g : Int).toNat default).fl.length : Int) > 40)) = true) ∧ ((!decide ((↑(l.getD (↑g : Int).toNat default).fl.length : Int) > 40)) = true → (!decide ((↑(l.getD (↑g : Int).toNat
   default).fl.length : Int) > 40)) = true) ∧ ((!decide ((↑(l.getD (↑g : Int).toNat default).fl.length : Int) > 40)) = true → (0 : Int) ≤ (↑g : Int)) ∧ ((!decide ((↑(l.getD (↑g : Int).toNat default).fl.length : Int) > 40)) = true →
   (↑g : Int) < (↑(List.map encMv l).length : Int)) ∧ ((!decide ((↑(l.getD (↑g : Int).toNat default).fl.length : Int) > 40)) = true → (!decide ((↑(l.getD (↑g : Int).toNat default).fl.length : Int) > 40)) = true) ∧ ((!decide ((↑(l.getD
   (↑g : Int).toNat default).fl.length : Int) > 40)) = true → (!decide ((↑(l.getD (↑g : Int).toNat default).fl.length : Int) > 40)) = true) ∧ ((!decide ((↑(l.getD (↑g : Int).toNat default).fl.length : Int) > 40)) = true → (!decide
   ((↑(l.getD (↑g : Int).toNat default).fl.length : Int) > 40)) = true) ∧ ((!decide ((↑(l.getD (↑g : Int).toNat default).fl.length : Int) > 40)) = true → (!decide ((↑(l.getD (↑g : Int).toNat default).fl.length : Int) > 40)) = true) ∧
   (decide ((↑(l.getD (↑g : Int).toNat default).fl.length : Int) > 40) = false → (!decide ((↑(l.getD (↑g : Int).toNat default).fl.length : Int) > 40)) = true) ∧ ((!if decide ((↑(l.getD (↑g : Int).toNat default).fl.length : Int) > 40)
   = true then true else decide ((↑(l.getD (↑g : Int).toNat default).al.length : Int) > 40)) = true → (!if decide ((↑(l.getD (↑g : Int).toNat default).fl.length : Int) > 40) = true then true else decide ((↑(l.getD (↑g : Int).toNat
   default).al.length : Int) > 40)) = true) ∧ ((!if decide ((↑(l.getD (↑g : Int).toNat default).fl.length : Int) > 40) = true then true else decide ((↑(l.getD (↑g : Int).toNat default).al.length : Int) > 40)) = true → (!if decide
   ((↑(l.getD (↑g : Int).toNat default).fl.length : Int) > 40) = true then true else decide ((↑(l.getD (↑g : Int).toNat default).al.length : Int) > 40)) = true) ∧ ((!if decide ((↑(l.getD (↑g : Int).toNat default).fl.length : Int) >
   40) = true then true else decide ((↑(l.getD (↑g : Int).toNat default).al.length : Int) > 40)) = true → (0 : Int) ≤ (↑g : Int)) ∧ ((!if decide ((↑(l.getD (↑g : Int).toNat default).fl.length : Int) > 40) = true then true else decide
   ((↑(l.getD (↑g : Int).toNat default).al.length : Int) > 40)) = true → (↑g : Int) < (↑(List.map encMv l).length : Int)) ∧ ((!if decide ((↑(l.getD (↑g : Int).toNat default).fl.length : Int) > 40) = true then true else decide
   ((↑(l.getD (↑g : Int).toNat default).al.length : Int) > 40)) = true → (!if decide ((↑(l.getD (↑g : Int).toNat default).fl.length : Int) > 40) = true then true else decide ((↑(l.getD (↑g : Int).toNat default).al.length : Int) > 40))
   = true) ∧ ((!if decide ((↑(l.getD (↑g : Int).toNat default).fl.length : Int) > 40) = true then true else decide ((↑(l.getD (↑g : Int).toNat default).al.length : Int) > 40)) = true → (!if decide ((↑(l.getD (↑g : Int).toNat
   default).fl.length : Int) > 40) = true then true else decide ((↑(l.getD (↑g : Int).toNat default).al.length : Int) > 40)) = true) ∧ ((!if decide ((↑(l.getD (↑g : Int).toNat default).fl.length : Int) > 40) = true then true else
   decide ((↑(l.getD (↑g : Int).toNat default).al.length : Int) > 40)) = true → (!if decide ((↑(l.getD (↑g : Int).toNat default).fl.length : Int) > 40) = true then true else decide ((↑(l.getD (↑g : Int).toNat default).al.length : Int)
   > 40)) = true) ∧ ((!if decide ((↑(l.getD (↑g : Int).toNat default).fl.length : Int) > 40) = true then true else decide ((↑(l.getD (↑g : Int).toNat default).al.length : Int) > 40)) = true → (!if decide ((↑(l.getD (↑g : Int).toNat
   default).fl.length : Int) > 40) = true then true else decide ((↑(l.getD (↑g : Int).toNat default).al.length : Int) > 40)) = true) ∧ ((if decide ((↑(l.getD (↑g : Int).toNat default).fl.length : Int) > 40) = true then true else
   decide ((↑(l.getD (↑g : Int).toNat default).al.length : Int) > 40)) = false → (!if decide ((↑(l.getD (↑g : Int).toNat default).fl.length : Int) > 40) = true then true else decide ((↑(l.getD (↑g : Int).toNat default).al.length :
   Int) > 40)) = true) ∧ nth (nthR (List.map encMv l) (↑g : Int).toNat) 0 = AV.str (l.getD (↑g : Int).toNat default).fl ∧ impB (!decide ((↑(l.getD (↑g : Int).toNat default).fl.length : Int) > 40)) (nth (nthR (List.map encMv l) (↑g :
   Int).toNat) 1 = AV.str (l.getD (↑g : Int).toNat default).al) ∧ impB (!if decide ((↑(l.getD (↑g : Int).toNat default).fl.length : Int) > 40) = true then true else decide ((↑(l.getD (↑g : Int).toNat default).al.length : Int) > 40))
   (nth (nthR (List.map encMv l) (↑g : Int).toNat) 2 = AV.str (l.getD (↑g : Int).toNat default).ty) ∧ ((if (if decide ((↑(l.getD (↑g : Int).toNat default).fl.length : Int) > 40) = true then true else decide ((↑(l.getD (↑g : Int).toNat
   default).al.length : Int) > 40)) = true then true else decide ((↑(l.getD (↑g : Int).toNat default).ty.length : Int) > 40)) = true → AV.bool false = AV.bool (shM l)) ∧ ((if (if decide ((↑(l.getD (↑g : Int).toNat default).fl.length :
   Int) > 40) = true then true else decide ((↑(l.getD (↑g : Int).toNat default).al.length : Int) > 40)) = true then true else decide ((↑(l.getD (↑g : Int).toNat default).ty.length : Int) > 40)) = false → In64 ((↑g : Int) + 1) ∧ ∃ (g'
   : Nat), (g' ≤ l.length ∧ ∀ (j : Nat), j < g' → okM (l.getD j default) = true) ∧ l.length - g' < l.length - g ∧ AS.mk [(0, AV.sl 5 (List.map encMv l)), (3, AV.i ((↑g : Int) + 1))] [] 1 = AS.mk [(0, AV.sl 5 (List.map encMv l)), (3,
   AV.i (↑g' : Int))] [] 1)) ∧ (decide ((↑g : Int) < (↑(List.map encMv l).length : Int)) = false → AV.bool true = AV.bool (shM l))) := by
    have hlm : (List.map encMv l).length = l.length := List.length_map _
    have hM : maxLen ≤ 9223372036854775807 := by unfold maxLen; omega
    refine ⟨fun h => h, fun h => h, fun h => h, fun h1 => ?_, fun h1 => ⟨⟨0, ⟨by omega, by intros; omega⟩, rfl⟩, fun g ⟨hg, ha⟩ => ⟨fun hd => ?_, fun hd => ?_⟩⟩⟩
    · first
        | (rw [shM, ← hlm, if_pos h1]; done)
        | (rw [shM, ← hlm, if_neg (by rw [h1]; decide), all_f hlt (shM_f h2)])
    · have hlt : g < l.length := by have h9 := of_decide_eq_true hd; have h8 := hg; (try simp only [List.length_map] at h8); (try simp only [List.length_map] at h9); omega
      refine ⟨(by omega), (by omega), fun h => h, fun h => h, fun _ => by omega, fun _ => by omega, fun h => h, fun h => h, fun h => h, fun h => h, fun h => by first | exact h | (rw [h]; rfl) | simp_all, fun h => h, fun h => h, fun _ => by omega, fun _ => by omega, fun h => h, fun h => h, fun h => h, fun h => h, fun h => by first | exact h | (rw [h]; rfl) | simp_all, congrArg (fun r => nth r 0) (row_at encMv hlt), impB_iff.2 fun _ => congrArg (fun r => nth r 1) (row_at encMv hlt), impB_iff.2 fun _ => congrArg (fun r => nth r 2) (row_at encMv hlt), fun h2 => ?_, fun h2 => ⟨(by unfold In64; omega), ⟨g + 1, ⟨by omega, all_ext ha (shM_t h2)⟩, by omega, rfl⟩⟩⟩
      · first
          | (rw [shM, ← hlm, if_pos h1]; done)
          | (rw [shM, ← hlm, if_neg (by rw [h1]; decide), all_f hlt (shM_f h2)])
    · have hge : g = l.length := by have h9 := of_decide_eq_false hd; have h8 := hg; (try simp only [List.length_map] at h8); (try simp only [List.length_map] at h9); omega
      subst hge
      rw [shM, ← hlm, if_neg (by rw [h1]; decide), all_t ha]
  exact c_of Tryz.f30 (mkB spS 30 [(6, 4, rdL 5 encMv l 1 false), (6, 12, rdL 5 encMv l 1 false), (6, 21, rdL 5 encMv l 1 false)] (fun i => if i.beq 0 then some (la30 l) else none)) (by kernel_rfl) (by kernel_rfl) (by kernel_rfl) (by kernel_rfl) key (by kernel_rfl)
end Go.Proofs.YtimgfogakgakhaaGreatDoor
namespace Go.Proofs.YtimgfogakgakhaaGreatDoor
open Go Go.Av Go.RowKit
theorem ite_z {a b : Int} (h : (if a != 0 then a else b) = 0) : a = 0 ∧ b = 0 := by
  by_cases q : a = 0
  · subst q; exact ⟨rfl, by simpa using h⟩
  · rw [if_pos (by simpa using q)] at h; exact absurd h q
theorem gt5 {n m : Int} {x : Int} (h : (if decide (n > m) then 5 else x) = 0) : n ≤ m ∧ x = 0 := by
  by_cases q : n > m
  · rw [if_pos (by simpa using q)] at h; cases h
  · rw [if_neg (by simpa using q)] at h; exact ⟨by omega, h⟩
theorem mem_get {α : Type} [Inhabited α] {l : List α} {x : α} (h : x ∈ l) : ∃ i, i < l.length ∧ l.getD i default = x := by
  obtain ⟨i, hi, e⟩ := List.mem_iff_getElem.1 h
  exact ⟨i, hi, by rw [List.getD_eq_getElem?_getD, List.getElem?_eq_getElem hi, e]; rfl⟩
theorem ru_ok {r : Ru} (h : chkR r = 0) : RuOK r := by
  unfold chkR at h
  obtain ⟨h1, h2⟩ := ite_z h
  obtain ⟨-, h3⟩ := scan_zero h2
  obtain ⟨hl, h4⟩ := gt5 h3
  obtain ⟨hT, h5⟩ := scan_zero h4
  obtain ⟨h6, -⟩ := ite_z h5
  unfold e1 at h1
  rw [first_zero, first_zero] at h1
  have p := sp_ok h1.1
  unfold e4 at h6
  rw [first_zero, within_zero] at h6
  refine ⟨p.1, p.2.1, p.2.2, by omega, fun t ht => ?_, h6.1⟩
  obtain ⟨i, hi, rfl⟩ := mem_get ht
  have h7 := hT i hi
  unfold fT at h7
  rw [first_zero, first_zero, first_zero, first_zero, within_zero, within_zero] at h7
  exact ⟨h7.2.2.1, h7.2.2.2.1⟩
theorem mv_ok {r : Ru} {l : List Mv} (h : chkMR r l = 0) : chkR r = 0 ∧ (RuOK r ∧ ∀ m, m ∈ l → MvOK r m) ∧ l.length ≤ 256 := by
  unfold chkMR at h
  obtain ⟨h1, h2⟩ := ite_z h
  rw [first_zero, first_zero] at h1
  have hl := when_z (by decide) h1.2.1
  simp only [decide_eq_false_iff_not] at hl
  refine ⟨h1.1, ⟨ru_ok h1.1, fun m hm => ?_⟩, by omega⟩
  obtain ⟨i, hi, rfl⟩ := mem_get hm
  have h7 := (scan_zero h2).1 i hi
  unfold fMv at h7
  rw [first_zero, first_zero, first_zero, first_zero, first_zero, first_zero, within_zero, within_zero] at h7
  obtain ⟨-, -, -, h8, h9, h10, -⟩ := h7
  have h8 := when_z (by decide) h8
  rw [← not_found] at h8
  exact ⟨by simpa using h8, h9, h10⟩
theorem getD_map {α β : Type} [Inhabited α] [Inhabited β] {f : α → β} {l : List α} {i : Nat} (h : i < l.length) : (l.map f).getD i default = f (l.getD i default) := by
  rw [List.getD_eq_getElem?_getD, List.getD_eq_getElem?_getD, List.getElem?_map, List.getElem?_eq_getElem h]
  rfl
end Go.Proofs.YtimgfogakgakhaaGreatDoor
namespace Go.Proofs.YtimgfogakgakhaaGreatDoor
open Go Go.Av Go.RowKit
def cs4 (r : Ru) (l : List Mv) : List Int := if chkMR r l == 0 then l.map (rCo r) else []
def fs4 (r : Ru) (l : List Mv) : List Int := if chkMR r l == 0 then l.map (rFe r) else []
def eSr (r : Ru) (l : List Mv) (x y : Int) : Int := sFirst [chkMR r l, sWhen (if decide (x < 0) then true else decide (x > y)) 14]
def sp4v (r : Ru) (l : List Mv) (x y : Int) : Int := if eSr r l x y == 0 then spW r x y l l.length else 0
def le4 (r : Ru) (l : List Mv) : Int := if chkMR r l == 0 then leW r l l.length else 0
structure Sh (r : Ru) (l : List Mv) : Prop where
  t : r.ts.length ≤ 1000
  s : r.rs.length ≤ 1000
  n : ∀ t, t ∈ r.ts → t.n.length ≤ 1000
  m : ∀ s, s ∈ r.rs → s.length ≤ 1000
  k : l.length ≤ 1000
  v : ∀ m, m ∈ l → m.fl.length ≤ 1000 ∧ m.al.length ≤ 1000
theorem sh_mv {r : Ru} {l : List Mv} (h : shR r = true) (h2 : shM l = true) : Sh r l := by
  obtain ⟨a, b, c, d⟩ := sh_of h
  unfold shM at h2
  by_cases q : (if decide ((l.length : Int) > 12) = true then (l.length : Int) != 257 else false) = true
  · rw [if_pos q] at h2; cases h2
  · rw [if_neg q] at h2
    refine ⟨by omega, by omega, c, d, ?_, fun m hm => ?_⟩
    · by_cases q2 : decide ((l.length : Int) > 12) = true
      · rw [if_pos q2] at q
        simp only [bne_iff_ne, ne_eq, Classical.not_not] at q
        omega
      · simp only [decide_eq_true_eq] at q2
        omega
    · have := List.all_eq_true.1 h2 m hm
      unfold okM at this
      by_cases q1 : (m.fl.length : Int) > 40
      · rw [decide_eq_true q1] at this; simp at this
      · by_cases q2 : (m.al.length : Int) > 40
        · rw [decide_eq_true q2] at this; simp at this
        · exact ⟨by omega, by omega⟩
theorem c42r {r : Ru} {l : List Mv} (h : Sh r l) : PCall Tryz.prog G0 42 [.agg (encRu r), .sl 5 (l.map encMv)] (.i (chkMR r l)) := by
  have := c42 r l h.t h.s h.n h.m h.k h.v
  rw [chkM_eq] at this
  exact this
def b4 (r : Ru) (l : List Mv) (x y : Int) : List (Nat × AV) := [(1, .sl 5 (l.map encMv)), (3, .elt 18 [encRu r] 0 0), (5, .elt 2 [[.i x, .i y]] 0 0), (6, .bool false)]
def w4 (r : Ru) (l : List Mv) (x y : Int) : List (Nat × AV) := [(7, .sl 1 ((cs4 r l).map encI)), (8, .i (chkMR r l)), (9, .sl 1 ((fs4 r l).map encI)), (10, .i (chkMR r l)), (11, .i (sp4v r l x y)), (12, .i (eSr r l x y)), (13, .i (le4 r l)), (14, .i (chkMR r l)), (15, .i (chkMR r l)), (16, .i (eSr r l x y))]
def bs4 (a b : List (List AV)) : BL := [(1, .buf 3 1 a), (2, .buf 3 1 b)]
def mb (g : List GS) (l : List (Nat × AV)) (bs : BL) : Option (List GS × AS) := some (g ++ [.keep (l.map (·.1)) (bs.map (·.1)), .bound (bs.length + 1)], ⟨l, bs, bs.length + 1⟩)
def m4 (r : Ru) (l : List Mv) (x y : Int) : List (Option (List GS × AS)) :=
  let B := b4 r l x y
  let W := w4 r l x y
  let V := B ++ W
  let O : List (Nat × AV) := [(17, .own 1 0), (18, .own 2 0)]
  let S : List (Nat × AV) := [(17, .sl 1 ((cs4 r l).map encI)), (18, .sl 1 ((fs4 r l).map encI))]
  [md [] B, md [] (B ++ [(33, .bool false)]), md [] B, md [] (B ++ W.take 2), md [] (B ++ W.take 4), md [] (B ++ W.take 6), md [] (B ++ W.take 8), md [] (B ++ W.take 9), md [] V,
   mb [.own 17 3 1, .own 18 3 1, .reno 17 1, .reno 18 2] (V ++ O) (bs4 [] []), mb [] (V ++ O ++ [(19, .i 0), (20, .i 0)]) (bs4 [] []), mb [] (V ++ O ++ [(19, .i 0), (20, .i 0), (86, .bool (chkMR r l == 0))]) (bs4 [] []),
   md [.frzo 17, .frzo 18] (V ++ S ++ [(19, .i 0), (20, .i (le4 r l))]),
   md [] (V ++ S ++ [(19, .i 0), (20, .i (le4 r l)), (115, .bool (eSr r l x y == 0))]),
   md [] (V ++ S ++ [(19, .i (sp4v r l x y)), (20, .i (le4 r l))])]
end Go.Proofs.YtimgfogakgakhaaGreatDoor
namespace Go.Proofs.YtimgfogakgakhaaGreatDoor
open Go Go.Av Go.RowKit
theorem or_f {a b : Bool} (h : (if a = true then true else b) = false) : a = false ∧ b = false := by
  cases a <;> simp_all
end Go.Proofs.YtimgfogakgakhaaGreatDoor
namespace Go.Proofs.YtimgfogakgakhaaGreatDoor
open Go Go.Av Go.RowKit
def noSyms (l : List Nat) (B : BA) : BA := l.foldl (fun B r => noSym r B) B
def lits (b : Bool) (l : List (Nat × Nat)) : List (Nat × Nat × (List AV → Option AV)) := l.map fun p => (p.1, p.2, fun _ => some (.bool b))
end Go.Proofs.YtimgfogakgakhaaGreatDoor
namespace Go.Proofs.YtimgfogakgakhaaGreatDoor
open Go Go.Av Go.RowKit
def offR (a m : Int) : Int := if decide (m ≥ a) then m - a else m + 1440 - a
theorem c117 (a b m : Int) (ha : 0 ≤ a ∧ a < 1440) (hm : 0 ≤ m ∧ m < 1440) : PCall Tryz.prog G0 117 [.agg [.i a, .i b], .i m] (.i (offR a m)) := by
  have key :
   (decide (m ≥ a) = true → In64 (m - a) ∧ AV.i (m - a) = AV.i (offR a m)) ∧ (decide (m ≥ a) = false → In64 (m + 1440) ∧ In64 (m + 1440 - a) ∧ AV.i (m + 1440 - a) = AV.i (offR a m)) := by
    refine ⟨fun h1 => ⟨(by unfold In64; omega), ?_⟩, fun h1 => ⟨(by unfold In64; omega), (by unfold In64; omega), ?_⟩⟩
    · first
        | (rw [offR, if_pos h1]; done)
        | (rw [offR, if_neg (by rw [h1]; decide)]; done)
    · first
        | (rw [offR, if_pos h1]; done)
        | (rw [offR, if_neg (by rw [h1]; decide)]; done)
  exact c_of Tryz.f117 (mkB spS 117 [] noLa) (by kernel_rfl) (by kernel_rfl) (by kernel_rfl) (by kernel_rfl) key (by kernel_rfl)
theorem offR_eq {a m : Int} (ha : 0 ≤ a ∧ a < 1440) (hm : 0 ≤ m ∧ m < 1440) : offR a m = offM a m := by
  obtain ⟨h1, h2⟩ := off_eq ha hm
  unfold offR
  by_cases q : m ≥ a
  · rw [if_pos (decide_eq_true q), h1 q]
  · rw [if_neg (by rw [decide_eq_false q]; decide), h2 (by omega)]; omega
theorem offR_in {a b m : Int} (ha : 0 ≤ a ∧ a < 1440) (hb : 0 ≤ b ∧ b < 1440) (hab : a ≠ b) (hm : 0 ≤ m ∧ m < 1440) (h : wiR a b m = true) : 0 ≤ offR a m ∧ offR a m < offM a b := by
  have h1 := has_wi ha hb hab hm
  rw [h, hasS, decide_eq_true_eq] at h1
  rw [offR_eq ha hm]
  obtain ⟨h3, h4⟩ := off_eq ha hm
  by_cases q : m ≥ a
  · have := h3 q; omega
  · have := h4 (by omega); omega
theorem offM_bd {a b : Int} (ha : 0 ≤ a ∧ a < 1440) (hb : 0 ≤ b ∧ b < 1440) : 0 ≤ offM a b ∧ offM a b < 1440 := by
  obtain ⟨h3, h4⟩ := off_eq ha hb
  by_cases q : b ≥ a
  · have := h3 q; omega
  · have := h4 (by omega); omega
def nP (r : Ru) (n : Int) (m : Mv) : Bool := if wiR r.a r.b m.mi = true then niI r.a r.b m.day m.mi == n else false
def nS (r : Ru) (n : Int) (m : Mv) : Bool := if hasS r.a r.b m.mi = true then niI r.a r.b m.day m.mi == n else false
def tkN (r : Ru) (l : List Mv) (n : Int) : Nat → Nat → Bool
  | 0, _ => false
  | i + 1, j => if nP r n (l.getD i default) = true then (if (offR r.a (l.getD i default).mi).toNat = j then true else tkN r l n i j) else tkN r l n i j
def mkR (r : Ru) (l : List Mv) (n : Int) (i : Nat) : List (List AV) := (List.range (offM r.a r.b).toNat).map fun j => [.bool (tkN r l n i j)]
theorem mkR_len (r : Ru) (l : List Mv) (n : Int) (i : Nat) : (mkR r l n i).length = (offM r.a r.b).toNat := by simp [mkR]
theorem mkR_0 (r : Ru) (l : List Mv) (n : Int) : List.replicate (offM r.a r.b).toNat [AV.bool false] = mkR r l n 0 := by
  refine List.ext_getElem (by simp [mkR]) fun i h1 h2 => ?_
  simp [mkR, tkN]
theorem mkR_at {r : Ru} {l : List Mv} {n : Int} {i j : Nat} (h : j < (offM r.a r.b).toNat) : nthR (mkR r l n i) j = [.bool (tkN r l n i j)] := by
  unfold nthR mkR
  rw [List.getD_eq_getElem?_getD, List.getElem?_map, List.getElem?_range h]
  rfl
theorem mkR_put {r : Ru} {l : List Mv} {n : Int} {i : Nat} (h : nP r n (l.getD i default) = true) (h2 : (offR r.a (l.getD i default).mi).toNat < (offM r.a r.b).toNat) :
    putRow (mkR r l n i) (offR r.a (l.getD i default).mi).toNat 0 [.bool true] = mkR r l n (i + 1) := by
  refine List.ext_getElem (by simp [putRow, mkR]) fun k h3 h4 => ?_
  have hk : k < (offM r.a r.b).toNat := by simpa [mkR] using h4
  simp only [putRow, mkR, tkN, List.getElem_map, List.getElem_range, List.getElem_set, h, if_true]
  by_cases q : (offR r.a (l.getD i default).mi).toNat = k
  · rw [if_pos q, if_pos q]
    have e := mkR_at (r := r) (l := l) (n := n) (i := i) h2
    unfold mkR at e
    rw [e]
    rfl
  · rw [if_neg q, if_neg q]
theorem mkR_no {r : Ru} {l : List Mv} {n : Int} {i : Nat} (h : nP r n (l.getD i default) = false) : mkR r l n (i + 1) = mkR r l n i := by
  unfold mkR
  simp only [tkN, h]
  rfl
def sp45 (r : Ru) : Nat → List AV → Option AV
  | 28, [_, .int _ d, .int _ m] => some (.i (niI r.a r.b d m))
  | 26, [_, .int _ m] => some (.bool (wiR r.a r.b m))
  | 27, [.agg [.int _ a, .int _ b]] => some (.i (offM a b))
  | 117, [.agg [.int _ a, _], .int _ m] => some (.i (offR a m))
  | n, x => spS n x
def la45 (r : Ru) (l : List Mv) (n : Int) (b : Nat) : Option LA :=
  if b.beq 0 then
    let K : List GS := [.reno 8 1, .reno 6 2, .keep [1, 2, 3, 6, 7, 8, 9] [1, 2], .bound 3]
    some { pre := K, post := K
           Gh := Nat
           st := fun i => ⟨[(1, .sl 5 (l.map encMv)), (2, .i n), (3, .elt 18 [encRu r] 0 0), (6, .ptr 2 0), (7, .i (offM r.a r.b)), (8, .own 1 (offM r.a r.b).toNat), (9, .i i)], [(1, .buf 4 1 (mkR r l n i)), (2, .box [.i 0, .i 0])], 3⟩
           ok := fun i => i ≤ l.length
           ms := fun i => l.length - i }
  else
    let K : List GS := [.reno 6 1, .reno 10 2, .keep [6, 7, 8, 10, 11, 12] [1, 2], .bound 3]
    let tk := tkN r l n l.length
    some { pre := K, post := K
           Gh := Nat
           st := fun i => ⟨[(6, .ptr 1 0), (7, .i (offM r.a r.b)), (8, .sl 1 (mkR r l n l.length)), (10, .ptr 2 0), (11, .i (rB tk i).2.2), (12, .i i)], [(1, .box [.i 0, .i 0]), (2, .box [.i (rB tk i).1, .i (rB tk i).2.1])], 3⟩
           ok := fun i => i ≤ (offM r.a r.b).toNat
           ms := fun i => (offM r.a r.b).toNat - i }
def rdTk (tk : Nat → Bool) : List AV → Option AV
  | [.elt _ _ j _] => some (.bool (tk j))
  | _ => none
theorem c45 (r : Ru) (l : List Mv) (n : Int) (hR : RuOK r) (hM : ∀ m, m ∈ l → MvOK r m) (hl : l.length ≤ 1000) : PCall Tryz.prog G0 45 [.agg (encRu r), .sl 5 (l.map encMv), .i n] (.agg [.i (rB (tkN r l n l.length) (offM r.a r.b).toNat).1, .i (rB (tkN r l n l.length) (offM r.a r.b).toNat).2.1]) := by
  have key :
   PCall Tryz.prog G0 27 [AV.agg [AV.i r.a, AV.i r.b]] (AV.i (offM r.a r.b)) ∧ (0 : Int) ≤ offM r.a r.b ∧ offM r.a r.b ≤ offM r.a r.b ∧ offM r.a r.b ≤ 9223372036854775807 ∧ offM r.a r.b * (↑1 : Int) ≤ 140737488355328 ∧ (∃ (g : Nat), g
   ≤ l.length ∧ AS.mk [(1, AV.sl 5 (List.map encMv l)), (2, AV.i n), (3, AV.elt 18 [(encRu r)] 0 0), (6, AV.ptr 2 0), (7, AV.i (offM r.a r.b)), (8, AV.own 1 (offM r.a r.b).toNat), (9, AV.i 0)] [(1, ABlk.buf 4 1 (List.replicate (offM
   r.a r.b).toNat [AV.bool false])), (2, ABlk.box [AV.i 0, AV.i 0])] 3 = AS.mk [(1, AV.sl 5 (List.map encMv l)), (2, AV.i n), (3, AV.elt 18 [(encRu r)] 0 0), (6, AV.ptr 2 0), (7, AV.i (offM r.a r.b)), (8, AV.own 1 (offM r.a
   r.b).toNat), (9, AV.i (↑g : Int))] [(1, ABlk.buf 4 1 (mkR r l n g)), (2, ABlk.box [AV.i 0, AV.i 0])] 3) ∧ ∀ (g : Nat), g ≤ l.length → (decide ((↑g : Int) < (↑(List.map encMv l).length : Int)) = true → (0 : Int) ≤ (↑g : Int) ∧ (↑g :
   Int) < (↑(List.map encMv l).length : Int) ∧ (wiR r.a r.b (l.getD (↑g : Int).toNat default).mi = true → wiR r.a r.b (l.getD (↑g : Int).toNat default).mi = true) ∧ (wiR r.a r.b (l.getD (↑g : Int).toNat default).mi = true → wiR r.a
   r.b (l.getD (↑g : Int).toNat default).mi = true) ∧ (wiR r.a r.b (l.getD (↑g : Int).toNat default).mi = true → (0 : Int) ≤ (↑g : Int)) ∧ (wiR r.a r.b (l.getD (↑g : Int).toNat default).mi = true → (↑g : Int) < (↑(List.map encMv
   l).length : Int)) ∧ (wiR r.a r.b (l.getD (↑g : Int).toNat default).mi = true → wiR r.a r.b (l.getD (↑g : Int).toNat default).mi = true) ∧ (wiR r.a r.b (l.getD (↑g : Int).toNat default).mi = true → wiR r.a r.b (l.getD (↑g :
   Int).toNat default).mi = true) ∧ (wiR r.a r.b (l.getD (↑g : Int).toNat default).mi = true → wiR r.a r.b (l.getD (↑g : Int).toNat default).mi = true) ∧ (wiR r.a r.b (l.getD (↑g : Int).toNat default).mi = true → wiR r.a r.b (l.getD
   (↑g : Int).toNat default).mi = true) ∧ (wiR r.a r.b (l.getD (↑g : Int).toNat default).mi = true → (0 : Int) ≤ (↑g : Int)) ∧ (wiR r.a r.b (l.getD (↑g : Int).toNat default).mi = true → (↑g : Int) < (↑(List.map encMv l).length : Int))
   ∧ (wiR r.a r.b (l.getD (↑g : Int).toNat default).mi = true → wiR r.a r.b (l.getD (↑g : Int).toNat default).mi = true) ∧ (wiR r.a r.b (l.getD (↑g : Int).toNat default).mi = true → wiR r.a r.b (l.getD (↑g : Int).toNat default).mi =
   true) ∧ (wiR r.a r.b (l.getD (↑g : Int).toNat default).mi = true → wiR r.a r.b (l.getD (↑g : Int).toNat default).mi = true) ∧ (wiR r.a r.b (l.getD (↑g : Int).toNat default).mi = true → wiR r.a r.b (l.getD (↑g : Int).toNat
   default).mi = true) ∧ (wiR r.a r.b (l.getD (↑g : Int).toNat default).mi = true → wiR r.a r.b (l.getD (↑g : Int).toNat default).mi = true) ∧ (wiR r.a r.b (l.getD (↑g : Int).toNat default).mi = true → wiR r.a r.b (l.getD (↑g :
   Int).toNat default).mi = true) ∧ (wiR r.a r.b (l.getD (↑g : Int).toNat default).mi = true → wiR r.a r.b (l.getD (↑g : Int).toNat default).mi = true) ∧ (wiR r.a r.b (l.getD (↑g : Int).toNat default).mi = true → wiR r.a r.b (l.getD
   (↑g : Int).toNat default).mi = true) ∧ nth (nthR (List.map encMv l) (↑g : Int).toNat) 4 = AV.i (l.getD (↑g : Int).toNat default).mi ∧ PCall Tryz.prog G0 26 [AV.agg [AV.i r.a, AV.i r.b], AV.i (l.getD (↑g : Int).toNat default).mi]
   (AV.bool (wiR r.a r.b (l.getD (↑g : Int).toNat default).mi)) ∧ impB (wiR r.a r.b (l.getD (↑g : Int).toNat default).mi) (nth (nthR (List.map encMv l) (↑g : Int).toNat) 3 = AV.i (l.getD (↑g : Int).toNat default).day) ∧ impB (wiR r.a
   r.b (l.getD (↑g : Int).toNat default).mi) (nth (nthR (List.map encMv l) (↑g : Int).toNat) 4 = AV.i (l.getD (↑g : Int).toNat default).mi) ∧ impB (wiR r.a r.b (l.getD (↑g : Int).toNat default).mi) (PCall Tryz.prog G0 28 [AV.agg
   (encRu r), AV.i (l.getD (↑g : Int).toNat default).day, AV.i (l.getD (↑g : Int).toNat default).mi] (AV.i (niI r.a r.b (l.getD (↑g : Int).toNat default).day (l.getD (↑g : Int).toNat default).mi))) ∧ ((if wiR r.a r.b (l.getD (↑g :
   Int).toNat default).mi = true then niI r.a r.b (l.getD (↑g : Int).toNat default).day (l.getD (↑g : Int).toNat default).mi == n else false) = true → (0 : Int) ≤ (↑g : Int) ∧ (↑g : Int) < (↑(List.map encMv l).length : Int) ∧ (0 :
   Int) ≤ offR r.a (l.getD (↑g : Int).toNat default).mi ∧ offR r.a (l.getD (↑g : Int).toNat default).mi < (↑(offM r.a r.b).toNat : Int) ∧ (offR r.a (l.getD (↑g : Int).toNat default).mi).toNat < (mkR r l n g).length ∧ nth (nthR
   (List.map encMv l) (↑g : Int).toNat) 4 = AV.i (l.getD (↑g : Int).toNat default).mi ∧ PCall Tryz.prog G0 117 [AV.agg [AV.i r.a, AV.i r.b], AV.i (l.getD (↑g : Int).toNat default).mi] (AV.i (offR r.a (l.getD (↑g : Int).toNat
   default).mi)) ∧ In64 ((↑g : Int) + 1) ∧ ∃ (g' : Nat), g' ≤ l.length ∧ l.length - g' < l.length - g ∧ AS.mk [(1, AV.sl 5 (List.map encMv l)), (2, AV.i n), (3, AV.elt 18 [(encRu r)] 0 0), (6, AV.ptr 2 0), (7, AV.i (offM r.a r.b)),
   (8, AV.own 1 (offM r.a r.b).toNat), (9, AV.i ((↑g : Int) + 1))] [(1, ABlk.buf 4 1 (putRow (mkR r l n g) (offR r.a (l.getD (↑g : Int).toNat default).mi).toNat 0 [AV.bool true])), (2, ABlk.box [AV.i 0, AV.i 0])] 3 = AS.mk [(1, AV.sl
   5 (List.map encMv l)), (2, AV.i n), (3, AV.elt 18 [(encRu r)] 0 0), (6, AV.ptr 2 0), (7, AV.i (offM r.a r.b)), (8, AV.own 1 (offM r.a r.b).toNat), (9, AV.i (↑g' : Int))] [(1, ABlk.buf 4 1 (mkR r l n g')), (2, ABlk.box [AV.i 0, AV.i
   0])] 3) ∧ ((if wiR r.a r.b (l.getD (↑g : Int).toNat default).mi = true then niI r.a r.b (l.getD (↑g : Int).toNat default).day (l.getD (↑g : Int).toNat default).mi == n else false) = false → In64 ((↑g : Int) + 1) ∧ ∃ (g' : Nat), g'
   ≤ l.length ∧ l.length - g' < l.length - g ∧ AS.mk [(1, AV.sl 5 (List.map encMv l)), (2, AV.i n), (3, AV.elt 18 [(encRu r)] 0 0), (6, AV.ptr 2 0), (7, AV.i (offM r.a r.b)), (8, AV.own 1 (offM r.a r.b).toNat), (9, AV.i ((↑g : Int) +
   1))] [(1, ABlk.buf 4 1 (mkR r l n g)), (2, ABlk.box [AV.i 0, AV.i 0])] 3 = AS.mk [(1, AV.sl 5 (List.map encMv l)), (2, AV.i n), (3, AV.elt 18 [(encRu r)] 0 0), (6, AV.ptr 2 0), (7, AV.i (offM r.a r.b)), (8, AV.own 1 (offM r.a
   r.b).toNat), (9, AV.i (↑g' : Int))] [(1, ABlk.buf 4 1 (mkR r l n g')), (2, ABlk.box [AV.i 0, AV.i 0])] 3)) ∧ (decide ((↑g : Int) < (↑(List.map encMv l).length : Int)) = false → (∃ (g_1 : Nat), g_1 ≤ (offM r.a r.b).toNat ∧ AS.mk
   [(6, AV.ptr 1 0), (7, AV.i (offM r.a r.b)), (8, AV.sl 1 (mkR r l n g)), (10, AV.ptr 2 0), (11, AV.i 0), (12, AV.i 0)] [(1, ABlk.box [AV.i 0, AV.i 0]), (2, ABlk.box [AV.i 0, AV.i 0])] 3 = AS.mk [(6, AV.ptr 1 0), (7, AV.i (offM r.a
   r.b)), (8, AV.sl 1 (mkR r l n l.length)), (10, AV.ptr 2 0), (11, AV.i (rB (tkN r l n l.length) g_1).snd.snd), (12, AV.i (↑g_1 : Int))] [(1, ABlk.box [AV.i 0, AV.i 0]), (2, ABlk.box [AV.i (rB (tkN r l n l.length) g_1).fst, AV.i (rB
   (tkN r l n l.length) g_1).snd.fst])] 3) ∧ ∀ (g : Nat), g ≤ (offM r.a r.b).toNat → (decide ((↑g : Int) < offM r.a r.b) = true → (0 : Int) ≤ (↑g : Int) ∧ (↑g : Int) < (↑(mkR r l n l.length).length : Int) ∧ nth (nthR (mkR r l n
   l.length) (↑g : Int).toNat) 0 = AV.bool (tkN r l n l.length (↑g : Int).toNat) ∧ (tkN r l n l.length (↑g : Int).toNat = true → In64 ((↑g : Int) + 1) ∧ In64 ((↑g : Int) + 1) ∧ ∃ (g' : Nat), g' ≤ (offM r.a r.b).toNat ∧ (offM r.a
   r.b).toNat - g' < (offM r.a r.b).toNat - g ∧ AS.mk [(6, AV.ptr 1 0), (7, AV.i (offM r.a r.b)), (8, AV.sl 1 (mkR r l n l.length)), (10, AV.ptr 2 0), (11, AV.i ((↑g : Int) + 1)), (12, AV.i ((↑g : Int) + 1))] [(1, ABlk.box [AV.i 0,
   AV.i 0]), (2, ABlk.box [AV.i (rB (tkN r l n l.length) g).fst, AV.i (rB (tkN r l n l.length) g).snd.fst])] 3 = AS.mk [(6, AV.ptr 1 0), (7, AV.i (offM r.a r.b)), (8, AV.sl 1 (mkR r l n l.length)), (10, AV.ptr 2 0), (11, AV.i (rB (tkN
   r l n l.length) g').snd.snd), (12, AV.i (↑g' : Int))] [(1, ABlk.box [AV.i 0, AV.i 0]), (2, ABlk.box [AV.i (rB (tkN r l n l.length) g').fst, AV.i (rB (tkN r l n l.length) g').snd.fst])] 3) ∧ (tkN r l n l.length (↑g : Int).toNat =
   false → In64 ((↑g : Int) + 1) ∧ In64 ((↑g : Int) + 1 - (rB (tkN r l n l.length) g).snd.snd) ∧ In64 ((rB (tkN r l n l.length) g).snd.fst - (rB (tkN r l n l.length) g).fst) ∧ (decide ((↑g : Int) + 1 - (rB (tkN r l n l.length)
   g).snd.snd > (rB (tkN r l n l.length) g).snd.fst - (rB (tkN r l n l.length) g).fst) = true → In64 ((↑g : Int) + 1) ∧ In64 ((↑g : Int) + 1) ∧ ∃ (g' : Nat), g' ≤ (offM r.a r.b).toNat ∧ (offM r.a r.b).toNat - g' < (offM r.a r.b).toNat
   - g ∧ AS.mk [(6, AV.ptr 1 0), (7, AV.i (offM r.a r.b)), (8, AV.sl 1 (mkR r l n l.length)), (10, AV.ptr 2 0), (11, AV.i (rB (tkN r l n l.length) g).snd.snd), (12, AV.i ((↑g : Int) + 1))] [(1, ABlk.box [AV.i 0, AV.i 0]), (2, ABlk.box
   [AV.i (rB (tkN r l n l.length) g).snd.snd, AV.i ((↑g : Int) + 1)])] 3 = AS.mk [(6, AV.ptr 1 0), (7, AV.i (offM r.a r.b)), (8, AV.sl 1 (mkR r l n l.length)), (10, AV.ptr 2 0), (11, AV.i (rB (tkN r l n l.length) g').snd.snd), (12,
   AV.i (↑g' : Int))] [(1, ABlk.box [AV.i 0, AV.i 0]), (2, ABlk.box [AV.i (rB (tkN r l n l.length) g').fst, AV.i (rB (tkN r l n l.length) g').snd.fst])] 3) ∧ (decide ((↑g : Int) + 1 - (rB (tkN r l n l.length) g).snd.snd > (rB (tkN r l
   n l.length) g).snd.fst - (rB (tkN r l n l.length) g).fst) = false → In64 ((↑g : Int) + 1) ∧ ∃ (g' : Nat), g' ≤ (offM r.a r.b).toNat ∧ (offM r.a r.b).toNat - g' < (offM r.a r.b).toNat - g ∧ AS.mk [(6, AV.ptr 1 0), (7, AV.i (offM r.a
   r.b)), (8, AV.sl 1 (mkR r l n l.length)), (10, AV.ptr 2 0), (11, AV.i (rB (tkN r l n l.length) g).snd.snd), (12, AV.i ((↑g : Int) + 1))] [(1, ABlk.box [AV.i 0, AV.i 0]), (2, ABlk.box [AV.i (rB (tkN r l n l.length) g).fst, AV.i (rB
   (tkN r l n l.length) g).snd.fst])] 3 = AS.mk [(6, AV.ptr 1 0), (7, AV.i (offM r.a r.b)), (8, AV.sl 1 (mkR r l n l.length)), (10, AV.ptr 2 0), (11, AV.i (rB (tkN r l n l.length) g').snd.snd), (12, AV.i (↑g' : Int))] [(1, ABlk.box
   [AV.i 0, AV.i 0]), (2, ABlk.box [AV.i (rB (tkN r l n l.length) g').fst, AV.i (rB (tkN r l n l.length) g').snd.fst])] 3))) ∧ (decide ((↑g : Int) < offM r.a r.b) = false → AV.agg [AV.i (rB (tkN r l n l.length) g).fst, AV.i (rB (tkN r
   l n l.length) g).snd.fst] = AV.agg [AV.i (rB (tkN r l n l.length) (offM r.a r.b).toNat).fst, AV.i (rB (tkN r l n l.length) (offM r.a r.b).toNat).snd.fst])) := by
    have hob := offM_bd hR.a hR.b
    have hml := mkR_len r l n l.length
    have : (List.map encMv l).length = l.length := by simp only [List.length_map]
    refine ⟨(by have := c27 r.a r.b; rw [← len_eq hR.a hR.b hR.n] at this; exact this), (by omega), (by omega), (by omega), (by omega), ⟨⟨0, by omega, (by rw [mkR_0 r l n]; rfl)⟩, fun g hg => ⟨fun hd => ?_, fun hd => ?_⟩⟩⟩
    · have hlt : g < l.length := by have h9 := of_decide_eq_true hd; have h8 := hg; (try simp only [List.length_map] at h8); (try simp only [List.length_map] at h9); omega
      have hm := hM _ (getD_mem hlt)
      have hmg := mkR_len r l n g
      have hd1 := hm.d
      try rw [show (↑g : Int).toNat = g from Int.toNat_natCast g]
      refine ⟨(by omega), (by omega), fun h => h, fun h => h, fun _ => by omega, fun _ => by omega, fun h => h, fun h => h, fun h => h, fun h => h, fun _ => by omega, fun _ => by omega, fun h => h, fun h => h, fun h => h, fun h => h, fun h => h, fun h => h, fun h => h, fun h => h, congrArg (fun r => nth r 4) (row_at encMv hlt), (c26 _ _ _), impB_iff.2 fun hb => congrArg (fun r => nth r 3) (row_at encMv hlt), impB_iff.2 fun hb => congrArg (fun r => nth r 4) (row_at encMv hlt), impB_iff.2 fun hb => (c28 r _ _ (by unfold In64; omega)), fun h1 => ?_, fun h1 => ?_⟩
      · have hp : nP r n (l.getD g default) = true := h1
        have hw : wiR r.a r.b (l.getD g default).mi = true := by
          unfold nP at hp
          cases q : wiR r.a r.b (l.getD g default).mi with
          | true => rfl
          | false => rw [q] at hp; cases hp
        have ho := offR_in hR.a hR.b hR.n (by have := hm.m; omega) hw
        refine ⟨(by omega), (by omega), (by omega), (by omega), (by omega), congrArg (fun r => nth r 4) (row_at encMv hlt), (c117 _ _ _ hR.a (by have := hm.m; omega)), (by unfold In64; omega), ⟨g + 1, by omega, by omega, ?_⟩⟩
        · rw [mkR_put hp (by omega)]
          rfl
      · have hp : nP r n (l.getD g default) = false := h1
        refine ⟨(by unfold In64; omega), ⟨g + 1, by omega, by omega, ?_⟩⟩
        · rw [mkR_no hp]
          rfl
    · have hge : g = l.length := by have h9 := of_decide_eq_false hd; have h8 := hg; (try simp only [List.length_map] at h8); (try simp only [List.length_map] at h9); omega
      subst hge
      refine ⟨⟨0, by omega, rfl⟩, fun g hg2 => ⟨fun hd2 => ?_, fun hd2 => ?_⟩⟩
      · have hlt2 : g < (offM r.a r.b).toNat := by have h9 := of_decide_eq_true hd2; have h8 := hg2; (try simp only [List.length_map] at h8); (try simp only [List.length_map] at h9); omega
        have hrb := rB_bd (tkN r l n l.length) g
        try rw [show (↑g : Int).toNat = g from Int.toNat_natCast g]
        refine ⟨(by omega), (by omega), (by rw [mkR_at (by omega)]; rfl), fun h1 => ⟨(by unfold In64; omega), (by unfold In64; omega), ⟨g + 1, by omega, by omega, ?_⟩⟩, fun h1 => ⟨(by unfold In64; omega), (by unfold In64; omega), (by unfold In64; omega), fun h2 => ⟨(by unfold In64; omega), (by unfold In64; omega), ⟨g + 1, by omega, by omega, ?_⟩⟩, fun h2 => ⟨(by unfold In64; omega), ⟨g + 1, by omega, by omega, ?_⟩⟩⟩⟩
        · first
            | (rw [rB.eq_2, if_pos h1]; rfl)
            | (rw [rB.eq_2, if_neg (by rw [h1]; decide), if_pos (of_decide_eq_true h2)]; rfl)
            | (rw [rB.eq_2, if_neg (by rw [h1]; decide), if_neg (of_decide_eq_false h2)]; rfl)
        · first
            | (rw [rB.eq_2, if_pos h1]; rfl)
            | (rw [rB.eq_2, if_neg (by rw [h1]; decide), if_pos (of_decide_eq_true h2)]; rfl)
            | (rw [rB.eq_2, if_neg (by rw [h1]; decide), if_neg (of_decide_eq_false h2)]; rfl)
        · first
            | (rw [rB.eq_2, if_pos h1]; rfl)
            | (rw [rB.eq_2, if_neg (by rw [h1]; decide), if_pos (of_decide_eq_true h2)]; rfl)
            | (rw [rB.eq_2, if_neg (by rw [h1]; decide), if_neg (of_decide_eq_false h2)]; rfl)
      · have hge2 : g = (offM r.a r.b).toNat := by have h9 := of_decide_eq_false hd2; have h8 := hg2; (try simp only [List.length_map] at h8); (try simp only [List.length_map] at h9); omega
        subst hge2
        first | rfl | trivial
  exact c_of Tryz.f45 (gsB (fun i => if i.beq 9 then [.frzo 8] else []) (fzB (mkB (sp45 r) 45 [(6, 6, rdL 5 encMv l 1 false), (6, 14, rdL 5 encMv l 1 false), (6, 19, rdL 5 encMv l 1 false), (7, 7, rdL 5 encMv l 1 false), (12, 3, rdTk (tkN r l n l.length))] (la45 r l n)))) (by kernel_rfl) (by kernel_rfl) (by kernel_rfl) (by kernel_rfl) key (by kernel_rfl)
def tak (r : Ru) (l : List Mv) (n : Int) : Nat → List Int
  | 0 => [offM r.a r.b]
  | i + 1 => if nS r n (l.getD i default) = true then tak r l n i ++ [offM r.a (l.getD i default).mi] else tak r l n i
def srtT (r : Ru) (l : List Mv) (n : Int) : List Int := srt (tak r l n l.length)
def hs44 (r : Ru) (l : List Mv) (n : Int) : Nat → List AV → List ABlk → Option AV
  | 116, _, _ => some (.gv true (.tup [.tup [], .fresh 3 1 ((srtT r l n).map encI)]))
  | _, _, _ => none
def sp44 (r : Ru) (l : List Mv) (n : Int) : Nat → List AV → Option AV
  | 42, _ => some (.i (chkMR r l))
  | 104, _ => some (.fresh 168 10 ((l.map (dtOf r)).map encDt))
  | m, x => spS m x
def la44 (r : Ru) (l : List Mv) (n : Int) (b : Nat) : Option LA :=
  if b.beq 0 then
    let K : List GS := [.reno 9 1, .reno 6 2, .keep [2, 3, 6, 9, 34, 35, 36] [1, 2], .bound 3]
    some { pre := K, post := K
           Gh := Nat
           st := fun i => ⟨[(2, .i n), (3, .elt 18 [encRu r] 0 0), (6, .ptr 2 0), (9, .own 1 ((tak r l n i).map encI).length), (34, .sl 10 ((l.map (dtOf r)).map encDt)), (35, .i ((l.map (dtOf r)).map encDt).length), (36, .i i)], [(1, .buf 3 1 ((tak r l n i).map encI)), (2, .box [.i 0, .i 0])], 3⟩
           ok := fun i => i ≤ l.length
           ms := fun i => l.length - i }
  else
    let K : List GS := [.reno 6 1, .reno 12 2, .keep [6, 12, 13, 60, 61, 62] [1, 2], .bound 3]
    let S := srtT r l n
    some { pre := K, post := K
           Gh := Nat
           st := fun i => ⟨[(6, .ptr 1 0), (12, .ptr 2 0), (13, .i (gL (S.take i)).2.2), (60, .sl 1 (S.map encI)), (61, .i (S.map encI).length), (62, .i i)], [(1, .box [.i 0, .i 0]), (2, .box [.i (gL (S.take i)).1, .i (gL (S.take i)).2.1])], 3⟩
           ok := fun i => i ≤ S.length
           ms := fun i => S.length - i }
def e44 (r : Ru) (l : List Mv) (n : Int) : Int := sFirst [chkMR r l, sWithin n 0 100000]
def g44 (r : Ru) (l : List Mv) (n : Int) : Int × Int := if e44 r l n != 0 then (0, 0) else ((gL (srtT r l n)).1, (gL (srtT r l n)).2.1)
theorem tak_t {r : Ru} {l : List Mv} {n : Int} {g : Nat} (h : nS r n (l.getD g default) = true) : tak r l n (g + 1) = tak r l n g ++ [offM r.a (l.getD g default).mi] := if_pos h
theorem tak_f {r : Ru} {l : List Mv} {n : Int} {g : Nat} (h : nS r n (l.getD g default) = false) : tak r l n (g + 1) = tak r l n g := if_neg (by rw [h]; decide)
theorem tak_ln (r : Ru) (l : List Mv) (n : Int) : ∀ i, 0 < (tak r l n i).length ∧ (tak r l n i).length ≤ i + 1
  | 0 => by simp [tak]
  | i + 1 => by
    have := tak_ln r l n i
    unfold tak
    split
    · simp only [List.length_append, List.length_cons, List.length_nil]; omega
    · omega
theorem tak_len (r : Ru) (l : List Mv) (n : Int) (i : Nat) : (List.map encI (tak r l n i)).length ≤ i + 1 := by
  rw [List.length_map]
  exact (tak_ln r l n i).2
theorem tak_mem {r : Ru} {l : List Mv} {n x : Int} : ∀ {i}, x ∈ tak r l n i ↔ x = offM r.a r.b ∨ ∃ j, j < i ∧ nS r n (l.getD j default) = true ∧ offM r.a (l.getD j default).mi = x
  | 0 => by simp [tak]
  | i + 1 => by
    have ih := tak_mem (r := r) (l := l) (n := n) (x := x) (i := i)
    unfold tak
    constructor
    · intro h
      by_cases q : nS r n (l.getD i default) = true
      · rw [if_pos q, List.mem_append, List.mem_singleton] at h
        rcases h with h | h
        · rcases ih.1 h with h | ⟨j, hj, h⟩
          · exact .inl h
          · exact .inr ⟨j, by omega, h⟩
        · exact .inr ⟨i, by omega, q, h.symm⟩
      · rw [if_neg q] at h
        rcases ih.1 h with h | ⟨j, hj, h⟩
        · exact .inl h
        · exact .inr ⟨j, by omega, h⟩
    · intro h
      have hi : x ∈ tak r l n i → x ∈ if nS r n (l.getD i default) = true then tak r l n i ++ [offM r.a (l.getD i default).mi] else tak r l n i := fun h => by
        split
        · exact List.mem_append_left _ h
        · exact h
      rcases h with h | ⟨j, hj, h1, h2⟩
      · exact hi (ih.2 (.inl h))
      · by_cases q : j = i
        · subst q
          rw [if_pos h1, h2]
          simp
        · exact hi (ih.2 (.inr ⟨j, by omega, h1, h2⟩))
theorem srtT_len (r : Ru) (l : List Mv) (n : Int) : (List.map encI (srtT r l n)).length = (List.map encI (tak r l n l.length)).length := by
  rw [List.length_map, List.length_map]
  exact srt_len _
theorem srtT_mem {r : Ru} {l : List Mv} {n x : Int} : x ∈ srtT r l n ↔ x = offM r.a r.b ∨ ∃ m, m ∈ l ∧ nS r n m = true ∧ offM r.a m.mi = x := by
  unfold srtT
  rw [srt_mem, tak_mem]
  constructor
  · rintro (h | ⟨j, hj, h⟩)
    · exact .inl h
    · exact .inr ⟨_, getD_mem hj, h⟩
  · rintro (h | ⟨m, h1, h2⟩)
    · exact .inl h
    · obtain ⟨j, hj, rfl⟩ := mem_get h1
      exact .inr ⟨j, hj, h2⟩
theorem srtT_bd {r : Ru} {l : List Mv} {n : Int} (hR : RuOK r) (hM : ∀ m, m ∈ l → MvOK r m) (x : Int) (h : x ∈ srtT r l n) : 0 ≤ x ∧ x ≤ offM r.a r.b := by
  have hob := offM_bd hR.a hR.b
  rcases srtT_mem.1 h with rfl | ⟨m, h1, h2, rfl⟩
  · omega
  · have hm := (hM m h1).m
    have hb := offM_bd hR.a (show 0 ≤ m.mi ∧ m.mi < 1440 by omega)
    have hs : hasS r.a r.b m.mi = true := by
      unfold nS at h2
      cases q : hasS r.a r.b m.mi with
      | true => rfl
      | false => rw [q] at h2; cases h2
    unfold hasS at hs
    rw [decide_eq_true_eq] at hs
    omega
theorem c44 (r : Ru) (l : List Mv) (n : Int) (hS : Sh r l) : PCall Tryz.prog G0 44 [.agg (encRu r), .sl 5 (l.map encMv), .i n] (.tup [.agg [.i (g44 r l n).1, .i (g44 r l n).2], .i (e44 r l n)]) := by
  have key :
   PCall Tryz.prog G0 42 [AV.agg (encRu r), AV.sl 5 (List.map encMv l)] (AV.i (chkMR r l)) ∧ PCall Tryz.prog G0 92 [AV.i n, AV.i 0, AV.i 100000] (AV.i (sWithin n (0 : Int) (100000 : Int))) ∧ PCall Tryz.prog G0 87 [AV.sl 1 [[AV.i
   (chkMR r l)], [AV.i (sWithin n (0 : Int) (100000 : Int))]]] (AV.i (sFirst [hdI [AV.i (chkMR r l)], hdI [AV.i (sWithin n (0 : Int) (100000 : Int))]])) ∧ ((sFirst [hdI [AV.i (chkMR r l)], hdI [AV.i (sWithin n (0 : Int) (100000 :
   Int))]] != 0) = true → AV.tup [AV.agg [AV.i 0, AV.i 0], AV.i (sFirst [hdI [AV.i (chkMR r l)], hdI [AV.i (sWithin n (0 : Int) (100000 : Int))]])] = AV.tup [AV.agg [AV.i (g44 r l n).fst, AV.i (g44 r l n).snd], AV.i (e44 r l n)]) ∧
   ((sFirst [hdI [AV.i (chkMR r l)], hdI [AV.i (sWithin n (0 : Int) (100000 : Int))]] != 0) = false → PCall Tryz.prog G0 91 [AV.agg [AV.i r.a, AV.i r.b]] (AV.i (offM r.a r.b)) ∧ PCall Tryz.prog G0 104 [AV.sl 5 (List.map encMv l),
   AV.fn (Fn.func 105) [AV.agg (encRu r)] []] (AV.fresh 168 10 (List.map encDt (List.map (dtOf r) l))) ∧ (∃ (g : Nat), g ≤ l.length ∧ AS.mk [(2, AV.i n), (3, AV.elt 18 [(encRu r)] 0 0), (6, AV.ptr 2 0), (9, AV.own 1 1), (34, AV.sl 10
   (List.map encDt (List.map (dtOf r) l))), (35, AV.i (↑(List.map encDt (List.map (dtOf r) l)).length : Int)), (36, AV.i 0)] [(1, ABlk.buf 3 1 [[AV.i (offM r.a r.b)]]), (2, ABlk.box [AV.i 0, AV.i 0])] 3 = AS.mk [(2, AV.i n), (3,
   AV.elt 18 [(encRu r)] 0 0), (6, AV.ptr 2 0), (9, AV.own 1 (List.map encI (tak r l n g)).length), (34, AV.sl 10 (List.map encDt (List.map (dtOf r) l))), (35, AV.i (↑(List.map encDt (List.map (dtOf r) l)).length : Int)), (36, AV.i
   (↑g : Int))] [(1, ABlk.buf 3 1 (List.map encI (tak r l n g))), (2, ABlk.box [AV.i 0, AV.i 0])] 3) ∧ ∀ (g : Nat), g ≤ l.length → (decide ((↑g : Int) < (↑(List.map encDt (List.map (dtOf r) l)).length : Int)) = true → (0 : Int) ≤ (↑g
   : Int) ∧ (↑g : Int) < (↑(List.map encDt (List.map (dtOf r) l)).length : Int) ∧ AV.agg (nthR (List.map encDt (List.map (dtOf r) l)) (↑g : Int).toNat) = AV.agg (encDt ((List.map (dtOf r) l).getD (↑g : Int).toNat default)) ∧
   (((List.map (dtOf r) l).getD (↑g : Int).toNat default).dk = true → ((List.map (dtOf r) l).getD (↑g : Int).toNat default).dk = true) ∧ (((List.map (dtOf r) l).getD (↑g : Int).toNat default).dk = true → ((List.map (dtOf r) l).getD
   (↑g : Int).toNat default).dk = true) ∧ (((List.map (dtOf r) l).getD (↑g : Int).toNat default).dk = true → ((List.map (dtOf r) l).getD (↑g : Int).toNat default).dk = true) ∧ (((List.map (dtOf r) l).getD (↑g : Int).toNat default).dk
   = true → ((List.map (dtOf r) l).getD (↑g : Int).toNat default).dk = true) ∧ ((if ((List.map (dtOf r) l).getD (↑g : Int).toNat default).dk = true then ((List.map (dtOf r) l).getD (↑g : Int).toNat default).ni == n else false) = true
   → (List.map encI (tak r l n g)).length + 1 ≤ 9223372036854775807 ∧ ((List.map encI (tak r l n g)).length + 1) * 8 ≤ 140737488355328 ∧ PCall Tryz.prog G0 115 [AV.agg [AV.i r.a, AV.i r.b], AV.i ((List.map (dtOf r) l).getD (↑g :
   Int).toNat default).m.mi] (AV.i (offM r.a ((List.map (dtOf r) l).getD (↑g : Int).toNat default).m.mi)) ∧ In64 ((↑g : Int) + 1) ∧ ∃ (g' : Nat), g' ≤ l.length ∧ l.length - g' < l.length - g ∧ AS.mk [(2, AV.i n), (3, AV.elt 18 [(encRu
   r)] 0 0), (6, AV.ptr 2 0), (9, AV.own 1 ((List.map encI (tak r l n g)).length + 1)), (34, AV.sl 10 (List.map encDt (List.map (dtOf r) l))), (35, AV.i (↑(List.map encDt (List.map (dtOf r) l)).length : Int)), (36, AV.i ((↑g : Int) +
   1))] [(1, ABlk.buf 3 1 (List.map encI (tak r l n g) ++ [[AV.i (offM r.a ((List.map (dtOf r) l).getD (↑g : Int).toNat default).m.mi)]])), (2, ABlk.box [AV.i 0, AV.i 0])] 3 = AS.mk [(2, AV.i n), (3, AV.elt 18 [(encRu r)] 0 0), (6,
   AV.ptr 2 0), (9, AV.own 1 (List.map encI (tak r l n g')).length), (34, AV.sl 10 (List.map encDt (List.map (dtOf r) l))), (35, AV.i (↑(List.map encDt (List.map (dtOf r) l)).length : Int)), (36, AV.i (↑g' : Int))] [(1, ABlk.buf 3 1
   (List.map encI (tak r l n g'))), (2, ABlk.box [AV.i 0, AV.i 0])] 3) ∧ ((if ((List.map (dtOf r) l).getD (↑g : Int).toNat default).dk = true then ((List.map (dtOf r) l).getD (↑g : Int).toNat default).ni == n else false) = false →
   In64 ((↑g : Int) + 1) ∧ ∃ (g' : Nat), g' ≤ l.length ∧ l.length - g' < l.length - g ∧ AS.mk [(2, AV.i n), (3, AV.elt 18 [(encRu r)] 0 0), (6, AV.ptr 2 0), (9, AV.own 1 (List.map encI (tak r l n g)).length), (34, AV.sl 10 (List.map
   encDt (List.map (dtOf r) l))), (35, AV.i (↑(List.map encDt (List.map (dtOf r) l)).length : Int)), (36, AV.i ((↑g : Int) + 1))] [(1, ABlk.buf 3 1 (List.map encI (tak r l n g))), (2, ABlk.box [AV.i 0, AV.i 0])] 3 = AS.mk [(2, AV.i
   n), (3, AV.elt 18 [(encRu r)] 0 0), (6, AV.ptr 2 0), (9, AV.own 1 (List.map encI (tak r l n g')).length), (34, AV.sl 10 (List.map encDt (List.map (dtOf r) l))), (35, AV.i (↑(List.map encDt (List.map (dtOf r) l)).length : Int)),
   (36, AV.i (↑g' : Int))] [(1, ABlk.buf 3 1 (List.map encI (tak r l n g'))), (2, ABlk.box [AV.i 0, AV.i 0])] 3)) ∧ (decide ((↑g : Int) < (↑(List.map encDt (List.map (dtOf r) l)).length : Int)) = false → (List.map encI (tak r l n
   g)).length = (List.map encI (srtT r l n)).length ∧ WCall Tryz.prog G0 116 [AV.own 1 (List.map encI (tak r l n g)).length] [ABlk.buf 3 1 (List.map encI (tak r l n g))] (AV.tup []) [ABlk.buf 3 1 (List.map encI (srtT r l n))] ∧ (∃
   (g_1 : Nat), g_1 ≤ (srtT r l n).length ∧ AS.mk [(6, AV.ptr 1 0), (12, AV.ptr 2 0), (13, AV.i 0), (60, AV.sl 1 (List.map encI (srtT r l n))), (61, AV.i (↑(List.map encI (tak r l n g)).length : Int)), (62, AV.i 0)] [(1, ABlk.box
   [AV.i 0, AV.i 0]), (2, ABlk.box [AV.i 0, AV.i 0])] 3 = AS.mk [(6, AV.ptr 1 0), (12, AV.ptr 2 0), (13, AV.i (gL (List.take g_1 (srtT r l n))).snd.snd), (60, AV.sl 1 (List.map encI (srtT r l n))), (61, AV.i (↑(List.map encI (srtT r l
   n)).length : Int)), (62, AV.i (↑g_1 : Int))] [(1, ABlk.box [AV.i 0, AV.i 0]), (2, ABlk.box [AV.i (gL (List.take g_1 (srtT r l n))).fst, AV.i (gL (List.take g_1 (srtT r l n))).snd.fst])] 3) ∧ ∀ (g : Nat), g ≤ (srtT r l n).length →
   (decide ((↑g : Int) < (↑(List.map encI (srtT r l n)).length : Int)) = true → (0 : Int) ≤ (↑g : Int) ∧ (↑g : Int) < (↑(List.map encI (srtT r l n)).length : Int) ∧ nth (nthR (List.map encI (srtT r l n)) (↑g : Int).toNat) 0 = AV.i
   ((srtT r l n).getD (↑g : Int).toNat default) ∧ In64 ((srtT r l n).getD (↑g : Int).toNat default - (gL (List.take g (srtT r l n))).snd.snd) ∧ In64 ((gL (List.take g (srtT r l n))).snd.fst - (gL (List.take g (srtT r l n))).fst) ∧
   (decide ((srtT r l n).getD (↑g : Int).toNat default - (gL (List.take g (srtT r l n))).snd.snd > (gL (List.take g (srtT r l n))).snd.fst - (gL (List.take g (srtT r l n))).fst) = true → In64 ((srtT r l n).getD (↑g : Int).toNat
   default + 1) ∧ In64 ((↑g : Int) + 1) ∧ ∃ (g' : Nat), g' ≤ (srtT r l n).length ∧ (srtT r l n).length - g' < (srtT r l n).length - g ∧ AS.mk [(6, AV.ptr 1 0), (12, AV.ptr 2 0), (13, AV.i ((srtT r l n).getD (↑g : Int).toNat default +
   1)), (60, AV.sl 1 (List.map encI (srtT r l n))), (61, AV.i (↑(List.map encI (srtT r l n)).length : Int)), (62, AV.i ((↑g : Int) + 1))] [(1, ABlk.box [AV.i 0, AV.i 0]), (2, ABlk.box [AV.i (gL (List.take g (srtT r l n))).snd.snd,
   AV.i ((srtT r l n).getD (↑g : Int).toNat default)])] 3 = AS.mk [(6, AV.ptr 1 0), (12, AV.ptr 2 0), (13, AV.i (gL (List.take g' (srtT r l n))).snd.snd), (60, AV.sl 1 (List.map encI (srtT r l n))), (61, AV.i (↑(List.map encI (srtT r
   l n)).length : Int)), (62, AV.i (↑g' : Int))] [(1, ABlk.box [AV.i 0, AV.i 0]), (2, ABlk.box [AV.i (gL (List.take g' (srtT r l n))).fst, AV.i (gL (List.take g' (srtT r l n))).snd.fst])] 3) ∧ (decide ((srtT r l n).getD (↑g :
   Int).toNat default - (gL (List.take g (srtT r l n))).snd.snd > (gL (List.take g (srtT r l n))).snd.fst - (gL (List.take g (srtT r l n))).fst) = false → In64 ((srtT r l n).getD (↑g : Int).toNat default + 1) ∧ In64 ((↑g : Int) + 1) ∧
   ∃ (g' : Nat), g' ≤ (srtT r l n).length ∧ (srtT r l n).length - g' < (srtT r l n).length - g ∧ AS.mk [(6, AV.ptr 1 0), (12, AV.ptr 2 0), (13, AV.i ((srtT r l n).getD (↑g : Int).toNat default + 1)), (60, AV.sl 1 (List.map encI (srtT
   r l n))), (61, AV.i (↑(List.map encI (srtT r l n)).length : Int)), (62, AV.i ((↑g : Int) + 1))] [(1, ABlk.box [AV.i 0, AV.i 0]), (2, ABlk.box [AV.i (gL (List.take g (srtT r l n))).fst, AV.i (gL (List.take g (srtT r l
   n))).snd.fst])] 3 = AS.mk [(6, AV.ptr 1 0), (12, AV.ptr 2 0), (13, AV.i (gL (List.take g' (srtT r l n))).snd.snd), (60, AV.sl 1 (List.map encI (srtT r l n))), (61, AV.i (↑(List.map encI (srtT r l n)).length : Int)), (62, AV.i (↑g'
   : Int))] [(1, ABlk.box [AV.i 0, AV.i 0]), (2, ABlk.box [AV.i (gL (List.take g' (srtT r l n))).fst, AV.i (gL (List.take g' (srtT r l n))).snd.fst])] 3)) ∧ (decide ((↑g : Int) < (↑(List.map encI (srtT r l n)).length : Int)) = false →
   AV.tup [AV.agg [AV.i (gL (List.take g (srtT r l n))).fst, AV.i (gL (List.take g (srtT r l n))).snd.fst], AV.i 0] = AV.tup [AV.agg [AV.i (g44 r l n).fst, AV.i (g44 r l n).snd], AV.i (e44 r l n)]))) := by
    have : (List.map encDt (List.map (dtOf r) l)).length = l.length := by simp only [List.length_map]
    have : (List.map encI (srtT r l n)).length = (srtT r l n).length := by simp only [List.length_map]
    refine ⟨(c42r hS), (c92 _ _ _), (c87 [_, _] (by simp)), fun h1 => ?_, fun h1 => ?_⟩
    · have h1' : (e44 r l n != 0) = true := h1
      rw [show g44 r l n = (0, 0) from if_pos h1']
      rfl
    · have hE : (e44 r l n != 0) = false := h1
      have hz := bne_f hE
      have h0 : chkMR r l = 0 := by
        have h9 := hz
        unfold e44 at h9
        rw [first_zero] at h9
        exact h9.1
      have hV := (mv_ok h0).2.1
      have hra := hV.1.a
      have hrb := hV.1.b
      have hob := offM_bd hV.1.a hV.1.b
      have hlk := hS.k
      have hsl : (srtT r l n).length ≤ l.length + 1 := by
        have h1 := srtT_len r l n
        have h2 := tak_len r l n l.length
        rw [List.length_map] at h1
        omega
      refine ⟨(c91 r.a r.b (by unfold In64; omega) (by unfold In64; omega)), (c104 r l hV.1 hV.2 hS.k), ⟨⟨0, by omega, rfl⟩, fun g hg => ⟨fun hd => ?_, fun hd => ?_⟩⟩⟩
      · have hlt : g < l.length := by have h9 := of_decide_eq_true hd; have h8 := hg; (try simp only [List.length_map] at h8); (try simp only [List.length_map] at h9); omega
        have hmv := hV.2 _ (getD_mem hlt)
        have hmm := hmv.m
        have hdm : (dtOf r (l.getD g default)).m.mi = (l.getD g default).mi := rfl
        have htl := tak_len r l n g
        try rw [show (↑g : Int).toNat = g from Int.toNat_natCast g]
        rw [getD_map (f := dtOf r) hlt]
        try rw [show (↑g : Int).toNat = g from Int.toNat_natCast g]
        refine ⟨(by omega), (by omega), (by rw [row_at encDt (by simpa using hlt), getD_map hlt]), fun h => h, fun h => h, fun h => h, fun h => h, fun h2 => ?_, fun h2 => ?_⟩
        · have hp : nS r n (l.getD g default) = true := h2
          refine ⟨(by omega), (by omega), (c115 r.a r.b _ (by unfold In64; omega) (by unfold In64; omega)), (by unfold In64; omega), ⟨g + 1, by omega, by omega, ?_⟩⟩
          · first
              | (rw [tak_t hp, List.map_append, List.length_append]; rfl)
              | (rw [tak_f hp]; rfl)
        · have hp : nS r n (l.getD g default) = false := h2
          refine ⟨(by unfold In64; omega), ⟨g + 1, by omega, by omega, ?_⟩⟩
          · first
              | (rw [tak_t hp, List.map_append, List.length_append]; rfl)
              | (rw [tak_f hp]; rfl)
      · have hge : g = l.length := by have h9 := of_decide_eq_false hd; have h8 := hg; (try simp only [List.length_map] at h8); (try simp only [List.length_map] at h9); omega
        subst hge
        refine ⟨(srtT_len r l n).symm, (w116 _ (tak_ln r l n l.length).1 (by have := (tak_ln r l n l.length).2; omega)), ⟨⟨0, by omega, (by rw [srtT_len]; rfl)⟩, fun g hg2 => ⟨fun hd2 => ?_, fun hd2 => ?_⟩⟩⟩
        · have hlt2 : g < (srtT r l n).length := by have h9 := of_decide_eq_true hd2; have h8 := hg2; (try simp only [List.length_map] at h8); (try simp only [List.length_map] at h9); omega
          have hgb := gL_bd (S := (srtT r l n).take g) (N := 1440) (by omega) (fun x hx => by have := srtT_bd hV.1 hV.2 x (List.mem_of_mem_take hx); omega)
          have hxb := srtT_bd (n := n) hV.1 hV.2 _ (getD_mem hlt2)
          try rw [show (↑g : Int).toNat = g from Int.toNat_natCast g]
          refine ⟨(by omega), (by omega), congrArg (fun r => nth r 0) (row_at encI hlt2), (by unfold In64; omega), (by unfold In64; omega), fun h2 => ⟨(by unfold In64; omega), (by unfold In64; omega), ⟨g + 1, by omega, by omega, ?_⟩⟩, fun h2 => ⟨(by unfold In64; omega), (by unfold In64; omega), ⟨g + 1, by omega, by omega, ?_⟩⟩⟩
          · rw [gL_step hlt2]
            first
              | (rw [gStep, if_pos (of_decide_eq_true h2)]; rfl)
              | (rw [gStep, if_neg (of_decide_eq_false h2)]; rfl)
          · rw [gL_step hlt2]
            first
              | (rw [gStep, if_pos (of_decide_eq_true h2)]; rfl)
              | (rw [gStep, if_neg (of_decide_eq_false h2)]; rfl)
        · have hge2 : g = (srtT r l n).length := by have h9 := of_decide_eq_false hd2; have h8 := hg2; (try simp only [List.length_map] at h8); (try simp only [List.length_map] at h9); omega
          subst hge2
          rw [show g44 r l n = ((gL (srtT r l n)).1, (gL (srtT r l n)).2.1) from if_neg (by rw [hE]; decide), hz, List.take_length]
  exact c_of Tryz.f44 ({ gsB (fun i => if i.beq 5 then [.frzo 34] else if i.beq 14 then [.frzo 60] else []) (fzB (mkB (sp44 r l n) 44 [(7, 1, rdL 10 encDt (l.map (dtOf r)) 10 true), (16, 1, rdL 1 encI (srtT r l n) 1 false)] (la44 r l n))) with hs := hs44 r l n }) (by kernel_rfl) (by kernel_rfl) (by kernel_rfl) (by kernel_rfl) key (by kernel_rfl)
theorem re_eq {r : Ru} {l : List Mv} (n : Int) (hR : RuOK r) (hM : ∀ m, m ∈ l → MvOK r m) :
    ((gL (srtT r l n)).1, (gL (srtT r l n)).2.1) = ((rB (tkN r l n l.length) (offM r.a r.b).toNat).1, (rB (tkN r l n l.length) (offM r.a r.b).toNat).2.1) := by
  have hob := offM_bd hR.a hR.b
  have hLL : (((offM r.a r.b).toNat : Nat) : Int) = offM r.a r.b := by omega
  have ht : ∀ (i t : Nat), i ≤ l.length → (tkN r l n i t = true ↔ ∃ j, j < i ∧ nP r n (l.getD j default) = true ∧ (offR r.a (l.getD j default).mi).toNat = t) := by
    intro i t
    induction i with
    | zero => intro _; simp [tkN]
    | succ i ih =>
      intro hi
      have ih := ih (by omega)
      rw [tkN]
      by_cases h1 : nP r n (l.getD i default) = true
      · rw [if_pos h1]
        by_cases h2 : (offR r.a (l.getD i default).mi).toNat = t
        · rw [if_pos h2]
          exact ⟨fun _ => ⟨i, by omega, h1, h2⟩, fun _ => rfl⟩
        · rw [if_neg h2, ih]
          constructor
          · rintro ⟨j, hj, h3, h4⟩
            exact ⟨j, by omega, h3, h4⟩
          · rintro ⟨j, hj, h3, h4⟩
            by_cases q : j = i
            · rw [q] at h4; exact absurd h4 h2
            · exact ⟨j, by omega, h3, h4⟩
      · rw [if_neg h1, ih]
        constructor
        · rintro ⟨j, hj, h3, h4⟩
          exact ⟨j, by omega, h3, h4⟩
        · rintro ⟨j, hj, h3, h4⟩
          by_cases q : j = i
          · rw [q] at h3; exact absurd h3 h1
          · exact ⟨j, by omega, h3, h4⟩
  have hps : ∀ m, m ∈ l → nS r n m = nP r n m := fun m hm => by
    have := (hM m hm).m
    unfold nS nP
    rw [has_wi hR.a hR.b hR.n (by omega)]
  refine gap_eq (srt_pw _) (fun x hx => by have := srtT_bd hR hM x hx; omega) (fun t h => ?_) (by rw [hLL]; exact srtT_mem.2 (.inl rfl))
  rw [ht l.length t (Nat.le_refl _)]
  rw [srtT_mem]
  constructor
  · rintro ⟨j, hj, h1, h2⟩
    have hm := getD_mem hj
    have hmm := (hM _ hm).m
    refine .inr ⟨_, hm, by rw [hps _ hm]; exact h1, ?_⟩
    rw [← offR_eq hR.a (by omega)]
    have hw : wiR r.a r.b (l.getD j default).mi = true := by
      unfold nP at h1
      cases q : wiR r.a r.b (l.getD j default).mi with
      | true => rfl
      | false => rw [q] at h1; cases h1
    have := offR_in hR.a hR.b hR.n (by omega) hw
    omega
  · rintro (h1 | ⟨m, h1, h2, h3⟩)
    · omega
    · obtain ⟨j, hj, rfl⟩ := mem_get h1
      have hmm := (hM _ h1).m
      refine ⟨j, hj, by rw [← hps _ h1]; exact h2, ?_⟩
      rw [offR_eq hR.a (by omega), h3]
      omega
def sp5 (r : Ru) (l : List Mv) (n : Int) : Nat → List AV → Option AV
  | 16, _ => some (.bool true)
  | 17, _ => some (.bool (shR r))
  | 30, _ => some (.bool (shM l))
  | 21, _ => some (.agg (encRu r))
  | 32, [.sl _ rows] => some (.sl 5 rows)
  | 36, _ => some (.i (chkMR r l))
  | 44, _ => some (.tup [.agg [.i (g44 r l n).1, .i (g44 r l n).2], .i (e44 r l n)])
  | 45, _ => some (.agg [.i (g44 r l n).1, .i (g44 r l n).2])
  | 24, _ => some (.i (e44 r l n))
  | m, x => spS m x
theorem c45r {r : Ru} {l : List Mv} {n : Int} (hS : Sh r l) (h : (e44 r l n == 0) = true) : PCall Tryz.prog G0 45 [.agg (encRu r), .sl 5 (l.map encMv), .i n] (.agg [.i (g44 r l n).1, .i (g44 r l n).2]) := by
  have hz : e44 r l n = 0 := by simpa using h
  have h0 : chkMR r l = 0 := by
    have h9 := hz
    unfold e44 at h9
    rw [first_zero] at h9
    exact h9.1
  have hV := (mv_ok h0).2.1
  have := c45 r l n hV.1 hV.2 hS.k
  have e := re_eq n hV.1 hV.2
  rw [show g44 r l n = ((gL (srtT r l n)).1, (gL (srtT r l n)).2.1) from if_neg (by rw [hz]; decide), e]
  exact this
theorem c5 (r : Ru) (l : List Mv) (n : Int) (hA : PCall Tryz.prog G0 16 [] (.bool true)) (hl : r.ts.length ≤ maxLen) (hm : r.rs.length ≤ maxLen) (hn : l.length ≤ maxLen) : PCall Tryz.prog G0 5 [.agg (encRu r), .sl 5 (l.map encMv), .i n] (.bool true) := by
  have key :
   (true = true → true = true) ∧ (true = true → true = true) ∧ (false = false → true = true) ∧ ((!!shR r) = true → (!!shR r) = true) ∧ ((!!shR r) = true → (!!shR r) = true) ∧ ((!shR r) = false → (!!shR r) = true) ∧ PCall Tryz.prog G0
   16 [] (AV.bool true) ∧ PCall Tryz.prog G0 17 [AV.agg (encRu r)] (AV.bool (shR r)) ∧ impB (!!shR r) (PCall Tryz.prog G0 30 [AV.sl 5 (List.map encMv l)] (AV.bool (shM l))) ∧ ((if (!shR r) = true then true else !shM l) = true → PCall
   Tryz.prog G0 16 [] (AV.bool true) ∧ AV.bool true = AV.bool true) ∧ ((if (!shR r) = true then true else !shM l) = false → PCall Tryz.prog G0 21 [AV.agg (encRu r)] (AV.agg (encRu r)) ∧ PCall Tryz.prog G0 32 [AV.sl 5 (List.map encMv
   l)] (AV.sl 5 (List.map encMv l)) ∧ PCall Tryz.prog G0 44 [AV.agg (encRu r), AV.sl 5 (List.map encMv l), AV.i n] (AV.tup [AV.agg [AV.i (g44 r l n).fst, AV.i (g44 r l n).snd], AV.i (e44 r l n)]) ∧ PCall Tryz.prog G0 36 [AV.agg (encRu
   r), AV.sl 5 (List.map encMv l)] (AV.i (chkMR r l)) ∧ PCall Tryz.prog G0 23 [AV.i n, AV.i 0, AV.i 100000] (AV.i (sWithin n (0 : Int) (100000 : Int))) ∧ PCall Tryz.prog G0 24 [AV.sl 1 [[AV.i (chkMR r l)], [AV.i (sWithin n (0 : Int)
   (100000 : Int))]]] (AV.i (e44 r l n)) ∧ ((e44 r l n == 0) = true → PCall Tryz.prog G0 45 [AV.agg (encRu r), AV.sl 5 (List.map encMv l), AV.i n] (AV.agg [AV.i (g44 r l n).fst, AV.i (g44 r l n).snd]) ∧ AV.bool ((g44 r l n).fst ==
   (g44 r l n).fst && true && ((g44 r l n).snd == (g44 r l n).snd && true && true)) = AV.bool true ∧ AV.bool (e44 r l n == e44 r l n) = AV.bool true ∧ AV.bool true = AV.bool true) ∧ ((e44 r l n == 0) = false → AV.bool ((g44 r l n).fst
   == 0 && true && ((g44 r l n).snd == 0 && true && true)) = AV.bool true ∧ AV.bool (e44 r l n == e44 r l n) = AV.bool true ∧ AV.bool true = AV.bool true)) := by
    refine ⟨fun h => h, fun h => h, fun h => by first | exact h | (rw [h]; rfl) | simp_all, fun h => h, fun h => h, fun h => by first | exact h | (rw [h]; rfl) | simp_all, hA, (c17 r hl hm), impB_iff.2 fun hb => (c30 l hn), fun h1 => ⟨hA, rfl⟩, fun h1 => ?_⟩
    · obtain ⟨hx1, hx2⟩ := or_f h1
      have hS : Sh r l := sh_mv (by simpa using hx1) (by simpa using hx2)
      refine ⟨(c21 r hS.t hS.s), ((c32 l hS.k).un), (c44 r l n hS), (c36 r l hS.t hS.s hS.n hS.m hS.k hS.v), (c23 _ _ _), ?_, fun h2 => ⟨(c45r hS h2), ?_, congrArg AV.bool (beq_self_eq_true _), rfl⟩, fun h2 => ⟨?_, congrArg AV.bool (beq_self_eq_true _), rfl⟩⟩
      · exact c24 [chkMR r l, sWithin n 0 100000] (by simp)
      · first
          | (simp; done)
          | (rw [show g44 r l n = (0, 0) from if_pos (bne_beq h2)]; rfl)
      · first
          | (simp; done)
          | (rw [show g44 r l n = (0, 0) from if_pos (bne_beq h2)]; rfl)
  exact c_of Tryz.f5 (noSyms [8] (fzB (mkB (sp5 r l n) 5 (lits true [(8, 2), (8, 6)]) noLa))) (by kernel_rfl) (by kernel_rfl) (by kernel_rfl) (by kernel_rfl) key (by kernel_rfl)
end Go.Proofs.YtimgfogakgakhaaGreatDoor
namespace Go.Proofs.YtimgfogakgakhaaGreatDoor
open Go Go.Av Go.RowKit Go.ChangeShapes Go.WideShapes
theorem jp0_5 : (Rows.nightRespiteRow.inPlace == Tryz.prog.inPlace 5) = true := by kernel_rfl
theorem jp1_5 : (Rows.nightRespiteRow.unfollowed == Tryz.prog.unfollowed 5) = true := by kernel_rfl
theorem jp2_5 : (Rows.nightRespiteRow.recurses == Tryz.prog.recurses 5) = true := by kernel_rfl
theorem jp3_5 : (Rows.nightRespiteRow.named == Tryz.prog.varsNamed 5) = true := by kernel_rfl
theorem jfacts_5 : joinedFacts Tryz.prog 5 Tryz.f5 Rows.nightRespiteSpec Rows.nightRespiteRow = true := by
  unfold joinedFacts
  rw [jp0_5, jp1_5, jp2_5, jp3_5]
  kernel_rfl
end Go.Proofs.YtimgfogakgakhaaGreatDoor
