/-
  What chapter 7's counts and fees are. No condition but the theorems' own. What chapter 7's SameInts and sum return. No condition but the theorems' own. What chapter 7's list and ShortMoves return, and the fees. No condition but the theorems' own. What checked rules and movements have, and that counts, fees and funds are the reference's. No condition but the theorems' own. NightCounts returns true. No condition but the theorems' own. What NightParts says, in plain terms: spans and their complements, sums over nights. No condition but the theorems' own. NightParts returns true. No condition but the theorems' own. What chapter 7's functions of requests and bounds return. No condition but the theorems' own.
-/
import Derived.Test.YtimgfogakgakhaaGreatDoorPB
import Derived.Test.YtimgfogakgakhaaGreatDoorAvD
namespace Go.Proofs.YtimgfogakgakhaaGreatDoor
open Go Go.Av Go.RowKit
structure MvOK (r : Ru) (m : Mv) : Prop where
  t : fiN (pN r.ts m.ty) r.ts.length < r.ts.length
  d : 1 ≤ m.day ∧ m.day ≤ 100000
  m : 0 ≤ m.mi ∧ m.mi ≤ 1439
structure RuOK (r : Ru) : Prop where
  a : 0 ≤ r.a ∧ r.a < 1440
  b : 0 ≤ r.b ∧ r.b < 1440
  n : r.a ≠ r.b
  l : r.ts.length ≤ 16
  k : ∀ t, t ∈ r.ts → (0 ≤ t.c ∧ t.c ≤ 64) ∧ (0 ≤ t.f ∧ t.f ≤ 100000)
  q : 0 ≤ r.q ∧ r.q ≤ 100000
def rCo (r : Ru) (m : Mv) : Int := if (!wiR r.a r.b m.mi) then 0 else (tpAt r.ts m.ty).c
def rFe (r : Ru) (m : Mv) : Int := if wiR r.a r.b m.mi then 2 * (tpAt r.ts m.ty).f else (tpAt r.ts m.ty).f
end Go.Proofs.YtimgfogakgakhaaGreatDoor
namespace Go.Proofs.YtimgfogakgakhaaGreatDoor
open Go Go.Av Go.RowKit
def leW (r : Ru) (l : List Mv) : Nat → Int
  | 0 => r.q
  | i + 1 => IntKind.i64.wrap (leW r l i - rCo r (l.getD i default))
def inR (r : Ru) (x y : Int) (m : Mv) : Bool := if (if wiR r.a r.b m.mi then decide (niI r.a r.b m.day m.mi ≥ x) else false) then decide (niI r.a r.b m.day m.mi < y) else false
def spW (r : Ru) (x y : Int) (l : List Mv) : Nat → Int
  | 0 => 0
  | i + 1 => if inR r x y (l.getD i default) then IntKind.i64.wrap (spW r x y l i + rCo r (l.getD i default)) else spW r x y l i
end Go.Proofs.YtimgfogakgakhaaGreatDoor
namespace Go.Proofs.YtimgfogakgakhaaGreatDoor
open Go Go.Av Go.RowKit
theorem all_ext {P : Nat → Prop} {g : Nat} (h : ∀ j, j < g → P j) (h2 : P g) : ∀ j, j < g + 1 → P j := fun j hj => by
  by_cases e : j = g
  · rw [e]; exact h2
  · exact h j (by omega)
end Go.Proofs.YtimgfogakgakhaaGreatDoor
namespace Go.Proofs.YtimgfogakgakhaaGreatDoor
open Go Go.Av Go.RowKit
theorem wrap_in {n : Int} (h : In64 n) : IntKind.i64.wrap n = n := by
  unfold In64 at h
  show (if (true && decide (n % 18446744073709551616 ≥ 9223372036854775808)) = true then n % 18446744073709551616 - 18446744073709551616 else n % 18446744073709551616) = n
  simp only [Bool.true_and, decide_eq_true_eq]
  split <;> omega
theorem ite_z {a b : Int} (h : (if a != 0 then a else b) = 0) : a = 0 ∧ b = 0 := by
  by_cases q : a = 0
  · subst q; exact ⟨rfl, by simpa using h⟩
  · rw [if_pos (by simpa using q)] at h; exact absurd h q
theorem gt5 {n m : Int} {x : Int} (h : (if decide (n > m) then 5 else x) = 0) : n ≤ m ∧ x = 0 := by
  by_cases q : n > m
  · rw [if_pos (by simpa using q)] at h; cases h
  · rw [if_neg (by simpa using q)] at h; exact ⟨by omega, h⟩
theorem mem_get {α : Type} [Inhabited α] {l : List α} {x : α} (h : x ∈ l) : ∃ i, i < l.length ∧ l.getD i default = x := by
  obtain ⟨i, hi, e⟩ := List.mem_iff_getElem.1 h
  exact ⟨i, hi, by rw [List.getD_eq_getElem?_getD, List.getElem?_eq_getElem hi, e]; rfl⟩
theorem ru_ok {r : Ru} (h : chkR r = 0) : RuOK r := by
  unfold chkR at h
  obtain ⟨h1, h2⟩ := ite_z h
  obtain ⟨-, h3⟩ := scan_zero h2
  obtain ⟨hl, h4⟩ := gt5 h3
  obtain ⟨hT, h5⟩ := scan_zero h4
  obtain ⟨h6, -⟩ := ite_z h5
  unfold e1 at h1
  rw [first_zero, first_zero] at h1
  have p := sp_ok h1.1
  unfold e4 at h6
  rw [first_zero, within_zero] at h6
  refine ⟨p.1, p.2.1, p.2.2, by omega, fun t ht => ?_, h6.1⟩
  obtain ⟨i, hi, rfl⟩ := mem_get ht
  have h7 := hT i hi
  unfold fT at h7
  rw [first_zero, first_zero, first_zero, first_zero, within_zero, within_zero] at h7
  exact ⟨h7.2.2.1, h7.2.2.2.1⟩
end Go.Proofs.YtimgfogakgakhaaGreatDoor
namespace Go.Proofs.YtimgfogakgakhaaGreatDoor
open Go Go.Av Go.RowKit
def cs4 (r : Ru) (l : List Mv) : List Int := if chkMR r l == 0 then l.map (rCo r) else []
def fs4 (r : Ru) (l : List Mv) : List Int := if chkMR r l == 0 then l.map (rFe r) else []
def eSr (r : Ru) (l : List Mv) (x y : Int) : Int := sFirst [chkMR r l, sWhen (if decide (x < 0) then true else decide (x > y)) 14]
def sp4v (r : Ru) (l : List Mv) (x y : Int) : Int := if eSr r l x y == 0 then spW r x y l l.length else 0
def le4 (r : Ru) (l : List Mv) : Int := if chkMR r l == 0 then leW r l l.length else 0
structure Sh (r : Ru) (l : List Mv) : Prop where
  t : r.ts.length ≤ 1000
  s : r.rs.length ≤ 1000
  n : ∀ t, t ∈ r.ts → t.n.length ≤ 1000
  m : ∀ s, s ∈ r.rs → s.length ≤ 1000
  k : l.length ≤ 1000
  v : ∀ m, m ∈ l → m.fl.length ≤ 1000 ∧ m.al.length ≤ 1000
def b4 (r : Ru) (l : List Mv) (x y : Int) : List (Nat × AV) := [(1, .sl 5 (l.map encMv)), (3, .elt 18 [encRu r] 0 0), (5, .elt 2 [[.i x, .i y]] 0 0), (6, .bool false)]
def w4 (r : Ru) (l : List Mv) (x y : Int) : List (Nat × AV) := [(7, .sl 1 ((cs4 r l).map encI)), (8, .i (chkMR r l)), (9, .sl 1 ((fs4 r l).map encI)), (10, .i (chkMR r l)), (11, .i (sp4v r l x y)), (12, .i (eSr r l x y)), (13, .i (le4 r l)), (14, .i (chkMR r l)), (15, .i (chkMR r l)), (16, .i (eSr r l x y))]
def bs4 (a b : List (List AV)) : BL := [(1, .buf 3 1 a), (2, .buf 3 1 b)]
def mb (g : List GS) (l : List (Nat × AV)) (bs : BL) : Option (List GS × AS) := some (g ++ [.keep (l.map (·.1)) (bs.map (·.1)), .bound (bs.length + 1)], ⟨l, bs, bs.length + 1⟩)
def m4 (r : Ru) (l : List Mv) (x y : Int) : List (Option (List GS × AS)) :=
  let B := b4 r l x y
  let W := w4 r l x y
  let V := B ++ W
  let O : List (Nat × AV) := [(17, .own 1 0), (18, .own 2 0)]
  let S : List (Nat × AV) := [(17, .sl 1 ((cs4 r l).map encI)), (18, .sl 1 ((fs4 r l).map encI))]
  [md [] B, md [] (B ++ [(33, .bool false)]), md [] B, md [] (B ++ W.take 2), md [] (B ++ W.take 4), md [] (B ++ W.take 6), md [] (B ++ W.take 8), md [] (B ++ W.take 9), md [] V,
   mb [.own 17 3 1, .own 18 3 1, .reno 17 1, .reno 18 2] (V ++ O) (bs4 [] []), mb [] (V ++ O ++ [(19, .i 0), (20, .i 0)]) (bs4 [] []), mb [] (V ++ O ++ [(19, .i 0), (20, .i 0), (86, .bool (chkMR r l == 0))]) (bs4 [] []),
   md [.frzo 17, .frzo 18] (V ++ S ++ [(19, .i 0), (20, .i (le4 r l))]),
   md [] (V ++ S ++ [(19, .i 0), (20, .i (le4 r l)), (115, .bool (eSr r l x y == 0))]),
   md [] (V ++ S ++ [(19, .i (sp4v r l x y)), (20, .i (le4 r l))])]
end Go.Proofs.YtimgfogakgakhaaGreatDoor
namespace Go.Proofs.YtimgfogakgakhaaGreatDoor
open Go Go.Av Go.RowKit
theorem or_f {a b : Bool} (h : (if a = true then true else b) = false) : a = false ∧ b = false := by
  cases a <;> simp_all
theorem off_sum {a b : Int} (ha : 0 ≤ a ∧ a < 1440) (hb : 0 ≤ b ∧ b < 1440) (hab : a ≠ b) : offM a b + offM b a = 1440 ∧ 1 ≤ offM a b ∧ 1 ≤ offM b a := by
  have h1 := off_eq ha hb
  have h2 := off_eq hb ha
  by_cases c : b ≥ a
  · have := h1.1 c; have := h2.2 (by omega); omega
  · have := h1.2 (by omega); have := h2.1 (by omega); omega
end Go.Proofs.YtimgfogakgakhaaGreatDoor
namespace Go.Proofs.YtimgfogakgakhaaGreatDoor
open Go Go.Av Go.RowKit
def noSyms (l : List Nat) (B : BA) : BA := l.foldl (fun B r => noSym r B) B
def lits (b : Bool) (l : List (Nat × Nat)) : List (Nat × Nat × (List AV → Option AV)) := l.map fun p => (p.1, p.2, fun _ => some (.bool b))
def clL (l : List Nat) : Operand → Bool
  | .tmp t => l.any fun u => u.beq t
  | _ => false
end Go.Proofs.YtimgfogakgakhaaGreatDoor
namespace Go.Proofs.YtimgfogakgakhaaGreatDoor
open Go Go.Av Go.RowKit
def sFloor (n d : Int) : Int := if n.tdiv d * d > n then n.tdiv d - 1 else n.tdiv d
def laMap {α β : Type} (enc : α → List AV) (encO : β → List AV) (f : α → β) (F : AV) (k eo ko : Nat) (l : List α) : LA := {
  pre := [.own 5 eo ko, .reno 5 1, .keep [1, 5, 8, 9, 10] [1], .bound 2], post := [.reno 5 1, .keep [1, 5, 8, 9, 10] [1], .bound 2]
  Gh := Nat
  st := fun i => ⟨[(1, F), (5, .own 1 (((l.take i).map f).map encO).length), (8, .sl k (l.map enc)), (9, .i (l.map enc).length), (10, .i i)], [(1, .buf eo ko (((l.take i).map f).map encO))], 2⟩
  ok := fun i => i ≤ (l.map enc).length
  ms := fun i => (l.map enc).length - i }
def laConv {α : Type} (enc : α → List AV) (k eo : Nat) (l : List α) : LA := {
  pre := [.own 3 eo k, .reno 3 1, .keep [3, 6, 7, 8] [1], .bound 2], post := [.reno 3 1, .keep [3, 6, 7, 8] [1], .bound 2]
  Gh := Nat
  st := fun i => ⟨[(3, .own 1 ((l.take i).map enc).length), (6, .sl k (l.map enc)), (7, .i (l.map enc).length), (8, .i i)], [(1, .buf eo k ((l.take i).map enc))], 2⟩
  ok := fun i => i ≤ (l.map enc).length
  ms := fun i => (l.map enc).length - i }
def la1 (L : LA) : Nat → Option LA := fun i => if i.beq 0 then some L else none
theorem c62 (l : List Tp) (hl : l.length ≤ 1000) : PCall Tryz.prog G0 62 [.sl 3 (l.map encTp)] (.fresh 198 3 (l.map encTp)) := by
  have key :
   (∃ (g : Nat), g ≤ (List.map encTp l).length ∧ AS.mk [(3, AV.own 1 0), (6, AV.sl 3 (List.map encTp l)), (7, AV.i (↑(List.map encTp l).length : Int)), (8, AV.i 0)] [(1, ABlk.buf 198 3 [])] 2 = AS.mk [(3, AV.own 1 (List.map encTp
   (List.take g l)).length), (6, AV.sl 3 (List.map encTp l)), (7, AV.i (↑(List.map encTp l).length : Int)), (8, AV.i (↑g : Int))] [(1, ABlk.buf 198 3 (List.map encTp (List.take g l)))] 2) ∧ ∀ (g : Nat), g ≤ (List.map encTp l).length →
   (decide ((↑g : Int) < (↑(List.map encTp l).length : Int)) = true → (0 : Int) ≤ (↑g : Int) ∧ (↑g : Int) < (↑(List.map encTp l).length : Int) ∧ AV.agg (nthR (List.map encTp l) (↑g : Int).toNat) = AV.agg [AV.str (l.getD (↑g :
   Int).toNat default).n, AV.i (l.getD (↑g : Int).toNat default).c, AV.i (l.getD (↑g : Int).toNat default).f] ∧ (List.map encTp (List.take g l)).length + 1 ≤ 9223372036854775807 ∧ ((List.map encTp (List.take g l)).length + 1) * 32 ≤
   140737488355328 ∧ In64 ((↑g : Int) + 1) ∧ ∃ (g' : Nat), g' ≤ (List.map encTp l).length ∧ (List.map encTp l).length - g' < (List.map encTp l).length - g ∧ AS.mk [(3, AV.own 1 ((List.map encTp (List.take g l)).length + 1)), (6, AV.sl
   3 (List.map encTp l)), (7, AV.i (↑(List.map encTp l).length : Int)), (8, AV.i ((↑g : Int) + 1))] [(1, ABlk.buf 198 3 (List.map encTp (List.take g l) ++ [[AV.str (l.getD (↑g : Int).toNat default).n, AV.i (l.getD (↑g : Int).toNat
   default).c, AV.i (l.getD (↑g : Int).toNat default).f]]))] 2 = AS.mk [(3, AV.own 1 (List.map encTp (List.take g' l)).length), (6, AV.sl 3 (List.map encTp l)), (7, AV.i (↑(List.map encTp l).length : Int)), (8, AV.i (↑g' : Int))] [(1,
   ABlk.buf 198 3 (List.map encTp (List.take g' l)))] 2) ∧ (decide ((↑g : Int) < (↑(List.map encTp l).length : Int)) = false → AV.fresh 198 3 (List.map encTp (List.take g l)) = AV.fresh 198 3 (List.map encTp l)) := by
    have : (List.map encTp l).length = l.length := by simp only [List.length_map]
    refine ⟨⟨0, by omega, rfl⟩, fun g hg => ⟨fun hd => ?_, fun hd => ?_⟩⟩
    · have hlt : g < l.length := by have h9 := of_decide_eq_true hd; have h8 := hg; (try simp only [List.length_map] at h8); (try simp only [List.length_map] at h9); omega
      have : (List.map encTp (List.take g l)).length = g := by simp only [List.length_map, List.length_take]; omega
      try rw [show (↑g : Int).toNat = g from Int.toNat_natCast g]
      refine ⟨(by omega), (by omega), congrArg AV.agg (row_at encTp hlt), (by omega), (by omega), (by unfold In64; omega), ⟨g + 1, by omega, by omega, ?_⟩⟩
      · first | (rw [← take_succ_map _ _ hlt, List.length_append]; rfl) | (rw [← take_succ _ hlt, List.length_append]; rfl)
    · have hge : g = l.length := by have h9 := of_decide_eq_false hd; have h8 := hg; (try simp only [List.length_map] at h8); (try simp only [List.length_map] at h9); omega
      subst hge
      exact (by rw [List.take_length])
  exact c_of Tryz.f62 (fzB (mkB spS 62 [(4, 1, rdL 3 encTp l 3 true)] (la1 (laConv encTp 3 198 l)))) (by kernel_rfl) (by kernel_rfl) (by kernel_rfl) (by kernel_rfl) key (by kernel_rfl)
theorem c195 (n d : Int) (hd : d ≠ 0) (h1 : In64 (n.tdiv d)) (h2 : In64 (n.tdiv d * d)) (h3 : In64 (n.tdiv d - 1)) : PCall Tryz.prog G0 195 [.i n, .i d] (.i (sFloor n d)) := by
  have key :
   ¬d = (0 : Int) ∧ In64 (n.tdiv d) ∧ In64 (n.tdiv d * d) ∧ (decide (n.tdiv d * d > n) = true → In64 (n.tdiv d - 1) ∧ AV.i (n.tdiv d - 1) = AV.i (sFloor n d)) ∧ (decide (n.tdiv d * d > n) = false → AV.i (n.tdiv d) = AV.i (sFloor n d))
   := by
    refine ⟨hd, h1, h2, fun h => ⟨h3, ?_⟩, fun h => ?_⟩
    · simp only [decide_eq_true_eq] at h
      rw [sFloor, if_pos h]
    · simp only [decide_eq_false_iff_not] at h
      rw [sFloor, if_neg h]
  exact c_of Tryz.f195 (mkB spS 195 [] noLa) (by kernel_rfl) (by kernel_rfl) (by kernel_rfl) (by kernel_rfl) key (by kernel_rfl)
def sp160 : Nat → List AV → Option AV
  | 195, [.int _ n, .int _ d] => some (.i (sFloor n d))
  | 160, [.int _ n, .int _ d] => some (.i (0 - sFloor (0 - n) d))
  | 27, [.agg [.int _ a, .int _ b]] => some (.i (cntN (fun m => wiR a b m) 1440))
  | n, x => spS n x
theorem c160 (n d : Int) (hd : d ≠ 0) (h1 : In64 ((0 - n).tdiv d)) (h2 : In64 ((0 - n).tdiv d * d)) (h3 : In64 ((0 - n).tdiv d - 1)) (h4 : In64 (0 - n)) (h5 : In64 (0 - sFloor (0 - n) d)) : PCall Tryz.prog G0 160 [.i n, .i d] (.i (0 - sFloor (0 - n) d)) := by
  have key :
   In64 ((0 : Int) - n) ∧ In64 ((0 : Int) - sFloor ((0 : Int) - n) d) ∧ PCall Tryz.prog G0 195 [AV.i ((0 : Int) - n), AV.i d] (AV.i (sFloor ((0 : Int) - n) d)) ∧ AV.i ((0 : Int) - sFloor ((0 : Int) - n) d) = AV.i ((0 : Int) - sFloor
   ((0 : Int) - n) d) := by
    exact ⟨h4, h5, c195 _ _ hd h1 h2 h3, rfl⟩
  exact c_of Tryz.f160 (mkB sp160 160 [] noLa) (by kernel_rfl) (by kernel_rfl) (by kernel_rfl) (by kernel_rfl) key (by kernel_rfl)
def hrS (a b : Int) : Int := (offM a b + 59).tdiv 60
def hrR (a b : Int) : Int := 0 - sFloor (0 - (cntN (fun m => wiR a b m) 1440 : Nat)) 60
theorem tdiv_nn {n : Int} (h : 0 ≤ n) : n.tdiv 60 = n / 60 := Int.tdiv_eq_ediv_of_nonneg h
theorem tdiv_neg {n : Int} (h : 0 ≤ n) : (0 - n).tdiv 60 = -(n / 60) := by
  rw [show 0 - n = -n by omega, Int.neg_tdiv, tdiv_nn h]
theorem hr_eq {a b : Int} (ha : 0 ≤ a ∧ a < 1440) (hb : 0 ≤ b ∧ b < 1440) (hab : a ≠ b) : hrS a b = hrR a b ∧ 1 ≤ hrS a b ∧ hrS a b ≤ 24 := by
  have h1 := off_sum ha hb hab
  unfold hrS hrR sFloor
  rw [← len_eq ha hb hab, tdiv_nn (by omega), tdiv_neg (by omega)]
  split <;> omega
theorem c134 (r : Ru) (hR : RuOK r) : PCall Tryz.prog G0 134 [.agg (encRu r)] (.i (hrS r.a r.b)) := by
  have key :
   In64 (offM r.a r.b + 59) ∧ ¬(60 : Int) = (0 : Int) ∧ In64 ((offM r.a r.b + 59).tdiv 60) ∧ PCall Tryz.prog G0 91 [AV.agg [AV.i r.a, AV.i r.b]] (AV.i (offM r.a r.b)) ∧ AV.i ((offM r.a r.b + 59).tdiv 60) = AV.i (hrS r.a r.b) := by
    have h1 := off_sum hR.a hR.b hR.n
    have h2 := hR.a
    have h3 := hR.b
    have h4 := (hr_eq hR.a hR.b hR.n).2
    unfold hrS at h4
    refine ⟨(by unfold In64; omega), (by decide), (by unfold In64; omega), (c91 _ _ (by unfold In64; omega) (by unfold In64; omega)), ?_⟩
    · first | rfl | trivial
  exact c_of Tryz.f134 (mkB spS 134 [] noLa) (by kernel_rfl) (by kernel_rfl) (by kernel_rfl) (by kernel_rfl) key (by kernel_rfl)
theorem c132 (r : Ru)  : PCall Tryz.prog G0 132 [.agg (encRu r)] (.i (hrR r.a r.b)) := by
  have key :
   PCall Tryz.prog G0 27 [AV.agg [AV.i r.a, AV.i r.b]] (AV.i (↑(cntN (fun (m : Nat) => wiR r.a r.b (↑m : Int)) 1440) : Int)) ∧ PCall Tryz.prog G0 160 [AV.i (↑(cntN (fun (m : Nat) => wiR r.a r.b (↑m : Int)) 1440) : Int), AV.i 60] (AV.i
   ((0 : Int) - sFloor ((0 : Int) - (↑(cntN (fun (m : Nat) => wiR r.a r.b (↑m : Int)) 1440) : Int)) (60 : Int))) ∧ AV.i ((0 : Int) - sFloor ((0 : Int) - (↑(cntN (fun (m : Nat) => wiR r.a r.b (↑m : Int)) 1440) : Int)) (60 : Int)) =
   AV.i (hrR r.a r.b) := by
    have h1 := cnt_le (fun (m : Nat) => wiR r.a r.b m) 1440
    have h2 := tdiv_neg (n := ((cntN (fun (m : Nat) => wiR r.a r.b m) 1440 : Nat) : Int)) (by omega)
    refine ⟨(c27 r.a r.b), ?_, ?_⟩
    · refine c160 _ _ (by decide) ?_ ?_ ?_ ?_ ?_
      · rw [h2]; unfold In64; omega
      · rw [h2]; unfold In64; omega
      · rw [h2]; unfold In64; omega
      · unfold In64; omega
      · unfold sFloor; rw [h2]; unfold In64; split <;> omega
    · first | rfl | trivial
  exact c_of Tryz.f132 (mkB sp160 132 [] noLa) (by kernel_rfl) (by kernel_rfl) (by kernel_rfl) (by kernel_rfl) key (by kernel_rfl)
def fRq (r : Ru) (x : Tp) : Int := sFirst [sWhen (!decide (fiN (pN r.ts x.n) r.ts.length < r.ts.length)) 10, sWithin x.c 0 (hrS r.a r.b - 1), sWithin x.f 0 1000]
def sp155 (r : Ru) : Nat → List AV → Option AV
  | 134, [.agg (.int _ a :: .int _ b :: _)] => some (.i (hrS a b))
  | n, x => sp112 r.ts n x
theorem c155 (r : Ru) (x : Tp) (hl : r.ts.length ≤ 1000) (hR : RuOK r) : PCall Tryz.prog G0 155 [.agg (encTp x), .elt 18 [encRu r] 0 0] (.i (fRq r x)) := by
  have key :
   In64 (hrS r.a r.b - 1) ∧ PCall Tryz.prog G0 114 [AV.agg (encRu r), AV.str x.n] (AV.i (sWhen (!decide (fiN (pN r.ts x.n) r.ts.length < r.ts.length)) (10 : Int))) ∧ PCall Tryz.prog G0 134 [AV.agg (encRu r)] (AV.i (hrS r.a r.b)) ∧
   PCall Tryz.prog G0 92 [AV.i x.c, AV.i 0, AV.i (hrS r.a r.b - 1)] (AV.i (sWithin x.c (0 : Int) (hrS r.a r.b - 1))) ∧ PCall Tryz.prog G0 92 [AV.i x.f, AV.i 0, AV.i 1000] (AV.i (sWithin x.f (0 : Int) (1000 : Int))) ∧ PCall Tryz.prog
   G0 87 [AV.sl 1 [[AV.i (sWhen (!decide (fiN (pN r.ts x.n) r.ts.length < r.ts.length)) (10 : Int))], [AV.i (sWithin x.c (0 : Int) (hrS r.a r.b - 1))], [AV.i (sWithin x.f (0 : Int) (1000 : Int))]]] (AV.i (sFirst [hdI [AV.i (sWhen
   (!decide (fiN (pN r.ts x.n) r.ts.length < r.ts.length)) (10 : Int))], hdI [AV.i (sWithin x.c (0 : Int) (hrS r.a r.b - 1))], hdI [AV.i (sWithin x.f (0 : Int) (1000 : Int))]])) ∧ AV.i (sFirst [hdI [AV.i (sWhen (!decide (fiN (pN r.ts
   x.n) r.ts.length < r.ts.length)) (10 : Int))], hdI [AV.i (sWithin x.c (0 : Int) (hrS r.a r.b - 1))], hdI [AV.i (sWithin x.f (0 : Int) (1000 : Int))]]) = AV.i (fRq r x) := by
    have h4 := (hr_eq hR.a hR.b hR.n).2
    refine ⟨(by unfold In64; omega), (c114 r _ hl), (c134 r hR), (c92 _ _ _), (c92 _ _ _), (c87 [_, _, _] (by simp)), ?_⟩
    · first | rfl | trivial
  exact c_of Tryz.f155 (mkB (sp155 r) 155 [] noLa) (by kernel_rfl) (by kernel_rfl) (by kernel_rfl) (by kernel_rfl) key (by kernel_rfl)
def F155 (r : Ru) : AV := .fn (.func 155) [] [.elt 18 [encRu r] 0 0]
def decTp : List AV → Tp
  | [.str a, .int _ d, .int _ e] => ⟨a, d, e⟩
  | _ => default
def sp154 (r : Ru) : Nat → List AV → Option AV
  | 155, [.agg x, _] => some (.i (fRq r (decTp x)))
  | n, x => spS n x
theorem c154 (r : Ru) (l : List Tp) (hr : r.ts.length ≤ 1000) (hR : RuOK r) (hl : l.length ≤ 1000) : PCall Tryz.prog G0 154 [.sl 3 (l.map encTp), F155 r] (.fresh 33 1 ((l.map (fRq r)).map encI)) := by
  have key :
   (∃ (g : Nat), g ≤ (List.map encTp l).length ∧ AS.mk [(1, AV.fn (Fn.func 155) [] [AV.elt 18 [(encRu r)] 0 0]), (5, AV.own 1 0), (8, AV.sl 3 (List.map encTp l)), (9, AV.i (↑(List.map encTp l).length : Int)), (10, AV.i 0)] [(1,
   ABlk.buf 33 1 [])] 2 = AS.mk [(1, AV.fn (Fn.func 155) [] [AV.elt 18 [(encRu r)] 0 0]), (5, AV.own 1 (List.map encI (List.map (fRq r) (List.take g l))).length), (8, AV.sl 3 (List.map encTp l)), (9, AV.i (↑(List.map encTp l).length :
   Int)), (10, AV.i (↑g : Int))] [(1, ABlk.buf 33 1 (List.map encI (List.map (fRq r) (List.take g l))))] 2) ∧ ∀ (g : Nat), g ≤ (List.map encTp l).length → (decide ((↑g : Int) < (↑(List.map encTp l).length : Int)) = true → (0 : Int) ≤
   (↑g : Int) ∧ (↑g : Int) < (↑(List.map encTp l).length : Int) ∧ AV.agg (nthR (List.map encTp l) (↑g : Int).toNat) = AV.agg [AV.str (l.getD (↑g : Int).toNat default).n, AV.i (l.getD (↑g : Int).toNat default).c, AV.i (l.getD (↑g :
   Int).toNat default).f] ∧ (List.map encI (List.map (fRq r) (List.take g l))).length + 1 ≤ 9223372036854775807 ∧ ((List.map encI (List.map (fRq r) (List.take g l))).length + 1) * 8 ≤ 140737488355328 ∧ PCall Tryz.prog G0 155 [AV.agg
   [AV.str (l.getD (↑g : Int).toNat default).n, AV.i (l.getD (↑g : Int).toNat default).c, AV.i (l.getD (↑g : Int).toNat default).f], AV.elt 18 [(encRu r)] 0 0] (AV.i (fRq r (decTp (nthR [splice (TI.mk (TK.struct [(0, 9, 1), (1, 3, 1),
   (2, 3, 1)]) 3 32 true [AV.str [], AV.i 0, AV.i 0] true).zero 0 (List.take 3 (List.drop 0 (encTp (l.getD (↑g : Int).toNat default))))] 0)))) ∧ In64 ((↑g : Int) + 1) ∧ ∃ (g' : Nat), g' ≤ (List.map encTp l).length ∧ (List.map encTp
   l).length - g' < (List.map encTp l).length - g ∧ AS.mk [(1, AV.fn (Fn.func 155) [] [AV.elt 18 [(encRu r)] 0 0]), (5, AV.own 1 ((List.map encI (List.map (fRq r) (List.take g l))).length + 1)), (8, AV.sl 3 (List.map encTp l)), (9,
   AV.i (↑(List.map encTp l).length : Int)), (10, AV.i ((↑g : Int) + 1))] [(1, ABlk.buf 33 1 (List.map encI (List.map (fRq r) (List.take g l)) ++ [[AV.i (fRq r (decTp (nthR [splice (TI.mk (TK.struct [(0, 9, 1), (1, 3, 1), (2, 3, 1)])
   3 32 true [AV.str [], AV.i 0, AV.i 0] true).zero 0 (List.take 3 (List.drop 0 (encTp (l.getD (↑g : Int).toNat default))))] 0)))]]))] 2 = AS.mk [(1, AV.fn (Fn.func 155) [] [AV.elt 18 [(encRu r)] 0 0]), (5, AV.own 1 (List.map encI
   (List.map (fRq r) (List.take g' l))).length), (8, AV.sl 3 (List.map encTp l)), (9, AV.i (↑(List.map encTp l).length : Int)), (10, AV.i (↑g' : Int))] [(1, ABlk.buf 33 1 (List.map encI (List.map (fRq r) (List.take g' l))))] 2) ∧
   (decide ((↑g : Int) < (↑(List.map encTp l).length : Int)) = false → AV.fresh 33 1 (List.map encI (List.map (fRq r) (List.take g l))) = AV.fresh 33 1 (List.map encI (List.map (fRq r) l))) := by
    have : (List.map encTp l).length = l.length := by simp only [List.length_map]
    refine ⟨⟨0, by omega, rfl⟩, fun g hg => ⟨fun hd => ?_, fun hd => ?_⟩⟩
    · have hlt : g < l.length := by have h9 := of_decide_eq_true hd; have h8 := hg; (try simp only [List.length_map] at h8); (try simp only [List.length_map] at h9); omega
      have : (List.map encI (List.map (fRq r) (List.take g l))).length = g := by simp only [List.length_map, List.length_take]; omega
      try rw [show (↑g : Int).toNat = g from Int.toNat_natCast g]
      refine ⟨(by omega), (by omega), congrArg AV.agg (row_at encTp hlt), (by omega), (by omega), (c155 r _ hr hR), (by unfold In64; omega), ⟨g + 1, by omega, by omega, ?_⟩⟩
      · first | (rw [← take_succ_map _ _ hlt, List.length_append]; rfl) | (rw [← take_succ _ hlt, List.length_append]; rfl)
    · have hge : g = l.length := by have h9 := of_decide_eq_false hd; have h8 := hg; (try simp only [List.length_map] at h8); (try simp only [List.length_map] at h9); omega
      subst hge
      exact (by rw [List.take_length])
  exact c_of Tryz.f154 (fzB (mkB (sp154 r) 154 [(4, 1, rdL 3 encTp l 3 true)] (la1 (laMap encTp encI (fRq r) (F155 r) 3 33 1 l)))) (by kernel_rfl) (by kernel_rfl) (by kernel_rfl) (by kernel_rfl) key (by kernel_rfl)
theorem c87m (es : List Int) (hl : es.length ≤ 1000000) : PCall Tryz.prog G0 87 [.sl 1 (es.map encI)] (.i (sFirst ((es.map encI).map hdI))) := by
  rw [map_dec (enc := encI) (dec := hdI) (fun x => rfl)]
  exact c87 es hl
def eRq (r : Ru) (l : List Tp) : Int := sFirst [chkS r, sWhen (decide ((l.length : Int) > 8)) 5]
def rqS (r : Ru) (l : List Tp) : Int := if eRq r l != 0 then eRq r l else sFirst (l.map (fRq r))
def sp126 (r : Ru) (l : List Tp) : Nat → List AV → Option AV
  | 29, _ => some (.i (chkS r))
  | 154, _ => some (.sl 1 ((l.map (fRq r)).map encI))
  | n, x => spS n x
theorem chkS_ok {r : Ru} (h : chkS r = 0) : RuOK r := ru_ok (chk_eq r ▸ h)
theorem c126 (r : Ru) (l : List Tp) (ht : r.ts.length ≤ 1000) (hs : r.rs.length ≤ 1000) (hn : ∀ t, t ∈ r.ts → t.n.length ≤ 1000) (hm : ∀ s, s ∈ r.rs → s.length ≤ 1000) (hl : l.length ≤ 1000) : PCall Tryz.prog G0 126 [.agg (encRu r), .sl 3 (l.map encTp)] (.i (rqS r l)) := by
  have key :
   PCall Tryz.prog G0 29 [AV.agg (encRu r)] (AV.i (chkS r)) ∧ PCall Tryz.prog G0 95 [AV.bool (decide ((↑(List.map encTp l).length : Int) > 8)), AV.i 5] (AV.i (sWhen (decide ((↑(List.map encTp l).length : Int) > 8)) (5 : Int))) ∧ PCall
   Tryz.prog G0 87 [AV.sl 1 [[AV.i (chkS r)], [AV.i (sWhen (decide ((↑(List.map encTp l).length : Int) > 8)) (5 : Int))]]] (AV.i (sFirst [hdI [AV.i (chkS r)], hdI [AV.i (sWhen (decide ((↑(List.map encTp l).length : Int) > 8)) (5 :
   Int))]])) ∧ ((sFirst [hdI [AV.i (chkS r)], hdI [AV.i (sWhen (decide ((↑(List.map encTp l).length : Int) > 8)) (5 : Int))]] != 0) = true → AV.i (sFirst [hdI [AV.i (chkS r)], hdI [AV.i (sWhen (decide ((↑(List.map encTp l).length :
   Int) > 8)) (5 : Int))]]) = AV.i (rqS r l)) ∧ ((sFirst [hdI [AV.i (chkS r)], hdI [AV.i (sWhen (decide ((↑(List.map encTp l).length : Int) > 8)) (5 : Int))]] != 0) = false → PCall Tryz.prog G0 154 [AV.sl 3 (List.map encTp l), AV.fn
   (Fn.func 155) [] [AV.elt 18 [(encRu r)] 0 0]] (AV.sl 1 (List.map encI (List.map (fRq r) l))) ∧ PCall Tryz.prog G0 87 [AV.sl 1 (List.map encI (List.map (fRq r) l))] (AV.i (sFirst (List.map hdI (List.map encI (List.map (fRq r) l)))))
   ∧ AV.i (sFirst (List.map hdI (List.map encI (List.map (fRq r) l)))) = AV.i (rqS r l)) := by
    rw [show (List.map encTp l).length = l.length from List.length_map _]
    refine ⟨(c29 r ht hs hn hm), (c95 _ _), (c87 [_, _] (by simp)), fun h1 => ?_, fun h1 => ?_⟩
    · rw [rqS, if_pos (show (eRq r l != 0) = true from h1)]; rfl
    · have h2 : (eRq r l != 0) = false := h1
      have hz := bne_f h2
      unfold eRq at hz
      rw [first_zero] at hz
      have hR := chkS_ok hz.1
      refine ⟨((c154 r l ht hR hl).un), (c87m _ (by rw [List.length_map]; omega)), ?_⟩
      · rw [map_dec (enc := encI) (dec := hdI) (fun x => rfl), rqS, if_neg (by rw [h2]; decide)]
  exact c_of Tryz.f126 (fzB (mkB (sp126 r l) 126 [] noLa)) (by kernel_rfl) (by kernel_rfl) (by kernel_rfl) (by kernel_rfl) key (by kernel_rfl)
def fRr (r : Ru) (l : List Tp) (i : Nat) : Int := sFirst [sWhen (decide (fiI (pN r.ts (l.getD i default).n) r.ts.length < 0)) 10, sWithin (l.getD i default).c 0 (hrR r.a r.b - 1), sWithin (l.getD i default).f 0 1000]
def eRr (r : Ru) (l : List Tp) : Int := sFirst [chkR r, sWhen (decide ((l.length : Int) > 8)) 5]
def rqR (r : Ru) (l : List Tp) : Int := if eRr r l != 0 then eRr r l else sScan (fRr r l) l.length 0
def sp65 (r : Ru) : Nat → List AV → Option AV
  | 25, _ => some (.i (chkR r))
  | 94, [_, .str s] => some (.i (fiI (pN r.ts s) r.ts.length))
  | 132, _ => some (.i (hrR r.a r.b))
  | n, x => spS n x
def la65 (r : Ru) (l : List Tp) : LA := {
  pre := [.keep [1, 2, 6] [], .bound 1], post := [.keep [1, 2, 6] [], .bound 1]
  Gh := Nat
  st := fun i => ⟨[(1, .sl 3 (l.map encTp)), (2, .elt 18 [encRu r] 0 0), (6, .i i)], [], 1⟩
  ok := fun i => i ≤ l.length ∧ ∀ j, j < i → fRr r l j = 0
  ms := fun i => l.length - i }
theorem c65 (r : Ru) (l : List Tp) (ht : r.ts.length ≤ 1000) (hs : r.rs.length ≤ 1000) (hn : ∀ t, t ∈ r.ts → t.n.length ≤ 1000) (hm : ∀ s, s ∈ r.rs → s.length ≤ 1000) (hl : l.length ≤ 1000) : PCall Tryz.prog G0 65 [.agg (encRu r), .sl 3 (l.map encTp)] (.i (rqR r l)) := by
  have key :
   PCall Tryz.prog G0 25 [AV.agg (encRu r)] (AV.i (chkR r)) ∧ PCall Tryz.prog G0 37 [AV.bool (decide ((↑(List.map encTp l).length : Int) > 8)), AV.i 5] (AV.i (sWhen (decide ((↑(List.map encTp l).length : Int) > 8)) (5 : Int))) ∧ PCall
   Tryz.prog G0 24 [AV.sl 1 [[AV.i (chkR r)], [AV.i (sWhen (decide ((↑(List.map encTp l).length : Int) > 8)) (5 : Int))]]] (AV.i (sFirst [hdI [AV.i (chkR r)], hdI [AV.i (sWhen (decide ((↑(List.map encTp l).length : Int) > 8)) (5 :
   Int))]])) ∧ ((sFirst [hdI [AV.i (chkR r)], hdI [AV.i (sWhen (decide ((↑(List.map encTp l).length : Int) > 8)) (5 : Int))]] != 0) = true → AV.i (sFirst [hdI [AV.i (chkR r)], hdI [AV.i (sWhen (decide ((↑(List.map encTp l).length :
   Int) > 8)) (5 : Int))]]) = AV.i (rqR r l)) ∧ ((sFirst [hdI [AV.i (chkR r)], hdI [AV.i (sWhen (decide ((↑(List.map encTp l).length : Int) > 8)) (5 : Int))]] != 0) = false → (∃ (g : Nat), (g ≤ l.length ∧ ∀ (j : Nat), j < g → fRr r l
   j = (0 : Int)) ∧ AS.mk [(1, AV.sl 3 (List.map encTp l)), (2, AV.elt 18 [(encRu r)] 0 0), (6, AV.i 0)] [] 1 = AS.mk [(1, AV.sl 3 (List.map encTp l)), (2, AV.elt 18 [(encRu r)] 0 0), (6, AV.i (↑g : Int))] [] 1) ∧ ∀ (g : Nat), (g ≤
   l.length ∧ ∀ (j : Nat), j < g → fRr r l j = (0 : Int)) → (decide ((↑g : Int) < (↑(List.map encTp l).length : Int)) = true → (0 : Int) ≤ (↑g : Int) ∧ (↑g : Int) < (↑(List.map encTp l).length : Int) ∧ (0 : Int) ≤ (↑g : Int) ∧ (↑g :
   Int) < (↑(List.map encTp l).length : Int) ∧ In64 (hrR r.a r.b - 1) ∧ (0 : Int) ≤ (↑g : Int) ∧ (↑g : Int) < (↑(List.map encTp l).length : Int) ∧ nth (nthR (List.map encTp l) (↑g : Int).toNat) 0 = AV.str (l.getD (↑g : Int).toNat
   default).n ∧ PCall Tryz.prog G0 94 [AV.sl 3 (List.map encTp r.ts), AV.str (l.getD (↑g : Int).toNat default).n] (AV.i (fiI (pN r.ts (l.getD (↑g : Int).toNat default).n) r.ts.length)) ∧ PCall Tryz.prog G0 37 [AV.bool (decide (fiI (pN
   r.ts (l.getD (↑g : Int).toNat default).n) r.ts.length < 0)), AV.i 10] (AV.i (sWhen (decide (fiI (pN r.ts (l.getD (↑g : Int).toNat default).n) r.ts.length < 0)) (10 : Int))) ∧ nth (nthR (List.map encTp l) (↑g : Int).toNat) 1 = AV.i
   (l.getD (↑g : Int).toNat default).c ∧ PCall Tryz.prog G0 132 [AV.agg (encRu r)] (AV.i (hrR r.a r.b)) ∧ PCall Tryz.prog G0 23 [AV.i (l.getD (↑g : Int).toNat default).c, AV.i 0, AV.i (hrR r.a r.b - 1)] (AV.i (sWithin (l.getD (↑g :
   Int).toNat default).c (0 : Int) (hrR r.a r.b - 1))) ∧ nth (nthR (List.map encTp l) (↑g : Int).toNat) 2 = AV.i (l.getD (↑g : Int).toNat default).f ∧ PCall Tryz.prog G0 23 [AV.i (l.getD (↑g : Int).toNat default).f, AV.i 0, AV.i 1000]
   (AV.i (sWithin (l.getD (↑g : Int).toNat default).f (0 : Int) (1000 : Int))) ∧ PCall Tryz.prog G0 24 [AV.sl 1 [[AV.i (sWhen (decide (fiI (pN r.ts (l.getD (↑g : Int).toNat default).n) r.ts.length < 0)) (10 : Int))], [AV.i (sWithin
   (l.getD (↑g : Int).toNat default).c (0 : Int) (hrR r.a r.b - 1))], [AV.i (sWithin (l.getD (↑g : Int).toNat default).f (0 : Int) (1000 : Int))]]] (AV.i (sFirst [hdI [AV.i (sWhen (decide (fiI (pN r.ts (l.getD (↑g : Int).toNat
   default).n) r.ts.length < 0)) (10 : Int))], hdI [AV.i (sWithin (l.getD (↑g : Int).toNat default).c (0 : Int) (hrR r.a r.b - 1))], hdI [AV.i (sWithin (l.getD (↑g : Int).toNat default).f (0 : Int) (1000 : Int))]])) ∧ ((sFirst [hdI
   [AV.i (sWhen (decide (fiI (pN r.ts (l.getD (↑g : Int).toNat default).n) r.ts.length < 0)) (10 : Int))], hdI [AV.i (sWithin (l.getD (↑g : Int).toNat default).c (0 : Int) (hrR r.a r.b - 1))], hdI [AV.i (sWithin (l.getD (↑g :
   Int).toNat default).f (0 : Int) (1000 : Int))]] != 0) = true → AV.i (sFirst [hdI [AV.i (sWhen (decide (fiI (pN r.ts (l.getD (↑g : Int).toNat default).n) r.ts.length < 0)) (10 : Int))], hdI [AV.i (sWithin (l.getD (↑g : Int).toNat
   default).c (0 : Int) (hrR r.a r.b - 1))], hdI [AV.i (sWithin (l.getD (↑g : Int).toNat default).f (0 : Int) (1000 : Int))]]) = AV.i (rqR r l)) ∧ ((sFirst [hdI [AV.i (sWhen (decide (fiI (pN r.ts (l.getD (↑g : Int).toNat default).n)
   r.ts.length < 0)) (10 : Int))], hdI [AV.i (sWithin (l.getD (↑g : Int).toNat default).c (0 : Int) (hrR r.a r.b - 1))], hdI [AV.i (sWithin (l.getD (↑g : Int).toNat default).f (0 : Int) (1000 : Int))]] != 0) = false → In64 ((↑g : Int)
   + 1) ∧ ∃ (g' : Nat), (g' ≤ l.length ∧ ∀ (j : Nat), j < g' → fRr r l j = (0 : Int)) ∧ l.length - g' < l.length - g ∧ AS.mk [(1, AV.sl 3 (List.map encTp l)), (2, AV.elt 18 [(encRu r)] 0 0), (6, AV.i ((↑g : Int) + 1))] [] 1 = AS.mk
   [(1, AV.sl 3 (List.map encTp l)), (2, AV.elt 18 [(encRu r)] 0 0), (6, AV.i (↑g' : Int))] [] 1)) ∧ (decide ((↑g : Int) < (↑(List.map encTp l).length : Int)) = false → AV.i 0 = AV.i (rqR r l))) := by
    have hcn := cnt_le (fun (m : Nat) => wiR r.a r.b m) 1440
    have hh : In64 (hrR r.a r.b - 1) := by
      unfold hrR sFloor
      rw [tdiv_neg (by omega)]
      unfold In64
      split <;> omega
    have hlm : (List.map encTp l).length = l.length := List.length_map _
    have : (List.map encTp l).length = l.length := by simp only [List.length_map]
    refine ⟨(c25 r ht hs hn hm), (c37 _ _), (c24 [_, _] (by simp)), fun h1 => ?_, fun h1 => ?_⟩
    · have h2 : (eRr r l != 0) = true := by unfold eRr; rw [← hlm]; exact h1
      rw [rqR, if_pos h2, eRr, ← hlm]; rfl
    · have n1 : (eRr r l != 0) = false := by unfold eRr; rw [← hlm]; exact h1
      refine ⟨⟨0, ⟨by omega, by intros; omega⟩, rfl⟩, fun g ⟨hg, ha⟩ => ⟨fun hd => ?_, fun hd => ?_⟩⟩
      · have hlt : g < l.length := by have h9 := of_decide_eq_true hd; have h8 := hg; (try simp only [List.length_map] at h8); (try simp only [List.length_map] at h9); omega
        try rw [show (↑g : Int).toNat = g from Int.toNat_natCast g]
        refine ⟨(by omega), (by omega), (by omega), (by omega), hh, (by omega), (by omega), congrArg (fun r => nth r 0) (row_at encTp hlt), (c94 r.ts _ ht), (c37 _ _), congrArg (fun r => nth r 1) (row_at encTp hlt), (c132 r), (c23 _ _ _), congrArg (fun r => nth r 2) (row_at encTp hlt), (c23 _ _ _), (c24 [_, _, _] (by simp)), fun h2 => ?_, fun h2 => ⟨(by unfold In64; omega), ⟨g + 1, ⟨by omega, all_ext ha (bne_f h2)⟩, by omega, rfl⟩⟩⟩
        · refine av_int ?_
          have hne : fRr r l g ≠ 0 := bne_t h2
          rw [rqR, if_neg (by rw [n1]; decide), scan_hit hlt ha hne]; rfl
      · have hge : g = l.length := by have h9 := of_decide_eq_false hd; have h8 := hg; (try simp only [List.length_map] at h8); (try simp only [List.length_map] at h9); omega
        subst hge
        rw [rqR, if_neg (by rw [n1]; decide), scan_end ha]
  exact c_of Tryz.f65 (fzB (mkB (sp65 r) 65 [(7, 6, rdL 3 encTp l 1 false), (7, 14, rdL 3 encTp l 1 false), (7, 23, rdL 3 encTp l 1 false)] (la1 (la65 r l)))) (by kernel_rfl) (by kernel_rfl) (by kernel_rfl) (by kernel_rfl) key (by kernel_rfl)
theorem scan_listT {α : Type} [Inhabited α] (f : α → Int) (l : List α) : sScan (fun i => f (l.getD i default)) l.length 0 = sFirst (l.map f) := by
  unfold sScan
  rw [first_app0]
  congr 1
  refine List.ext_getElem (by simp) fun i h1 h2 => ?_
  simp only [List.getElem_map, List.getElem_range]
  rw [List.getD_eq_getElem?_getD, List.getElem?_eq_getElem (by simpa using h1)]
  rfl
theorem rq_eq (r : Ru) (l : List Tp) : rqS r l = rqR r l := by
  unfold rqS rqR
  rw [show eRq r l = eRr r l by unfold eRq eRr; rw [chk_eq]]
  by_cases h : (eRr r l != 0) = true
  · rw [if_pos h, if_pos h]
  · rw [if_neg h, if_neg h, ← scan_listT]
    have hz : eRr r l = 0 := by simpa using h
    unfold eRr at hz
    rw [first_zero] at hz
    have hR := ru_ok hz.1
    refine scan_same fun k hk => ?_
    unfold fRq fRr
    rw [not_found, (hr_eq hR.a hR.b hR.n).1]
end Go.Proofs.YtimgfogakgakhaaGreatDoor
