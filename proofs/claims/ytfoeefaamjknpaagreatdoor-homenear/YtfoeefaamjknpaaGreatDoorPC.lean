/-
  Complaints: those that are due, the source's; what is wrong, the reference's; copies. Plain laws of complaints and of funds: which complaints are counted, which are due, what a fund has. Levels: both sides. No condition but the theorems' own.
-/
import Derived.Test.YtfoeefaamjknpaaGreatDoorPB
import Derived.Test.YtfoeefaamjknpaaGreatDoorAvD
import Derived.Test.YtfoeefaamjknpaaGreatDoorPA
namespace Go.Proofs.YtfoeefaamjknpaaGreatDoor
open Go Go.Av Go.RowKit
def duE (l : List Cp) (w : Int) (ans : List Int) (t d : Int) : Int := sFirst [cpE l, sWithin w 0 100000, fIx ans l.length, sWithin t 0 100000000, sWithin d 0 100000]
def duV (l : List Cp) (w : Int) (ans : List Int) (t d : Int) : List Int := if (duE l w ans t d != 0) = true then [] else dlG (dueX ans l t d) (cnS l w l.length).2
def sp75 (l : List Cp) (w : Int) (ans : List Int) : Nat → List AV → Option AV
  | 144, _ => some (.i (cpE l))
  | 146, _ => some (.fresh 3 1 ((cnS l w l.length).2.map encI))
  | 150, _ => some (.i (fIx ans l.length))
  | n, x => spC n x
def hs75 (l : List Cp) (w : Int) (ans : List Int) (t d : Int) : Nat → List AV → List ABlk → Option AV
  | 151, _, _ => some (.gv true (.tup [.sl 1 ((dlG (dueX ans l t d) (cnS l w l.length).2).map encI), .any]))
  | _, _, _ => none
theorem cnS_mem {l : List Cp} {w : Int} : ∀ {k : Nat} {a : Int}, a ∈ (cnS l w k).2 → 0 ≤ a ∧ a < k
  | 0, a, h => by cases h
  | k + 1, a, h => by
    rw [cnS] at h
    split at h
    · have := cnS_mem h; omega
    · rcases List.mem_append.1 h with h | h
      · have := cnS_mem h; omega
      · rw [List.mem_singleton] at h; omega
theorem c75 (l : List Cp) (w : Int) (ans : List Int) (t d : Int) (hl : l.length ≤ 1000) (hn : ∀ x, x ∈ l → x.hm.length ≤ 1000) (ha0 : ans.length ≤ 1000) : PCall Tryz.prog G0 75 [.sl 2 (l.map encCp), .i w, .sl 1 (ans.map encI), .i t, .i d] (.tup [.sl 1 ((duV l w ans t d).map encI), .i (duE l w ans t d)]) := by
  have key :
   PCall Tryz.prog G0 144 [AV.sl 2 (List.map encCp l)] (AV.i (cpE l)) ∧ PCall Tryz.prog G0 145 [AV.i w] (AV.i (sWithin w (0 : Int) (100000 : Int))) ∧ PCall Tryz.prog G0 150 [AV.sl 1 (List.map encI ans), AV.i (↑(List.map encCp
   l).length : Int)] (AV.i (fIx ans (↑l.length : Int))) ∧ PCall Tryz.prog G0 118 [AV.i t, AV.i 0, AV.i 100000000] (AV.i (sWithin t (0 : Int) (100000000 : Int))) ∧ PCall Tryz.prog G0 145 [AV.i d] (AV.i (sWithin d (0 : Int) (100000 :
   Int))) ∧ PCall Tryz.prog G0 104 [AV.sl 1 [[AV.i (cpE l)], [AV.i (sWithin w (0 : Int) (100000 : Int))], [AV.i (fIx ans (↑l.length : Int))], [AV.i (sWithin t (0 : Int) (100000000 : Int))], [AV.i (sWithin d (0 : Int) (100000 :
   Int))]]] (AV.i (sFirst [hdI [AV.i (cpE l)], hdI [AV.i (sWithin w (0 : Int) (100000 : Int))], hdI [AV.i (fIx ans (↑l.length : Int))], hdI [AV.i (sWithin t (0 : Int) (100000000 : Int))], hdI [AV.i (sWithin d (0 : Int) (100000 :
   Int))]])) ∧ ((sFirst [hdI [AV.i (cpE l)], hdI [AV.i (sWithin w (0 : Int) (100000 : Int))], hdI [AV.i (fIx ans (↑l.length : Int))], hdI [AV.i (sWithin t (0 : Int) (100000000 : Int))], hdI [AV.i (sWithin d (0 : Int) (100000 : Int))]]
   != 0) = true → AV.tup [AV.sl 1 [], AV.i (sFirst [hdI [AV.i (cpE l)], hdI [AV.i (sWithin w (0 : Int) (100000 : Int))], hdI [AV.i (fIx ans (↑l.length : Int))], hdI [AV.i (sWithin t (0 : Int) (100000000 : Int))], hdI [AV.i (sWithin d
   (0 : Int) (100000 : Int))]])] = AV.tup [AV.sl 1 (List.map encI (duV l w ans t d)), AV.i (duE l w ans t d)]) ∧ ((sFirst [hdI [AV.i (cpE l)], hdI [AV.i (sWithin w (0 : Int) (100000 : Int))], hdI [AV.i (fIx ans (↑l.length : Int))],
   hdI [AV.i (sWithin t (0 : Int) (100000000 : Int))], hdI [AV.i (sWithin d (0 : Int) (100000 : Int))]] != 0) = false → PCall Tryz.prog G0 146 [AV.sl 2 (List.map encCp l), AV.i w] (AV.fresh 3 1 (List.map encI (cnS l w l.length).snd))
   ∧ WCall Tryz.prog G0 151 [AV.own 1 (List.map encI (cnS l w l.length).snd).length, AV.fn (Fn.func 152) [] [AV.elt 1 [[AV.sl 1 (List.map encI ans)]] 0 0, AV.elt 1 [[AV.sl 2 (List.map encCp l)]] 0 0, AV.elt 1 [[AV.i d]] 0 0, AV.elt 1
   [[AV.i t]] 0 0]] [ABlk.buf 3 1 (List.map encI (cnS l w l.length).snd)] (AV.sl 1 (List.map encI (dlG (dueX ans l t d) (cnS l w l.length).snd))) [ABlk.dead] ∧ AV.tup [AV.sl 1 (List.map encI (dlG (dueX ans l t d) (cnS l w
   l.length).snd)), AV.i 0] = AV.tup [AV.sl 1 (List.map encI (duV l w ans t d)), AV.i (duE l w ans t d)]) := by
    have hlm : (List.map encCp l).length = l.length := List.length_map _
    have : (List.map encCp l).length = l.length := by simp only [List.length_map]
    refine ⟨(c144 l hl hn), (c145 _), ((by rw [hlm]; exact c150 _ _ ha0)), (c118 _ _ _), (c145 _), (c104 [_, _, _, _, _] (by simp)), fun h1 => ?_, fun h1 => ?_⟩
    · rw [show duV l w ans t d = [] from if_pos (by first | exact h1 | exact h2 | exact h3)]
      rfl
    · have hz : duE l w ans t d = 0 := bne_f h1
      have hz2 := hz
      unfold duE at hz2
      rw [first_zero, first_zero, first_zero, first_zero, first_zero, within_zero, within_zero, within_zero] at hz2
      obtain ⟨z1, z2, z3, z4, z5, _⟩ := hz2
      obtain ⟨h64, hok⟩ := cp_z z1
      have hcl := cnS_len l w l.length
      have hdu : dueH l d (cnS l w l.length).2 := fun j hj => by
        have h3 := cnS_mem (getD_mem hj)
        have h4 := hok.tk ((cnS l w l.length).2.getD j default).toNat (by omega)
        exact ⟨h3, by unfold In64; omega⟩
      refine ⟨(c146 l w h64 hok), (w151 ans l t d _ ha0 (by omega) hdu), ?_⟩
      · rw [show duV l w ans t d = dlG (dueX ans l t d) (cnS l w l.length).2 from if_neg (by rw [hz]; decide), hz]
  exact c_of Tryz.f75 ({ gsB (fun i => if i.beq 3 then [.nil 10 1] else []) (fzB (mkB (sp75 l w ans) 75 [] noLa)) with hs := hs75 l w ans t d }) (by kernel_rfl) (by kernel_rfl) (by kernel_rfl) (by kernel_rfl) key (by kernel_rfl)
def la76 (l : List Cp) : LA := {
  pre := [.keep [0, 3] [], .bound 1], post := [.keep [0, 3] [], .bound 1]
  Gh := Nat
  st := fun i => ⟨[(0, .sl 2 (l.map encCp)), (3, .i i)], [], 1⟩
  ok := fun i => i ≤ l.length ∧ ∀ j, j < i → fCl l j = 0
  ms := fun i => l.length - i }
def fCr (l : List Cp) (i : Nat) : Int := sFirst [fCp (l.getD i default), sWhen (if decide ((i : Int) > 0) = true then decide ((l.getD i default).tk < (l.getD (maxI 0 ((i : Int) - 1)).toNat default).tk) else false) 11]
theorem fCr_e (l : List Cp) (i : Nat) : fCr l i = fCl l i := by
  unfold fCr fCl
  cases i with
  | zero =>
    rw [if_neg (by decide)]
    by_cases h : fCp (l.getD 0 default) = 0
    · have h2 := h
      unfold fCp at h2
      rw [first_zero, first_zero, within_zero] at h2
      rw [decide_eq_false (show ¬ (l.getD 0 default).tk < lastC l 0 by simp only [lastC]; omega)]
    · simp only [sFirst]
      rw [if_pos h, if_pos h]
  | succ i =>
    rw [if_pos (decide_eq_true (by omega)), show (maxI 0 (((i + 1 : Nat) : Int) - 1)).toNat = i by unfold maxI; split <;> omega]
    rfl
theorem beqI_comm (a b : Int) : (a == b) = (b == a) := by
  rw [Bool.eq_iff_iff, beq_iff_eq, beq_iff_eq]
  exact eq_comm
theorem has_t {l : List Int} {x : Int} {g : Nat} (h : g < l.length) (e : (l.getD g default == x) = true) : hasI l x = true :=
  List.any_eq_true.2 ⟨_, getD_mem h, by rw [beqI_comm]; exact e⟩
theorem has_f {l : List Int} {x : Int} (h : ∀ j, j < l.length → (x == l.getD j default) = false) : hasI l x = false := by
  refine List.any_eq_false.2 fun y hy => ?_
  obtain ⟨i, hi, e⟩ := List.mem_iff_getElem.1 hy
  have := h i hi
  rw [List.getD_eq_getElem?_getD, List.getElem?_eq_getElem hi, e] at this
  simpa using this
def la90 (l : List Int) (x : Int) : LA := {
  pre := [.keep [0, 1, 5] [], .bound 1], post := [.keep [0, 1, 5] [], .bound 1]
  Gh := Nat
  st := fun i => ⟨[(0, .sl 1 (l.map encI)), (1, .i x), (5, .i i)], [], 1⟩
  ok := fun i => i ≤ l.length ∧ ∀ j, j < i → (x == l.getD j default) = false
  ms := fun i => l.length - i }
theorem c90 (l : List Int) (x : Int) (hl : l.length ≤ 1000) : PCall Tryz.prog G0 90 [.sl 1 (l.map encI), .i x] (.bool (hasI l x)) := by
  have key :
   (∃ (g : Nat), (g ≤ l.length ∧ ∀ (j : Nat), j < g → (x == l.getD j default) = false) ∧ AS.mk [(0, AV.sl 1 (List.map encI l)), (1, AV.i x), (5, AV.i 0)] [] 1 = AS.mk [(0, AV.sl 1 (List.map encI l)), (1, AV.i x), (5, AV.i (↑g : Int))]
   [] 1) ∧ ∀ (g : Nat), (g ≤ l.length ∧ ∀ (j : Nat), j < g → (x == l.getD j default) = false) → (decide ((↑g : Int) < (↑(List.map encI l).length : Int)) = true → (0 : Int) ≤ (↑g : Int) ∧ (↑g : Int) < (↑(List.map encI l).length : Int)
   ∧ nth (nthR (List.map encI l) (↑g : Int).toNat) 0 = AV.i (l.getD (↑g : Int).toNat default) ∧ ((l.getD (↑g : Int).toNat default == x) = true → AV.bool true = AV.bool (hasI l x)) ∧ ((l.getD (↑g : Int).toNat default == x) = false →
   In64 ((↑g : Int) + 1) ∧ ∃ (g' : Nat), (g' ≤ l.length ∧ ∀ (j : Nat), j < g' → (x == l.getD j default) = false) ∧ l.length - g' < l.length - g ∧ AS.mk [(0, AV.sl 1 (List.map encI l)), (1, AV.i x), (5, AV.i ((↑g : Int) + 1))] [] 1 =
   AS.mk [(0, AV.sl 1 (List.map encI l)), (1, AV.i x), (5, AV.i (↑g' : Int))] [] 1)) ∧ (decide ((↑g : Int) < (↑(List.map encI l).length : Int)) = false → AV.bool false = AV.bool (hasI l x)) := by
    have hlm : (List.map encI l).length = l.length := List.length_map _
    have : (List.map encI l).length = l.length := by simp only [List.length_map]
    refine ⟨⟨0, ⟨by omega, by intros; omega⟩, rfl⟩, fun g ⟨hg, ha⟩ => ⟨fun hd => ?_, fun hd => ?_⟩⟩
    · have hlt : g < l.length := by have h9 := of_decide_eq_true hd; have h8 := hg; (try simp only [List.length_map] at h8 h9); omega
      try rw [show (↑g : Int).toNat = g from Int.toNat_natCast g]
      refine ⟨(by omega), (by omega), congrArg (fun r => nth r 0) (row_at encI hlt), fun h1 => ?_, fun h1 => ⟨(by unfold In64; omega), ⟨g + 1, ⟨by omega, all_ext ha ((beqI_comm _ _).trans h1)⟩, by omega, rfl⟩⟩⟩
      · rw [has_t hlt h1]
    · have hge : g = l.length := by have h9 := of_decide_eq_false hd; have h8 := hg; (try simp only [List.length_map] at h8 h9); omega
      subst hge
      rw [has_f ha]
  exact c_of Tryz.f90 (mkB spC 90 [(4, 3, rdL 1 encI l 1 false)] (la1 (la90 l x))) (by kernel_rfl) (by kernel_rfl) (by kernel_rfl) (by kernel_rfl) key (by kernel_rfl)
theorem c23 (g : List Int) (hg0 : g.length ≤ 1000) : PCall Tryz.prog G0 23 [.sl 1 (g.map encI)] (.sl 1 (g.map encI)) := by
  have key :
   0 + (List.map encI g).length ≤ 9223372036854775807 ∧ (0 + (List.map encI g).length) * 8 ≤ 140737488355328 ∧ AV.sl 1 ([] ++ List.map encI g) = AV.sl 1 (List.map encI g) := by
    have : (List.map encI g).length = g.length := by simp only [List.length_map]
    refine ⟨(by omega), (by omega), ?_⟩
    · first | rfl | trivial
  exact c_of Tryz.f23 (fzB (mkB spC 23 [] noLa)) (by kernel_rfl) (by kernel_rfl) (by kernel_rfl) (by kernel_rfl) key (by kernel_rfl)
def la72 (l : List Cp) : LA := {
  pre := [.own 3 132 2, .reno 3 1, .keep [3, 6, 7, 8] [1], .bound 2], post := [.reno 3 1, .keep [3, 6, 7, 8] [1], .bound 2]
  Gh := Nat
  st := fun i => ⟨[(3, .own 1 ((l.take i).map encCp).length), (6, .sl 2 (l.map encCp)), (7, .i (l.map encCp).length), (8, .i i)], [(1, .buf 132 2 ((l.take i).map encCp))], 2⟩
  ok := fun i => i ≤ l.length
  ms := fun i => l.length - i }
theorem c72 (l : List Cp) (hl : l.length ≤ 1000) : PCall Tryz.prog G0 72 [.sl 2 (l.map encCp)] (.fresh 132 2 (l.map encCp)) := by
  have key :
   (∃ (g : Nat), g ≤ l.length ∧ AS.mk [(3, AV.own 1 0), (6, AV.sl 2 (List.map encCp l)), (7, AV.i (↑(List.map encCp l).length : Int)), (8, AV.i 0)] [(1, ABlk.buf 132 2 [])] 2 = AS.mk [(3, AV.own 1 (List.map encCp (List.take g
   l)).length), (6, AV.sl 2 (List.map encCp l)), (7, AV.i (↑(List.map encCp l).length : Int)), (8, AV.i (↑g : Int))] [(1, ABlk.buf 132 2 (List.map encCp (List.take g l)))] 2) ∧ ∀ (g : Nat), g ≤ l.length → (decide ((↑g : Int) <
   (↑(List.map encCp l).length : Int)) = true → (0 : Int) ≤ (↑g : Int) ∧ (↑g : Int) < (↑(List.map encCp l).length : Int) ∧ AV.agg (nthR (List.map encCp l) (↑g : Int).toNat) = AV.agg (encCp (l.getD (↑g : Int).toNat default)) ∧
   (List.map encCp (List.take g l)).length + 1 ≤ 9223372036854775807 ∧ ((List.map encCp (List.take g l)).length + 1) * 24 ≤ 140737488355328 ∧ In64 ((↑g : Int) + 1) ∧ ∃ (g' : Nat), g' ≤ l.length ∧ l.length - g' < l.length - g ∧ AS.mk
   [(3, AV.own 1 ((List.map encCp (List.take g l)).length + 1)), (6, AV.sl 2 (List.map encCp l)), (7, AV.i (↑(List.map encCp l).length : Int)), (8, AV.i ((↑g : Int) + 1))] [(1, ABlk.buf 132 2 (List.map encCp (List.take g l) ++ [(encCp
   (l.getD (↑g : Int).toNat default))]))] 2 = AS.mk [(3, AV.own 1 (List.map encCp (List.take g' l)).length), (6, AV.sl 2 (List.map encCp l)), (7, AV.i (↑(List.map encCp l).length : Int)), (8, AV.i (↑g' : Int))] [(1, ABlk.buf 132 2
   (List.map encCp (List.take g' l)))] 2) ∧ (decide ((↑g : Int) < (↑(List.map encCp l).length : Int)) = false → AV.fresh 132 2 (List.map encCp (List.take g l)) = AV.fresh 132 2 (List.map encCp l)) := by
    have hlm : (List.map encCp l).length = l.length := List.length_map _
    have : (List.map encCp l).length = l.length := by simp only [List.length_map]
    refine ⟨⟨0, by omega, rfl⟩, fun g hg => ⟨fun hd => ?_, fun hd => ?_⟩⟩
    · have hlt : g < l.length := by have h9 := of_decide_eq_true hd; have h8 := hg; (try simp only [List.length_map] at h8 h9); omega
      have : (List.map encCp (List.take g l)).length = g := by simp only [List.length_map, List.length_take]; omega
      try rw [show (↑g : Int).toNat = g from Int.toNat_natCast g]
      refine ⟨(by omega), (by omega), congrArg AV.agg (row_at encCp hlt), (by omega), (by omega), (by unfold In64; omega), ⟨g + 1, by omega, by omega, ?_⟩⟩
      · first | (rw [← take_succ_map _ _ hlt, List.length_append]; rfl) | (rw [← take_succ _ hlt, List.length_append]; rfl)
    · have hge : g = l.length := by have h9 := of_decide_eq_false hd; have h8 := hg; (try simp only [List.length_map] at h8 h9); omega
      subst hge
      exact (by rw [List.take_length])
  exact c_of Tryz.f72 (fzB (mkB spN 72 [(4, 1, rdL 2 encCp l 2 true)] (la1 (la72 l)))) (by kernel_rfl) (by kernel_rfl) (by kernel_rfl) (by kernel_rfl) key (by kernel_rfl)
end Go.Proofs.YtfoeefaamjknpaaGreatDoor
namespace Go.Proofs.YtfoeefaamjknpaaGreatDoor
open Go Go.Av Go.RowKit
theorem nearR_iff {l : List Cp} {w : Int} {c : Cp} {o : List Int} : nearR l w c o = true ↔ ∃ k, k ∈ o ∧ (l.getD k.toNat default).hm = c.hm ∧ c.tk - (l.getD k.toNat default).tk ≤ w := by
  unfold nearR
  simp only [List.any_eq_true, Bool.and_eq_true, beq_iff_eq, decide_eq_true_eq]
theorem cn_pre {l : List Cp} {w : Int} : ∀ {n i : Nat}, i ≤ n → ∀ k : Int, k ∈ cnR l w i ↔ (k ∈ cnR l w n ∧ k < i)
  | 0, i, h, k => by
    have e : i = 0 := by omega
    subst e
    exact ⟨fun h => (by cases h), fun h => h.1⟩
  | n + 1, i, h, k => by
    by_cases e : i = n + 1
    · subst e
      exact ⟨fun h => ⟨h, (cnR_mem h).2⟩, fun h => h.1⟩
    · rw [cn_pre (n := n) (i := i) (by omega) k, cnR]
      split
      · exact Iff.rfl
      · rw [List.mem_append, List.mem_singleton]
        exact ⟨fun h => ⟨.inl h.1, h.2⟩, fun h => ⟨h.1.resolve_right (by omega), h.2⟩⟩
theorem mem_cn {l : List Cp} {w : Int} {n i : Nat} (h : i < n) : (i : Int) ∈ cnR l w n ↔ nearR l w (l.getD i default) (cnR l w i) = false := by
  have h1 := cn_pre (l := l) (w := w) (n := n) (i := i + 1) (by omega) (i : Int)
  have h2 : (i : Int) ∈ cnR l w (i + 1) ↔ nearR l w (l.getD i default) (cnR l w i) = false := by
    rw [cnR]
    cases q : nearR l w (l.getD i default) (cnR l w i) with
    | true =>
      rw [if_pos rfl]
      exact ⟨fun h => by have := cnR_mem h; omega, fun h => by cases h⟩
    | false =>
      rw [if_neg (by decide)]
      exact ⟨fun _ => rfl, fun _ => List.mem_append_right _ (List.mem_singleton.2 rfl)⟩
  rw [← h2, h1]
  exact ⟨fun h => ⟨h, by omega⟩, fun h => h.1⟩
theorem cn_not {l : List Cp} {w : Int} {n i : Nat} (h : i < n) (hn : ¬ (i : Int) ∈ cnR l w n) : ∃ k : Nat, k < i ∧ (k : Int) ∈ cnR l w n ∧ (l.getD k default).hm = (l.getD i default).hm ∧ (l.getD i default).tk - (l.getD k default).tk ≤ w := by
  have h1 : nearR l w (l.getD i default) (cnR l w i) = true := by
    cases q : nearR l w (l.getD i default) (cnR l w i) with
    | true => rfl
    | false => exact absurd ((mem_cn h).2 q) hn
  obtain ⟨k, hk, h2, h3⟩ := nearR_iff.1 h1
  have h4 := cnR_mem hk
  have h5 := ((cn_pre (n := n) (i := i) (by omega) k).1 hk).1
  exact ⟨k.toNat, by omega, by rw [show ((k.toNat : Nat) : Int) = k by omega]; exact h5, h2, h3⟩
theorem cn_yes {l : List Cp} {w : Int} {n i k : Nat} (h : i < n) (hk : k < i) (hm : (k : Int) ∈ cnR l w n) (h1 : (l.getD k default).hm = (l.getD i default).hm) (h2 : (l.getD i default).tk - (l.getD k default).tk ≤ w) : ¬ (i : Int) ∈ cnR l w n := fun hi => by
  have h3 := (mem_cn h).1 hi
  have h4 : nearR l w (l.getD i default) (cnR l w i) = true := nearR_iff.2 ⟨(k : Int), (cn_pre (n := n) (i := i) (by omega) k).2 ⟨hm, by omega⟩, by rw [Int.toNat_natCast]; exact h1, by rw [Int.toNat_natCast]; exact h2⟩
  rw [h3] at h4
  cases h4
theorem cn_sub0 {l : List Cp} {w : Int} (hw : 0 ≤ w) {n i : Nat} (h : i < n) (hm : (i : Int) ∈ cnR l w n) : (i : Int) ∈ cnR l 0 n := Classical.byContradiction fun hn => by
  obtain ⟨k, hk, _, h2, h3⟩ := cn_not h hn
  by_cases q : (k : Int) ∈ cnR l w n
  · exact cn_yes h hk q h2 (by omega) hm
  · obtain ⟨k', hk', h5, h6, h7⟩ := cn_not (by omega) q
    exact cn_yes h (by omega) h5 (h6.trans h2) (by omega) hm
theorem cn_sub {l : List Cp} {w : Int} (hw : 0 ≤ w) : ∀ n, (cnR l w n).Sublist (cnR l 0 n)
  | 0 => List.Sublist.refl _
  | n + 1 => by
    have ih := cn_sub (l := l) hw n
    rw [cnR, cnR]
    cases q : nearR l w (l.getD n default) (cnR l w n) with
    | true =>
      rw [if_pos rfl]
      split
      · exact ih
      · exact ih.trans (List.sublist_append_left _ _)
    | false =>
      rw [if_neg (by decide)]
      have h1 := cn_sub0 hw (Nat.lt_succ_self n) ((mem_cn (Nat.lt_succ_self n)).2 q)
      rw [if_neg (by rw [(mem_cn (Nat.lt_succ_self n)).1 h1]; decide)]
      exact ih.append (List.Sublist.refl _)
theorem cn_up (l : List Cp) (w : Int) : ∀ n, (cnR l w n).Pairwise (· < ·)
  | 0 => List.Pairwise.nil
  | n + 1 => by
    rw [cnR]
    split
    · exact cn_up l w n
    · rw [List.pairwise_append]
      exact ⟨cn_up l w n, List.pairwise_singleton _ _, fun a ha b hb => by rw [List.mem_singleton] at hb; have := cnR_mem ha; omega⟩
theorem pw_get {a : List Int} (h : a.Pairwise (· < ·)) {i j : Nat} (hij : i < j) (hj : j < a.length) : a.getD i default < a.getD j default := by
  rw [List.getD_eq_getElem?_getD, List.getD_eq_getElem?_getD, List.getElem?_eq_getElem hj, List.getElem?_eq_getElem (by omega)]
  exact List.pairwise_iff_getElem.1 h i j (by omega) hj hij
theorem hasI_iff {l : List Int} {x : Int} : hasI l x = true ↔ x ∈ l := by
  unfold hasI
  rw [List.any_eq_true]
  exact ⟨fun ⟨y, hy, e⟩ => by rw [eq_of_beq e]; exact hy, fun h => ⟨x, h, beq_self_eq_true x⟩⟩
def lastI (a : List Int) : Nat → Int
  | 0 => -1
  | j + 1 => a.getD j default
theorem last_ok {l : List Cp} {w : Int} {n : Nat} {j : Nat} (hj : j < (cnR l w n).length) : (0 ≤ (cnR l w n).getD j default ∧ (cnR l w n).getD j default < n) ∧ lastI (cnR l w n) j < (cnR l w n).getD j default := by
  have h1 := cnR_mem (getD_mem hj)
  refine ⟨h1, ?_⟩
  cases j with
  | zero => rw [lastI]; omega
  | succ j => exact pw_get (cn_up l w n) (Nat.lt_succ_self j) hj
def nrB (l : List Cp) (w : Int) (i : Nat) (k : Int) : Bool := if (if decide (k < (i : Int)) = true then (l.getD k.toNat default).hm == (l.getD i default).hm else false) = true then decide ((l.getD i default).tk - (l.getD k.toNat default).tk ≤ w) else false
def nrN (l : List Cp) (w : Int) (i : Nat) (a : List Int) : Nat → Bool
  | 0 => false
  | j + 1 => if nrB l w i (a.getD j default) = true then true else nrN l w i a j
theorem nrN_iff {l : List Cp} {w : Int} {i : Nat} {a : List Int} : ∀ n, nrN l w i a n = true ↔ ∃ j, j < n ∧ nrB l w i (a.getD j default) = true
  | 0 => ⟨fun h => (by cases h), fun ⟨_, h, _⟩ => by omega⟩
  | n + 1 => by
    rw [nrN]
    split
    · rename_i h
      exact ⟨fun _ => ⟨n, by omega, h⟩, fun _ => rfl⟩
    · rename_i h
      rw [nrN_iff n]
      exact ⟨fun ⟨j, h1, h2⟩ => ⟨j, by omega, h2⟩, fun ⟨j, h1, h2⟩ => by
        by_cases e : j = n
        · rw [e] at h2
          exact absurd h2 h
        · exact ⟨j, by omega, h2⟩⟩
theorem nrB_iff {l : List Cp} {w : Int} {i : Nat} {k : Int} : nrB l w i k = true ↔ (k < i ∧ (l.getD k.toNat default).hm = (l.getD i default).hm ∧ (l.getD i default).tk - (l.getD k.toNat default).tk ≤ w) := by
  unfold nrB
  by_cases h1 : k < (i : Int)
  · rw [if_pos (decide_eq_true h1)]
    by_cases h2 : (l.getD k.toNat default).hm = (l.getD i default).hm
    · rw [if_pos (by rw [h2]; exact beq_self_eq_true _), decide_eq_true_eq]
      exact ⟨fun h => ⟨h1, h2, h⟩, fun h => h.2.2⟩
    · rw [if_neg (fun e => h2 (eq_of_beq e))]
      exact ⟨fun h => (by cases h), fun h => absurd h.2.1 h2⟩
  · rw [if_neg (show ¬ (if decide (k < (i : Int)) = true then (l.getD k.toNat default).hm == (l.getD i default).hm else false) = true by rw [decide_eq_false h1, if_neg Bool.false_ne_true]; exact Bool.false_ne_true)]
    exact ⟨fun h => (by cases h), fun h => absurd h.1 h1⟩
theorem near_ok {l : List Cp} {w : Int} {n i : Nat} (hi : i < n) : nrN l w i (cnR l w n) (cnR l w n).length = !hasI (cnR l w n) (i : Int) := by
  cases q : hasI (cnR l w n) (i : Int) with
  | true =>
    have h1 := hasI_iff.1 q
    cases q2 : nrN l w i (cnR l w n) (cnR l w n).length with
    | false => rfl
    | true =>
      obtain ⟨j, hj, h2⟩ := (nrN_iff _).1 q2
      obtain ⟨h3, h4, h5⟩ := nrB_iff.1 h2
      have h6 := getD_mem hj
      have h7 := cnR_mem h6
      exact absurd h1 (cn_yes (k := ((cnR l w n).getD j default).toNat) hi (by omega) (by rw [show ((((cnR l w n).getD j default).toNat : Nat) : Int) = (cnR l w n).getD j default by omega]; exact h6) h4 h5)
  | false =>
    obtain ⟨k, h1, h2, h3, h4⟩ := cn_not hi (fun h => by rw [hasI_iff.2 h] at q; cases q)
    obtain ⟨j, hj, e⟩ := List.mem_iff_getElem.1 h2
    refine (nrN_iff _).2 ⟨j, hj, ?_⟩
    rw [List.getD_eq_getElem?_getD, List.getElem?_eq_getElem hj, e]
    exact nrB_iff.2 ⟨by simpa using h1, by simpa using h3, by simpa using h4⟩
def smB (x y : Cp) : Bool := x.hm == y.hm && true && (x.tk == y.tk && true && true)
def smN (l : List Cp) (i : Nat) : Nat → Bool
  | 0 => false
  | k + 1 => if smN l i k = true then true else smB (l.getD k default) (l.getD i default)
theorem smB_iff {x y : Cp} : smB x y = true ↔ (x.hm = y.hm ∧ x.tk = y.tk) := by
  unfold smB
  simp
theorem smN_iff {l : List Cp} {i : Nat} : ∀ n, smN l i n = true ↔ ∃ j, j < n ∧ smB (l.getD j default) (l.getD i default) = true
  | 0 => ⟨fun h => (by cases h), fun ⟨_, h, _⟩ => by omega⟩
  | n + 1 => by
    have ih := smN_iff (l := l) (i := i) n
    rw [smN]
    split
    · rename_i h
      obtain ⟨j, h1, h2⟩ := ih.1 h
      exact ⟨fun _ => ⟨j, by omega, h2⟩, fun _ => rfl⟩
    · rename_i h
      refine ⟨fun h2 => ⟨n, by omega, h2⟩, fun ⟨j, h1, h2⟩ => ?_⟩
      by_cases e : j = n
      · rw [e] at h2
        exact h2
      · exact absurd (ih.2 ⟨j, by omega, h2⟩) h
theorem same_ok {l : List Cp} {i : Nat} (hi : i < l.length) (hc : CpOK l) : smN l i i = !hasI (cnR l 0 l.length) (i : Int) := by
  cases q : hasI (cnR l 0 l.length) (i : Int) with
  | true =>
    have h1 := hasI_iff.1 q
    cases q2 : smN l i i with
    | false => rfl
    | true =>
      obtain ⟨k, hk, h2⟩ := (smN_iff _).1 q2
      obtain ⟨h3, h4⟩ := smB_iff.1 h2
      by_cases h5 : (k : Int) ∈ cnR l 0 l.length
      · exact absurd h1 (cn_yes hi hk h5 h3 (by omega))
      · obtain ⟨k', h6, h7, h8, h9⟩ := cn_not (by omega) h5
        exact absurd h1 (cn_yes hi (by omega) h7 (h8.trans h3) (by omega))
  | false =>
    obtain ⟨k, h1, h2, h3, h4⟩ := cn_not hi (fun h => by rw [hasI_iff.2 h] at q; cases q)
    have := hc.up k i (by omega) hi
    exact (smN_iff _).2 ⟨k, h1, smB_iff.2 ⟨h3, by omega⟩⟩
theorem bits_mem {m : Nat} : ∀ {n : Nat} {a : Int}, a ∈ bitsM m n → 0 ≤ a ∧ a < n
  | 0, a, h => by cases h
  | n + 1, a, h => by
    rw [bitsM] at h
    split at h
    · rcases List.mem_append.1 h with h | h
      · have := bits_mem h; omega
      · rw [List.mem_singleton] at h; omega
    · have := bits_mem h; omega
theorem bits_up (m : Nat) : ∀ n, (bitsM m n).Pairwise (· < ·)
  | 0 => List.Pairwise.nil
  | n + 1 => by
    rw [bitsM]
    split
    · rw [List.pairwise_append]
      exact ⟨bits_up m n, List.pairwise_singleton _ _, fun a ha b hb => by rw [List.mem_singleton] at hb; have := bits_mem ha; omega⟩
    · exact bits_up m n
theorem fIx_ok {g : List Int} {n : Int} (h : ∀ a, a ∈ g → 0 ≤ a ∧ a < n) (hp : g.Pairwise (· < ·)) : fIx g n = 0 := by
  unfold fIx
  rw [if_neg, if_neg]
  · rw [decide_eq_true_eq, fi_none fun j hj => ?_]
    · exact Nat.lt_irrefl _
    · unfold ordI
      split
      · rfl
      · exact decide_eq_false (by have := pw_get hp (i := j - 1) (j := j) (by omega) hj; omega)
  · rw [decide_eq_true_eq, fi_none fun j hj => ?_]
    · exact Nat.lt_irrefl _
    · have := h _ (getD_mem hj)
      unfold badI
      rw [if_neg (by rw [decide_eq_true_eq]; omega)]
      exact decide_eq_false (by omega)
theorem cnV_e {l : List Cp} {w : Int} (h : cpE l = 0) (hw : 0 ≤ w ∧ w ≤ 100000) : cnE l w = 0 ∧ cnV l w = cnR l w l.length := by
  have h1 : cnE l w = 0 := by
    unfold cnE
    rw [first_zero, first_zero, within_zero]
    exact ⟨h, hw, rfl⟩
  refine ⟨h1, ?_⟩
  unfold cnV
  rw [if_neg (by rw [h1]; decide)]
  exact (cn_eq (cp_z h).2.up l.length (Nat.le_refl _)).1
theorem duV_e {l : List Cp} {w t d : Int} {m : Nat} (h : cpE l = 0) (hw : 0 ≤ w ∧ w ≤ 100000) (ht : 0 ≤ t ∧ t ≤ 100000000) (hd : 0 ≤ d ∧ d ≤ 100000) : duE l w (bitsM m l.length) t d = 0 ∧ duV l w (bitsM m l.length) t d = dlG (dueX (bitsM m l.length) l t d) (cnR l w l.length) := by
  have h1 : duE l w (bitsM m l.length) t d = 0 := by
    unfold duE
    rw [first_zero, first_zero, first_zero, first_zero, first_zero, within_zero, within_zero, within_zero]
    exact ⟨h, hw, fIx_ok (fun a ha => bits_mem ha) (bits_up m _), ht, hd, rfl⟩
  refine ⟨h1, ?_⟩
  unfold duV
  rw [if_neg (by rw [h1]; decide), (cn_eq (cp_z h).2.up l.length (Nat.le_refl _)).1]
theorem du_mem {p : Int → Bool} {g : List Int} {a : Int} : a ∈ dlG p g ↔ (a ∈ g ∧ p a = false) := by
  unfold dlG
  rw [List.mem_filter]
  cases p a <;> simp
theorem dueX_iff {ans : List Int} {l : List Cp} {t d i : Int} : dueX ans l t d i = false ↔ (hasI ans i = false ∧ (l.getD i.toNat default).tk + d < t) := by
  unfold dueX
  cases hasI ans i with
  | true => rw [if_pos rfl]; simp
  | false => rw [if_neg (by decide)]; simp
theorem du_sub {ans : List Int} {l : List Cp} {t t' d : Int} (ht : t ≤ t') (g : List Int) : (dlG (dueX ans l t d) g).length ≤ (dlG (dueX ans l t' d) g).length := by
  unfold dlG
  rw [← List.countP_eq_length_filter, ← List.countP_eq_length_filter]
  refine List.countP_mono_left fun x _ hx => ?_
  have h1 : dueX ans l t d x = false := by simpa using hx
  have h2 := dueX_iff.1 h1
  rw [dueX_iff.2 ⟨h2.1, by omega⟩]
  rfl
theorem has_du {ans : List Int} {l : List Cp} {t d i : Int} {g : List Int} (hi : i ∈ g) : hasI (dlG (dueX ans l t d) g) i = (!hasI ans i && decide ((l.getD i.toNat default).tk + d < t)) := by
  rw [Bool.eq_iff_iff, hasI_iff, du_mem, dueX_iff, Bool.and_eq_true, Bool.not_eq_true', decide_eq_true_eq]
  exact ⟨fun h => h.2, fun h => ⟨hi, h⟩⟩
theorem has_all {ans : List Int} {l : List Cp} {t t' d i : Int} {g : List Int} (ht : t ≤ t') (hi : i ∈ dlG (dueX ans l t d) g) : hasI g i = true ∧ hasI (dlG (dueX ans l t' d) g) i = true := by
  have h1 := du_mem.1 hi
  have h2 := dueX_iff.1 h1.2
  exact ⟨hasI_iff.2 h1.1, hasI_iff.2 (du_mem.2 ⟨h1.1, dueX_iff.2 ⟨h2.1, by omega⟩⟩)⟩
end Go.Proofs.YtfoeefaamjknpaaGreatDoor
namespace Go.Proofs.YtfoeefaamjknpaaGreatDoor
open Go Go.Av Go.RowKit
def inE (x : Int) : En := ⟨true, [], 1 + x⟩
def HN (i : Nat) : List UInt8 := [104, UInt8.ofNat (48 + i)]
def outE (xs : List Int) (i : Nat) : En := ⟨false, HN i, 1 + xs.getD i default * 2⟩
def fdL (xs : List Int) (i : Nat) : List En := xs.map inE ++ (List.range i).map (outE xs)
def sumA (xs : List Int) : Nat → Int
  | 0 => 0
  | k + 1 => sumA xs k + 1 + xs.getD k default
def rmA (xs : List Int) : Nat → Int
  | 0 => sumA xs xs.length
  | i + 1 => rmA xs i - (1 + xs.getD i default * 2)
theorem in_t (x : Int) : (inE x).inn = true := rfl
theorem out_f (xs : List Int) (j : Nat) : ¬ (outE xs j).inn = true := Bool.false_ne_true
theorem fd_len (xs : List Int) (i : Nat) : (fdL xs i).length = xs.length + i := by
  unfold fdL
  rw [List.length_append, List.length_map, List.length_map, List.length_range]
theorem fd_in {xs : List Int} {i k : Nat} (hk : k < xs.length) : (fdL xs i).getD k default = inE (xs.getD k default) := by
  unfold fdL
  simp [List.getD_eq_getElem?_getD, List.getElem?_append_left, hk]
theorem fd_out {xs : List Int} {i j : Nat} (hj : j < i) : (fdL xs i).getD (xs.length + j) default = outE xs j := by
  unfold fdL
  rw [List.getD_eq_getElem?_getD, List.getElem?_append_right (by rw [List.length_map]; omega), List.length_map, Nat.add_sub_cancel_left]
  simp [hj]
theorem fd_bal1 {xs : List Int} {i : Nat} : ∀ k, k ≤ xs.length → balL (fdL xs i) k = sumA xs k
  | 0, _ => rfl
  | k + 1, h => by
    rw [balL, fd_in (by omega), fd_bal1 k (by omega), sumA, if_pos (in_t _)]
    unfold inE
    dsimp only
    omega
theorem fd_bal2 {xs : List Int} {i : Nat} : ∀ j, j ≤ i → balL (fdL xs i) (xs.length + j) = rmA xs j
  | 0, _ => fd_bal1 xs.length (Nat.le_refl _)
  | j + 1, h => by
    rw [← Nat.add_assoc, balL, fd_out (by omega), fd_bal2 j (by omega), rmA, if_neg (out_f xs j)]
    rfl
theorem fd_pd1 {xs : List Int} {i : Nat} : ∀ k, k ≤ xs.length → paidL (fdL xs i) k = []
  | 0, _ => rfl
  | k + 1, h => by
    rw [paid_step (by rw [fd_len]; omega), fd_in (by omega), if_pos (in_t _)]
    exact fd_pd1 k (by omega)
theorem fd_pd2 {xs : List Int} {i : Nat} : ∀ j, j ≤ i → paidL (fdL xs i) (xs.length + j) = (List.range j).map HN
  | 0, _ => fd_pd1 xs.length (Nat.le_refl _)
  | j + 1, h => by
    rw [← Nat.add_assoc, paid_step (by rw [fd_len]; omega), fd_out (by omega), if_neg (out_f xs j), fd_pd2 j (by omega), List.range_succ, List.map_append]
    rfl
theorem frB_in (x : Int) : frB (inE x) = false := by
  unfold frB inE
  simp
theorem frB_out (xs : List Int) (j : Nat) : frB (outE xs j) = false := rfl
theorem hn_ok : ∀ j, j < 8 → sName (HN j) = true := by decide +kernel
theorem hn_ne : ∀ j, j < 8 → ((List.range j).map HN).any (fun a => a == HN j) = false := by decide +kernel
theorem fd_z1 {xs : List Int} {i k : Nat} (hx : ∀ k, k < xs.length → 0 ≤ xs.getD k default ∧ xs.getD k default ≤ 65535) (hk : k < xs.length) : fBa (fdL xs i) k = 0 := by
  have h1 := hx k hk
  unfold fBa
  rw [fd_in hk, frB_in, first_zero, first_zero, first_zero, first_zero, first_zero, within_zero]
  refine ⟨?_, rfl, rfl, rfl, rfl, rfl⟩
  unfold inE
  dsimp only
  omega
theorem fd_z2 {xs : List Int} {i j : Nat} (hx : ∀ k, k < xs.length → 0 ≤ xs.getD k default ∧ xs.getD k default ≤ 65535) (hj : j < i) (hi : i ≤ xs.length) (h8 : xs.length ≤ 8) : fBa (fdL xs i) (xs.length + j) = sWhen (decide (1 + xs.getD j default * 2 > rmA xs j)) 23 := by
  have h1 := hx j (by omega)
  have h2 : sWithin (outE xs j).am 1 100000000 = 0 := within_zero.2 (by unfold outE; dsimp only; omega)
  have h3 : sName (outE xs j).hm = true := hn_ok j (by omega)
  have h4 : hasK (knS ((List.range j).map HN)) (.str (outE xs j).hm) = false := by
    unfold knS
    rw [has_map (fun s => s)]
    exact hn_ne j (by omega)
  unfold fBa
  rw [fd_out hj, fd_pd2 j (by omega), fd_bal2 j (by omega), frB_out, h2, h3, h4]
  have h5 : (outE xs j).am = 1 + xs.getD j default * 2 := rfl
  rw [h5]
  cases decide (1 + xs.getD j default * 2 > rmA xs j) <;> rfl
theorem fd_e {xs : List Int} {i : Nat} (hi : i ≤ xs.length) (h8 : xs.length ≤ 8) : baE (fdL xs i) = sScan (fBa (fdL xs i)) (fdL xs i).length 0 := by
  unfold baE
  rw [if_neg]
  rw [decide_eq_true_eq, fd_len]
  omega
theorem fd_ok {xs : List Int} {i : Nat} (hx : ∀ k, k < xs.length → 0 ≤ xs.getD k default ∧ xs.getD k default ≤ 65535) (h8 : xs.length ≤ 8) (hi : i ≤ xs.length) (hp : ∀ j, j < i → 1 + xs.getD j default * 2 ≤ rmA xs j) : baE (fdL xs i) = 0 ∧ baV (fdL xs i) = rmA xs i := by
  have h1 : baE (fdL xs i) = 0 := by
    rw [fd_e hi h8]
    refine scan_end fun k hk => ?_
    rw [fd_len] at hk
    by_cases e : k < xs.length
    · exact fd_z1 hx e
    · have h2 := fd_z2 hx (j := k - xs.length) (i := i) (by omega) hi h8
      rw [show xs.length + (k - xs.length) = k by omega] at h2
      rw [h2, decide_eq_false (by have := hp (k - xs.length) (by omega); omega)]
      rfl
  refine ⟨h1, ?_⟩
  unfold baV
  rw [h1, if_neg (by decide), fd_len, fd_bal2 i (Nat.le_refl _)]
theorem fd_over {xs : List Int} {i : Nat} (hx : ∀ k, k < xs.length → 0 ≤ xs.getD k default ∧ xs.getD k default ≤ 65535) (h8 : xs.length ≤ 8) (hi : i < xs.length) (hp : ∀ j, j < i → 1 + xs.getD j default * 2 ≤ rmA xs j) (ho : 1 + xs.getD i default * 2 > rmA xs i) : baE (fdL xs (i + 1)) = 23 ∧ baV (fdL xs (i + 1)) = 0 := by
  have h1 : baE (fdL xs (i + 1)) = 23 := by
    have h3 := fd_z2 hx (j := i) (i := i + 1) (by omega) (by omega) h8
    rw [decide_eq_true ho] at h3
    have h4 : fBa (fdL xs (i + 1)) (xs.length + i) ≠ 0 := by rw [h3]; decide
    rw [fd_e (by omega) h8, scan_hit (i := xs.length + i) (by rw [fd_len]; omega) (fun k hk => ?_) h4, h3]
    · rfl
    · by_cases e : k < xs.length
      · exact fd_z1 hx e
      · have h2 := fd_z2 hx (j := k - xs.length) (i := i + 1) (by omega) (by omega) h8
        rw [show xs.length + (k - xs.length) = k by omega] at h2
        rw [h2, decide_eq_false (by have := hp (k - xs.length) (by omega); omega)]
        rfl
  refine ⟨h1, ?_⟩
  unfold baV
  rw [h1]
  rfl
theorem sumA_bd {xs : List Int} (hx : ∀ k, k < xs.length → 0 ≤ xs.getD k default ∧ xs.getD k default ≤ 65535) : ∀ k, k ≤ xs.length → 0 ≤ sumA xs k ∧ sumA xs k ≤ 65536 * k
  | 0, _ => by simp [sumA]
  | k + 1, h => by
    have h1 := sumA_bd hx k (by omega)
    have h2 := hx k (by omega)
    rw [sumA]
    omega
theorem rmA_bd {xs : List Int} (hx : ∀ k, k < xs.length → 0 ≤ xs.getD k default ∧ xs.getD k default ≤ 65535) (h8 : xs.length ≤ 8) : ∀ {i : Nat}, i ≤ xs.length → (∀ j, j < i → 1 + xs.getD j default * 2 ≤ rmA xs j) → 0 ≤ rmA xs i ∧ rmA xs i ≤ 600000
  | 0, _, _ => by
    have := sumA_bd hx xs.length (Nat.le_refl _)
    rw [rmA]
    omega
  | i + 1, hi, h => by
    have h1 := rmA_bd hx h8 (i := i) (by omega) fun j hj => h j (by omega)
    have h2 := h i (by omega)
    have h3 := hx i (by omega)
    rw [rmA]
    omega
end Go.Proofs.YtfoeefaamjknpaaGreatDoor
namespace Go.Proofs.YtfoeefaamjknpaaGreatDoor
open Go Go.Av Go.RowKit
theorem wr_u8 {n : Nat} (h : n < 10) : IntKind.u8.wrap (48 + (n : Int)) = 48 + (n : Int) := by
  have : n = 0 ∨ n = 1 ∨ n = 2 ∨ n = 3 ∨ n = 4 ∨ n = 5 ∨ n = 6 ∨ n = 7 ∨ n = 8 ∨ n = 9 := by omega
  rcases this with rfl | rfl | rfl | rfl | rfl | rfl | rfl | rfl | rfl | rfl <;> decide
theorem ddF_len : ∀ (k u : Nat), (ddF k u).length ≤ k + 1
  | 0, _ => Nat.le_refl _
  | k + 1, u => by
    have := ddF_len k (u / 10)
    rw [ddF]
    split
    · simp
    · rw [List.length_append, List.length_singleton]; omega
theorem dd_len {n : Nat} (h : n < 1000000000) : (Lib.decDigits n).length ≤ 10 := by
  rw [← ddF_eq 9 n (by omega)]
  exact ddF_len 9 n
theorem dd_step {m : Nat} (h : m ≠ 0) : Lib.decDigits m = (if m / 10 = 0 then [] else Lib.decDigits (m / 10)) ++ [UInt8.ofNat (48 + m % 10)] := by
  rw [Lib.decDigits]
  by_cases q : m < 10
  · rw [dif_pos q, if_pos (by omega), Nat.mod_eq_of_lt q]
    rfl
  · rw [dif_neg q, if_neg (by omega)]
def la91 (n : Nat) : LA := {
  pre := [.keep [0, 3, 4] [], .bound 1], post := [.keep [0, 3, 4] [], .bound 1]
  Gh := Nat × List UInt8
  st := fun q => ⟨[(0, .i n), (3, .str q.2), (4, .i q.1)], [], 1⟩
  ok := fun q => q.1 ≤ n ∧ (if q.1 = 0 then q.2 else Lib.decDigits q.1 ++ q.2) = Lib.decDigits n
  ms := fun q => q.1 }
theorem c91 (n : Nat) (hn : n < 1000000000) : PCall Tryz.prog G0 91 [.i n] (.str (Lib.decDigits n)) := by
  have key :
   (((↑n : Int) == 0) = true → AV.str [(48 : UInt8)] = AV.str (Lib.decDigits n)) ∧ (((↑n : Int) == 0) = false → (∃ (g : Nat × List UInt8), (g.fst ≤ n ∧ (if g.fst = 0 then g.snd else Lib.decDigits g.fst ++ g.snd) = Lib.decDigits n) ∧
   AS.mk [(0, AV.i (↑n : Int)), (3, AV.str []), (4, AV.i (↑n : Int))] [] 1 = AS.mk [(0, AV.i (↑n : Int)), (3, AV.str g.snd), (4, AV.i (↑g.fst : Int))] [] 1) ∧ ∀ (g : Nat × List UInt8), g.fst ≤ n ∧ (if g.fst = 0 then g.snd else
   Lib.decDigits g.fst ++ g.snd) = Lib.decDigits n → (((↑g.fst : Int) != 0) = true → ¬(10 : Int) = (0 : Int) ∧ ¬(10 : Int) = (0 : Int) ∧ In64 ((0 : Int) - (↑g.fst : Int).tmod (10 : Int)) ∧ In64 ((48 : Int) + maxI ((↑g.fst : Int).tmod
   (10 : Int)) ((0 : Int) - (↑g.fst : Int).tmod (10 : Int))) ∧ 1 + g.snd.length ≤ 9223372036854775807 ∧ ¬(10 : Int) = (0 : Int) ∧ In64 ((↑g.fst : Int).tdiv 10) ∧ ∃ (g' : Nat × List UInt8), (g'.fst ≤ n ∧ (if g'.fst = 0 then g'.snd else
   Lib.decDigits g'.fst ++ g'.snd) = Lib.decDigits n) ∧ g'.fst < g.fst ∧ AS.mk [(0, AV.i (↑n : Int)), (3, AV.str (UInt8.ofBitVec (BitVec.ofFin (Fin.mk ((IntKind.u8.wrap ((48 : Int) + maxI ((↑g.fst : Int).tmod (10 : Int)) ((0 : Int) -
   (↑g.fst : Int).tmod (10 : Int)))).toNat % 256) (Nat.mod_lt (IntKind.u8.wrap ((48 : Int) + maxI ((↑g.fst : Int).tmod (10 : Int)) ((0 : Int) - (↑g.fst : Int).tmod (10 : Int)))).toNat (BitVec.ofNat._proof_1 8)))) :: List.append._f []
   PUnit.unit g.snd)), (4, AV.i ((↑g.fst : Int).tdiv 10))] [] 1 = AS.mk [(0, AV.i (↑n : Int)), (3, AV.str g'.snd), (4, AV.i (↑g'.fst : Int))] [] 1) ∧ (((↑g.fst : Int) != 0) = false → (false = true → 1 + g.snd.length ≤
   9223372036854775807 ∧ AV.str ((45 : UInt8) :: List.append._f [] PUnit.unit g.snd) = AV.str (Lib.decDigits n)) ∧ (false = false → AV.str g.snd = AV.str (Lib.decDigits n)))) := by
    refine ⟨fun h => ?_, fun h => ⟨⟨(n, []), ⟨Nat.le_refl _, ?_⟩, rfl⟩, fun q hq => ?_⟩⟩
    · have h0 : n = 0 := by have := eq_of_beq h; omega
      rw [h0, Lib.decDigits, dif_pos (by decide)]
      rfl
    · have h0 : n ≠ 0 := fun q => by
        rw [q] at h
        exact absurd h (by decide)
      rw [if_neg h0, List.append_nil]
    · obtain ⟨m, acc⟩ := q
      obtain ⟨h1, h2⟩ := hq
      dsimp only at h1 h2 ⊢
      refine ⟨fun hm => ?_, fun hm => ⟨fun h => (by cases h), fun _ => ?_⟩⟩
      · have hm0 : m ≠ 0 := by
          intro q
          rw [q] at hm
          cases hm
        rw [if_neg hm0] at h2
        have hln := congrArg List.length h2
        rw [List.length_append] at hln
        have hl10 := dd_len hn
        have ht : (m : Int).tmod 10 = ((m % 10 : Nat) : Int) := by rw [Int.tmod_eq_emod_of_nonneg (by omega)]; norm_cast
        have hd : (m : Int).tdiv 10 = ((m / 10 : Nat) : Int) := by rw [Int.tdiv_eq_ediv_of_nonneg (by omega)]; norm_cast
        have hmx : maxI ((m % 10 : Nat) : Int) (0 - ((m % 10 : Nat) : Int)) = ((m % 10 : Nat) : Int) := by unfold maxI; split <;> omega
        have hlt : m % 10 < 10 := Nat.mod_lt _ (by decide)
        have hw := wr_u8 hlt
        refine ⟨by decide, by decide, by rw [ht]; unfold In64; omega, by rw [ht, hmx]; unfold In64; omega, by omega, by decide, by rw [hd]; unfold In64; omega, (m / 10, UInt8.ofNat (48 + m % 10) :: acc), ⟨by dsimp only; omega, ?_⟩, by dsimp only; omega, ?_⟩
        · dsimp only
          rw [← h2, dd_step hm0]
          by_cases q : m / 10 = 0
          · rw [if_pos q, if_pos q]; rfl
          · rw [if_neg q, if_neg q, List.append_assoc]; rfl
        · dsimp only
          rw [hd]
          show AS.mk [(0, AV.i (n : Int)), (3, AV.str (UInt8.ofNat (IntKind.u8.wrap (48 + maxI ((m : Int).tmod 10) (0 - (m : Int).tmod 10))).toNat :: acc)), (4, AV.i ((m / 10 : Nat) : Int))] [] 1 = _
          rw [ht, hmx, hw, show (48 + ((m % 10 : Nat) : Int)).toNat = 48 + m % 10 by omega]
      · have hm0 : m = 0 := by
          by_cases q : m = 0
          · exact q
          · rw [bne, beq_eq_false_iff_ne.2 (show (m : Int) ≠ 0 by omega)] at hm
            cases hm
        rw [if_pos hm0] at h2
        rw [h2]
  exact c_of Tryz.f91 (mkB spN 91 [] (fun i => if i.beq 0 then some (la91 n) else none)) (by kernel_rfl) (by kernel_rfl) (by kernel_rfl) (by kernel_rfl) key (by kernel_rfl)
theorem c143L (s : List UInt8) (hs : s.length ≤ 9223372036854775807) : PCall Tryz.prog G0 143 [.str s] (.bool (sName s)) := by
  have key :
   ((!(↑s.length : Int) == 0) = true → (!(↑s.length : Int) == 0) = true) ∧ ((!(↑s.length : Int) == 0) = true → (!(↑s.length : Int) == 0) = true) ∧ (((↑s.length : Int) == 0) = false → (!(↑s.length : Int) == 0) = true) ∧ ((if
   ((↑s.length : Int) == 0) = true then true else decide ((↑s.length : Int) > 24)) = true → AV.bool false = AV.bool (sName s)) ∧ ((if ((↑s.length : Int) == 0) = true then true else decide ((↑s.length : Int) > 24)) = false → (∃ (g :
   Nat), (g ≤ s.length ∧ allB s g = true) ∧ AS.mk [(0, AV.str s), (3, AV.i 0)] [] 1 = AS.mk [(0, AV.str s), (3, AV.i (↑g : Int))] [] 1) ∧ ∀ (g : Nat), g ≤ s.length ∧ allB s g = true → (decide ((↑g : Int) < (↑s.length : Int)) = true →
   ((decide ((↑(s.getD (↑g : Int).toNat (0 : UInt8)).toNat : Int) ≥ 65) = true → (decide ((↑(s.getD (↑g : Int).toNat (0 : UInt8)).toNat : Int) ≤ 90) = true → (0 : Int) ≤ (↑g : Int) ∧ (↑g : Int) < (↑s.length : Int) ∧ (0 : Int) ≤ (↑g :
   Int) ∧ (↑g : Int) < (↑s.length : Int) ∧ (true = false → false = true) ∧ AV.bool (decide ((↑(s.getD (↑g : Int).toNat (0 : UInt8)).toNat : Int) ≥ 65)) = AV.bool true ∧ AV.bool (decide ((↑(s.getD (↑g : Int).toNat (0 : UInt8)).toNat :
   Int) ≤ 90)) = AV.bool true ∧ AS.mk [(0, AV.str s), (3, AV.i (↑g : Int)), (4, AV.bool true)] [] 1 = AS.mk [(0, AV.str s), (3, AV.i (↑g : Int)), (4, AV.bool (isLetI (↑(s.getD (↑g : Int).toNat (0 : UInt8)).toNat : Int)))] [] 1) ∧
   (decide ((↑(s.getD (↑g : Int).toNat (0 : UInt8)).toNat : Int) ≤ 90) = false → (decide ((↑(s.getD (↑g : Int).toNat (0 : UInt8)).toNat : Int) ≥ 97) = true → (0 : Int) ≤ (↑g : Int) ∧ (↑g : Int) < (↑s.length : Int) ∧ (0 : Int) ≤ (↑g :
   Int) ∧ (↑g : Int) < (↑s.length : Int) ∧ (0 : Int) ≤ (↑g : Int) ∧ (↑g : Int) < (↑s.length : Int) ∧ (0 : Int) ≤ (↑g : Int) ∧ (↑g : Int) < (↑s.length : Int) ∧ AV.bool (decide ((↑(s.getD (↑g : Int).toNat (0 : UInt8)).toNat : Int) ≥
   65)) = AV.bool true ∧ AV.bool (decide ((↑(s.getD (↑g : Int).toNat (0 : UInt8)).toNat : Int) ≤ 90)) = AV.bool false ∧ AV.bool (decide ((↑(s.getD (↑g : Int).toNat (0 : UInt8)).toNat : Int) ≥ 97)) = AV.bool true ∧ AS.mk [(0, AV.str
   s), (3, AV.i (↑g : Int)), (4, AV.bool (decide ((↑(s.getD (↑g : Int).toNat (0 : UInt8)).toNat : Int) ≤ 122)))] [] 1 = AS.mk [(0, AV.str s), (3, AV.i (↑g : Int)), (4, AV.bool (isLetI (↑(s.getD (↑g : Int).toNat (0 : UInt8)).toNat :
   Int)))] [] 1) ∧ (decide ((↑(s.getD (↑g : Int).toNat (0 : UInt8)).toNat : Int) ≥ 97) = false → (0 : Int) ≤ (↑g : Int) ∧ (↑g : Int) < (↑s.length : Int) ∧ (0 : Int) ≤ (↑g : Int) ∧ (↑g : Int) < (↑s.length : Int) ∧ (0 : Int) ≤ (↑g :
   Int) ∧ (↑g : Int) < (↑s.length : Int) ∧ (false = true → false = true) ∧ AV.bool (decide ((↑(s.getD (↑g : Int).toNat (0 : UInt8)).toNat : Int) ≥ 65)) = AV.bool true ∧ AV.bool (decide ((↑(s.getD (↑g : Int).toNat (0 : UInt8)).toNat :
   Int) ≤ 90)) = AV.bool false ∧ AV.bool (decide ((↑(s.getD (↑g : Int).toNat (0 : UInt8)).toNat : Int) ≥ 97)) = AV.bool false ∧ AS.mk [(0, AV.str s), (3, AV.i (↑g : Int)), (4, AV.bool false)] [] 1 = AS.mk [(0, AV.str s), (3, AV.i (↑g
   : Int)), (4, AV.bool (isLetI (↑(s.getD (↑g : Int).toNat (0 : UInt8)).toNat : Int)))] [] 1))) ∧ (decide ((↑(s.getD (↑g : Int).toNat (0 : UInt8)).toNat : Int) ≥ 65) = false → (false = true → (0 : Int) ≤ (↑g : Int) ∧ (↑g : Int) <
   (↑s.length : Int) ∧ (false = true → false = true) ∧ (true = false → false = true) ∧ AV.bool (decide ((↑(s.getD (↑g : Int).toNat (0 : UInt8)).toNat : Int) ≥ 65)) = AV.bool false ∧ AV.bool false = AV.bool true ∧ AS.mk [(0, AV.str s),
   (3, AV.i (↑g : Int)), (4, AV.bool true)] [] 1 = AS.mk [(0, AV.str s), (3, AV.i (↑g : Int)), (4, AV.bool (isLetI (↑(s.getD (↑g : Int).toNat (0 : UInt8)).toNat : Int)))] [] 1) ∧ (false = false → (decide ((↑(s.getD (↑g : Int).toNat (0
   : UInt8)).toNat : Int) ≥ 97) = true → (0 : Int) ≤ (↑g : Int) ∧ (↑g : Int) < (↑s.length : Int) ∧ (false = true → false = true) ∧ (0 : Int) ≤ (↑g : Int) ∧ (↑g : Int) < (↑s.length : Int) ∧ (0 : Int) ≤ (↑g : Int) ∧ (↑g : Int) <
   (↑s.length : Int) ∧ AV.bool (decide ((↑(s.getD (↑g : Int).toNat (0 : UInt8)).toNat : Int) ≥ 65)) = AV.bool false ∧ AV.bool false = AV.bool false ∧ AV.bool (decide ((↑(s.getD (↑g : Int).toNat (0 : UInt8)).toNat : Int) ≥ 97)) =
   AV.bool true ∧ AS.mk [(0, AV.str s), (3, AV.i (↑g : Int)), (4, AV.bool (decide ((↑(s.getD (↑g : Int).toNat (0 : UInt8)).toNat : Int) ≤ 122)))] [] 1 = AS.mk [(0, AV.str s), (3, AV.i (↑g : Int)), (4, AV.bool (isLetI (↑(s.getD (↑g :
   Int).toNat (0 : UInt8)).toNat : Int)))] [] 1) ∧ (decide ((↑(s.getD (↑g : Int).toNat (0 : UInt8)).toNat : Int) ≥ 97) = false → (0 : Int) ≤ (↑g : Int) ∧ (↑g : Int) < (↑s.length : Int) ∧ (false = true → false = true) ∧ (0 : Int) ≤ (↑g
   : Int) ∧ (↑g : Int) < (↑s.length : Int) ∧ (false = true → false = true) ∧ AV.bool (decide ((↑(s.getD (↑g : Int).toNat (0 : UInt8)).toNat : Int) ≥ 65)) = AV.bool false ∧ AV.bool false = AV.bool false ∧ AV.bool (decide ((↑(s.getD (↑g
   : Int).toNat (0 : UInt8)).toNat : Int) ≥ 97)) = AV.bool false ∧ AS.mk [(0, AV.str s), (3, AV.i (↑g : Int)), (4, AV.bool false)] [] 1 = AS.mk [(0, AV.str s), (3, AV.i (↑g : Int)), (4, AV.bool (isLetI (↑(s.getD (↑g : Int).toNat (0 :
   UInt8)).toNat : Int)))] [] 1)))) ∧ ((decide ((↑(s.getD (↑g : Int).toNat (0 : UInt8)).toNat : Int) ≥ 48) = true → (decide ((↑(s.getD (↑g : Int).toNat (0 : UInt8)).toNat : Int) ≤ 57) = true → (0 : Int) ≤ (↑g : Int) ∧ (↑g : Int) <
   (↑s.length : Int) ∧ (0 : Int) ≤ (↑g : Int) ∧ (↑g : Int) < (↑s.length : Int) ∧ (true = false → false = true) ∧ AV.bool (decide ((↑(s.getD (↑g : Int).toNat (0 : UInt8)).toNat : Int) ≥ 48)) = AV.bool true ∧ AV.bool (decide ((↑(s.getD
   (↑g : Int).toNat (0 : UInt8)).toNat : Int) ≤ 57)) = AV.bool true ∧ AS.mk [(0, AV.str s), (3, AV.i (↑g : Int)), (4, AV.bool (isLetI (↑(s.getD (↑g : Int).toNat (0 : UInt8)).toNat : Int))), (5, AV.bool true)] [] 1 = AS.mk [(0, AV.str
   s), (3, AV.i (↑g : Int)), (4, AV.bool (isLetI (↑(s.getD (↑g : Int).toNat (0 : UInt8)).toNat : Int))), (5, AV.bool (isDigU (↑(s.getD (↑g : Int).toNat (0 : UInt8)).toNat : Int)))] [] 1) ∧ (decide ((↑(s.getD (↑g : Int).toNat (0 :
   UInt8)).toNat : Int) ≤ 57) = false → (0 : Int) ≤ (↑g : Int) ∧ (↑g : Int) < (↑s.length : Int) ∧ (0 : Int) ≤ (↑g : Int) ∧ (↑g : Int) < (↑s.length : Int) ∧ (0 : Int) ≤ (↑g : Int) ∧ (↑g : Int) < (↑s.length : Int) ∧ AV.bool (decide
   ((↑(s.getD (↑g : Int).toNat (0 : UInt8)).toNat : Int) ≥ 48)) = AV.bool true ∧ AV.bool (decide ((↑(s.getD (↑g : Int).toNat (0 : UInt8)).toNat : Int) ≤ 57)) = AV.bool false ∧ AS.mk [(0, AV.str s), (3, AV.i (↑g : Int)), (4, AV.bool
   (isLetI (↑(s.getD (↑g : Int).toNat (0 : UInt8)).toNat : Int))), (5, AV.bool ((↑(s.getD (↑g : Int).toNat (0 : UInt8)).toNat : Int) == 95))] [] 1 = AS.mk [(0, AV.str s), (3, AV.i (↑g : Int)), (4, AV.bool (isLetI (↑(s.getD (↑g :
   Int).toNat (0 : UInt8)).toNat : Int))), (5, AV.bool (isDigU (↑(s.getD (↑g : Int).toNat (0 : UInt8)).toNat : Int)))] [] 1)) ∧ (decide ((↑(s.getD (↑g : Int).toNat (0 : UInt8)).toNat : Int) ≥ 48) = false → (false = true → (0 : Int) ≤
   (↑g : Int) ∧ (↑g : Int) < (↑s.length : Int) ∧ (false = true → false = true) ∧ (true = false → false = true) ∧ AV.bool (decide ((↑(s.getD (↑g : Int).toNat (0 : UInt8)).toNat : Int) ≥ 48)) = AV.bool false ∧ AV.bool false = AV.bool
   true ∧ AS.mk [(0, AV.str s), (3, AV.i (↑g : Int)), (4, AV.bool (isLetI (↑(s.getD (↑g : Int).toNat (0 : UInt8)).toNat : Int))), (5, AV.bool true)] [] 1 = AS.mk [(0, AV.str s), (3, AV.i (↑g : Int)), (4, AV.bool (isLetI (↑(s.getD (↑g
   : Int).toNat (0 : UInt8)).toNat : Int))), (5, AV.bool (isDigU (↑(s.getD (↑g : Int).toNat (0 : UInt8)).toNat : Int)))] [] 1) ∧ (false = false → (0 : Int) ≤ (↑g : Int) ∧ (↑g : Int) < (↑s.length : Int) ∧ (false = true → false = true)
   ∧ (0 : Int) ≤ (↑g : Int) ∧ (↑g : Int) < (↑s.length : Int) ∧ AV.bool (decide ((↑(s.getD (↑g : Int).toNat (0 : UInt8)).toNat : Int) ≥ 48)) = AV.bool false ∧ AV.bool false = AV.bool false ∧ AS.mk [(0, AV.str s), (3, AV.i (↑g : Int)),
   (4, AV.bool (isLetI (↑(s.getD (↑g : Int).toNat (0 : UInt8)).toNat : Int))), (5, AV.bool ((↑(s.getD (↑g : Int).toNat (0 : UInt8)).toNat : Int) == 95))] [] 1 = AS.mk [(0, AV.str s), (3, AV.i (↑g : Int)), (4, AV.bool (isLetI (↑(s.getD
   (↑g : Int).toNat (0 : UInt8)).toNat : Int))), (5, AV.bool (isDigU (↑(s.getD (↑g : Int).toNat (0 : UInt8)).toNat : Int)))] [] 1))) ∧ ((!isLetI (↑(s.getD (↑g : Int).toNat (0 : UInt8)).toNat : Int)) = true → (((↑g : Int) == 0) = true
   → (true = false → false = true) ∧ (AV.bool !isLetI (↑(s.getD (↑g : Int).toNat (0 : UInt8)).toNat : Int)) = AV.bool true ∧ AV.bool ((↑g : Int) == 0) = AV.bool true ∧ (true = true → AV.bool false = AV.bool (sName s)) ∧ (true = false
   → In64 ((↑g : Int) + 1) ∧ ∃ (g' : Nat), (g' ≤ s.length ∧ allB s g' = true) ∧ s.length - g' < s.length - g ∧ AS.mk [(0, AV.str s), (3, AV.i ((↑g : Int) + 1))] [] 1 = AS.mk [(0, AV.str s), (3, AV.i (↑g' : Int))] [] 1)) ∧ (((↑g : Int)
   == 0) = false → (AV.bool !isLetI (↑(s.getD (↑g : Int).toNat (0 : UInt8)).toNat : Int)) = AV.bool true ∧ AV.bool ((↑g : Int) == 0) = AV.bool false ∧ ((!isDigU (↑(s.getD (↑g : Int).toNat (0 : UInt8)).toNat : Int)) = true → AV.bool
   false = AV.bool (sName s)) ∧ ((!isDigU (↑(s.getD (↑g : Int).toNat (0 : UInt8)).toNat : Int)) = false → In64 ((↑g : Int) + 1) ∧ ∃ (g' : Nat), (g' ≤ s.length ∧ allB s g' = true) ∧ s.length - g' < s.length - g ∧ AS.mk [(0, AV.str s),
   (3, AV.i ((↑g : Int) + 1))] [] 1 = AS.mk [(0, AV.str s), (3, AV.i (↑g' : Int))] [] 1))) ∧ ((!isLetI (↑(s.getD (↑g : Int).toNat (0 : UInt8)).toNat : Int)) = false → (false = true → false = true) ∧ (AV.bool !isLetI (↑(s.getD (↑g :
   Int).toNat (0 : UInt8)).toNat : Int)) = AV.bool false ∧ (false = true → AV.bool false = AV.bool (sName s)) ∧ (false = false → In64 ((↑g : Int) + 1) ∧ ∃ (g' : Nat), (g' ≤ s.length ∧ allB s g' = true) ∧ s.length - g' < s.length - g ∧
   AS.mk [(0, AV.str s), (3, AV.i ((↑g : Int) + 1))] [] 1 = AS.mk [(0, AV.str s), (3, AV.i (↑g' : Int))] [] 1))) ∧ (decide ((↑g : Int) < (↑s.length : Int)) = false → AV.bool true = AV.bool (sName s))) := by
    have hs0 : (s.length == 0) = (s == []) := by cases s <;> rfl
    refine ⟨fun h => h, fun h => h, fun h => by rw [h]; rfl, fun h => ?_, fun h => ⟨⟨0, ⟨by omega, rfl⟩, rfl⟩, fun g ⟨hg, ha⟩ => ⟨fun hd => ?_, fun hd => ?_⟩⟩⟩
    · have : (!(s == []) && decide (s.length ≤ 24)) = false := by
        rw [← hs0]
        by_cases h0 : s.length = 0
        · simp [h0]
        · rw [beq_eq_false_iff_ne.2 (show (s.length : Int) ≠ 0 by omega)] at h
          simp at h
          simp only [Bool.and_eq_false_iff, decide_eq_false_iff_not]
          omega
      rw [sName, this, Bool.and_false]
    · have hlt := lt_of_dec hd
      have hz : ((g : Int) == 0) = (g == 0) := by
        by_cases h : g = 0
        · simp [h]
        · rw [beq_eq_false_iff_ne.2 h, beq_eq_false_iff_ne.2 (by omega)]
      obtain ⟨n, hx⟩ : ∃ n, (s.getD g 0).toNat = n := ⟨_, rfl⟩
      rw [show (s.getD ((g : Int)).toNat 0).toNat = n from hx]
      have hF : okB (g == 0) (s.getD g 0).toNat = false → AV.bool false = AV.bool (sName s) := fun h => by
        rw [all_fail hlt h]
      have hN : okB (g == 0) (s.getD g 0).toNat = true → In64 ((g : Int) + 1) ∧ ∃ (g' : Nat), (g' ≤ s.length ∧ allB s g' = true) ∧ s.length - g' < s.length - g ∧
          AS.mk [(0, AV.str s), (3, AV.i ((g : Int) + 1))] [] 1 = AS.mk [(0, AV.str s), (3, AV.i g')] [] 1 := fun h =>
        ⟨by unfold In64; omega, g + 1, ⟨hlt, all_next ha h⟩, by omega, rfl⟩
      rw [okB_I] at hF hN
      have h1 : (0 : Int) ≤ g := by omega
      have h2 : (g : Int) < s.length := by omega
      rw [hx] at hF hN
      rw [hz]
      generalize sName s = sn at hF ⊢
      clear hx ha
      repeat' (first | apply And.intro | intro _)
      all_goals try first
        | omega
        | contradiction
        | rfl
        | assumption
        | exact congrArg AV.bool (by assumption)
        | (rw [show isLetI (n : Int) = true by (simp only [decide_eq_true_eq, decide_eq_false_iff_not] at *; simp only [isLetI, Bool.or_eq_true, decide_eq_true_eq]; omega)]; done)
        | (rw [show isLetI (n : Int) = false by (simp only [decide_eq_true_eq, decide_eq_false_iff_not] at *; simp only [isLetI, Bool.or_eq_false_iff, decide_eq_false_iff_not]; omega)]; done)
        | (rw [show isLetI (n : Int) = decide ((n : Int) ≤ 122) by (simp only [decide_eq_true_eq, decide_eq_false_iff_not] at *; simp only [isLetI]; by_cases h90 : (n : Int) ≤ 122 <;> simp [h90] <;> omega)]; done)
        | (rw [show isDigU (n : Int) = true by (simp only [decide_eq_true_eq, decide_eq_false_iff_not] at *; simp only [isDigU, Bool.or_eq_true, decide_eq_true_eq]; omega)]; done)
        | (rw [show isDigU (n : Int) = ((n : Int) == 95) by (simp only [decide_eq_true_eq, decide_eq_false_iff_not] at *; unfold isDigU; rw [decide_eq_false (show ¬ (48 ≤ (n : Int) ∧ (n : Int) ≤ 57) by omega), Bool.false_or]; rfl)]; done)
        | (refine hF ?_; (clear hF hN; generalize isLetI (n : Int) = p at *; generalize isDigU (n : Int) = q at *; generalize (g == 0) = z at *; cases p <;> cases q <;> cases z <;> first | rfl | (exfalso; simp at *; done)); done)
        | (refine (hN ?_).1; (clear hF hN; generalize isLetI (n : Int) = p at *; generalize isDigU (n : Int) = q at *; generalize (g == 0) = z at *; cases p <;> cases q <;> cases z <;> first | rfl | (exfalso; simp at *; done)); done)
        | (refine (hN ?_).2; (clear hF hN; generalize isLetI (n : Int) = p at *; generalize isDigU (n : Int) = q at *; generalize (g == 0) = z at *; cases p <;> cases q <;> cases z <;> first | rfl | (exfalso; simp at *; done)); done)
    · have hge := ge_of_dec hd hg
      subst hge
      have h2 : (!(s == []) && decide (s.length ≤ 24)) = true := by
        rw [← hs0]
        by_cases h0 : s.length = 0
        · simp [h0] at h
        · rw [beq_eq_false_iff_ne.2 (show (s.length : Int) ≠ 0 by omega)] at h
          simp at h
          simp only [Bool.and_eq_true, decide_eq_true_eq, Bool.not_eq_true', beq_eq_false_iff_ne]
          omega
      rw [sName, ha, h2]
      rfl
  exact c_of Tryz.f143 (B143 s) (by kernel_rfl) (by kernel_rfl) (by kernel_rfl) (by kernel_rfl) key (by kernel_rfl)
theorem c108L (s : List UInt8) (hs : s.length ≤ 9223372036854775807) : PCall Tryz.prog G0 108 [.str s] (.i (sWhen (!sName s) 8)) := by
  have key :
   PCall Tryz.prog G0 143 [AV.str s] (AV.bool (sName s)) ∧ PCall Tryz.prog G0 109 [AV.bool !sName s, AV.i 8] (AV.i (sWhen (!sName s) (8 : Int))) ∧ AV.i (sWhen (!sName s) (8 : Int)) = AV.i (sWhen (!sName s) (8 : Int)) := by
    exact ⟨c143L s hs, c109 _ _, rfl⟩
  exact c_of Tryz.f108 (mkB spN 108 [] noLa) (by kernel_rfl) (by kernel_rfl) (by kernel_rfl) (by kernel_rfl) key (by kernel_rfl)
theorem c78L (x : Cp) (hx : x.hm.length ≤ 9223372036854775807) : PCall Tryz.prog G0 78 [.agg (encCp x)] (.i (fCp x)) := by
  have key :
   PCall Tryz.prog G0 108 [AV.str x.hm] (AV.i (sWhen (!sName x.hm) (8 : Int))) ∧ PCall Tryz.prog G0 81 [AV.i x.tk, AV.i 0, AV.i 100000000] (AV.i (sWithin x.tk (0 : Int) (100000000 : Int))) ∧ PCall Tryz.prog G0 107 [AV.sl 1 [[AV.i
   (sWhen (!sName x.hm) (8 : Int))], [AV.i (sWithin x.tk (0 : Int) (100000000 : Int))]]] (AV.i (sFirst [hdI [AV.i (sWhen (!sName x.hm) (8 : Int))], hdI [AV.i (sWithin x.tk (0 : Int) (100000000 : Int))]])) ∧ AV.i (sFirst [hdI [AV.i
   (sWhen (!sName x.hm) (8 : Int))], hdI [AV.i (sWithin x.tk (0 : Int) (100000000 : Int))]]) = AV.i (fCp x) := by
    refine ⟨(c108L _ hx), (c81 _ _ _), (c107 [_, _] (by simp)), ?_⟩
    · first | rfl | trivial
  exact c_of Tryz.f78 (mkB spC 78 [] noLa) (by kernel_rfl) (by kernel_rfl) (by kernel_rfl) (by kernel_rfl) key (by kernel_rfl)
theorem c76L (l : List Cp) (hl : l.length ≤ 1000) (hn : ∀ x, x ∈ l → x.hm.length ≤ 9223372036854775807) : PCall Tryz.prog G0 76 [.sl 2 (l.map encCp)] (.i (cpE l)) := by
  have key :
   (decide ((↑(List.map encCp l).length : Int) > 64) = true → AV.i 5 = AV.i (cpE l)) ∧ (decide ((↑(List.map encCp l).length : Int) > 64) = false → (∃ (g : Nat), (g ≤ l.length ∧ ∀ (j : Nat), j < g → fCl l j = (0 : Int)) ∧ AS.mk [(0,
   AV.sl 2 (List.map encCp l)), (3, AV.i 0)] [] 1 = AS.mk [(0, AV.sl 2 (List.map encCp l)), (3, AV.i (↑g : Int))] [] 1) ∧ ∀ (g : Nat), (g ≤ l.length ∧ ∀ (j : Nat), j < g → fCl l j = (0 : Int)) → (decide ((↑g : Int) < (↑(List.map encCp
   l).length : Int)) = true → (0 : Int) ≤ (↑g : Int) ∧ (↑g : Int) < (↑(List.map encCp l).length : Int) ∧ (decide ((↑g : Int) > 0) = true → decide ((↑g : Int) > 0) = true) ∧ (decide ((↑g : Int) > 0) = true → decide ((↑g : Int) > 0) =
   true) ∧ (decide ((↑g : Int) > 0) = true → (0 : Int) ≤ (↑g : Int)) ∧ (decide ((↑g : Int) > 0) = true → (↑g : Int) < (↑(List.map encCp l).length : Int)) ∧ (decide ((↑g : Int) > 0) = true → decide ((↑g : Int) > 0) = true) ∧ (decide
   ((↑g : Int) > 0) = true → decide ((↑g : Int) > 0) = true) ∧ (decide ((↑g : Int) > 0) = true → decide ((↑g : Int) > 0) = true) ∧ (decide ((↑g : Int) > 0) = true → In64 ((↑g : Int) - 1)) ∧ (decide ((↑g : Int) > 0) = true → decide
   ((↑g : Int) > 0) = true) ∧ (decide ((↑g : Int) > 0) = true → decide ((↑g : Int) > 0) = true) ∧ (decide ((↑g : Int) > 0) = true → decide ((↑g : Int) > 0) = true) ∧ (decide ((↑g : Int) > 0) = true → (0 : Int) ≤ maxI (0 : Int) ((↑g :
   Int) - 1)) ∧ (decide ((↑g : Int) > 0) = true → maxI (0 : Int) ((↑g : Int) - 1) < (↑(List.map encCp l).length : Int)) ∧ (decide ((↑g : Int) > 0) = true → decide ((↑g : Int) > 0) = true) ∧ (decide ((↑g : Int) > 0) = true → decide
   ((↑g : Int) > 0) = true) ∧ (decide ((↑g : Int) > 0) = true → decide ((↑g : Int) > 0) = true) ∧ (decide ((↑g : Int) > 0) = true → decide ((↑g : Int) > 0) = true) ∧ (decide ((↑g : Int) > 0) = true → decide ((↑g : Int) > 0) = true) ∧
   AV.agg (nthR (List.map encCp l) (↑g : Int).toNat) = AV.agg (encCp (l.getD (↑g : Int).toNat default)) ∧ PCall Tryz.prog G0 78 [AV.agg (encCp (l.getD (↑g : Int).toNat default))] (AV.i (fCp (Cp.mk (l.getD (↑g : Int).toNat default).hm
   (l.getD (↑g : Int).toNat default).tk))) ∧ impB (decide ((↑g : Int) > 0)) (nth (nthR (List.map encCp l) (↑g : Int).toNat) 1 = AV.i (l.getD (↑g : Int).toNat default).tk) ∧ impB (decide ((↑g : Int) > 0)) (nth (nthR (List.map encCp l)
   (maxI (0 : Int) ((↑g : Int) - 1)).toNat) 1 = AV.i (l.getD (maxI (0 : Int) ((↑g : Int) - 1)).toNat default).tk) ∧ PCall Tryz.prog G0 109 [AV.bool (if decide ((↑g : Int) > 0) = true then decide ((l.getD (↑g : Int).toNat default).tk <
   (l.getD (maxI (0 : Int) ((↑g : Int) - 1)).toNat default).tk) else false), AV.i 11] (AV.i (sWhen (if decide ((↑g : Int) > 0) = true then decide ((l.getD (↑g : Int).toNat default).tk < (l.getD (maxI (0 : Int) ((↑g : Int) - 1)).toNat
   default).tk) else false) (11 : Int))) ∧ PCall Tryz.prog G0 107 [AV.sl 1 [[AV.i (fCp (Cp.mk (l.getD (↑g : Int).toNat default).hm (l.getD (↑g : Int).toNat default).tk))], [AV.i (sWhen (if decide ((↑g : Int) > 0) = true then decide
   ((l.getD (↑g : Int).toNat default).tk < (l.getD (maxI (0 : Int) ((↑g : Int) - 1)).toNat default).tk) else false) (11 : Int))]]] (AV.i (sFirst [hdI [AV.i (fCp (Cp.mk (l.getD (↑g : Int).toNat default).hm (l.getD (↑g : Int).toNat
   default).tk))], hdI [AV.i (sWhen (if decide ((↑g : Int) > 0) = true then decide ((l.getD (↑g : Int).toNat default).tk < (l.getD (maxI (0 : Int) ((↑g : Int) - 1)).toNat default).tk) else false) (11 : Int))]])) ∧ ((sFirst [hdI [AV.i
   (fCp (Cp.mk (l.getD (↑g : Int).toNat default).hm (l.getD (↑g : Int).toNat default).tk))], hdI [AV.i (sWhen (if decide ((↑g : Int) > 0) = true then decide ((l.getD (↑g : Int).toNat default).tk < (l.getD (maxI (0 : Int) ((↑g : Int) -
   1)).toNat default).tk) else false) (11 : Int))]] != 0) = true → AV.i (sFirst [hdI [AV.i (fCp (Cp.mk (l.getD (↑g : Int).toNat default).hm (l.getD (↑g : Int).toNat default).tk))], hdI [AV.i (sWhen (if decide ((↑g : Int) > 0) = true
   then decide ((l.getD (↑g : Int).toNat default).tk < (l.getD (maxI (0 : Int) ((↑g : Int) - 1)).toNat default).tk) else false) (11 : Int))]]) = AV.i (cpE l)) ∧ ((sFirst [hdI [AV.i (fCp (Cp.mk (l.getD (↑g : Int).toNat default).hm
   (l.getD (↑g : Int).toNat default).tk))], hdI [AV.i (sWhen (if decide ((↑g : Int) > 0) = true then decide ((l.getD (↑g : Int).toNat default).tk < (l.getD (maxI (0 : Int) ((↑g : Int) - 1)).toNat default).tk) else false) (11 : Int))]]
   != 0) = false → In64 ((↑g : Int) + 1) ∧ ∃ (g' : Nat), (g' ≤ l.length ∧ ∀ (j : Nat), j < g' → fCl l j = (0 : Int)) ∧ l.length - g' < l.length - g ∧ AS.mk [(0, AV.sl 2 (List.map encCp l)), (3, AV.i ((↑g : Int) + 1))] [] 1 = AS.mk
   [(0, AV.sl 2 (List.map encCp l)), (3, AV.i (↑g' : Int))] [] 1)) ∧ (decide ((↑g : Int) < (↑(List.map encCp l).length : Int)) = false → AV.i 0 = AV.i (cpE l))) := by
    have hlm : (List.map encCp l).length = l.length := List.length_map _
    have : (List.map encCp l).length = l.length := by simp only [List.length_map]
    refine ⟨fun h1 => ?_, fun h1 => ?_⟩
    · have e : cpE l = 5 := if_pos (by rw [hlm] at h1; exact h1)
      rw [e]
    · have h64 : l.length ≤ 64 := by have := of_decide_eq_false h1; omega
      have hb64 : cpE l = sScan (fCl l) l.length 0 := if_neg (by rw [decide_eq_true_eq]; omega)
      refine ⟨⟨0, ⟨by omega, by intros; omega⟩, rfl⟩, fun g ⟨hg, ha⟩ => ⟨fun hd => ?_, fun hd => ?_⟩⟩
      · have hlt : g < l.length := by have h9 := of_decide_eq_true hd; have h8 := hg; (try simp only [List.length_map] at h8 h9); omega
        have hx := hn _ (getD_mem hlt)
        have hfe := fCr_e l g
        have hmx : 0 ≤ maxI 0 ((g : Int) - 1) ∧ maxI 0 ((g : Int) - 1) ≤ g := by unfold maxI; split <;> omega
        try rw [show (↑g : Int).toNat = g from Int.toNat_natCast g]
        refine ⟨(by omega), (by omega), fun h => h, fun h => h, fun _ => by omega, fun _ => by omega, fun h => h, fun h => h, fun h => h, fun _ => by unfold In64; omega, fun h => h, fun h => h, fun h => h, fun _ => by omega, fun _ => by omega, fun h => h, fun h => h, fun h => h, fun h => h, fun h => h, congrArg AV.agg (row_at encCp hlt), (c78L _ (by omega)), impB_iff.2 fun hb => congrArg (fun r => nth r 1) (row_at encCp hlt), impB_iff.2 fun hb => (congrArg (fun r => nth r 1) (row_at encCp (by omega))), (c109 _ _), (c107 [_, _] (by simp)), fun h2 => ?_, fun h2 => ⟨(by unfold In64; omega), ⟨g + 1, ⟨by omega, all_ext ha (hfe.symm.trans (bne_f h2))⟩, by omega, rfl⟩⟩⟩
        · have hne : fCl l g ≠ 0 := by rw [← hfe]; exact bne_t h2
          rw [hb64, scan_hit hlt ha hne, ← hfe]
          rfl
      · have hge : g = l.length := by have h9 := of_decide_eq_false hd; have h8 := hg; (try simp only [List.length_map] at h8 h9); omega
        subst hge
        rw [hb64, scan_end ha]
  exact c_of Tryz.f76 (fzB (mkB spC 76 [(6, 3, rdL 2 encCp l 2 true), (6, 12, rdL 2 encCp l 1 false), (6, 19, rdL 2 encCp l 1 false)] (la1 (la76 l)))) (by kernel_rfl) (by kernel_rfl) (by kernel_rfl) (by kernel_rfl) key (by kernel_rfl)
def rdE (l : List En) : BL → List AV → Option AV := fun _ ins => match ins with
  | [.optr _ i _] => some (.agg (encEn (l.getD i default)))
  | _ => none
def la69w (l : List En) : LA := {
  pre := [.own 3 185 3, .reno 3 2, .keep [3, 6, 7, 8] [0, 1, 2], .bound 3], post := [.reno 3 2, .keep [3, 6, 7, 8] [0, 1, 2], .bound 3]
  Gh := Nat
  st := fun i => ⟨[(3, .own 2 ((l.take i).map encEn).length), (6, .own 1 (l.map encEn).length), (7, .i (l.map encEn).length), (8, .i i)], [(0, .pins 2), (1, .buf 115 3 (l.map encEn)), (2, .buf 185 3 ((l.take i).map encEn))], 3⟩
  ok := fun i => i ≤ l.length
  ms := fun i => l.length - i }
theorem w69 (l : List En) (hl : l.length ≤ 1000) : WCall Tryz.prog G0 69 [.own 1 (l.map encEn).length] [ABlk.buf 115 3 (l.map encEn)] (.sl 3 (l.map encEn)) [ABlk.buf 115 3 (l.map encEn)] := by
  have key :
   (∃ (g : Nat), g ≤ l.length ∧ AS.mk [(3, AV.own 2 0), (6, AV.own 1 (List.map encEn l).length), (7, AV.i (↑(List.map encEn l).length : Int)), (8, AV.i 0)] [(0, ABlk.pins 2), (1, ABlk.buf 115 3 (List.map encEn l)), (2, ABlk.buf 185 3
   [])] 3 = AS.mk [(3, AV.own 2 (List.map encEn (List.take g l)).length), (6, AV.own 1 (List.map encEn l).length), (7, AV.i (↑(List.map encEn l).length : Int)), (8, AV.i (↑g : Int))] [(0, ABlk.pins 2), (1, ABlk.buf 115 3 (List.map
   encEn l)), (2, ABlk.buf 185 3 (List.map encEn (List.take g l)))] 3) ∧ ∀ (g : Nat), g ≤ l.length → (decide ((↑g : Int) < (↑(List.map encEn l).length : Int)) = true → (0 : Int) ≤ (↑g : Int) ∧ (↑g : Int) < (↑(List.map encEn l).length
   : Int) ∧ (↑g : Int).toNat < (List.map encEn l).length ∧ AV.agg (nthR (List.map encEn l) (↑g : Int).toNat) = AV.agg (encEn (l.getD (↑g : Int).toNat default)) ∧ (List.map encEn (List.take g l)).length + 1 ≤ 9223372036854775807 ∧
   ((List.map encEn (List.take g l)).length + 1) * 32 ≤ 140737488355328 ∧ In64 ((↑g : Int) + 1) ∧ ∃ (g' : Nat), g' ≤ l.length ∧ l.length - g' < l.length - g ∧ AS.mk [(3, AV.own 2 ((List.map encEn (List.take g l)).length + 1)), (6,
   AV.own 1 (List.map encEn l).length), (7, AV.i (↑(List.map encEn l).length : Int)), (8, AV.i ((↑g : Int) + 1))] [(0, ABlk.pins 2), (1, ABlk.buf 115 3 (List.map encEn l)), (2, ABlk.buf 185 3 (List.map encEn (List.take g l) ++ [(encEn
   (l.getD (↑g : Int).toNat default))]))] 3 = AS.mk [(3, AV.own 2 (List.map encEn (List.take g' l)).length), (6, AV.own 1 (List.map encEn l).length), (7, AV.i (↑(List.map encEn l).length : Int)), (8, AV.i (↑g' : Int))] [(0, ABlk.pins
   2), (1, ABlk.buf 115 3 (List.map encEn l)), (2, ABlk.buf 185 3 (List.map encEn (List.take g' l)))] 3) ∧ (decide ((↑g : Int) < (↑(List.map encEn l).length : Int)) = false → AV.sl 3 (List.map encEn (List.take g l)) = AV.sl 3
   (List.map encEn l) ∧ [ABlk.buf 115 3 (List.map encEn l)] = [ABlk.buf 115 3 (List.map encEn l)]) := by
    have hlm : (List.map encEn l).length = l.length := List.length_map _
    have : (List.map encEn l).length = l.length := by simp only [List.length_map]
    refine ⟨⟨0, by omega, rfl⟩, fun g hg => ⟨fun hd => ?_, fun hd => ?_⟩⟩
    · have hlt : g < l.length := by have h9 := of_decide_eq_true hd; have h8 := hg; (try simp only [List.length_map] at h8 h9); omega
      have : (List.map encEn (List.take g l)).length = g := by simp only [List.length_map, List.length_take]; omega
      try rw [show (↑g : Int).toNat = g from Int.toNat_natCast g]
      refine ⟨(by omega), (by omega), (by omega), congrArg AV.agg (row_at encEn hlt), (by omega), (by omega), (by unfold In64; omega), ⟨g + 1, by omega, by omega, ?_⟩⟩
      · first | (rw [← take_succ_map _ _ hlt, List.length_append]; rfl) | (rw [← take_succ _ hlt, List.length_append]; rfl)
    · have hge : g = l.length := by have h9 := of_decide_eq_false hd; have h8 := hg; (try simp only [List.length_map] at h8 h9); omega
      subst hge
      refine ⟨?_, rfl⟩
      · rw [List.take_length]
  exact w_of Tryz.f69 (gsB (fun i => if i.beq 7 then [.frzo 2] else []) (fzB (modA 4 1 (fun a => { a with rdb := rdE l }) (mkB spN 69 [] (fun i => if i.beq 0 then some (la69w l) else none))))) (by kernel_rfl) (by kernel_rfl) (by kernel_rfl) (by kernel_rfl) (by kernel_rfl) key (by kernel_rfl)
end Go.Proofs.YtfoeefaamjknpaaGreatDoor
namespace Go.Proofs.YtfoeefaamjknpaaGreatDoor
open Go Go.Av Go.RowKit
theorem c_ofH {f : Nat} {args : List AV} {r : AV} (fn : Func) (B : BA) (ms : List (Option (List GS × AS × Prop))) (hf : Tryz.prog.funcs[f]? = some fn) (hb : fn.body = some (bodyOf fn)) (hn : (fn.name == "runtime.NumGoroutine") = false) (hlen : Nat.ble args.length fn.ntmps = true)
    {q : Prop} (hq : q) (h : partsH (bodyE Tryz.prog T0 G0 fn.ntmps []) B (retQ T0 fn fun v => v = r) (flatSeq (bodyOf fn)) ms (startS args) = q) : PCall Tryz.prog G0 f args r :=
  call_of_partsH tok mix hf hb hn (Nat.le_of_ble_eq_true hlen) B ms (vc_of hq h)
end Go.Proofs.YtfoeefaamjknpaaGreatDoor
namespace Go.Proofs.YtfoeefaamjknpaaGreatDoor
open Go Go.Av Go.RowKit
end Go.Proofs.YtfoeefaamjknpaaGreatDoor
namespace Go.Proofs.YtfoeefaamjknpaaGreatDoor
open Go Go.Av Go.RowKit
end Go.Proofs.YtfoeefaamjknpaaGreatDoor
namespace Go.Proofs.YtfoeefaamjknpaaGreatDoor
open Go Go.Av Go.RowKit
end Go.Proofs.YtfoeefaamjknpaaGreatDoor
namespace Go.Proofs.YtfoeefaamjknpaaGreatDoor
open Go Go.Av Go.RowKit
end Go.Proofs.YtfoeefaamjknpaaGreatDoor
namespace Go.Proofs.YtfoeefaamjknpaaGreatDoor
open Go Go.Av Go.RowKit
end Go.Proofs.YtfoeefaamjknpaaGreatDoor
