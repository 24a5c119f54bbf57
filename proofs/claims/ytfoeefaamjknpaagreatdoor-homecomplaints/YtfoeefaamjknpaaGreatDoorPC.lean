/-
  Complaints: those that are due, the source's; what is wrong, the reference's; copies. No condition but the theorems' own. Complaints, the reference's: those that are counted, tied and due. No condition but the theorems' own. A contract from its body's parts. No condition but the theorems' own. HomeComplaints returns true. No condition but the theorems' own. Complaints and desks, as arguments of chapter 8's statements. No condition but the theorems' own. What HomeComplaints' row says of the program's text. No condition.
-/
import Derived.Test.YtfoeefaamjknpaaGreatDoorPB
import Derived.Test.YtfoeefaamjknpaaGreatDoorAvD
namespace Go.Proofs.YtfoeefaamjknpaaGreatDoor
open Go Go.Av Go.RowKit
def duE (l : List Cp) (w : Int) (ans : List Int) (t d : Int) : Int := sFirst [cpE l, sWithin w 0 100000, fIx ans l.length, sWithin t 0 100000000, sWithin d 0 100000]
def duV (l : List Cp) (w : Int) (ans : List Int) (t d : Int) : List Int := if (duE l w ans t d != 0) = true then [] else dlG (dueX ans l t d) (cnS l w l.length).2
def sp75 (l : List Cp) (w : Int) (ans : List Int) : Nat → List AV → Option AV
  | 144, _ => some (.i (cpE l))
  | 146, _ => some (.fresh 3 1 ((cnS l w l.length).2.map encI))
  | 150, _ => some (.i (fIx ans l.length))
  | n, x => spC n x
def hs75 (l : List Cp) (w : Int) (ans : List Int) (t d : Int) : Nat → List AV → List ABlk → Option AV
  | 151, _, _ => some (.gv true (.tup [.sl 1 ((dlG (dueX ans l t d) (cnS l w l.length).2).map encI), .any]))
  | _, _, _ => none
theorem cnS_mem {l : List Cp} {w : Int} : ∀ {k : Nat} {a : Int}, a ∈ (cnS l w k).2 → 0 ≤ a ∧ a < k
  | 0, a, h => by cases h
  | k + 1, a, h => by
    rw [cnS] at h
    split at h
    · have := cnS_mem h; omega
    · rcases List.mem_append.1 h with h | h
      · have := cnS_mem h; omega
      · rw [List.mem_singleton] at h; omega
theorem c75 (l : List Cp) (w : Int) (ans : List Int) (t d : Int) (hl : l.length ≤ 1000) (hn : ∀ x, x ∈ l → x.hm.length ≤ 1000) (ha0 : ans.length ≤ 1000) : PCall Tryz.prog G0 75 [.sl 2 (l.map encCp), .i w, .sl 1 (ans.map encI), .i t, .i d] (.tup [.sl 1 ((duV l w ans t d).map encI), .i (duE l w ans t d)]) := by
  have key :
   PCall Tryz.prog G0 144 [AV.sl 2 (List.map encCp l)] (AV.i (cpE l)) ∧ PCall Tryz.prog G0 145 [AV.i w] (AV.i (sWithin w (0 : Int) (100000 : Int))) ∧ PCall Tryz.prog G0 150 [AV.sl 1 (List.map encI ans), AV.i (↑(List.map encCp
   l).length : Int)] (AV.i (fIx ans (↑l.length : Int))) ∧ PCall Tryz.prog G0 118 [AV.i t, AV.i 0, AV.i 100000000] (AV.i (sWithin t (0 : Int) (100000000 : Int))) ∧ PCall Tryz.prog G0 145 [AV.i d] (AV.i (sWithin d (0 : Int) (100000 :
   Int))) ∧ PCall Tryz.prog G0 104 [AV.sl 1 [[AV.i (cpE l)], [AV.i (sWithin w (0 : Int) (100000 : Int))], [AV.i (fIx ans (↑l.length : Int))], [AV.i (sWithin t (0 : Int) (100000000 : Int))], [AV.i (sWithin d (0 : Int) (100000 :
   Int))]]] (AV.i (sFirst [hdI [AV.i (cpE l)], hdI [AV.i (sWithin w (0 : Int) (100000 : Int))], hdI [AV.i (fIx ans (↑l.length : Int))], hdI [AV.i (sWithin t (0 : Int) (100000000 : Int))], hdI [AV.i (sWithin d (0 : Int) (100000 :
   Int))]])) ∧ ((sFirst [hdI [AV.i (cpE l)], hdI [AV.i (sWithin w (0 : Int) (100000 : Int))], hdI [AV.i (fIx ans (↑l.length : Int))], hdI [AV.i (sWithin t (0 : Int) (100000000 : Int))], hdI [AV.i (sWithin d (0 : Int) (100000 : Int))]]
   != 0) = true → AV.tup [AV.sl 1 [], AV.i (sFirst [hdI [AV.i (cpE l)], hdI [AV.i (sWithin w (0 : Int) (100000 : Int))], hdI [AV.i (fIx ans (↑l.length : Int))], hdI [AV.i (sWithin t (0 : Int) (100000000 : Int))], hdI [AV.i (sWithin d
   (0 : Int) (100000 : Int))]])] = AV.tup [AV.sl 1 (List.map encI (duV l w ans t d)), AV.i (duE l w ans t d)]) ∧ ((sFirst [hdI [AV.i (cpE l)], hdI [AV.i (sWithin w (0 : Int) (100000 : Int))], hdI [AV.i (fIx ans (↑l.length : Int))],
   hdI [AV.i (sWithin t (0 : Int) (100000000 : Int))], hdI [AV.i (sWithin d (0 : Int) (100000 : Int))]] != 0) = false → PCall Tryz.prog G0 146 [AV.sl 2 (List.map encCp l), AV.i w] (AV.fresh 3 1 (List.map encI (cnS l w l.length).snd))
   ∧ WCall Tryz.prog G0 151 [AV.own 1 (List.map encI (cnS l w l.length).snd).length, AV.fn (Fn.func 152) [] [AV.elt 1 [[AV.sl 1 (List.map encI ans)]] 0 0, AV.elt 1 [[AV.sl 2 (List.map encCp l)]] 0 0, AV.elt 1 [[AV.i d]] 0 0, AV.elt 1
   [[AV.i t]] 0 0]] [ABlk.buf 3 1 (List.map encI (cnS l w l.length).snd)] (AV.sl 1 (List.map encI (dlG (dueX ans l t d) (cnS l w l.length).snd))) [ABlk.dead] ∧ AV.tup [AV.sl 1 (List.map encI (dlG (dueX ans l t d) (cnS l w
   l.length).snd)), AV.i 0] = AV.tup [AV.sl 1 (List.map encI (duV l w ans t d)), AV.i (duE l w ans t d)]) := by
    have hlm : (List.map encCp l).length = l.length := List.length_map _
    have : (List.map encCp l).length = l.length := by simp only [List.length_map]
    refine ⟨(c144 l hl hn), (c145 _), ((by rw [hlm]; exact c150 _ _ ha0)), (c118 _ _ _), (c145 _), (c104 [_, _, _, _, _] (by simp)), fun h1 => ?_, fun h1 => ?_⟩
    · rw [show duV l w ans t d = [] from if_pos (by first | exact h1 | exact h2 | exact h3)]
      rfl
    · have hz : duE l w ans t d = 0 := bne_f h1
      have hz2 := hz
      unfold duE at hz2
      rw [first_zero, first_zero, first_zero, first_zero, first_zero, within_zero, within_zero, within_zero] at hz2
      obtain ⟨z1, z2, z3, z4, z5, _⟩ := hz2
      obtain ⟨h64, hok⟩ := cp_z z1
      have hcl := cnS_len l w l.length
      have hdu : dueH l d (cnS l w l.length).2 := fun j hj => by
        have h3 := cnS_mem (getD_mem hj)
        have h4 := hok.tk ((cnS l w l.length).2.getD j default).toNat (by omega)
        exact ⟨h3, by unfold In64; omega⟩
      refine ⟨(c146 l w h64 hok), (w151 ans l t d _ ha0 (by omega) hdu), ?_⟩
      · rw [show duV l w ans t d = dlG (dueX ans l t d) (cnS l w l.length).2 from if_neg (by rw [hz]; decide), hz]
  exact c_of Tryz.f75 ({ gsB (fun i => if i.beq 3 then [.nil 10 1] else []) (fzB (mkB (sp75 l w ans) 75 [] noLa)) with hs := hs75 l w ans t d }) (by kernel_rfl) (by kernel_rfl) (by kernel_rfl) (by kernel_rfl) key (by kernel_rfl)
theorem c77 (x : Int)  : PCall Tryz.prog G0 77 [.i x] (.i (sWithin x 0 100000)) := by
  have key :
   PCall Tryz.prog G0 81 [AV.i x, AV.i 0, AV.i 100000] (AV.i (sWithin x (0 : Int) (100000 : Int))) ∧ AV.i (sWithin x (0 : Int) (100000 : Int)) = AV.i (sWithin x (0 : Int) (100000 : Int)) := by
    exact ⟨(c81 _ _ _), rfl⟩
  exact c_of Tryz.f77 (mkB spC 77 [] noLa) (by kernel_rfl) (by kernel_rfl) (by kernel_rfl) (by kernel_rfl) key (by kernel_rfl)
theorem c78 (x : Cp) (hx : x.hm.length ≤ 1000000) : PCall Tryz.prog G0 78 [.agg (encCp x)] (.i (fCp x)) := by
  have key :
   PCall Tryz.prog G0 108 [AV.str x.hm] (AV.i (sWhen (!sName x.hm) (8 : Int))) ∧ PCall Tryz.prog G0 81 [AV.i x.tk, AV.i 0, AV.i 100000000] (AV.i (sWithin x.tk (0 : Int) (100000000 : Int))) ∧ PCall Tryz.prog G0 107 [AV.sl 1 [[AV.i
   (sWhen (!sName x.hm) (8 : Int))], [AV.i (sWithin x.tk (0 : Int) (100000000 : Int))]]] (AV.i (sFirst [hdI [AV.i (sWhen (!sName x.hm) (8 : Int))], hdI [AV.i (sWithin x.tk (0 : Int) (100000000 : Int))]])) ∧ AV.i (sFirst [hdI [AV.i
   (sWhen (!sName x.hm) (8 : Int))], hdI [AV.i (sWithin x.tk (0 : Int) (100000000 : Int))]]) = AV.i (fCp x) := by
    refine ⟨(c108 _ hx), (c81 _ _ _), (c107 [_, _] (by simp)), ?_⟩
    · first | rfl | trivial
  exact c_of Tryz.f78 (mkB spC 78 [] noLa) (by kernel_rfl) (by kernel_rfl) (by kernel_rfl) (by kernel_rfl) key (by kernel_rfl)
def la76 (l : List Cp) : LA := {
  pre := [.keep [0, 3] [], .bound 1], post := [.keep [0, 3] [], .bound 1]
  Gh := Nat
  st := fun i => ⟨[(0, .sl 2 (l.map encCp)), (3, .i i)], [], 1⟩
  ok := fun i => i ≤ l.length ∧ ∀ j, j < i → fCl l j = 0
  ms := fun i => l.length - i }
def fCr (l : List Cp) (i : Nat) : Int := sFirst [fCp (l.getD i default), sWhen (if decide ((i : Int) > 0) = true then decide ((l.getD i default).tk < (l.getD (maxI 0 ((i : Int) - 1)).toNat default).tk) else false) 11]
theorem fCr_e (l : List Cp) (i : Nat) : fCr l i = fCl l i := by
  unfold fCr fCl
  cases i with
  | zero =>
    rw [if_neg (by decide)]
    by_cases h : fCp (l.getD 0 default) = 0
    · have h2 := h
      unfold fCp at h2
      rw [first_zero, first_zero, within_zero] at h2
      rw [decide_eq_false (show ¬ (l.getD 0 default).tk < lastC l 0 by simp only [lastC]; omega)]
    · simp only [sFirst]
      rw [if_pos h, if_pos h]
  | succ i =>
    rw [if_pos (decide_eq_true (by omega)), show (maxI 0 (((i + 1 : Nat) : Int) - 1)).toNat = i by unfold maxI; split <;> omega]
    rfl
theorem c76 (l : List Cp) (hl : l.length ≤ 1000) (hn : ∀ x, x ∈ l → x.hm.length ≤ 1000) : PCall Tryz.prog G0 76 [.sl 2 (l.map encCp)] (.i (cpE l)) := by
  have key :
   (decide ((↑(List.map encCp l).length : Int) > 64) = true → AV.i 5 = AV.i (cpE l)) ∧ (decide ((↑(List.map encCp l).length : Int) > 64) = false → (∃ (g : Nat), (g ≤ l.length ∧ ∀ (j : Nat), j < g → fCl l j = (0 : Int)) ∧ AS.mk [(0,
   AV.sl 2 (List.map encCp l)), (3, AV.i 0)] [] 1 = AS.mk [(0, AV.sl 2 (List.map encCp l)), (3, AV.i (↑g : Int))] [] 1) ∧ ∀ (g : Nat), (g ≤ l.length ∧ ∀ (j : Nat), j < g → fCl l j = (0 : Int)) → (decide ((↑g : Int) < (↑(List.map encCp
   l).length : Int)) = true → (0 : Int) ≤ (↑g : Int) ∧ (↑g : Int) < (↑(List.map encCp l).length : Int) ∧ (decide ((↑g : Int) > 0) = true → decide ((↑g : Int) > 0) = true) ∧ (decide ((↑g : Int) > 0) = true → decide ((↑g : Int) > 0) =
   true) ∧ (decide ((↑g : Int) > 0) = true → (0 : Int) ≤ (↑g : Int)) ∧ (decide ((↑g : Int) > 0) = true → (↑g : Int) < (↑(List.map encCp l).length : Int)) ∧ (decide ((↑g : Int) > 0) = true → decide ((↑g : Int) > 0) = true) ∧ (decide
   ((↑g : Int) > 0) = true → decide ((↑g : Int) > 0) = true) ∧ (decide ((↑g : Int) > 0) = true → decide ((↑g : Int) > 0) = true) ∧ (decide ((↑g : Int) > 0) = true → In64 ((↑g : Int) - 1)) ∧ (decide ((↑g : Int) > 0) = true → decide
   ((↑g : Int) > 0) = true) ∧ (decide ((↑g : Int) > 0) = true → decide ((↑g : Int) > 0) = true) ∧ (decide ((↑g : Int) > 0) = true → decide ((↑g : Int) > 0) = true) ∧ (decide ((↑g : Int) > 0) = true → (0 : Int) ≤ maxI (0 : Int) ((↑g :
   Int) - 1)) ∧ (decide ((↑g : Int) > 0) = true → maxI (0 : Int) ((↑g : Int) - 1) < (↑(List.map encCp l).length : Int)) ∧ (decide ((↑g : Int) > 0) = true → decide ((↑g : Int) > 0) = true) ∧ (decide ((↑g : Int) > 0) = true → decide
   ((↑g : Int) > 0) = true) ∧ (decide ((↑g : Int) > 0) = true → decide ((↑g : Int) > 0) = true) ∧ (decide ((↑g : Int) > 0) = true → decide ((↑g : Int) > 0) = true) ∧ (decide ((↑g : Int) > 0) = true → decide ((↑g : Int) > 0) = true) ∧
   AV.agg (nthR (List.map encCp l) (↑g : Int).toNat) = AV.agg (encCp (l.getD (↑g : Int).toNat default)) ∧ PCall Tryz.prog G0 78 [AV.agg (encCp (l.getD (↑g : Int).toNat default))] (AV.i (fCp (Cp.mk (l.getD (↑g : Int).toNat default).hm
   (l.getD (↑g : Int).toNat default).tk))) ∧ impB (decide ((↑g : Int) > 0)) (nth (nthR (List.map encCp l) (↑g : Int).toNat) 1 = AV.i (l.getD (↑g : Int).toNat default).tk) ∧ impB (decide ((↑g : Int) > 0)) (nth (nthR (List.map encCp l)
   (maxI (0 : Int) ((↑g : Int) - 1)).toNat) 1 = AV.i (l.getD (maxI (0 : Int) ((↑g : Int) - 1)).toNat default).tk) ∧ PCall Tryz.prog G0 109 [AV.bool (if decide ((↑g : Int) > 0) = true then decide ((l.getD (↑g : Int).toNat default).tk <
   (l.getD (maxI (0 : Int) ((↑g : Int) - 1)).toNat default).tk) else false), AV.i 11] (AV.i (sWhen (if decide ((↑g : Int) > 0) = true then decide ((l.getD (↑g : Int).toNat default).tk < (l.getD (maxI (0 : Int) ((↑g : Int) - 1)).toNat
   default).tk) else false) (11 : Int))) ∧ PCall Tryz.prog G0 107 [AV.sl 1 [[AV.i (fCp (Cp.mk (l.getD (↑g : Int).toNat default).hm (l.getD (↑g : Int).toNat default).tk))], [AV.i (sWhen (if decide ((↑g : Int) > 0) = true then decide
   ((l.getD (↑g : Int).toNat default).tk < (l.getD (maxI (0 : Int) ((↑g : Int) - 1)).toNat default).tk) else false) (11 : Int))]]] (AV.i (sFirst [hdI [AV.i (fCp (Cp.mk (l.getD (↑g : Int).toNat default).hm (l.getD (↑g : Int).toNat
   default).tk))], hdI [AV.i (sWhen (if decide ((↑g : Int) > 0) = true then decide ((l.getD (↑g : Int).toNat default).tk < (l.getD (maxI (0 : Int) ((↑g : Int) - 1)).toNat default).tk) else false) (11 : Int))]])) ∧ ((sFirst [hdI [AV.i
   (fCp (Cp.mk (l.getD (↑g : Int).toNat default).hm (l.getD (↑g : Int).toNat default).tk))], hdI [AV.i (sWhen (if decide ((↑g : Int) > 0) = true then decide ((l.getD (↑g : Int).toNat default).tk < (l.getD (maxI (0 : Int) ((↑g : Int) -
   1)).toNat default).tk) else false) (11 : Int))]] != 0) = true → AV.i (sFirst [hdI [AV.i (fCp (Cp.mk (l.getD (↑g : Int).toNat default).hm (l.getD (↑g : Int).toNat default).tk))], hdI [AV.i (sWhen (if decide ((↑g : Int) > 0) = true
   then decide ((l.getD (↑g : Int).toNat default).tk < (l.getD (maxI (0 : Int) ((↑g : Int) - 1)).toNat default).tk) else false) (11 : Int))]]) = AV.i (cpE l)) ∧ ((sFirst [hdI [AV.i (fCp (Cp.mk (l.getD (↑g : Int).toNat default).hm
   (l.getD (↑g : Int).toNat default).tk))], hdI [AV.i (sWhen (if decide ((↑g : Int) > 0) = true then decide ((l.getD (↑g : Int).toNat default).tk < (l.getD (maxI (0 : Int) ((↑g : Int) - 1)).toNat default).tk) else false) (11 : Int))]]
   != 0) = false → In64 ((↑g : Int) + 1) ∧ ∃ (g' : Nat), (g' ≤ l.length ∧ ∀ (j : Nat), j < g' → fCl l j = (0 : Int)) ∧ l.length - g' < l.length - g ∧ AS.mk [(0, AV.sl 2 (List.map encCp l)), (3, AV.i ((↑g : Int) + 1))] [] 1 = AS.mk
   [(0, AV.sl 2 (List.map encCp l)), (3, AV.i (↑g' : Int))] [] 1)) ∧ (decide ((↑g : Int) < (↑(List.map encCp l).length : Int)) = false → AV.i 0 = AV.i (cpE l))) := by
    have hlm : (List.map encCp l).length = l.length := List.length_map _
    have : (List.map encCp l).length = l.length := by simp only [List.length_map]
    refine ⟨fun h1 => ?_, fun h1 => ?_⟩
    · have e : cpE l = 5 := if_pos (by rw [hlm] at h1; exact h1)
      rw [e]
    · have h64 : l.length ≤ 64 := by have := of_decide_eq_false h1; omega
      have hb64 : cpE l = sScan (fCl l) l.length 0 := if_neg (by rw [decide_eq_true_eq]; omega)
      refine ⟨⟨0, ⟨by omega, by intros; omega⟩, rfl⟩, fun g ⟨hg, ha⟩ => ⟨fun hd => ?_, fun hd => ?_⟩⟩
      · have hlt : g < l.length := by have h9 := of_decide_eq_true hd; have h8 := hg; (try simp only [List.length_map] at h8); (try simp only [List.length_map] at h9); omega
        have hx := hn _ (getD_mem hlt)
        have hfe := fCr_e l g
        have hmx : 0 ≤ maxI 0 ((g : Int) - 1) ∧ maxI 0 ((g : Int) - 1) ≤ g := by unfold maxI; split <;> omega
        try rw [show (↑g : Int).toNat = g from Int.toNat_natCast g]
        refine ⟨(by omega), (by omega), fun h => h, fun h => h, fun _ => by omega, fun _ => by omega, fun h => h, fun h => h, fun h => h, fun _ => by unfold In64; omega, fun h => h, fun h => h, fun h => h, fun _ => by omega, fun _ => by omega, fun h => h, fun h => h, fun h => h, fun h => h, fun h => h, congrArg AV.agg (row_at encCp hlt), (c78 _ (by omega)), impB_iff.2 fun hb => congrArg (fun r => nth r 1) (row_at encCp hlt), impB_iff.2 fun hb => (congrArg (fun r => nth r 1) (row_at encCp (by omega))), (c109 _ _), (c107 [_, _] (by simp)), fun h2 => ?_, fun h2 => ⟨(by unfold In64; omega), ⟨g + 1, ⟨by omega, all_ext ha (hfe.symm.trans (bne_f h2))⟩, by omega, rfl⟩⟩⟩
        · have hne : fCl l g ≠ 0 := by rw [← hfe]; exact bne_t h2
          rw [hb64, scan_hit hlt ha hne, ← hfe]
          rfl
      · have hge : g = l.length := by have h9 := of_decide_eq_false hd; have h8 := hg; (try simp only [List.length_map] at h8); (try simp only [List.length_map] at h9); omega
        subst hge
        rw [hb64, scan_end ha]
  exact c_of Tryz.f76 (fzB (mkB spC 76 [(6, 3, rdL 2 encCp l 2 true), (6, 12, rdL 2 encCp l 1 false), (6, 19, rdL 2 encCp l 1 false)] (la1 (la76 l)))) (by kernel_rfl) (by kernel_rfl) (by kernel_rfl) (by kernel_rfl) key (by kernel_rfl)
def la114a (n : Int) (l : List Int) : LA := {
  pre := [.keep [0, 1, 5] [], .bound 1], post := [.keep [0, 1, 5] [], .bound 1]
  Gh := Nat
  st := fun i => ⟨[(0, .sl 1 (l.map encI)), (1, .i n), (5, .i i)], [], 1⟩
  ok := fun i => i ≤ l.length ∧ ∀ j, j < i → badI n (l.getD j default) = false
  ms := fun i => l.length - i }
def la114b (l : List Int) : LA := {
  pre := [.keep [0, 6] [], .bound 1], post := [.keep [0, 6] [], .bound 1]
  Gh := Nat
  st := fun i => ⟨[(0, .sl 1 (l.map encI)), (6, .i ((i : Nat) + 1 : Int))], [], 1⟩
  ok := fun i => i ≤ l.length ∧ ∀ j, j < i + 1 → ordI l j = false
  ms := fun i => l.length - i }
theorem c114 (n : Int) (l : List Int) (hl : l.length ≤ 1000) : PCall Tryz.prog G0 114 [.sl 1 (l.map encI), .i n] (.i (fIx l n)) := by
  have key :
   (∃ (g : Nat), (g ≤ l.length ∧ ∀ (j : Nat), j < g → badI n (l.getD j default) = false) ∧ AS.mk [(0, AV.sl 1 (List.map encI l)), (1, AV.i n), (5, AV.i 0)] [] 1 = AS.mk [(0, AV.sl 1 (List.map encI l)), (1, AV.i n), (5, AV.i (↑g :
   Int))] [] 1) ∧ ∀ (g : Nat), (g ≤ l.length ∧ ∀ (j : Nat), j < g → badI n (l.getD j default) = false) → (decide ((↑g : Int) < (↑(List.map encI l).length : Int)) = true → (0 : Int) ≤ (↑g : Int) ∧ (↑g : Int) < (↑(List.map encI
   l).length : Int) ∧ ((!decide (l.getD (↑g : Int).toNat default < 0)) = true → (!decide (l.getD (↑g : Int).toNat default < 0)) = true) ∧ ((!decide (l.getD (↑g : Int).toNat default < 0)) = true → (!decide (l.getD (↑g : Int).toNat
   default < 0)) = true) ∧ ((!decide (l.getD (↑g : Int).toNat default < 0)) = true → (0 : Int) ≤ (↑g : Int)) ∧ ((!decide (l.getD (↑g : Int).toNat default < 0)) = true → (↑g : Int) < (↑(List.map encI l).length : Int)) ∧ ((!decide
   (l.getD (↑g : Int).toNat default < 0)) = true → (!decide (l.getD (↑g : Int).toNat default < 0)) = true) ∧ ((!decide (l.getD (↑g : Int).toNat default < 0)) = true → (!decide (l.getD (↑g : Int).toNat default < 0)) = true) ∧ ((!decide
   (l.getD (↑g : Int).toNat default < 0)) = true → (!decide (l.getD (↑g : Int).toNat default < 0)) = true) ∧ (decide (l.getD (↑g : Int).toNat default < 0) = false → (!decide (l.getD (↑g : Int).toNat default < 0)) = true) ∧ nth (nthR
   (List.map encI l) (↑g : Int).toNat) 0 = AV.i (l.getD (↑g : Int).toNat default) ∧ impB (!decide (l.getD (↑g : Int).toNat default < 0)) (nth (nthR (List.map encI l) (↑g : Int).toNat) 0 = AV.i (l.getD (↑g : Int).toNat default)) ∧ ((if
   decide (l.getD (↑g : Int).toNat default < 0) = true then true else decide (l.getD (↑g : Int).toNat default ≥ n)) = true → AV.i 10 = AV.i (fIx l n)) ∧ ((if decide (l.getD (↑g : Int).toNat default < 0) = true then true else decide
   (l.getD (↑g : Int).toNat default ≥ n)) = false → In64 ((↑g : Int) + 1) ∧ ∃ (g' : Nat), (g' ≤ l.length ∧ ∀ (j : Nat), j < g' → badI n (l.getD j default) = false) ∧ l.length - g' < l.length - g ∧ AS.mk [(0, AV.sl 1 (List.map encI
   l)), (1, AV.i n), (5, AV.i ((↑g : Int) + 1))] [] 1 = AS.mk [(0, AV.sl 1 (List.map encI l)), (1, AV.i n), (5, AV.i (↑g' : Int))] [] 1)) ∧ (decide ((↑g : Int) < (↑(List.map encI l).length : Int)) = false → (∃ (g : Nat), (g ≤ l.length
   ∧ ∀ (j : Nat), j < g + 1 → ordI l j = false) ∧ AS.mk [(0, AV.sl 1 (List.map encI l)), (6, AV.i 1)] [] 1 = AS.mk [(0, AV.sl 1 (List.map encI l)), (6, AV.i ((↑g : Int) + 1))] [] 1) ∧ ∀ (g : Nat), (g ≤ l.length ∧ ∀ (j : Nat), j < g +
   1 → ordI l j = false) → (decide ((↑g : Int) + 1 < (↑(List.map encI l).length : Int)) = true → (0 : Int) ≤ (↑g : Int) + 1 ∧ (↑g : Int) + 1 < (↑(List.map encI l).length : Int) ∧ In64 ((↑g : Int) + 1 - 1) ∧ (0 : Int) ≤ (↑g : Int) + 1
   - 1 ∧ (↑g : Int) + 1 - 1 < (↑(List.map encI l).length : Int) ∧ nth (nthR (List.map encI l) ((↑g : Int) + 1).toNat) 0 = AV.i (l.getD ((↑g : Int) + 1).toNat default) ∧ nth (nthR (List.map encI l) ((↑g : Int) + 1 - 1).toNat) 0 = AV.i
   (l.getD ((↑g : Int) + 1 - 1).toNat default) ∧ (decide (l.getD ((↑g : Int) + 1).toNat default ≤ l.getD ((↑g : Int) + 1 - 1).toNat default) = true → AV.i 11 = AV.i (fIx l n)) ∧ (decide (l.getD ((↑g : Int) + 1).toNat default ≤ l.getD
   ((↑g : Int) + 1 - 1).toNat default) = false → In64 ((↑g : Int) + 1 + 1) ∧ ∃ (g' : Nat), (g' ≤ l.length ∧ ∀ (j : Nat), j < g' + 1 → ordI l j = false) ∧ l.length - g' < l.length - g ∧ AS.mk [(0, AV.sl 1 (List.map encI l)), (6, AV.i
   ((↑g : Int) + 1 + 1))] [] 1 = AS.mk [(0, AV.sl 1 (List.map encI l)), (6, AV.i ((↑g' : Int) + 1))] [] 1)) ∧ (decide ((↑g : Int) + 1 < (↑(List.map encI l).length : Int)) = false → AV.i 0 = AV.i (fIx l n))) := by
    have hlm : (List.map encI l).length = l.length := List.length_map _
    have : (List.map encI l).length = l.length := by simp only [List.length_map]
    refine ⟨⟨0, ⟨by omega, by intros; omega⟩, rfl⟩, fun g ⟨hg, ha⟩ => ⟨fun hd => ?_, fun hd => ?_⟩⟩
    · have hlt : g < l.length := by have h9 := of_decide_eq_true hd; have h8 := hg; (try simp only [List.length_map] at h8); (try simp only [List.length_map] at h9); omega
      try rw [show (↑g : Int).toNat = g from Int.toNat_natCast g]
      refine ⟨(by omega), (by omega), fun h => h, fun h => h, fun _ => by omega, fun _ => by omega, fun h => h, fun h => h, fun h => h, fun h => by first | exact h | (rw [h]; rfl) | simp_all, (congrArg (fun r => nth r 0) (row_at encI (by omega))), impB_iff.2 fun hb => (congrArg (fun r => nth r 0) (row_at encI (by omega))), fun h1 => ?_, fun h1 => ⟨(by unfold In64; omega), ⟨g + 1, ⟨by omega, all_ext ha h1⟩, by omega, rfl⟩⟩⟩
      · rw [fIx, if_pos (decide_eq_true (fi_ex (p := fun j => badI n (l.getD j default)) (j := g) hlt h1))]
    · have hge : g = l.length := by have h9 := of_decide_eq_false hd; have h8 := hg; (try simp only [List.length_map] at h8); (try simp only [List.length_map] at h9); omega
      subst hge
      have hng : ¬ (fiN (fun j => badI n (l.getD j default)) l.length < l.length) := by
        rw [fi_none (p := fun j => badI n (l.getD j default)) ha]
        omega
      rw [hlm]
      refine ⟨⟨0, ⟨by omega, fun j hj => ?_⟩, rfl⟩, fun g ⟨hg, ha⟩ => ⟨fun hd => ?_, fun hd => ?_⟩⟩
      · have e : j = 0 := by omega
        rw [e]; rfl
      · have hlt := of_decide_eq_true hd
        rw [show ((g : Int) + 1).toNat = g + 1 by omega, show ((g : Int) + 1 - 1).toNat = g by omega]
        have hor : ordI l (g + 1) = decide (l.getD (g + 1) default ≤ l.getD g default) := by unfold ordI; rw [if_neg (by omega), Nat.add_sub_cancel]
        refine ⟨by omega, by omega, by unfold In64; omega, by omega, by omega, congrArg (fun r => nth r 0) (row_at encI (by omega)), congrArg (fun r => nth r 0) (row_at encI (by omega)), fun h2 => ?_, fun h2 => ⟨by unfold In64; omega, g + 1, ⟨by omega, fun j hj => ?_⟩, by omega, rfl⟩⟩
        · rw [fIx, if_neg (by rw [decide_eq_true_eq]; exact hng), if_pos (decide_eq_true (fi_ex (p := ordI l) (j := g + 1) (by omega) (hor.trans h2)))]
        · by_cases e : j = g + 1
          · rw [e, hor]; exact h2
          · exact ha j (by omega)
      · have hge := of_decide_eq_false hd
        rw [fIx, if_neg (by rw [decide_eq_true_eq]; exact hng), if_neg (by
          rw [decide_eq_true_eq]
          intro h
          have h2 := fi_hit h
          have h3 := ha _ (show fiN (ordI l) l.length < g + 1 by omega)
          rw [h3] at h2
          cases h2)]
  exact c_of Tryz.f114 (mkB spC 114 [(4, 3, rdL 1 encI l 1 false), (4, 9, rdL 1 encI l 1 false), (9, 3, rdL 1 encI l 1 false), (9, 8, rdL 1 encI l 1 false)] (la2 (la114a n l) (la114b l))) (by kernel_rfl) (by kernel_rfl) (by kernel_rfl) (by kernel_rfl) key (by kernel_rfl)
theorem c80 (l : List Cp) (ans : List Int) (ha0 : ans.length ≤ 1000) : PCall Tryz.prog G0 80 [.sl 2 (l.map encCp), .sl 1 (ans.map encI)] (.i (fIx ans l.length)) := by
  have key :
   PCall Tryz.prog G0 114 [AV.sl 1 (List.map encI ans), AV.i (↑(List.map encCp l).length : Int)] (AV.i (fIx ans (↑l.length : Int))) ∧ AV.i (fIx ans (↑l.length : Int)) = AV.i (fIx ans (↑l.length : Int)) := by
    have hlm : (List.map encCp l).length = l.length := List.length_map _
    have : (List.map encCp l).length = l.length := by simp only [List.length_map]
    exact ⟨((by rw [hlm]; exact c114 _ _ ha0)), rfl⟩
  exact c_of Tryz.f80 (mkB (fun n x => if n.beq 114 then some (.i (fIx ans l.length)) else spC n x) 80 [] noLa) (by kernel_rfl) (by kernel_rfl) (by kernel_rfl) (by kernel_rfl) key (by kernel_rfl)
theorem beqI_comm (a b : Int) : (a == b) = (b == a) := by
  rw [Bool.eq_iff_iff, beq_iff_eq, beq_iff_eq]
  exact eq_comm
theorem has_t {l : List Int} {x : Int} {g : Nat} (h : g < l.length) (e : (l.getD g default == x) = true) : hasI l x = true :=
  List.any_eq_true.2 ⟨_, getD_mem h, by rw [beqI_comm]; exact e⟩
theorem has_f {l : List Int} {x : Int} (h : ∀ j, j < l.length → (x == l.getD j default) = false) : hasI l x = false := by
  refine List.any_eq_false.2 fun y hy => ?_
  obtain ⟨i, hi, e⟩ := List.mem_iff_getElem.1 hy
  have := h i hi
  rw [List.getD_eq_getElem?_getD, List.getElem?_eq_getElem hi, e] at this
  simpa using this
def la90 (l : List Int) (x : Int) : LA := {
  pre := [.keep [0, 1, 5] [], .bound 1], post := [.keep [0, 1, 5] [], .bound 1]
  Gh := Nat
  st := fun i => ⟨[(0, .sl 1 (l.map encI)), (1, .i x), (5, .i i)], [], 1⟩
  ok := fun i => i ≤ l.length ∧ ∀ j, j < i → (x == l.getD j default) = false
  ms := fun i => l.length - i }
theorem c90 (l : List Int) (x : Int) (hl : l.length ≤ 1000) : PCall Tryz.prog G0 90 [.sl 1 (l.map encI), .i x] (.bool (hasI l x)) := by
  have key :
   (∃ (g : Nat), (g ≤ l.length ∧ ∀ (j : Nat), j < g → (x == l.getD j default) = false) ∧ AS.mk [(0, AV.sl 1 (List.map encI l)), (1, AV.i x), (5, AV.i 0)] [] 1 = AS.mk [(0, AV.sl 1 (List.map encI l)), (1, AV.i x), (5, AV.i (↑g : Int))]
   [] 1) ∧ ∀ (g : Nat), (g ≤ l.length ∧ ∀ (j : Nat), j < g → (x == l.getD j default) = false) → (decide ((↑g : Int) < (↑(List.map encI l).length : Int)) = true → (0 : Int) ≤ (↑g : Int) ∧ (↑g : Int) < (↑(List.map encI l).length : Int)
   ∧ nth (nthR (List.map encI l) (↑g : Int).toNat) 0 = AV.i (l.getD (↑g : Int).toNat default) ∧ ((l.getD (↑g : Int).toNat default == x) = true → AV.bool true = AV.bool (hasI l x)) ∧ ((l.getD (↑g : Int).toNat default == x) = false →
   In64 ((↑g : Int) + 1) ∧ ∃ (g' : Nat), (g' ≤ l.length ∧ ∀ (j : Nat), j < g' → (x == l.getD j default) = false) ∧ l.length - g' < l.length - g ∧ AS.mk [(0, AV.sl 1 (List.map encI l)), (1, AV.i x), (5, AV.i ((↑g : Int) + 1))] [] 1 =
   AS.mk [(0, AV.sl 1 (List.map encI l)), (1, AV.i x), (5, AV.i (↑g' : Int))] [] 1)) ∧ (decide ((↑g : Int) < (↑(List.map encI l).length : Int)) = false → AV.bool false = AV.bool (hasI l x)) := by
    have hlm : (List.map encI l).length = l.length := List.length_map _
    have : (List.map encI l).length = l.length := by simp only [List.length_map]
    refine ⟨⟨0, ⟨by omega, by intros; omega⟩, rfl⟩, fun g ⟨hg, ha⟩ => ⟨fun hd => ?_, fun hd => ?_⟩⟩
    · have hlt : g < l.length := by have h9 := of_decide_eq_true hd; have h8 := hg; (try simp only [List.length_map] at h8); (try simp only [List.length_map] at h9); omega
      try rw [show (↑g : Int).toNat = g from Int.toNat_natCast g]
      refine ⟨(by omega), (by omega), congrArg (fun r => nth r 0) (row_at encI hlt), fun h1 => ?_, fun h1 => ⟨(by unfold In64; omega), ⟨g + 1, ⟨by omega, all_ext ha ((beqI_comm _ _).trans h1)⟩, by omega, rfl⟩⟩⟩
      · rw [has_t hlt h1]
    · have hge : g = l.length := by have h9 := of_decide_eq_false hd; have h8 := hg; (try simp only [List.length_map] at h8); (try simp only [List.length_map] at h9); omega
      subst hge
      rw [has_f ha]
  exact c_of Tryz.f90 (mkB spC 90 [(4, 3, rdL 1 encI l 1 false)] (la1 (la90 l x))) (by kernel_rfl) (by kernel_rfl) (by kernel_rfl) (by kernel_rfl) key (by kernel_rfl)
theorem hd_rint (es : List Int) : (rInt es).map hdI = es := hd_enc es
theorem c32 (es : List Int) (hl : es.length ≤ 1000000) : PCall Tryz.prog G0 32 [.sl 1 (rInt es)] (.i (sFirst es)) := by
  have key :
   PCall Tryz.prog G0 107 [AV.sl 1 (rInt es)] (AV.i (sFirst (List.map hdI (rInt es)))) ∧ AV.i (sFirst (List.map hdI (rInt es))) = AV.i (sFirst es) := by
    refine ⟨((by rw [hd_rint]; exact c107 es hl)), ?_⟩
    · rw [hd_rint]
  exact c_of Tryz.f32 (mkB spC 32 [] noLa) (by kernel_rfl) (by kernel_rfl) (by kernel_rfl) (by kernel_rfl) key (by kernel_rfl)
theorem c23 (g : List Int) (hg0 : g.length ≤ 1000) : PCall Tryz.prog G0 23 [.sl 1 (g.map encI)] (.sl 1 (g.map encI)) := by
  have key :
   0 + (List.map encI g).length ≤ 9223372036854775807 ∧ (0 + (List.map encI g).length) * 8 ≤ 140737488355328 ∧ AV.sl 1 ([] ++ List.map encI g) = AV.sl 1 (List.map encI g) := by
    have : (List.map encI g).length = g.length := by simp only [List.length_map]
    refine ⟨(by omega), (by omega), ?_⟩
    · first | rfl | trivial
  exact c_of Tryz.f23 (fzB (mkB spC 23 [] noLa)) (by kernel_rfl) (by kernel_rfl) (by kernel_rfl) (by kernel_rfl) key (by kernel_rfl)
theorem c74 (g : List Sp) (hg0 : g.length ≤ 1000) : PCall Tryz.prog G0 74 [.sl 2 (g.map encSp)] (.sl 2 (g.map encSp)) := by
  have key :
   0 + (List.map encSp g).length ≤ 9223372036854775807 ∧ (0 + (List.map encSp g).length) * 16 ≤ 140737488355328 ∧ AV.sl 2 ([] ++ List.map encSp g) = AV.sl 2 (List.map encSp g) := by
    have : (List.map encSp g).length = g.length := by simp only [List.length_map]
    refine ⟨(by omega), (by omega), ?_⟩
    · first | rfl | trivial
  exact c_of Tryz.f74 (fzB (mkB spC 74 [] noLa)) (by kernel_rfl) (by kernel_rfl) (by kernel_rfl) (by kernel_rfl) key (by kernel_rfl)
def la72 (l : List Cp) : LA := {
  pre := [.own 3 132 2, .reno 3 1, .keep [3, 6, 7, 8] [1], .bound 2], post := [.reno 3 1, .keep [3, 6, 7, 8] [1], .bound 2]
  Gh := Nat
  st := fun i => ⟨[(3, .own 1 ((l.take i).map encCp).length), (6, .sl 2 (l.map encCp)), (7, .i (l.map encCp).length), (8, .i i)], [(1, .buf 132 2 ((l.take i).map encCp))], 2⟩
  ok := fun i => i ≤ l.length
  ms := fun i => l.length - i }
theorem c72 (l : List Cp) (hl : l.length ≤ 1000) : PCall Tryz.prog G0 72 [.sl 2 (l.map encCp)] (.fresh 132 2 (l.map encCp)) := by
  have key :
   (∃ (g : Nat), g ≤ l.length ∧ AS.mk [(3, AV.own 1 0), (6, AV.sl 2 (List.map encCp l)), (7, AV.i (↑(List.map encCp l).length : Int)), (8, AV.i 0)] [(1, ABlk.buf 132 2 [])] 2 = AS.mk [(3, AV.own 1 (List.map encCp (List.take g
   l)).length), (6, AV.sl 2 (List.map encCp l)), (7, AV.i (↑(List.map encCp l).length : Int)), (8, AV.i (↑g : Int))] [(1, ABlk.buf 132 2 (List.map encCp (List.take g l)))] 2) ∧ ∀ (g : Nat), g ≤ l.length → (decide ((↑g : Int) <
   (↑(List.map encCp l).length : Int)) = true → (0 : Int) ≤ (↑g : Int) ∧ (↑g : Int) < (↑(List.map encCp l).length : Int) ∧ AV.agg (nthR (List.map encCp l) (↑g : Int).toNat) = AV.agg (encCp (l.getD (↑g : Int).toNat default)) ∧
   (List.map encCp (List.take g l)).length + 1 ≤ 9223372036854775807 ∧ ((List.map encCp (List.take g l)).length + 1) * 24 ≤ 140737488355328 ∧ In64 ((↑g : Int) + 1) ∧ ∃ (g' : Nat), g' ≤ l.length ∧ l.length - g' < l.length - g ∧ AS.mk
   [(3, AV.own 1 ((List.map encCp (List.take g l)).length + 1)), (6, AV.sl 2 (List.map encCp l)), (7, AV.i (↑(List.map encCp l).length : Int)), (8, AV.i ((↑g : Int) + 1))] [(1, ABlk.buf 132 2 (List.map encCp (List.take g l) ++ [(encCp
   (l.getD (↑g : Int).toNat default))]))] 2 = AS.mk [(3, AV.own 1 (List.map encCp (List.take g' l)).length), (6, AV.sl 2 (List.map encCp l)), (7, AV.i (↑(List.map encCp l).length : Int)), (8, AV.i (↑g' : Int))] [(1, ABlk.buf 132 2
   (List.map encCp (List.take g' l)))] 2) ∧ (decide ((↑g : Int) < (↑(List.map encCp l).length : Int)) = false → AV.fresh 132 2 (List.map encCp (List.take g l)) = AV.fresh 132 2 (List.map encCp l)) := by
    have hlm : (List.map encCp l).length = l.length := List.length_map _
    have : (List.map encCp l).length = l.length := by simp only [List.length_map]
    refine ⟨⟨0, by omega, rfl⟩, fun g hg => ⟨fun hd => ?_, fun hd => ?_⟩⟩
    · have hlt : g < l.length := by have h9 := of_decide_eq_true hd; have h8 := hg; (try simp only [List.length_map] at h8); (try simp only [List.length_map] at h9); omega
      have : (List.map encCp (List.take g l)).length = g := by simp only [List.length_map, List.length_take]; omega
      try rw [show (↑g : Int).toNat = g from Int.toNat_natCast g]
      refine ⟨(by omega), (by omega), congrArg AV.agg (row_at encCp hlt), (by omega), (by omega), (by unfold In64; omega), ⟨g + 1, by omega, by omega, ?_⟩⟩
      · first | (rw [← take_succ_map _ _ hlt, List.length_append]; rfl) | (rw [← take_succ _ hlt, List.length_append]; rfl)
    · have hge : g = l.length := by have h9 := of_decide_eq_false hd; have h8 := hg; (try simp only [List.length_map] at h8); (try simp only [List.length_map] at h9); omega
      subst hge
      exact (by rw [List.take_length])
  exact c_of Tryz.f72 (fzB (mkB spN 72 [(4, 1, rdL 2 encCp l 2 true)] (la1 (la72 l)))) (by kernel_rfl) (by kernel_rfl) (by kernel_rfl) (by kernel_rfl) key (by kernel_rfl)
def la79 (l : List Sp) : LA := {
  pre := [.keep [0, 3] [], .bound 1], post := [.keep [0, 3] [], .bound 1]
  Gh := Nat
  st := fun i => ⟨[(0, .sl 2 (l.map encSp)), (3, .i i)], [], 1⟩
  ok := fun i => i ≤ l.length ∧ ∀ j, j < i → fSp (l.getD j default) = 0
  ms := fun i => l.length - i }
theorem c79 (l : List Sp) (hl : l.length ≤ 1000) : PCall Tryz.prog G0 79 [.sl 2 (l.map encSp)] (.i (sqE l)) := by
  have key :
   (decide ((↑(List.map encSp l).length : Int) > 32) = true → AV.i 5 = AV.i (sqE l)) ∧ (decide ((↑(List.map encSp l).length : Int) > 32) = false → (∃ (g : Nat), (g ≤ l.length ∧ ∀ (j : Nat), j < g → fSp (l.getD j default) = (0 : Int))
   ∧ AS.mk [(0, AV.sl 2 (List.map encSp l)), (3, AV.i 0)] [] 1 = AS.mk [(0, AV.sl 2 (List.map encSp l)), (3, AV.i (↑g : Int))] [] 1) ∧ ∀ (g : Nat), (g ≤ l.length ∧ ∀ (j : Nat), j < g → fSp (l.getD j default) = (0 : Int)) → (decide
   ((↑g : Int) < (↑(List.map encSp l).length : Int)) = true → (0 : Int) ≤ (↑g : Int) ∧ (↑g : Int) < (↑(List.map encSp l).length : Int) ∧ ((!decide ((l.getD (↑g : Int).toNat default).a < 0)) = true → (!decide ((l.getD (↑g : Int).toNat
   default).a < 0)) = true) ∧ ((!decide ((l.getD (↑g : Int).toNat default).a < 0)) = true → (!decide ((l.getD (↑g : Int).toNat default).a < 0)) = true) ∧ ((!decide ((l.getD (↑g : Int).toNat default).a < 0)) = true → (0 : Int) ≤ (↑g :
   Int)) ∧ ((!decide ((l.getD (↑g : Int).toNat default).a < 0)) = true → (↑g : Int) < (↑(List.map encSp l).length : Int)) ∧ ((!decide ((l.getD (↑g : Int).toNat default).a < 0)) = true → (!decide ((l.getD (↑g : Int).toNat default).a <
   0)) = true) ∧ ((!decide ((l.getD (↑g : Int).toNat default).a < 0)) = true → (!decide ((l.getD (↑g : Int).toNat default).a < 0)) = true) ∧ ((!decide ((l.getD (↑g : Int).toNat default).a < 0)) = true → (!decide ((l.getD (↑g :
   Int).toNat default).a < 0)) = true) ∧ ((!decide ((l.getD (↑g : Int).toNat default).a < 0)) = true → (!decide ((l.getD (↑g : Int).toNat default).a < 0)) = true) ∧ ((!decide ((l.getD (↑g : Int).toNat default).a < 0)) = true → (0 :
   Int) ≤ (↑g : Int)) ∧ ((!decide ((l.getD (↑g : Int).toNat default).a < 0)) = true → (↑g : Int) < (↑(List.map encSp l).length : Int)) ∧ ((!decide ((l.getD (↑g : Int).toNat default).a < 0)) = true → (!decide ((l.getD (↑g : Int).toNat
   default).a < 0)) = true) ∧ ((!decide ((l.getD (↑g : Int).toNat default).a < 0)) = true → (!decide ((l.getD (↑g : Int).toNat default).a < 0)) = true) ∧ ((!decide ((l.getD (↑g : Int).toNat default).a < 0)) = true → (!decide ((l.getD
   (↑g : Int).toNat default).a < 0)) = true) ∧ ((!decide ((l.getD (↑g : Int).toNat default).a < 0)) = true → (!decide ((l.getD (↑g : Int).toNat default).a < 0)) = true) ∧ (decide ((l.getD (↑g : Int).toNat default).a < 0) = false →
   (!decide ((l.getD (↑g : Int).toNat default).a < 0)) = true) ∧ ((!if decide ((l.getD (↑g : Int).toNat default).a < 0) = true then true else decide ((l.getD (↑g : Int).toNat default).a ≥ (l.getD (↑g : Int).toNat default).b)) = true →
   (!if decide ((l.getD (↑g : Int).toNat default).a < 0) = true then true else decide ((l.getD (↑g : Int).toNat default).a ≥ (l.getD (↑g : Int).toNat default).b)) = true) ∧ ((!if decide ((l.getD (↑g : Int).toNat default).a < 0) = true
   then true else decide ((l.getD (↑g : Int).toNat default).a ≥ (l.getD (↑g : Int).toNat default).b)) = true → (!if decide ((l.getD (↑g : Int).toNat default).a < 0) = true then true else decide ((l.getD (↑g : Int).toNat default).a ≥
   (l.getD (↑g : Int).toNat default).b)) = true) ∧ ((!if decide ((l.getD (↑g : Int).toNat default).a < 0) = true then true else decide ((l.getD (↑g : Int).toNat default).a ≥ (l.getD (↑g : Int).toNat default).b)) = true → (0 : Int) ≤
   (↑g : Int)) ∧ ((!if decide ((l.getD (↑g : Int).toNat default).a < 0) = true then true else decide ((l.getD (↑g : Int).toNat default).a ≥ (l.getD (↑g : Int).toNat default).b)) = true → (↑g : Int) < (↑(List.map encSp l).length :
   Int)) ∧ ((!if decide ((l.getD (↑g : Int).toNat default).a < 0) = true then true else decide ((l.getD (↑g : Int).toNat default).a ≥ (l.getD (↑g : Int).toNat default).b)) = true → (!if decide ((l.getD (↑g : Int).toNat default).a < 0)
   = true then true else decide ((l.getD (↑g : Int).toNat default).a ≥ (l.getD (↑g : Int).toNat default).b)) = true) ∧ ((!if decide ((l.getD (↑g : Int).toNat default).a < 0) = true then true else decide ((l.getD (↑g : Int).toNat
   default).a ≥ (l.getD (↑g : Int).toNat default).b)) = true → (!if decide ((l.getD (↑g : Int).toNat default).a < 0) = true then true else decide ((l.getD (↑g : Int).toNat default).a ≥ (l.getD (↑g : Int).toNat default).b)) = true) ∧
   ((!if decide ((l.getD (↑g : Int).toNat default).a < 0) = true then true else decide ((l.getD (↑g : Int).toNat default).a ≥ (l.getD (↑g : Int).toNat default).b)) = true → (!if decide ((l.getD (↑g : Int).toNat default).a < 0) = true
   then true else decide ((l.getD (↑g : Int).toNat default).a ≥ (l.getD (↑g : Int).toNat default).b)) = true) ∧ ((if decide ((l.getD (↑g : Int).toNat default).a < 0) = true then true else decide ((l.getD (↑g : Int).toNat default).a ≥
   (l.getD (↑g : Int).toNat default).b)) = false → (!if decide ((l.getD (↑g : Int).toNat default).a < 0) = true then true else decide ((l.getD (↑g : Int).toNat default).a ≥ (l.getD (↑g : Int).toNat default).b)) = true) ∧ nth (nthR
   (List.map encSp l) (↑g : Int).toNat) 0 = AV.i (l.getD (↑g : Int).toNat default).a ∧ impB (!decide ((l.getD (↑g : Int).toNat default).a < 0)) (nth (nthR (List.map encSp l) (↑g : Int).toNat) 0 = AV.i (l.getD (↑g : Int).toNat
   default).a) ∧ impB (!decide ((l.getD (↑g : Int).toNat default).a < 0)) (nth (nthR (List.map encSp l) (↑g : Int).toNat) 1 = AV.i (l.getD (↑g : Int).toNat default).b) ∧ impB (!if decide ((l.getD (↑g : Int).toNat default).a < 0) =
   true then true else decide ((l.getD (↑g : Int).toNat default).a ≥ (l.getD (↑g : Int).toNat default).b)) (nth (nthR (List.map encSp l) (↑g : Int).toNat) 1 = AV.i (l.getD (↑g : Int).toNat default).b) ∧ ((if (if decide ((l.getD (↑g :
   Int).toNat default).a < 0) = true then true else decide ((l.getD (↑g : Int).toNat default).a ≥ (l.getD (↑g : Int).toNat default).b)) = true then true else decide ((l.getD (↑g : Int).toNat default).b > 100000000)) = true → AV.i 14 =
   AV.i (sqE l)) ∧ ((if (if decide ((l.getD (↑g : Int).toNat default).a < 0) = true then true else decide ((l.getD (↑g : Int).toNat default).a ≥ (l.getD (↑g : Int).toNat default).b)) = true then true else decide ((l.getD (↑g :
   Int).toNat default).b > 100000000)) = false → In64 ((↑g : Int) + 1) ∧ ∃ (g' : Nat), (g' ≤ l.length ∧ ∀ (j : Nat), j < g' → fSp (l.getD j default) = (0 : Int)) ∧ l.length - g' < l.length - g ∧ AS.mk [(0, AV.sl 2 (List.map encSp l)),
   (3, AV.i ((↑g : Int) + 1))] [] 1 = AS.mk [(0, AV.sl 2 (List.map encSp l)), (3, AV.i (↑g' : Int))] [] 1)) ∧ (decide ((↑g : Int) < (↑(List.map encSp l).length : Int)) = false → AV.i 0 = AV.i (sqE l))) := by
    have hlm : (List.map encSp l).length = l.length := List.length_map _
    have : (List.map encSp l).length = l.length := by simp only [List.length_map]
    refine ⟨fun h1 => ?_, fun h1 => ?_⟩
    · rw [show sqE l = 5 from if_pos (by rw [hlm] at h1; exact h1)]
    · have hb64 : sqE l = sScan (fun i => fSp (l.getD i default)) l.length 0 := if_neg (by rw [hlm] at h1; rw [h1]; decide)
      refine ⟨⟨0, ⟨by omega, by intros; omega⟩, rfl⟩, fun g ⟨hg, ha⟩ => ⟨fun hd => ?_, fun hd => ?_⟩⟩
      · have hlt : g < l.length := by have h9 := of_decide_eq_true hd; have h8 := hg; (try simp only [List.length_map] at h8); (try simp only [List.length_map] at h9); omega
        try rw [show (↑g : Int).toNat = g from Int.toNat_natCast g]
        refine ⟨(by omega), (by omega), fun h => h, fun h => h, fun _ => by omega, fun _ => by omega, fun h => h, fun h => h, fun h => h, fun h => h, fun _ => by omega, fun _ => by omega, fun h => h, fun h => h, fun h => h, fun h => h, fun h => by first | exact h | (rw [h]; rfl) | simp_all, fun h => h, fun h => h, fun _ => by omega, fun _ => by omega, fun h => h, fun h => h, fun h => h, fun h => by first | exact h | (rw [h]; rfl) | simp_all, congrArg (fun r => nth r 0) (row_at encSp hlt), impB_iff.2 fun hb => congrArg (fun r => nth r 0) (row_at encSp hlt), impB_iff.2 fun hb => congrArg (fun r => nth r 1) (row_at encSp hlt), impB_iff.2 fun hb => congrArg (fun r => nth r 1) (row_at encSp hlt), fun h2 => ?_, fun h2 => ⟨(by unfold In64; omega), ⟨g + 1, ⟨by omega, all_ext ha (by unfold fSp; rw [h2]; rfl)⟩, by omega, rfl⟩⟩⟩
        · have hf : fSp (l.getD g default) = 14 := by unfold fSp; rw [h2]; rfl
          rw [hb64, scan_hit (f := fun i => fSp (l.getD i default)) hlt ha (by rw [hf]; decide), hf]
      · have hge : g = l.length := by have h9 := of_decide_eq_false hd; have h8 := hg; (try simp only [List.length_map] at h8); (try simp only [List.length_map] at h9); omega
        subst hge
        rw [hb64, scan_end (f := fun i => fSp (l.getD i default)) ha]
  exact c_of Tryz.f79 (fzB (mkB spC 79 [(6, 4, rdL 2 encSp l 1 false), (6, 11, rdL 2 encSp l 1 false), (6, 16, rdL 2 encSp l 1 false), (6, 24, rdL 2 encSp l 1 false)] (la1 (la79 l)))) (by kernel_rfl) (by kernel_rfl) (by kernel_rfl) (by kernel_rfl) key (by kernel_rfl)
end Go.Proofs.YtfoeefaamjknpaaGreatDoor
namespace Go.Proofs.YtfoeefaamjknpaaGreatDoor
open Go Go.Av Go.RowKit
def la47 (l m : List Int) : LA := {
  pre := [.keep [0, 1, 5] [], .bound 1], post := [.keep [0, 1, 5] [], .bound 1]
  Gh := Nat
  st := fun i => ⟨[(0, .sl 1 (l.map encI)), (1, .sl 1 (m.map encI)), (5, .i i)], [], 1⟩
  ok := fun i => i ≤ l.length ∧ ∀ j, j < i → l.getD j default = m.getD j default
  ms := fun i => l.length - i }
theorem c47 (l m : List Int) (hl : l.length ≤ 1000) : PCall Tryz.prog G0 47 [.sl 1 (l.map encI), .sl 1 (m.map encI)] (.bool (l == m)) := by
  have key :
   (((↑(List.map encI l).length : Int) != (↑(List.map encI m).length : Int)) = true → AV.bool false = AV.bool (l == m)) ∧ (((↑(List.map encI l).length : Int) != (↑(List.map encI m).length : Int)) = false → (∃ (g : Nat), (g ≤ l.length
   ∧ ∀ (j : Nat), j < g → l.getD j default = m.getD j default) ∧ AS.mk [(0, AV.sl 1 (List.map encI l)), (1, AV.sl 1 (List.map encI m)), (5, AV.i 0)] [] 1 = AS.mk [(0, AV.sl 1 (List.map encI l)), (1, AV.sl 1 (List.map encI m)), (5,
   AV.i (↑g : Int))] [] 1) ∧ ∀ (g : Nat), (g ≤ l.length ∧ ∀ (j : Nat), j < g → l.getD j default = m.getD j default) → (decide ((↑g : Int) < (↑(List.map encI l).length : Int)) = true → (0 : Int) ≤ (↑g : Int) ∧ (↑g : Int) < (↑(List.map
   encI l).length : Int) ∧ (0 : Int) ≤ (↑g : Int) ∧ (↑g : Int) < (↑(List.map encI m).length : Int) ∧ nth (nthR (List.map encI l) (↑g : Int).toNat) 0 = AV.i (cI (List.map encI l) (↑g : Int).toNat) ∧ nth (nthR (List.map encI m) (↑g :
   Int).toNat) 0 = AV.i (cI (List.map encI m) (↑g : Int).toNat) ∧ ((cI (List.map encI l) (↑g : Int).toNat != cI (List.map encI m) (↑g : Int).toNat) = true → AV.bool false = AV.bool (l == m)) ∧ ((cI (List.map encI l) (↑g : Int).toNat
   != cI (List.map encI m) (↑g : Int).toNat) = false → In64 ((↑g : Int) + 1) ∧ ∃ (g' : Nat), (g' ≤ l.length ∧ ∀ (j : Nat), j < g' → l.getD j default = m.getD j default) ∧ l.length - g' < l.length - g ∧ AS.mk [(0, AV.sl 1 (List.map
   encI l)), (1, AV.sl 1 (List.map encI m)), (5, AV.i ((↑g : Int) + 1))] [] 1 = AS.mk [(0, AV.sl 1 (List.map encI l)), (1, AV.sl 1 (List.map encI m)), (5, AV.i (↑g' : Int))] [] 1)) ∧ (decide ((↑g : Int) < (↑(List.map encI l).length :
   Int)) = false → AV.bool true = AV.bool (l == m))) := by
    have hle : (List.map encI l).length = l.length := List.length_map _
    have hme : (List.map encI m).length = m.length := List.length_map _
    rw [hle, hme]
    refine ⟨fun h => ?_, fun h => ⟨⟨0, ⟨by omega, by intros; omega⟩, rfl⟩, fun g ⟨hg, ha⟩ => ⟨fun hd => ?_, fun hd => ?_⟩⟩⟩
    · have h1 : l ≠ m := fun e => by rw [e] at h; exact absurd h (by simp)
      rw [beq_false_of_ne h1]
    · have h1 : l.length = m.length := by have h2 : (l.length : Int) = (m.length : Int) := (by simpa using h); omega
      have hlt := lt_of_dec hd
      have c1 := cI_map l g
      have c2 := cI_map m g
      refine ⟨by omega, by omega, by omega, by omega, cI_at hlt, cI_at (by omega), fun e => ?_, fun e => ⟨by unfold In64; omega, g + 1, ⟨hlt, fun j hj => ?_⟩, by omega, rfl⟩⟩
      · have e : (cI (List.map encI l) g != cI (List.map encI m) g) = true := e
        rw [c1, c2] at e
        have h2 : l ≠ m := fun q => by rw [q] at e; exact absurd e (by simp)
        rw [beq_false_of_ne h2]
      · have e : (cI (List.map encI l) g != cI (List.map encI m) g) = false := e
        rw [c1, c2] at e
        by_cases q : j = g
        · rw [q]; simpa using e
        · exact ha j (by omega)
    · have h1 : l.length = m.length := by have h2 : (l.length : Int) = (m.length : Int) := (by simpa using h); omega
      have e := ge_of_dec hd hg
      subst e
      have : l = m := List.ext_getElem h1 fun i h2 h3 => by
        have := ha i h2
        rw [List.getD_eq_getElem?_getD, List.getD_eq_getElem?_getD, List.getElem?_eq_getElem h2, List.getElem?_eq_getElem h3] at this
        exact this
      rw [this, beq_self_eq_true]
  exact c_of Tryz.f47 (mkB spC 47 [(6, 3, rdJ), (6, 7, rdJ)] (fun j => if j.beq 0 then some (la47 l m) else none)) (by kernel_rfl) (by kernel_rfl) (by kernel_rfl) (by kernel_rfl) key (by kernel_rfl)
def rdOw : BL → List AV → Option AV := fun bs ins => match ins with
  | [.optr id i _] => match blkOf bs id with
    | .buf _ _ rows => some (.i (cI rows i))
    | _ => none
  | _ => none
theorem nr_step {l : List Cp} {w : Int} {c : Cp} {o : List Int} {k : Nat} (h : k < o.length) : nearR l w c (o.take (k + 1)) = if nearR l w c (o.take k) = true then true else if ((l.getD (o.getD k default).toNat default).hm == c.hm) = true then decide (c.tk - (l.getD (o.getD k default).toNat default).tk ≤ w) else false := by
  have e : o.take (k + 1) = o.take k ++ [o.getD k default] := by
    rw [List.getD_eq_getElem?_getD, List.getElem?_eq_getElem h]
    exact (List.take_append_getElem h).symm
  unfold nearR
  rw [e, List.any_append, List.any_cons, List.any_nil, Bool.or_false]
  cases (o.take k).any _ <;> cases (l.getD (o.getD k default).toNat default).hm == c.hm <;> simp
def la82 (l : List Cp) (w : Int) (b : Nat) : Option LA :=
  if b.beq 0 then
    some { pre := [.own 5 3 1, .reno 5 1, .keep [0, 1, 5, 6] [1], .bound 2], post := [.reno 5 1, .keep [0, 1, 5, 6] [1], .bound 2]
           Gh := Nat
           st := fun i => ⟨[(0, .sl 2 (l.map encCp)), (1, .i w), (5, .own 1 ((cnR l w i).map encI).length), (6, .i i)], [(1, .buf 3 1 ((cnR l w i).map encI))], 2⟩
           ok := fun i => i ≤ l.length
           ms := fun i => l.length - i }
  else
    let K : List GS := [.keep [0, 1, 5, 6, 7, 8] [1], .bound 2]
    some { pre := K, post := K
           Gh := Nat × Nat
           st := fun q => ⟨[(0, .sl 2 (l.map encCp)), (1, .i w), (5, .own 1 ((cnR l w q.1).map encI).length), (6, .i q.1), (7, .bool (nearR l w (l.getD q.1 default) ((cnR l w q.1).take q.2))), (8, .i q.2)], [(1, .buf 3 1 ((cnR l w q.1).map encI))], 2⟩
           ok := fun q => q.1 < l.length ∧ q.2 ≤ (cnR l w q.1).length
           rel := some fun q0 q => q.1 = q0.1
           ms := fun q => (cnR l w q.1).length - q.2 }
theorem c82 (l : List Cp) (w : Int) (hl : l.length ≤ 64) (hc : CpOK l) : PCall Tryz.prog G0 82 [.sl 2 (l.map encCp), .i w] (.fresh 3 1 ((cnR l w l.length).map encI)) := by
  have key :
   (∃ (g : Nat), g ≤ l.length ∧ AS.mk [(0, AV.sl 2 (List.map encCp l)), (1, AV.i w), (5, AV.own 1 0), (6, AV.i 0)] [(1, ABlk.buf 3 1 [])] 2 = AS.mk [(0, AV.sl 2 (List.map encCp l)), (1, AV.i w), (5, AV.own 1 (List.map encI (cnR l w
   g)).length), (6, AV.i (↑g : Int))] [(1, ABlk.buf 3 1 (List.map encI (cnR l w g)))] 2) ∧ ∀ (g : Nat), g ≤ l.length → (decide ((↑g : Int) < (↑(List.map encCp l).length : Int)) = true → ∃ (g0 : Nat × Nat), (g0.fst < l.length ∧ g0.snd
   ≤ (cnR l w g0.fst).length) ∧ g0.fst = g0.fst ∧ AS.mk [(0, AV.sl 2 (List.map encCp l)), (1, AV.i w), (5, AV.own 1 (List.map encI (cnR l w g)).length), (6, AV.i (↑g : Int)), (7, AV.bool false), (8, AV.i 0)] [(1, ABlk.buf 3 1
   (List.map encI (cnR l w g)))] 2 = AS.mk [(0, AV.sl 2 (List.map encCp l)), (1, AV.i w), (5, AV.own 1 (List.map encI (cnR l w g0.fst)).length), (6, AV.i (↑g0.fst : Int)), (7, AV.bool (nearR l w (l.getD g0.fst default) (List.take
   g0.snd (cnR l w g0.fst)))), (8, AV.i (↑g0.snd : Int))] [(1, ABlk.buf 3 1 (List.map encI (cnR l w g0.fst)))] 2 ∧ ∀ (g_1 : Nat × Nat), g_1.fst < l.length ∧ g_1.snd ≤ (cnR l w g_1.fst).length → g_1.fst = g0.fst → (decide ((↑g_1.snd :
   Int) < (↑(List.map encI (cnR l w g_1.fst)).length : Int)) = true → (0 : Int) ≤ (↑g_1.snd : Int) ∧ (↑g_1.snd : Int) < (↑(List.map encI (cnR l w g_1.fst)).length : Int) ∧ (↑g_1.snd : Int).toNat < (List.map encI (cnR l w
   g_1.fst)).length ∧ (0 : Int) ≤ cI (List.map encI (cnR l w g_1.fst)) (↑g_1.snd : Int).toNat ∧ cI (List.map encI (cnR l w g_1.fst)) (↑g_1.snd : Int).toNat < (↑(List.map encCp l).length : Int) ∧ nth (nthR (List.map encI (cnR l w
   g_1.fst)) (↑g_1.snd : Int).toNat) 0 = AV.i (cI (List.map encI (cnR l w g_1.fst)) (↑g_1.snd : Int).toNat) ∧ AV.agg (nthR (List.map encCp l) (cI (List.map encI (cnR l w g_1.fst)) (↑g_1.snd : Int).toNat).toNat) = AV.agg (encCp (l.getD
   (cI (List.map encI (cnR l w g_1.fst)) (↑g_1.snd : Int).toNat).toNat default)) ∧ ((!nearR l w (l.getD g_1.fst default) (List.take g_1.snd (cnR l w g_1.fst))) = true → (!nearR l w (l.getD g_1.fst default) (List.take g_1.snd (cnR l w
   g_1.fst))) = true) ∧ ((!nearR l w (l.getD g_1.fst default) (List.take g_1.snd (cnR l w g_1.fst))) = true → (!nearR l w (l.getD g_1.fst default) (List.take g_1.snd (cnR l w g_1.fst))) = true) ∧ ((!nearR l w (l.getD g_1.fst default)
   (List.take g_1.snd (cnR l w g_1.fst))) = true → (!nearR l w (l.getD g_1.fst default) (List.take g_1.snd (cnR l w g_1.fst))) = true) ∧ ((!nearR l w (l.getD g_1.fst default) (List.take g_1.snd (cnR l w g_1.fst))) = true → (0 : Int) ≤
   (↑g_1.fst : Int)) ∧ ((!nearR l w (l.getD g_1.fst default) (List.take g_1.snd (cnR l w g_1.fst))) = true → (↑g_1.fst : Int) < (↑(List.map encCp l).length : Int)) ∧ ((!nearR l w (l.getD g_1.fst default) (List.take g_1.snd (cnR l w
   g_1.fst))) = true → (!nearR l w (l.getD g_1.fst default) (List.take g_1.snd (cnR l w g_1.fst))) = true) ∧ ((!nearR l w (l.getD g_1.fst default) (List.take g_1.snd (cnR l w g_1.fst))) = true → (!nearR l w (l.getD g_1.fst default)
   (List.take g_1.snd (cnR l w g_1.fst))) = true) ∧ ((!nearR l w (l.getD g_1.fst default) (List.take g_1.snd (cnR l w g_1.fst))) = true → (!nearR l w (l.getD g_1.fst default) (List.take g_1.snd (cnR l w g_1.fst))) = true) ∧ ((!nearR l
   w (l.getD g_1.fst default) (List.take g_1.snd (cnR l w g_1.fst))) = true → (!nearR l w (l.getD g_1.fst default) (List.take g_1.snd (cnR l w g_1.fst))) = true) ∧ ((!nearR l w (l.getD g_1.fst default) (List.take g_1.snd (cnR l w
   g_1.fst))) = true → (!nearR l w (l.getD g_1.fst default) (List.take g_1.snd (cnR l w g_1.fst))) = true) ∧ ((!nearR l w (l.getD g_1.fst default) (List.take g_1.snd (cnR l w g_1.fst)) && (l.getD (cI (List.map encI (cnR l w g_1.fst))
   (↑g_1.snd : Int).toNat).toNat default).hm == (l.getD (↑g_1.fst : Int).toNat default).hm) = true → (!nearR l w (l.getD g_1.fst default) (List.take g_1.snd (cnR l w g_1.fst)) && (l.getD (cI (List.map encI (cnR l w g_1.fst)) (↑g_1.snd
   : Int).toNat).toNat default).hm == (l.getD (↑g_1.fst : Int).toNat default).hm) = true) ∧ ((!nearR l w (l.getD g_1.fst default) (List.take g_1.snd (cnR l w g_1.fst)) && (l.getD (cI (List.map encI (cnR l w g_1.fst)) (↑g_1.snd :
   Int).toNat).toNat default).hm == (l.getD (↑g_1.fst : Int).toNat default).hm) = true → (!nearR l w (l.getD g_1.fst default) (List.take g_1.snd (cnR l w g_1.fst)) && (l.getD (cI (List.map encI (cnR l w g_1.fst)) (↑g_1.snd :
   Int).toNat).toNat default).hm == (l.getD (↑g_1.fst : Int).toNat default).hm) = true) ∧ ((!nearR l w (l.getD g_1.fst default) (List.take g_1.snd (cnR l w g_1.fst)) && (l.getD (cI (List.map encI (cnR l w g_1.fst)) (↑g_1.snd :
   Int).toNat).toNat default).hm == (l.getD (↑g_1.fst : Int).toNat default).hm) = true → (0 : Int) ≤ (↑g_1.fst : Int)) ∧ ((!nearR l w (l.getD g_1.fst default) (List.take g_1.snd (cnR l w g_1.fst)) && (l.getD (cI (List.map encI (cnR l
   w g_1.fst)) (↑g_1.snd : Int).toNat).toNat default).hm == (l.getD (↑g_1.fst : Int).toNat default).hm) = true → (↑g_1.fst : Int) < (↑(List.map encCp l).length : Int)) ∧ ((!nearR l w (l.getD g_1.fst default) (List.take g_1.snd (cnR l
   w g_1.fst)) && (l.getD (cI (List.map encI (cnR l w g_1.fst)) (↑g_1.snd : Int).toNat).toNat default).hm == (l.getD (↑g_1.fst : Int).toNat default).hm) = true → (!nearR l w (l.getD g_1.fst default) (List.take g_1.snd (cnR l w
   g_1.fst)) && (l.getD (cI (List.map encI (cnR l w g_1.fst)) (↑g_1.snd : Int).toNat).toNat default).hm == (l.getD (↑g_1.fst : Int).toNat default).hm) = true) ∧ ((!nearR l w (l.getD g_1.fst default) (List.take g_1.snd (cnR l w
   g_1.fst)) && (l.getD (cI (List.map encI (cnR l w g_1.fst)) (↑g_1.snd : Int).toNat).toNat default).hm == (l.getD (↑g_1.fst : Int).toNat default).hm) = true → (!nearR l w (l.getD g_1.fst default) (List.take g_1.snd (cnR l w g_1.fst))
   && (l.getD (cI (List.map encI (cnR l w g_1.fst)) (↑g_1.snd : Int).toNat).toNat default).hm == (l.getD (↑g_1.fst : Int).toNat default).hm) = true) ∧ ((!nearR l w (l.getD g_1.fst default) (List.take g_1.snd (cnR l w g_1.fst)) &&
   (l.getD (cI (List.map encI (cnR l w g_1.fst)) (↑g_1.snd : Int).toNat).toNat default).hm == (l.getD (↑g_1.fst : Int).toNat default).hm) = true → (!nearR l w (l.getD g_1.fst default) (List.take g_1.snd (cnR l w g_1.fst)) && (l.getD
   (cI (List.map encI (cnR l w g_1.fst)) (↑g_1.snd : Int).toNat).toNat default).hm == (l.getD (↑g_1.fst : Int).toNat default).hm) = true) ∧ ((!nearR l w (l.getD g_1.fst default) (List.take g_1.snd (cnR l w g_1.fst)) && (l.getD (cI
   (List.map encI (cnR l w g_1.fst)) (↑g_1.snd : Int).toNat).toNat default).hm == (l.getD (↑g_1.fst : Int).toNat default).hm) = true → (!nearR l w (l.getD g_1.fst default) (List.take g_1.snd (cnR l w g_1.fst)) && (l.getD (cI (List.map
   encI (cnR l w g_1.fst)) (↑g_1.snd : Int).toNat).toNat default).hm == (l.getD (↑g_1.fst : Int).toNat default).hm) = true) ∧ ((!nearR l w (l.getD g_1.fst default) (List.take g_1.snd (cnR l w g_1.fst)) && (l.getD (cI (List.map encI
   (cnR l w g_1.fst)) (↑g_1.snd : Int).toNat).toNat default).hm == (l.getD (↑g_1.fst : Int).toNat default).hm) = true → (!nearR l w (l.getD g_1.fst default) (List.take g_1.snd (cnR l w g_1.fst)) && (l.getD (cI (List.map encI (cnR l w
   g_1.fst)) (↑g_1.snd : Int).toNat).toNat default).hm == (l.getD (↑g_1.fst : Int).toNat default).hm) = true) ∧ ((!nearR l w (l.getD g_1.fst default) (List.take g_1.snd (cnR l w g_1.fst)) && (l.getD (cI (List.map encI (cnR l w
   g_1.fst)) (↑g_1.snd : Int).toNat).toNat default).hm == (l.getD (↑g_1.fst : Int).toNat default).hm) = true → In64 ((l.getD (↑g_1.fst : Int).toNat default).tk - (l.getD (cI (List.map encI (cnR l w g_1.fst)) (↑g_1.snd :
   Int).toNat).toNat default).tk)) ∧ ((!nearR l w (l.getD g_1.fst default) (List.take g_1.snd (cnR l w g_1.fst)) && (l.getD (cI (List.map encI (cnR l w g_1.fst)) (↑g_1.snd : Int).toNat).toNat default).hm == (l.getD (↑g_1.fst :
   Int).toNat default).hm) = true → (!nearR l w (l.getD g_1.fst default) (List.take g_1.snd (cnR l w g_1.fst)) && (l.getD (cI (List.map encI (cnR l w g_1.fst)) (↑g_1.snd : Int).toNat).toNat default).hm == (l.getD (↑g_1.fst :
   Int).toNat default).hm) = true) ∧ ((!nearR l w (l.getD g_1.fst default) (List.take g_1.snd (cnR l w g_1.fst)) && (l.getD (cI (List.map encI (cnR l w g_1.fst)) (↑g_1.snd : Int).toNat).toNat default).hm == (l.getD (↑g_1.fst :
   Int).toNat default).hm) = true → (!nearR l w (l.getD g_1.fst default) (List.take g_1.snd (cnR l w g_1.fst)) && (l.getD (cI (List.map encI (cnR l w g_1.fst)) (↑g_1.snd : Int).toNat).toNat default).hm == (l.getD (↑g_1.fst :
   Int).toNat default).hm) = true) ∧ ((!nearR l w (l.getD g_1.fst default) (List.take g_1.snd (cnR l w g_1.fst))) = true → (!nearR l w (l.getD g_1.fst default) (List.take g_1.snd (cnR l w g_1.fst))) = true) ∧ ((!nearR l w (l.getD
   g_1.fst default) (List.take g_1.snd (cnR l w g_1.fst))) = true → ((l.getD (cI (List.map encI (cnR l w g_1.fst)) (↑g_1.snd : Int).toNat).toNat default).hm == (l.getD (↑g_1.fst : Int).toNat default).hm) = true → (!nearR l w (l.getD
   g_1.fst default) (List.take g_1.snd (cnR l w g_1.fst)) && (l.getD (cI (List.map encI (cnR l w g_1.fst)) (↑g_1.snd : Int).toNat).toNat default).hm == (l.getD (↑g_1.fst : Int).toNat default).hm) = true) ∧ (nearR l w (l.getD g_1.fst
   default) (List.take g_1.snd (cnR l w g_1.fst)) = false → (!nearR l w (l.getD g_1.fst default) (List.take g_1.snd (cnR l w g_1.fst))) = true) ∧ impB (!nearR l w (l.getD g_1.fst default) (List.take g_1.snd (cnR l w g_1.fst))) (nth
   (nthR (List.map encCp l) (↑g_1.fst : Int).toNat) 0 = AV.str (l.getD (↑g_1.fst : Int).toNat default).hm) ∧ impB (!nearR l w (l.getD g_1.fst default) (List.take g_1.snd (cnR l w g_1.fst)) && (l.getD (cI (List.map encI (cnR l w
   g_1.fst)) (↑g_1.snd : Int).toNat).toNat default).hm == (l.getD (↑g_1.fst : Int).toNat default).hm) (nth (nthR (List.map encCp l) (↑g_1.fst : Int).toNat) 1 = AV.i (l.getD (↑g_1.fst : Int).toNat default).tk) ∧ In64 ((↑g_1.snd : Int)
   + 1) ∧ ∃ (g' : Nat × Nat), (g'.fst < l.length ∧ g'.snd ≤ (cnR l w g'.fst).length) ∧ g'.fst = g0.fst ∧ (cnR l w g'.fst).length - g'.snd < (cnR l w g_1.fst).length - g_1.snd ∧ AS.mk [(0, AV.sl 2 (List.map encCp l)), (1, AV.i w), (5,
   AV.own 1 (List.map encI (cnR l w g_1.fst)).length), (6, AV.i (↑g_1.fst : Int)), (7, AV.bool (if nearR l w (l.getD g_1.fst default) (List.take g_1.snd (cnR l w g_1.fst)) = true then true else if ((l.getD (cI (List.map encI (cnR l w
   g_1.fst)) (↑g_1.snd : Int).toNat).toNat default).hm == (l.getD (↑g_1.fst : Int).toNat default).hm) = true then decide ((l.getD (↑g_1.fst : Int).toNat default).tk - (l.getD (cI (List.map encI (cnR l w g_1.fst)) (↑g_1.snd :
   Int).toNat).toNat default).tk ≤ w) else false)), (8, AV.i ((↑g_1.snd : Int) + 1))] [(1, ABlk.buf 3 1 (List.map encI (cnR l w g_1.fst)))] 2 = AS.mk [(0, AV.sl 2 (List.map encCp l)), (1, AV.i w), (5, AV.own 1 (List.map encI (cnR l w
   g'.fst)).length), (6, AV.i (↑g'.fst : Int)), (7, AV.bool (nearR l w (l.getD g'.fst default) (List.take g'.snd (cnR l w g'.fst)))), (8, AV.i (↑g'.snd : Int))] [(1, ABlk.buf 3 1 (List.map encI (cnR l w g'.fst)))] 2) ∧ (decide
   ((↑g_1.snd : Int) < (↑(List.map encI (cnR l w g_1.fst)).length : Int)) = false → ((!nearR l w (l.getD g_1.fst default) (List.take g_1.snd (cnR l w g_1.fst))) = true → (List.map encI (cnR l w g_1.fst)).length + 1 ≤
   9223372036854775807 ∧ ((List.map encI (cnR l w g_1.fst)).length + 1) * 8 ≤ 140737488355328 ∧ In64 ((↑g_1.fst : Int) + 1) ∧ ∃ (g' : Nat), g' ≤ l.length ∧ l.length - g' < l.length - g ∧ AS.mk [(0, AV.sl 2 (List.map encCp l)), (1,
   AV.i w), (5, AV.own 1 ((List.map encI (cnR l w g_1.fst)).length + 1)), (6, AV.i ((↑g_1.fst : Int) + 1))] [(1, ABlk.buf 3 1 (List.map encI (cnR l w g_1.fst) ++ [[AV.i (↑g_1.fst : Int)]]))] 2 = AS.mk [(0, AV.sl 2 (List.map encCp l)),
   (1, AV.i w), (5, AV.own 1 (List.map encI (cnR l w g')).length), (6, AV.i (↑g' : Int))] [(1, ABlk.buf 3 1 (List.map encI (cnR l w g')))] 2) ∧ ((!nearR l w (l.getD g_1.fst default) (List.take g_1.snd (cnR l w g_1.fst))) = false →
   In64 ((↑g_1.fst : Int) + 1) ∧ ∃ (g' : Nat), g' ≤ l.length ∧ l.length - g' < l.length - g ∧ AS.mk [(0, AV.sl 2 (List.map encCp l)), (1, AV.i w), (5, AV.own 1 (List.map encI (cnR l w g_1.fst)).length), (6, AV.i ((↑g_1.fst : Int) +
   1))] [(1, ABlk.buf 3 1 (List.map encI (cnR l w g_1.fst)))] 2 = AS.mk [(0, AV.sl 2 (List.map encCp l)), (1, AV.i w), (5, AV.own 1 (List.map encI (cnR l w g')).length), (6, AV.i (↑g' : Int))] [(1, ABlk.buf 3 1 (List.map encI (cnR l w
   g')))] 2))) ∧ (decide ((↑g : Int) < (↑(List.map encCp l).length : Int)) = false → AV.fresh 3 1 (List.map encI (cnR l w g)) = AV.fresh 3 1 (List.map encI (cnR l w l.length))) := by
    have hlm : (List.map encCp l).length = l.length := List.length_map _
    have : (List.map encCp l).length = l.length := by simp only [List.length_map]
    refine ⟨⟨0, by omega, rfl⟩, fun g hg => ⟨fun hd => ?_, fun hd => ?_⟩⟩
    · have hlt : g < l.length := by have h9 := of_decide_eq_true hd; have h8 := hg; (try simp only [List.length_map] at h8); (try simp only [List.length_map] at h9); omega
      have hrl := cnR_len l w g
      have hrm : (List.map encI (cnR l w g)).length = (cnR l w g).length := List.length_map _
      have htg := hc.tk g hlt
      refine ⟨(g, 0), ⟨by (try dsimp only); omega, by (try dsimp only); omega⟩, rfl, rfl, fun g_1 hok2 hr2 => ?_⟩
      · obtain ⟨i2, j2⟩ := g_1
        dsimp only at hok2 hr2 ⊢
        obtain ⟨hi2, hg2⟩ := hok2
        have hr3 : g = i2 := hr2.symm
        subst hr3
        refine ⟨fun hd2 => ?_, fun hd2 => ?_⟩
        · have hlt2 : j2 < (cnR l w g).length := by have h9 := of_decide_eq_true hd2; have h8 := hg2; (try simp only [List.length_map] at h8); (try simp only [List.length_map] at h9); omega
          try rw [show (↑g : Int).toNat = g from Int.toNat_natCast g]
          rw [cI_map]
          have hmm := cnR_mem (getD_mem hlt2)
          have htk := hc.tk ((cnR l w g).getD j2 default).toNat (by omega)
          try rw [show (↑j2 : Int).toNat = j2 from Int.toNat_natCast j2]
          refine ⟨(by omega), (by omega), (by omega), (by omega), (by omega), (congrArg (fun r => nth r 0) (row_at encI hlt2)), (congrArg AV.agg (row_at encCp (by omega))), fun h => h, fun h => h, fun h => h, fun _ => by omega, fun _ => by omega, fun h => h, fun h => h, fun h => h, fun h => h, fun h => h, fun h => h, fun h => h, fun _ => by omega, fun _ => by omega, fun h => h, fun h => h, fun h => h, fun h => h, fun h => h, fun _ => by unfold In64; omega, fun h => h, fun h => h, fun h => h, fun h1 => ?_, fun h => by first | exact h | (rw [h]; rfl) | simp_all, impB_iff.2 fun hb => (congrArg (fun r => nth r 0) (row_at encCp hlt)), impB_iff.2 fun hb => (congrArg (fun r => nth r 1) (row_at encCp hlt)), (by unfold In64; omega), ⟨(g, j2 + 1), ⟨by (try dsimp only); omega, by (try dsimp only); omega⟩, rfl, (by (try dsimp only); omega), ?_⟩⟩
          · have hnr := h1
            try rw [List.take_length] at hnr
            exact fun h => by first | exact h | (rw [h]; rfl) | simp_all
          · dsimp only
            rw [nr_step hlt2]
            rfl
        · have hge2 : j2 = (cnR l w g).length := by have h9 := of_decide_eq_false hd2; have h8 := hg2; (try simp only [List.length_map] at h8); (try simp only [List.length_map] at h9); omega
          subst hge2
          refine ⟨fun h1 => ?_, fun h1 => ?_⟩
          · have hnr := h1
            try rw [List.take_length] at hnr
            refine ⟨(by omega), (by omega), (by unfold In64; omega), ⟨g + 1, by omega, by omega, ?_⟩⟩
            · first
                | (rw [show cnR l w (g + 1) = cnR l w g ++ [(g : Int)] from if_neg (by simpa using hnr), List.map_append, List.length_append]; rfl)
                | (rw [show cnR l w (g + 1) = cnR l w g from if_pos (by simpa using hnr)]; rfl)
          · have hnr := h1
            try rw [List.take_length] at hnr
            refine ⟨(by unfold In64; omega), ⟨g + 1, by omega, by omega, ?_⟩⟩
            · first
                | (rw [show cnR l w (g + 1) = cnR l w g ++ [(g : Int)] from if_neg (by simpa using hnr), List.map_append, List.length_append]; rfl)
                | (rw [show cnR l w (g + 1) = cnR l w g from if_pos (by simpa using hnr)]; rfl)
    · have hge : g = l.length := by have h9 := of_decide_eq_false hd; have h8 := hg; (try simp only [List.length_map] at h8); (try simp only [List.length_map] at h9); omega
      subst hge
      first | rfl | trivial
  exact c_of Tryz.f82 (modA 9 4 (fun a => { a with rdb := rdOw }) (fzB (mkB spC 82 [(9, 6, rdL 2 encCp l 2 true), (10, 8, rdL 2 encCp l 1 false), (10, 15, rdL 2 encCp l 1 false)] (la82 l w)))) (by kernel_rfl) (by kernel_rfl) (by kernel_rfl) (by kernel_rfl) key (by kernel_rfl)
def tdR (c : Cp) (b a : Int) (x : Sp) : Bool := if decide (x.b - 1 ≥ c.tk - b) = true then decide (x.a ≤ c.tk + a) else false
theorem tdR_e (c : Cp) (b a : Int) (x : Sp) : tdR c b a x = tdB c b a x := by
  unfold tdR tdB
  rw [show decide (x.b - 1 ≥ c.tk - b) = decide (x.b > c.tk - b) from decide_eq_decide.2 (by omega)]
def la83 (c : Cp) (l : List Sp) (b a : Int) : LA := {
  pre := [.own 9 3 1, .reno 9 2, .keep [1, 2, 3, 4, 9, 10] [2], .bound 3], post := [.reno 9 2, .keep [1, 2, 3, 4, 9, 10] [2], .bound 3]
  Gh := Nat
  st := fun i => ⟨[(1, .sl 2 (l.map encSp)), (2, .i b), (3, .i a), (4, .elt 2 [encCp c] 0 0), (9, .own 2 ((tdN c l b a i).map encI).length), (10, .i i)], [(2, .buf 3 1 ((tdN c l b a i).map encI))], 3⟩
  ok := fun i => i ≤ l.length
  ms := fun i => l.length - i }
theorem c83 (c : Cp) (l : List Sp) (b a : Int) (hl : l.length ≤ 1000) (hct : 0 ≤ c.tk ∧ c.tk ≤ 100000000) (hsp : ∀ i, i < l.length → SpOK (l.getD i default)) (hb : 0 ≤ b ∧ b ≤ 100000) (ha0 : 0 ≤ a ∧ a ≤ 100000) : PCall Tryz.prog G0 83 [.agg (encCp c), .sl 2 (l.map encSp), .i b, .i a] (.fresh 3 1 ((tdN c l b a l.length).map encI)) := by
  have key :
   (∃ (g : Nat), g ≤ l.length ∧ AS.mk [(1, AV.sl 2 (List.map encSp l)), (2, AV.i b), (3, AV.i a), (4, AV.elt 2 [(encCp c)] 0 0), (9, AV.own 2 0), (10, AV.i 0)] [(2, ABlk.buf 3 1 [])] 3 = AS.mk [(1, AV.sl 2 (List.map encSp l)), (2,
   AV.i b), (3, AV.i a), (4, AV.elt 2 [(encCp c)] 0 0), (9, AV.own 2 (List.map encI (tdN c l b a g)).length), (10, AV.i (↑g : Int))] [(2, ABlk.buf 3 1 (List.map encI (tdN c l b a g)))] 3) ∧ ∀ (g : Nat), g ≤ l.length → (decide ((↑g :
   Int) < (↑(List.map encSp l).length : Int)) = true → (0 : Int) ≤ (↑g : Int) ∧ (↑g : Int) < (↑(List.map encSp l).length : Int) ∧ In64 ((l.getD (↑g : Int).toNat default).b - 1) ∧ In64 (c.tk - b) ∧ (decide ((l.getD (↑g : Int).toNat
   default).b - 1 ≥ c.tk - b) = true → decide ((l.getD (↑g : Int).toNat default).b - 1 ≥ c.tk - b) = true) ∧ (decide ((l.getD (↑g : Int).toNat default).b - 1 ≥ c.tk - b) = true → decide ((l.getD (↑g : Int).toNat default).b - 1 ≥ c.tk
   - b) = true) ∧ (decide ((l.getD (↑g : Int).toNat default).b - 1 ≥ c.tk - b) = true → (0 : Int) ≤ (↑g : Int)) ∧ (decide ((l.getD (↑g : Int).toNat default).b - 1 ≥ c.tk - b) = true → (↑g : Int) < (↑(List.map encSp l).length : Int)) ∧
   (decide ((l.getD (↑g : Int).toNat default).b - 1 ≥ c.tk - b) = true → decide ((l.getD (↑g : Int).toNat default).b - 1 ≥ c.tk - b) = true) ∧ (decide ((l.getD (↑g : Int).toNat default).b - 1 ≥ c.tk - b) = true → decide ((l.getD (↑g :
   Int).toNat default).b - 1 ≥ c.tk - b) = true) ∧ (decide ((l.getD (↑g : Int).toNat default).b - 1 ≥ c.tk - b) = true → decide ((l.getD (↑g : Int).toNat default).b - 1 ≥ c.tk - b) = true) ∧ (decide ((l.getD (↑g : Int).toNat
   default).b - 1 ≥ c.tk - b) = true → decide ((l.getD (↑g : Int).toNat default).b - 1 ≥ c.tk - b) = true) ∧ (decide ((l.getD (↑g : Int).toNat default).b - 1 ≥ c.tk - b) = true → decide ((l.getD (↑g : Int).toNat default).b - 1 ≥ c.tk
   - b) = true) ∧ (decide ((l.getD (↑g : Int).toNat default).b - 1 ≥ c.tk - b) = true → In64 (c.tk + a)) ∧ (decide ((l.getD (↑g : Int).toNat default).b - 1 ≥ c.tk - b) = true → decide ((l.getD (↑g : Int).toNat default).b - 1 ≥ c.tk -
   b) = true) ∧ (decide ((l.getD (↑g : Int).toNat default).b - 1 ≥ c.tk - b) = true → decide ((l.getD (↑g : Int).toNat default).b - 1 ≥ c.tk - b) = true) ∧ (decide ((l.getD (↑g : Int).toNat default).b - 1 ≥ c.tk - b) = true → decide
   ((l.getD (↑g : Int).toNat default).b - 1 ≥ c.tk - b) = true) ∧ nth (nthR (List.map encSp l) (↑g : Int).toNat) 1 = AV.i (l.getD (↑g : Int).toNat default).b ∧ impB (decide ((l.getD (↑g : Int).toNat default).b - 1 ≥ c.tk - b)) (nth
   (nthR (List.map encSp l) (↑g : Int).toNat) 0 = AV.i (l.getD (↑g : Int).toNat default).a) ∧ ((if decide ((l.getD (↑g : Int).toNat default).b - 1 ≥ c.tk - b) = true then decide ((l.getD (↑g : Int).toNat default).a ≤ c.tk + a) else
   false) = true → (List.map encI (tdN c l b a g)).length + 1 ≤ 9223372036854775807 ∧ ((List.map encI (tdN c l b a g)).length + 1) * 8 ≤ 140737488355328 ∧ In64 ((↑g : Int) + 1) ∧ ∃ (g' : Nat), g' ≤ l.length ∧ l.length - g' < l.length
   - g ∧ AS.mk [(1, AV.sl 2 (List.map encSp l)), (2, AV.i b), (3, AV.i a), (4, AV.elt 2 [(encCp c)] 0 0), (9, AV.own 2 ((List.map encI (tdN c l b a g)).length + 1)), (10, AV.i ((↑g : Int) + 1))] [(2, ABlk.buf 3 1 (List.map encI (tdN c
   l b a g) ++ [[AV.i (↑g : Int)]]))] 3 = AS.mk [(1, AV.sl 2 (List.map encSp l)), (2, AV.i b), (3, AV.i a), (4, AV.elt 2 [(encCp c)] 0 0), (9, AV.own 2 (List.map encI (tdN c l b a g')).length), (10, AV.i (↑g' : Int))] [(2, ABlk.buf 3
   1 (List.map encI (tdN c l b a g')))] 3) ∧ ((if decide ((l.getD (↑g : Int).toNat default).b - 1 ≥ c.tk - b) = true then decide ((l.getD (↑g : Int).toNat default).a ≤ c.tk + a) else false) = false → In64 ((↑g : Int) + 1) ∧ ∃ (g' :
   Nat), g' ≤ l.length ∧ l.length - g' < l.length - g ∧ AS.mk [(1, AV.sl 2 (List.map encSp l)), (2, AV.i b), (3, AV.i a), (4, AV.elt 2 [(encCp c)] 0 0), (9, AV.own 2 (List.map encI (tdN c l b a g)).length), (10, AV.i ((↑g : Int) +
   1))] [(2, ABlk.buf 3 1 (List.map encI (tdN c l b a g)))] 3 = AS.mk [(1, AV.sl 2 (List.map encSp l)), (2, AV.i b), (3, AV.i a), (4, AV.elt 2 [(encCp c)] 0 0), (9, AV.own 2 (List.map encI (tdN c l b a g')).length), (10, AV.i (↑g' :
   Int))] [(2, ABlk.buf 3 1 (List.map encI (tdN c l b a g')))] 3)) ∧ (decide ((↑g : Int) < (↑(List.map encSp l).length : Int)) = false → AV.fresh 3 1 (List.map encI (tdN c l b a g)) = AV.fresh 3 1 (List.map encI (tdN c l b a
   l.length))) := by
    have hlm : (List.map encSp l).length = l.length := List.length_map _
    have : (List.map encSp l).length = l.length := by simp only [List.length_map]
    refine ⟨⟨0, by omega, rfl⟩, fun g hg => ⟨fun hd => ?_, fun hd => ?_⟩⟩
    · have hlt : g < l.length := by have h9 := of_decide_eq_true hd; have h8 := hg; (try simp only [List.length_map] at h8); (try simp only [List.length_map] at h9); omega
      have hs := (hsp g hlt).p
      have hle := td_len c l b a g
      have hem : (List.map encI (tdN c l b a g)).length = (tdN c l b a g).length := List.length_map _
      have hte := tdR_e c b a (l.getD g default)
      try rw [show (↑g : Int).toNat = g from Int.toNat_natCast g]
      refine ⟨(by omega), (by omega), (by unfold In64; omega), (by unfold In64; omega), fun h => h, fun h => h, fun _ => by omega, fun _ => by omega, fun h => h, fun h => h, fun h => h, fun h => h, fun h => h, fun _ => by unfold In64; omega, fun h => h, fun h => h, fun h => h, congrArg (fun r => nth r 1) (row_at encSp hlt), impB_iff.2 fun hb => congrArg (fun r => nth r 0) (row_at encSp hlt), fun h1 => ⟨(by omega), (by omega), (by unfold In64; omega), ⟨g + 1, by omega, by omega, ?_⟩⟩, fun h1 => ⟨(by unfold In64; omega), ⟨g + 1, by omega, by omega, ?_⟩⟩⟩
      · first
          | (rw [show tdN c l b a (g + 1) = tdN c l b a g ++ [(g : Int)] from if_pos (hte.symm.trans h1), List.map_append, List.length_append]; rfl)
          | (rw [show tdN c l b a (g + 1) = tdN c l b a g from if_neg (by rw [← hte, show tdR c b a (l.getD g default) = false from h1]; decide)]; rfl)
      · first
          | (rw [show tdN c l b a (g + 1) = tdN c l b a g ++ [(g : Int)] from if_pos (hte.symm.trans h1), List.map_append, List.length_append]; rfl)
          | (rw [show tdN c l b a (g + 1) = tdN c l b a g from if_neg (by rw [← hte, show tdR c b a (l.getD g default) = false from h1]; decide)]; rfl)
    · have hge : g = l.length := by have h9 := of_decide_eq_false hd; have h8 := hg; (try simp only [List.length_map] at h8); (try simp only [List.length_map] at h9); omega
      subst hge
      first | rfl | trivial
  exact c_of Tryz.f83 (fzB (mkB spC 83 [(5, 4, rdL 2 encSp l 1 false), (5, 16, rdL 2 encSp l 1 false)] (la1 (la83 c l b a)))) (by kernel_rfl) (by kernel_rfl) (by kernel_rfl) (by kernel_rfl) key (by kernel_rfl)
theorem dueX_n (ans : List Int) (l : List Cp) (t d i : Int) : (!dueX ans l t d i) = if (!hasI ans i) = true then decide ((l.getD i.toNat default).tk + d < t) else false := by
  unfold dueX
  cases hasI ans i with
  | true => rfl
  | false =>
    show (!decide _) = decide _
    rw [← decide_not]
    exact decide_eq_decide.2 (by omega)
def sp84 (l : List Cp) (w : Int) (ans : List Int) : Nat → List AV → Option AV
  | 82, _ => some (.fresh 3 1 ((cnR l w l.length).map encI))
  | 90, [_, .int _ x] => some (.bool (hasI ans x))
  | n, x => spC n x
def la84 (l : List Cp) (cn ans : List Int) (t d : Int) : LA := {
  pre := [.own 11 3 1, .reno 11 1, .keep [0, 2, 3, 4, 11, 12, 13] [1], .bound 2], post := [.reno 11 1, .keep [0, 2, 3, 4, 11, 12, 13] [1], .bound 2]
  Gh := Nat
  st := fun i => ⟨[(0, .sl 2 (l.map encCp)), (2, .sl 1 (ans.map encI)), (3, .i t), (4, .i d), (11, .own 1 ((dlF (dueX ans l t d) cn i).map encI).length), (12, .sl 1 (cn.map encI)), (13, .i i)], [(1, .buf 3 1 ((dlF (dueX ans l t d) cn i).map encI))], 2⟩
  ok := fun i => i ≤ cn.length
  ms := fun i => cn.length - i }
theorem c84 (l : List Cp) (w : Int) (ans : List Int) (t d : Int) (hl : l.length ≤ 64) (hc : CpOK l) (ha0 : ans.length ≤ 1000) (hd : 0 ≤ d ∧ d ≤ 100000) : PCall Tryz.prog G0 84 [.sl 2 (l.map encCp), .i w, .sl 1 (ans.map encI), .i t, .i d] (.fresh 3 1 ((dlG (dueX ans l t d) (cnR l w l.length)).map encI)) := by
  have key :
   PCall Tryz.prog G0 82 [AV.sl 2 (List.map encCp l), AV.i w] (AV.fresh 3 1 (List.map encI (cnR l w l.length))) ∧ (∃ (g : Nat), g ≤ (cnR l w l.length).length ∧ AS.mk [(0, AV.sl 2 (List.map encCp l)), (2, AV.sl 1 (List.map encI ans)),
   (3, AV.i t), (4, AV.i d), (11, AV.own 1 0), (12, AV.sl 1 (List.map encI (cnR l w l.length))), (13, AV.i 0)] [(1, ABlk.buf 3 1 [])] 2 = AS.mk [(0, AV.sl 2 (List.map encCp l)), (2, AV.sl 1 (List.map encI ans)), (3, AV.i t), (4, AV.i
   d), (11, AV.own 1 (List.map encI (dlF (dueX ans l t d) (cnR l w l.length) g)).length), (12, AV.sl 1 (List.map encI (cnR l w l.length))), (13, AV.i (↑g : Int))] [(1, ABlk.buf 3 1 (List.map encI (dlF (dueX ans l t d) (cnR l w
   l.length) g)))] 2) ∧ ∀ (g : Nat), g ≤ (cnR l w l.length).length → (decide ((↑g : Int) < (↑(List.map encI (cnR l w l.length)).length : Int)) = true → (0 : Int) ≤ (↑g : Int) ∧ (↑g : Int) < (↑(List.map encI (cnR l w l.length)).length
   : Int) ∧ ((!hasI ans ((cnR l w l.length).getD (↑g : Int).toNat default)) = true → (!hasI ans ((cnR l w l.length).getD (↑g : Int).toNat default)) = true) ∧ ((!hasI ans ((cnR l w l.length).getD (↑g : Int).toNat default)) = true →
   (!hasI ans ((cnR l w l.length).getD (↑g : Int).toNat default)) = true) ∧ ((!hasI ans ((cnR l w l.length).getD (↑g : Int).toNat default)) = true → (0 : Int) ≤ (↑g : Int)) ∧ ((!hasI ans ((cnR l w l.length).getD (↑g : Int).toNat
   default)) = true → (↑g : Int) < (↑(List.map encI (cnR l w l.length)).length : Int)) ∧ ((!hasI ans ((cnR l w l.length).getD (↑g : Int).toNat default)) = true → (!hasI ans ((cnR l w l.length).getD (↑g : Int).toNat default)) = true) ∧
   ((!hasI ans ((cnR l w l.length).getD (↑g : Int).toNat default)) = true → (!hasI ans ((cnR l w l.length).getD (↑g : Int).toNat default)) = true) ∧ ((!hasI ans ((cnR l w l.length).getD (↑g : Int).toNat default)) = true → (!hasI ans
   ((cnR l w l.length).getD (↑g : Int).toNat default)) = true) ∧ ((!hasI ans ((cnR l w l.length).getD (↑g : Int).toNat default)) = true → (0 : Int) ≤ (cnR l w l.length).getD (↑g : Int).toNat default) ∧ ((!hasI ans ((cnR l w
   l.length).getD (↑g : Int).toNat default)) = true → (cnR l w l.length).getD (↑g : Int).toNat default < (↑(List.map encCp l).length : Int)) ∧ ((!hasI ans ((cnR l w l.length).getD (↑g : Int).toNat default)) = true → (!hasI ans ((cnR l
   w l.length).getD (↑g : Int).toNat default)) = true) ∧ ((!hasI ans ((cnR l w l.length).getD (↑g : Int).toNat default)) = true → (!hasI ans ((cnR l w l.length).getD (↑g : Int).toNat default)) = true) ∧ ((!hasI ans ((cnR l w
   l.length).getD (↑g : Int).toNat default)) = true → (!hasI ans ((cnR l w l.length).getD (↑g : Int).toNat default)) = true) ∧ ((!hasI ans ((cnR l w l.length).getD (↑g : Int).toNat default)) = true → (!hasI ans ((cnR l w
   l.length).getD (↑g : Int).toNat default)) = true) ∧ ((!hasI ans ((cnR l w l.length).getD (↑g : Int).toNat default)) = true → In64 ((l.getD ((cnR l w l.length).getD (↑g : Int).toNat default).toNat default).tk + d)) ∧ ((!hasI ans
   ((cnR l w l.length).getD (↑g : Int).toNat default)) = true → (!hasI ans ((cnR l w l.length).getD (↑g : Int).toNat default)) = true) ∧ ((!hasI ans ((cnR l w l.length).getD (↑g : Int).toNat default)) = true → (!hasI ans ((cnR l w
   l.length).getD (↑g : Int).toNat default)) = true) ∧ ((!hasI ans ((cnR l w l.length).getD (↑g : Int).toNat default)) = true → (!hasI ans ((cnR l w l.length).getD (↑g : Int).toNat default)) = true) ∧ nth (nthR (List.map encI (cnR l w
   l.length)) (↑g : Int).toNat) 0 = AV.i ((cnR l w l.length).getD (↑g : Int).toNat default) ∧ PCall Tryz.prog G0 90 [AV.sl 1 (List.map encI ans), AV.i ((cnR l w l.length).getD (↑g : Int).toNat default)] (AV.bool (hasI ans ((cnR l w
   l.length).getD (↑g : Int).toNat default))) ∧ impB (!hasI ans ((cnR l w l.length).getD (↑g : Int).toNat default)) (nth (nthR (List.map encI (cnR l w l.length)) (↑g : Int).toNat) 0 = AV.i ((cnR l w l.length).getD (↑g : Int).toNat
   default)) ∧ impB (!hasI ans ((cnR l w l.length).getD (↑g : Int).toNat default)) (nth (nthR (List.map encCp l) ((cnR l w l.length).getD (↑g : Int).toNat default).toNat) 1 = AV.i (l.getD ((cnR l w l.length).getD (↑g : Int).toNat
   default).toNat default).tk) ∧ ((if (!hasI ans ((cnR l w l.length).getD (↑g : Int).toNat default)) = true then decide ((l.getD ((cnR l w l.length).getD (↑g : Int).toNat default).toNat default).tk + d < t) else false) = true → (0 :
   Int) ≤ (↑g : Int) ∧ (↑g : Int) < (↑(List.map encI (cnR l w l.length)).length : Int) ∧ (List.map encI (dlF (dueX ans l t d) (cnR l w l.length) g)).length + 1 ≤ 9223372036854775807 ∧ ((List.map encI (dlF (dueX ans l t d) (cnR l w
   l.length) g)).length + 1) * 8 ≤ 140737488355328 ∧ nth (nthR (List.map encI (cnR l w l.length)) (↑g : Int).toNat) 0 = AV.i ((cnR l w l.length).getD (↑g : Int).toNat default) ∧ In64 ((↑g : Int) + 1) ∧ ∃ (g' : Nat), g' ≤ (cnR l w
   l.length).length ∧ (cnR l w l.length).length - g' < (cnR l w l.length).length - g ∧ AS.mk [(0, AV.sl 2 (List.map encCp l)), (2, AV.sl 1 (List.map encI ans)), (3, AV.i t), (4, AV.i d), (11, AV.own 1 ((List.map encI (dlF (dueX ans l
   t d) (cnR l w l.length) g)).length + 1)), (12, AV.sl 1 (List.map encI (cnR l w l.length))), (13, AV.i ((↑g : Int) + 1))] [(1, ABlk.buf 3 1 (List.map encI (dlF (dueX ans l t d) (cnR l w l.length) g) ++ [[AV.i ((cnR l w
   l.length).getD (↑g : Int).toNat default)]]))] 2 = AS.mk [(0, AV.sl 2 (List.map encCp l)), (2, AV.sl 1 (List.map encI ans)), (3, AV.i t), (4, AV.i d), (11, AV.own 1 (List.map encI (dlF (dueX ans l t d) (cnR l w l.length)
   g')).length), (12, AV.sl 1 (List.map encI (cnR l w l.length))), (13, AV.i (↑g' : Int))] [(1, ABlk.buf 3 1 (List.map encI (dlF (dueX ans l t d) (cnR l w l.length) g')))] 2) ∧ ((if (!hasI ans ((cnR l w l.length).getD (↑g : Int).toNat
   default)) = true then decide ((l.getD ((cnR l w l.length).getD (↑g : Int).toNat default).toNat default).tk + d < t) else false) = false → In64 ((↑g : Int) + 1) ∧ ∃ (g' : Nat), g' ≤ (cnR l w l.length).length ∧ (cnR l w
   l.length).length - g' < (cnR l w l.length).length - g ∧ AS.mk [(0, AV.sl 2 (List.map encCp l)), (2, AV.sl 1 (List.map encI ans)), (3, AV.i t), (4, AV.i d), (11, AV.own 1 (List.map encI (dlF (dueX ans l t d) (cnR l w l.length)
   g)).length), (12, AV.sl 1 (List.map encI (cnR l w l.length))), (13, AV.i ((↑g : Int) + 1))] [(1, ABlk.buf 3 1 (List.map encI (dlF (dueX ans l t d) (cnR l w l.length) g)))] 2 = AS.mk [(0, AV.sl 2 (List.map encCp l)), (2, AV.sl 1
   (List.map encI ans)), (3, AV.i t), (4, AV.i d), (11, AV.own 1 (List.map encI (dlF (dueX ans l t d) (cnR l w l.length) g')).length), (12, AV.sl 1 (List.map encI (cnR l w l.length))), (13, AV.i (↑g' : Int))] [(1, ABlk.buf 3 1
   (List.map encI (dlF (dueX ans l t d) (cnR l w l.length) g')))] 2)) ∧ (decide ((↑g : Int) < (↑(List.map encI (cnR l w l.length)).length : Int)) = false → AV.fresh 3 1 (List.map encI (dlF (dueX ans l t d) (cnR l w l.length) g)) =
   AV.fresh 3 1 (List.map encI (dlG (dueX ans l t d) (cnR l w l.length)))) := by
    have hlm : (List.map encCp l).length = l.length := List.length_map _
    have hcl := cnR_len l w l.length
    have hcm : (List.map encI (cnR l w l.length)).length = (cnR l w l.length).length := List.length_map _
    have : (List.map encI (cnR l w l.length)).length = (cnR l w l.length).length := by simp only [List.length_map]
    have : (List.map encCp l).length = l.length := by simp only [List.length_map]
    refine ⟨(c82 l w hl hc), ⟨⟨0, by omega, rfl⟩, fun g hg => ⟨fun hd => ?_, fun hd => ?_⟩⟩⟩
    · have hlt : g < (cnR l w l.length).length := by have h9 := of_decide_eq_true hd; have h8 := hg; (try simp only [List.length_map] at h8); (try simp only [List.length_map] at h9); omega
      have hmm := cnR_mem (getD_mem hlt)
      have htk := hc.tk ((cnR l w l.length).getD g default).toNat (by omega)
      have hdl := dl_le (dueX ans l t d) (cnR l w l.length) g
      have hem : (List.map encI (dlF (dueX ans l t d) (cnR l w l.length) g)).length = (dlF (dueX ans l t d) (cnR l w l.length) g).length := List.length_map _
      have hdx := dueX_n ans l t d ((cnR l w l.length).getD g default)
      try rw [show (↑g : Int).toNat = g from Int.toNat_natCast g]
      refine ⟨(by omega), (by omega), fun h => h, fun h => h, fun _ => by omega, fun _ => by omega, fun h => h, fun h => h, fun h => h, fun _ => by omega, fun _ => by omega, fun h => h, fun h => h, fun h => h, fun h => h, fun _ => by unfold In64; omega, fun h => h, fun h => h, fun h => h, (congrArg (fun r => nth r 0) (row_at encI hlt)), (c90 ans _ ha0), impB_iff.2 fun hb => (congrArg (fun r => nth r 0) (row_at encI hlt)), impB_iff.2 fun hb => (congrArg (fun r => nth r 1) (row_at encCp (by omega))), fun h1 => ⟨(by omega), (by omega), (by omega), (by omega), (congrArg (fun r => nth r 0) (row_at encI hlt)), (by unfold In64; omega), ⟨g + 1, by omega, by omega, ?_⟩⟩, fun h1 => ⟨(by unfold In64; omega), ⟨g + 1, by omega, by omega, ?_⟩⟩⟩
      · first
          | (rw [dl_step hlt, if_pos (hdx.trans h1), List.map_append, List.length_append]; rfl)
          | (rw [dl_step hlt, if_neg (by rw [hdx, h1]; decide)]; rfl)
      · first
          | (rw [dl_step hlt, if_pos (hdx.trans h1), List.map_append, List.length_append]; rfl)
          | (rw [dl_step hlt, if_neg (by rw [hdx, h1]; decide)]; rfl)
    · have hge : g = (cnR l w l.length).length := by have h9 := of_decide_eq_false hd; have h8 := hg; (try simp only [List.length_map] at h8); (try simp only [List.length_map] at h9); omega
      subst hge
      rw [dl_all]
  exact c_of Tryz.f84 (gsB (fun i => if i.beq 2 then [.frzo 12] else []) (fzB (mkB (sp84 l w ans) 84 [(6, 4, rdL 1 encI (cnR l w l.length) 1 false), (6, 12, rdL 1 encI (cnR l w l.length) 1 false), (6, 15, rdL 2 encCp l 1 false), (7, 4, rdL 1 encI (cnR l w l.length) 1 false)] (la1 (la84 l (cnR l w l.length) ans t d))))) (by kernel_rfl) (by kernel_rfl) (by kernel_rfl) (by kernel_rfl) key (by kernel_rfl)
end Go.Proofs.YtfoeefaamjknpaaGreatDoor
namespace Go.Proofs.YtfoeefaamjknpaaGreatDoor
open Go Go.Av Go.RowKit
def mdH (g : List GS) (p : Prop) (l : List (Nat × AV)) : Option (List GS × AS × Prop) := some (g ++ [.keep (l.map (·.1)) [], .bound 1], ⟨l, [], 1⟩, p)
theorem c_ofH {f : Nat} {args : List AV} {r : AV} (fn : Func) (B : BA) (ms : List (Option (List GS × AS × Prop))) (hf : Tryz.prog.funcs[f]? = some fn) (hb : fn.body = some (bodyOf fn)) (hn : (fn.name == "runtime.NumGoroutine") = false) (hlen : Nat.ble args.length fn.ntmps = true)
    {q : Prop} (hq : q) (h : partsH (bodyE Tryz.prog T0 G0 fn.ntmps []) B (retQ T0 fn fun v => v = r) (flatSeq (bodyOf fn)) ms (startS args) = q) : PCall Tryz.prog G0 f args r :=
  call_of_partsH tok mix hf hb hn (Nat.le_of_ble_eq_true hlen) B ms (vc_of hq h)
end Go.Proofs.YtfoeefaamjknpaaGreatDoor
namespace Go.Proofs.YtfoeefaamjknpaaGreatDoor
open Go Go.Av Go.RowKit
structure Dk where
  w : Int
  an : List Int
  t : Int
  d : Int
  fl : List Sp
  b : Int
  a : Int
def encDk (x : Dk) : List AV := [.i x.w, .sl 1 (x.an.map encI), .i x.t, .i x.d, .sl 2 (x.fl.map encSp), .i x.b, .i x.a]
def oneC (l : List Cp) : Nat → Cp
  | 0 => ⟨[], 0⟩
  | _ + 1 => l.getD 0 default
theorem one_bd {l : List Cp} {k : Nat} (hk : k ≤ l.length) (h : ∀ j, j < k → (l.getD j default).hm.length ≤ 40) : (oneC l k).hm.length ≤ 40 := by
  cases k with
  | zero => exact Nat.zero_le _
  | succ k => exact h 0 (by omega)
theorem one_next (l : List Cp) {g : Nat} : oneC l (g + 1) = if ((g : Int) == 0) = true then l.getD g default else oneC l g := by
  cases g with
  | zero => rfl
  | succ g => rw [if_neg (by rw [beq_iff_eq]; omega)]; rfl
theorem guard8 {l : List Cp} {x : Dk} (h : (if (if (if decide ((l.length : Int) > 8) = true then (l.length : Int) != 65 else false) = true then true else decide ((x.an.length : Int) > 9)) = true then true else (if decide ((x.fl.length : Int) > 6) = true then (x.fl.length : Int) != 33 else false)) = false) : l.length ≤ 65 ∧ x.an.length ≤ 9 ∧ x.fl.length ≤ 33 := by
  obtain ⟨A, hA⟩ : ∃ A, (if decide ((l.length : Int) > 8) = true then (l.length : Int) != 65 else false) = A := ⟨_, rfl⟩
  obtain ⟨B, hB⟩ : ∃ B, decide ((x.an.length : Int) > 9) = B := ⟨_, rfl⟩
  obtain ⟨C, hC⟩ : ∃ C, (if decide ((x.fl.length : Int) > 6) = true then (x.fl.length : Int) != 33 else false) = C := ⟨_, rfl⟩
  rw [hA, hB, hC] at h
  have h0 : A = false ∧ B = false ∧ C = false := by
    cases A <;> cases B <;> cases C <;> first | exact ⟨rfl, rfl, rfl⟩ | exact absurd h (by decide)
  obtain ⟨rfl, rfl, rfl⟩ := h0
  refine ⟨len8 hA, by have := of_decide_eq_false hB; omega, ?_⟩
  by_cases q : (x.fl.length : Int) > 6
  · rw [if_pos (decide_eq_true q)] at hC
    have := bne_eq_false_iff_eq.1 hC
    omega
  · omega
theorem first_two {a b : Int} {l : List Int} (h : sFirst [a, b] ≠ 0) : sFirst (a :: b :: l) = sFirst [a, b] := by
  simp only [sFirst] at h ⊢
  by_cases ha : a = 0 <;> by_cases hb : b = 0 <;> simp_all
theorem first_rest {a b : Int} {l : List Int} (h : sFirst [a, b] = 0) : sFirst (a :: b :: l) = sFirst l := by
  rw [first_zero, first_zero] at h
  simp [sFirst, h.1, h.2.1]
def sp8 (l : List Cp) (x : Dk) : Nat → List AV → Option AV
  | 16, _ => some (.bool true)
  | 72, [.sl _ rows] => some (.sl 2 rows)
  | 74, [.sl _ rows] => some (.sl 2 rows)
  | 23, [.sl _ rows] => some (.sl 1 rows)
  | 71, _ => some (.tup [.sl 1 ((cnV l x.w).map encI), .i (cnE l x.w)])
  | 73, _ => some (.tup [.sl 1 ((tdV (oneC l l.length) x.fl x.b x.a).map encI), .i (tdE (oneC l l.length) x.fl x.b x.a)])
  | 75, _ => some (.tup [.sl 1 ((duV l x.w x.an x.t x.d).map encI), .i (duE l x.w x.an x.t x.d)])
  | 76, _ => some (.i (cpE l))
  | 79, _ => some (.i (sqE x.fl))
  | 80, _ => some (.i (fIx x.an l.length))
  | 32, [.sl _ rows] => some (.i (sFirst (rows.map hdI)))
  | 82, _ => some (.sl 1 ((cnR l x.w l.length).map encI))
  | 83, _ => some (.sl 1 ((tdN (oneC l l.length) x.fl x.b x.a x.fl.length).map encI))
  | 84, _ => some (.sl 1 ((dlG (dueX x.an l x.t x.d) (cnR l x.w l.length)).map encI))
  | 47, _ => some (.bool true)
  | n, y => spC n y
def la8 (l : List Cp) (x : Dk) : LA := {
  pre := [.reno 5 2, .keep [0, 3, 5, 47, 48, 49] [2], .bound 3], post := [.reno 5 2, .keep [0, 3, 5, 47, 48, 49] [2], .bound 3]
  Gh := Nat
  st := fun i => ⟨[(0, .sl 2 (l.map encCp)), (3, .elt 7 [encDk x] 0 0), (5, .ptr 2 0), (47, .sl 2 (l.map encCp)), (48, .i (l.map encCp).length), (49, .i i)], [(2, .box (encCp (oneC l i)))], 3⟩
  ok := fun i => i ≤ l.length ∧ ∀ j, j < i → (l.getD j default).hm.length ≤ 40
  ms := fun i => l.length - i }
def m8a (l : List Cp) (x : Dk) : List (Nat × AV) := [(0, .sl 2 (l.map encCp)), (3, .elt 7 [encDk x] 0 0), (5, .elt 2 [encCp (oneC l l.length)] 0 0)]
def m8b (l : List Cp) (x : Dk) : List (Nat × AV) := [(8, .sl 1 ((cnV l x.w).map encI)), (9, .i (cnE l x.w)), (10, .sl 1 ((tdV (oneC l l.length) x.fl x.b x.a).map encI)), (11, .i (tdE (oneC l l.length) x.fl x.b x.a)), (12, .sl 1 ((duV l x.w x.an x.t x.d).map encI)), (13, .i (duE l x.w x.an x.t x.d)), (14, .i (cnE l x.w)), (15, .i (tdE (oneC l l.length) x.fl x.b x.a))]
def m8c (l : List Cp) (x : Dk) : List (Nat × AV) := [(16, .i (duE l x.w x.an x.t x.d))]
def m8d (l : List Cp) (x : Dk) : List (Nat × AV) := [(17, .sl 1 ((cnV l x.w).map encI))]
def m8e (l : List Cp) (x : Dk) : List (Nat × AV) := [(18, .sl 1 ((tdV (oneC l l.length) x.fl x.b x.a).map encI))]
def m8f (l : List Cp) (x : Dk) : List (Nat × AV) := [(19, .sl 1 ((duV l x.w x.an x.t x.d).map encI))]
structure K8 (l : List Cp) (x : Dk) : Prop where
  kl : l.length ≤ 65
  kn : ∀ y, y ∈ l → y.hm.length ≤ 1000
  ko : (oneC l l.length).hm.length ≤ 40
  ka : x.an.length ≤ 9
  kf : x.fl.length ≤ 33
def m8 (l : List Cp) (x : Dk) : List (Option (List GS × AS × Prop)) :=
  [none, none, none, none, none, mdH [.frzo 5] (K8 l x) (m8a l x), none, none, none, none, mdH [] (K8 l x) (m8a l x ++ m8b l x), none, none, mdH [] (K8 l x) (m8a l x ++ m8b l x ++ m8c l x), none, none, mdH [] (K8 l x) (m8a l x ++ m8b l x ++ m8c l x ++ m8d l x ++ [(18, .sl 1 []), (19, .sl 1 [])]), none,
    mdH [] (K8 l x) (m8a l x ++ m8b l x ++ m8c l x ++ m8d l x ++ m8e l x ++ [(19, .sl 1 [])]), none, mdH [] (K8 l x) (m8a l x ++ m8b l x ++ m8c l x ++ m8d l x ++ m8e l x ++ m8f l x), none]
theorem mem_all {l : List Cp} (h : ∀ j, j < l.length → (l.getD j default).hm.length ≤ 40) : ∀ y, y ∈ l → y.hm.length ≤ 1000 := fun y hy => by
  obtain ⟨i, hi, e⟩ := List.mem_iff_getElem.1 hy
  have := h i hi
  rw [List.getD_eq_getElem?_getD, List.getElem?_eq_getElem hi, e] at this
  have : y.hm.length ≤ 40 := this
  omega
theorem same_t (L : List Int) (h : L.length ≤ 1000) : PCall Tryz.prog G0 47 [.sl 1 (L.map encI), .sl 1 (L.map encI)] (.bool true) := by
  have := c47 L L h
  rw [beq_self_eq_true] at this
  exact this
theorem cnE_z {l : List Cp} {w : Int} (h : (cnE l w == 0) = true) : l.length ≤ 64 ∧ CpOK l ∧ cnV l w = cnR l w l.length ∧ cnE l w = 0 := by
  have hz : cnE l w = 0 := by simpa using h
  have hz2 := hz
  unfold cnE at hz2
  rw [first_zero] at hz2
  obtain ⟨h1, h2⟩ := cp_z hz2.1
  exact ⟨h1, h2, (show cnV l w = (cnS l w l.length).2 from if_neg (by rw [hz]; decide)).trans (cn_eq h2.up l.length (Nat.le_refl _)).1, hz⟩
theorem cnE_n {l : List Cp} {w : Int} (h : (cnE l w == 0) = false) : cnV l w = [] ∧ cnE l w ≠ 0 := by
  have hz : cnE l w ≠ 0 := by simpa using h
  exact ⟨if_pos (by simpa using hz), hz⟩
theorem duE_z {l : List Cp} {w : Int} {an : List Int} {t d : Int} (h : cnE l w = 0) : duE l w an t d = sFirst [fIx an l.length, sWithin t 0 100000000, sWithin d 0 100000] := first_rest h
theorem duE_n {l : List Cp} {w : Int} {an : List Int} {t d : Int} (h : cnE l w ≠ 0) : duE l w an t d = cnE l w := first_two h
theorem cnV_len (l : List Cp) (w : Int) : (cnV l w).length ≤ l.length := by
  unfold cnV
  split
  · exact Nat.zero_le _
  · exact cnS_len l w l.length
theorem duV_len (l : List Cp) (w : Int) (an : List Int) (t d : Int) : (duV l w an t d).length ≤ l.length := by
  unfold duV
  split
  · exact Nat.zero_le _
  · exact Nat.le_trans (List.length_filter_le _ _) (cnS_len l w l.length)
theorem tdV_len (c : Cp) (l : List Sp) (b a : Int) : (tdV c l b a).length ≤ l.length := by
  unfold tdV
  split
  · exact Nat.zero_le _
  · exact td_len c l b a l.length
theorem tdE_z {c : Cp} {l : List Sp} {b a : Int} (h : (tdE c l b a == 0) = true) : (0 ≤ c.tk ∧ c.tk ≤ 100000000) ∧ (∀ i, i < l.length → SpOK (l.getD i default)) ∧ (0 ≤ b ∧ b ≤ 100000) ∧ (0 ≤ a ∧ a ≤ 100000) ∧ tdV c l b a = tdN c l b a l.length := by
  have hz : tdE c l b a = 0 := by simpa using h
  have hz2 := hz
  unfold tdE at hz2
  rw [first_zero, first_zero, first_zero, first_zero, within_zero, within_zero] at hz2
  obtain ⟨h1, h2, h3, h4, _⟩ := hz2
  unfold fCp at h1
  rw [first_zero, first_zero, within_zero] at h1
  refine ⟨h1.2.1, fun i hi => ?_, h3, h4, if_neg (by rw [hz]; decide)⟩
  unfold sqE at h2
  split at h2
  · cases h2
  · exact sp_z ((scan_zero h2).1 i hi)
theorem tdE_n {c : Cp} {l : List Sp} {b a : Int} (h : (tdE c l b a == 0) = false) : tdV c l b a = [] :=
  if_pos (by simpa using h)
theorem duE_t {l : List Cp} {w : Int} {an : List Int} {t d : Int} (h : (duE l w an t d == 0) = true) : l.length ≤ 64 ∧ CpOK l ∧ (0 ≤ d ∧ d ≤ 100000) ∧ duV l w an t d = dlG (dueX an l t d) (cnR l w l.length) := by
  have hz : duE l w an t d = 0 := by simpa using h
  have hz2 := hz
  unfold duE at hz2
  rw [first_zero, first_zero, first_zero, first_zero, first_zero, within_zero, within_zero, within_zero] at hz2
  obtain ⟨h1, _, _, _, h5, _⟩ := hz2
  obtain ⟨h6, h7⟩ := cp_z h1
  refine ⟨h6, h7, h5, ?_⟩
  rw [← (cn_eq h7.up (w := w) l.length (Nat.le_refl _)).1]
  exact if_neg (by rw [hz]; decide)
theorem duE_f {l : List Cp} {w : Int} {an : List Int} {t d : Int} (h : (duE l w an t d == 0) = false) : duV l w an t d = [] :=
  if_pos (by simpa using h)
theorem c8 (l : List Cp) (x : Dk) (hA : PCall Tryz.prog G0 16 [] (.bool true)) : PCall Tryz.prog G0 8 [.sl 2 (l.map encCp), .agg (encDk x)] (.bool true) := by
  have key :
   (decide ((↑(List.map encCp l).length : Int) > 8) = true → decide ((↑(List.map encCp l).length : Int) > 8) = true) ∧ (decide ((↑(List.map encCp l).length : Int) > 8) = true → decide ((↑(List.map encCp l).length : Int) > 8) = true) ∧
   (decide ((↑(List.map encCp l).length : Int) > 8) = true → decide ((↑(List.map encCp l).length : Int) > 8) = true) ∧ ((!if decide ((↑(List.map encCp l).length : Int) > 8) = true then (↑(List.map encCp l).length : Int) != 65 else
   false) = true → (!if decide ((↑(List.map encCp l).length : Int) > 8) = true then (↑(List.map encCp l).length : Int) != 65 else false) = true) ∧ ((!if decide ((↑(List.map encCp l).length : Int) > 8) = true then (↑(List.map encCp
   l).length : Int) != 65 else false) = true → (!if decide ((↑(List.map encCp l).length : Int) > 8) = true then (↑(List.map encCp l).length : Int) != 65 else false) = true) ∧ ((!if decide ((↑(List.map encCp l).length : Int) > 8) =
   true then (↑(List.map encCp l).length : Int) != 65 else false) = true → (!if decide ((↑(List.map encCp l).length : Int) > 8) = true then (↑(List.map encCp l).length : Int) != 65 else false) = true) ∧ ((if decide ((↑(List.map encCp
   l).length : Int) > 8) = true then (↑(List.map encCp l).length : Int) != 65 else false) = false → (!if decide ((↑(List.map encCp l).length : Int) > 8) = true then (↑(List.map encCp l).length : Int) != 65 else false) = true) ∧ ((!if
   (if decide ((↑(List.map encCp l).length : Int) > 8) = true then (↑(List.map encCp l).length : Int) != 65 else false) = true then true else decide ((↑(List.map encI x.an).length : Int) > 9)) = true → (!if (if decide ((↑(List.map
   encCp l).length : Int) > 8) = true then (↑(List.map encCp l).length : Int) != 65 else false) = true then true else decide ((↑(List.map encI x.an).length : Int) > 9)) = true) ∧ ((!if (if decide ((↑(List.map encCp l).length : Int) >
   8) = true then (↑(List.map encCp l).length : Int) != 65 else false) = true then true else decide ((↑(List.map encI x.an).length : Int) > 9)) = true → (!if (if decide ((↑(List.map encCp l).length : Int) > 8) = true then (↑(List.map
   encCp l).length : Int) != 65 else false) = true then true else decide ((↑(List.map encI x.an).length : Int) > 9)) = true) ∧ ((!if (if decide ((↑(List.map encCp l).length : Int) > 8) = true then (↑(List.map encCp l).length : Int) !=
   65 else false) = true then true else decide ((↑(List.map encI x.an).length : Int) > 9)) = true → (!if (if decide ((↑(List.map encCp l).length : Int) > 8) = true then (↑(List.map encCp l).length : Int) != 65 else false) = true then
   true else decide ((↑(List.map encI x.an).length : Int) > 9)) = true) ∧ ((!if (if decide ((↑(List.map encCp l).length : Int) > 8) = true then (↑(List.map encCp l).length : Int) != 65 else false) = true then true else decide
   ((↑(List.map encI x.an).length : Int) > 9)) = true → (!if (if decide ((↑(List.map encCp l).length : Int) > 8) = true then (↑(List.map encCp l).length : Int) != 65 else false) = true then true else decide ((↑(List.map encI
   x.an).length : Int) > 9)) = true) ∧ (((!if (if decide ((↑(List.map encCp l).length : Int) > 8) = true then (↑(List.map encCp l).length : Int) != 65 else false) = true then true else decide ((↑(List.map encI x.an).length : Int) >
   9)) && decide ((↑(List.map encSp x.fl).length : Int) > 6)) = true → ((!if (if decide ((↑(List.map encCp l).length : Int) > 8) = true then (↑(List.map encCp l).length : Int) != 65 else false) = true then true else decide
   ((↑(List.map encI x.an).length : Int) > 9)) && decide ((↑(List.map encSp x.fl).length : Int) > 6)) = true) ∧ (((!if (if decide ((↑(List.map encCp l).length : Int) > 8) = true then (↑(List.map encCp l).length : Int) != 65 else
   false) = true then true else decide ((↑(List.map encI x.an).length : Int) > 9)) && decide ((↑(List.map encSp x.fl).length : Int) > 6)) = true → ((!if (if decide ((↑(List.map encCp l).length : Int) > 8) = true then (↑(List.map encCp
   l).length : Int) != 65 else false) = true then true else decide ((↑(List.map encI x.an).length : Int) > 9)) && decide ((↑(List.map encSp x.fl).length : Int) > 6)) = true) ∧ (((!if (if decide ((↑(List.map encCp l).length : Int) > 8)
   = true then (↑(List.map encCp l).length : Int) != 65 else false) = true then true else decide ((↑(List.map encI x.an).length : Int) > 9)) && decide ((↑(List.map encSp x.fl).length : Int) > 6)) = true → ((!if (if decide ((↑(List.map
   encCp l).length : Int) > 8) = true then (↑(List.map encCp l).length : Int) != 65 else false) = true then true else decide ((↑(List.map encI x.an).length : Int) > 9)) && decide ((↑(List.map encSp x.fl).length : Int) > 6)) = true) ∧
   ((!if (if decide ((↑(List.map encCp l).length : Int) > 8) = true then (↑(List.map encCp l).length : Int) != 65 else false) = true then true else decide ((↑(List.map encI x.an).length : Int) > 9)) = true → (!if (if decide
   ((↑(List.map encCp l).length : Int) > 8) = true then (↑(List.map encCp l).length : Int) != 65 else false) = true then true else decide ((↑(List.map encI x.an).length : Int) > 9)) = true) ∧ ((!if (if decide ((↑(List.map encCp
   l).length : Int) > 8) = true then (↑(List.map encCp l).length : Int) != 65 else false) = true then true else decide ((↑(List.map encI x.an).length : Int) > 9)) = true → decide ((↑(List.map encSp x.fl).length : Int) > 6) = true →
   ((!if (if decide ((↑(List.map encCp l).length : Int) > 8) = true then (↑(List.map encCp l).length : Int) != 65 else false) = true then true else decide ((↑(List.map encI x.an).length : Int) > 9)) && decide ((↑(List.map encSp
   x.fl).length : Int) > 6)) = true) ∧ ((if (if decide ((↑(List.map encCp l).length : Int) > 8) = true then (↑(List.map encCp l).length : Int) != 65 else false) = true then true else decide ((↑(List.map encI x.an).length : Int) > 9))
   = false → (!if (if decide ((↑(List.map encCp l).length : Int) > 8) = true then (↑(List.map encCp l).length : Int) != 65 else false) = true then true else decide ((↑(List.map encI x.an).length : Int) > 9)) = true) ∧ ((if (if (if
   decide ((↑(List.map encCp l).length : Int) > 8) = true then (↑(List.map encCp l).length : Int) != 65 else false) = true then true else decide ((↑(List.map encI x.an).length : Int) > 9)) = true then true else if decide ((↑(List.map
   encSp x.fl).length : Int) > 6) = true then (↑(List.map encSp x.fl).length : Int) != 33 else false) = true → PCall Tryz.prog G0 16 [] (AV.bool true) ∧ AV.bool true = AV.bool true) ∧ ((if (if (if decide ((↑(List.map encCp l).length :
   Int) > 8) = true then (↑(List.map encCp l).length : Int) != 65 else false) = true then true else decide ((↑(List.map encI x.an).length : Int) > 9)) = true then true else if decide ((↑(List.map encSp x.fl).length : Int) > 6) = true
   then (↑(List.map encSp x.fl).length : Int) != 33 else false) = false → ((∃ (g : Nat), (g ≤ l.length ∧ ∀ (j : Nat), j < g → (l.getD j default).hm.length ≤ 40) ∧ AS.mk [(0, AV.sl 2 (List.map encCp l)), (3, AV.elt 7 [(encDk x)] 0 0),
   (5, AV.ptr 2 0), (47, AV.sl 2 (List.map encCp l)), (48, AV.i (↑(List.map encCp l).length : Int)), (49, AV.i 0)] [(2, ABlk.box [AV.str [], AV.i 0])] 3 = AS.mk [(0, AV.sl 2 (List.map encCp l)), (3, AV.elt 7 [(encDk x)] 0 0), (5,
   AV.ptr 2 0), (47, AV.sl 2 (List.map encCp l)), (48, AV.i (↑(List.map encCp l).length : Int)), (49, AV.i (↑g : Int))] [(2, ABlk.box (encCp (oneC l g)))] 3) ∧ ∀ (g : Nat), (g ≤ l.length ∧ ∀ (j : Nat), j < g → (l.getD j
   default).hm.length ≤ 40) → (decide ((↑g : Int) < (↑(List.map encCp l).length : Int)) = true → (0 : Int) ≤ (↑g : Int) ∧ (↑g : Int) < (↑(List.map encCp l).length : Int) ∧ AV.agg (nthR (List.map encCp l) (↑g : Int).toNat) = AV.agg
   (encCp (l.getD (↑g : Int).toNat default)) ∧ (decide ((↑(l.getD (↑g : Int).toNat default).hm.length : Int) > 40) = true → PCall Tryz.prog G0 16 [] (AV.bool true) ∧ AV.bool true = AV.bool true) ∧ (decide ((↑(l.getD (↑g : Int).toNat
   default).hm.length : Int) > 40) = false → (((↑g : Int) == 0) = true → In64 ((↑g : Int) + 1) ∧ ∃ (g' : Nat), (g' ≤ l.length ∧ ∀ (j : Nat), j < g' → (l.getD j default).hm.length ≤ 40) ∧ l.length - g' < l.length - g ∧ AS.mk [(0, AV.sl
   2 (List.map encCp l)), (3, AV.elt 7 [(encDk x)] 0 0), (5, AV.ptr 2 0), (47, AV.sl 2 (List.map encCp l)), (48, AV.i (↑(List.map encCp l).length : Int)), (49, AV.i ((↑g : Int) + 1))] [(2, ABlk.box (encCp (l.getD (↑g : Int).toNat
   default)))] 3 = AS.mk [(0, AV.sl 2 (List.map encCp l)), (3, AV.elt 7 [(encDk x)] 0 0), (5, AV.ptr 2 0), (47, AV.sl 2 (List.map encCp l)), (48, AV.i (↑(List.map encCp l).length : Int)), (49, AV.i (↑g' : Int))] [(2, ABlk.box (encCp
   (oneC l g')))] 3) ∧ (((↑g : Int) == 0) = false → In64 ((↑g : Int) + 1) ∧ ∃ (g' : Nat), (g' ≤ l.length ∧ ∀ (j : Nat), j < g' → (l.getD j default).hm.length ≤ 40) ∧ l.length - g' < l.length - g ∧ AS.mk [(0, AV.sl 2 (List.map encCp
   l)), (3, AV.elt 7 [(encDk x)] 0 0), (5, AV.ptr 2 0), (47, AV.sl 2 (List.map encCp l)), (48, AV.i (↑(List.map encCp l).length : Int)), (49, AV.i ((↑g : Int) + 1))] [(2, ABlk.box (encCp (oneC l g)))] 3 = AS.mk [(0, AV.sl 2 (List.map
   encCp l)), (3, AV.elt 7 [(encDk x)] 0 0), (5, AV.ptr 2 0), (47, AV.sl 2 (List.map encCp l)), (48, AV.i (↑(List.map encCp l).length : Int)), (49, AV.i (↑g' : Int))] [(2, ABlk.box (encCp (oneC l g')))] 3))) ∧ (decide ((↑g : Int) <
   (↑(List.map encCp l).length : Int)) = false → AS.mk [(0, AV.sl 2 (List.map encCp l)), (3, AV.elt 7 [(encDk x)] 0 0), (5, AV.elt 2 [(encCp (oneC l g))] 0 0)] [] 1 = AS.mk [(0, AV.sl 2 (List.map encCp l)), (3, AV.elt 7 [(encDk x)] 0
   0), (5, AV.elt 2 [(encCp (oneC l l.length))] 0 0)] [] 1 ∧ K8 l x)) ∧ (K8 l x → PCall Tryz.prog G0 72 [AV.sl 2 (List.map encCp l)] (AV.sl 2 (List.map encCp l)) ∧ PCall Tryz.prog G0 71 [AV.sl 2 (List.map encCp l), AV.i x.w] (AV.tup
   [AV.sl 1 (List.map encI (cnV l x.w)), AV.i (cnE l x.w)]) ∧ PCall Tryz.prog G0 74 [AV.sl 2 (List.map encSp x.fl)] (AV.sl 2 (List.map encSp x.fl)) ∧ PCall Tryz.prog G0 73 [AV.agg (encCp (oneC l l.length)), AV.sl 2 (List.map encSp
   x.fl), AV.i x.b, AV.i x.a] (AV.tup [AV.sl 1 (List.map encI (tdV (oneC l l.length) x.fl x.b x.a)), AV.i (tdE (oneC l l.length) x.fl x.b x.a)]) ∧ PCall Tryz.prog G0 72 [AV.sl 2 (List.map encCp l)] (AV.sl 2 (List.map encCp l)) ∧ PCall
   Tryz.prog G0 23 [AV.sl 1 (List.map encI x.an)] (AV.sl 1 (List.map encI x.an)) ∧ PCall Tryz.prog G0 75 [AV.sl 2 (List.map encCp l), AV.i x.w, AV.sl 1 (List.map encI x.an), AV.i x.t, AV.i x.d] (AV.tup [AV.sl 1 (List.map encI (duV l
   x.w x.an x.t x.d)), AV.i (duE l x.w x.an x.t x.d)]) ∧ PCall Tryz.prog G0 76 [AV.sl 2 (List.map encCp l)] (AV.i (cpE l)) ∧ PCall Tryz.prog G0 77 [AV.i x.w] (AV.i (sWithin x.w (0 : Int) (100000 : Int))) ∧ PCall Tryz.prog G0 32 [AV.sl
   1 [[AV.i (cpE l)], [AV.i (sWithin x.w (0 : Int) (100000 : Int))]]] (AV.i (sFirst [hdI [AV.i (cpE l)], hdI [AV.i (sWithin x.w (0 : Int) (100000 : Int))]])) ∧ (PCall Tryz.prog G0 78 [AV.agg (encCp (oneC l l.length))] (AV.i (fCp
   (Cp.mk (oneC l l.length).hm (oneC l l.length).tk))) ∧ PCall Tryz.prog G0 79 [AV.sl 2 (List.map encSp x.fl)] (AV.i (sqE x.fl)) ∧ PCall Tryz.prog G0 77 [AV.i x.b] (AV.i (sWithin x.b (0 : Int) (100000 : Int))) ∧ PCall Tryz.prog G0 77
   [AV.i x.a] (AV.i (sWithin x.a (0 : Int) (100000 : Int))) ∧ PCall Tryz.prog G0 32 [AV.sl 1 [[AV.i (fCp (Cp.mk (oneC l l.length).hm (oneC l l.length).tk))], [AV.i (sqE x.fl)], [AV.i (sWithin x.b (0 : Int) (100000 : Int))], [AV.i
   (sWithin x.a (0 : Int) (100000 : Int))]]] (AV.i (sFirst [hdI [AV.i (fCp (Cp.mk (oneC l l.length).hm (oneC l l.length).tk))], hdI [AV.i (sqE x.fl)], hdI [AV.i (sWithin x.b (0 : Int) (100000 : Int))], hdI [AV.i (sWithin x.a (0 : Int)
   (100000 : Int))]])) ∧ AS.mk [(0, AV.sl 2 (List.map encCp l)), (3, AV.elt 7 [(encDk x)] 0 0), (5, AV.elt 2 [(encCp (oneC l l.length))] 0 0), (8, AV.sl 1 (List.map encI (cnV l x.w))), (9, AV.i (cnE l x.w)), (10, AV.sl 1 (List.map
   encI (tdV (oneC l l.length) x.fl x.b x.a))), (11, AV.i (tdE (oneC l l.length) x.fl x.b x.a)), (12, AV.sl 1 (List.map encI (duV l x.w x.an x.t x.d))), (13, AV.i (duE l x.w x.an x.t x.d)), (14, AV.i (sFirst [hdI [AV.i (cpE l)], hdI
   [AV.i (sWithin x.w (0 : Int) (100000 : Int))]])), (15, AV.i (sFirst [hdI [AV.i (fCp (Cp.mk (oneC l l.length).hm (oneC l l.length).tk))], hdI [AV.i (sqE x.fl)], hdI [AV.i (sWithin x.b (0 : Int) (100000 : Int))], hdI [AV.i (sWithin
   x.a (0 : Int) (100000 : Int))]]))] [] 1 = AS.mk [(0, AV.sl 2 (List.map encCp l)), (3, AV.elt 7 [(encDk x)] 0 0), (5, AV.elt 2 [(encCp (oneC l l.length))] 0 0), (8, AV.sl 1 (List.map encI (cnV l x.w))), (9, AV.i (cnE l x.w)), (10,
   AV.sl 1 (List.map encI (tdV (oneC l l.length) x.fl x.b x.a))), (11, AV.i (tdE (oneC l l.length) x.fl x.b x.a)), (12, AV.sl 1 (List.map encI (duV l x.w x.an x.t x.d))), (13, AV.i (duE l x.w x.an x.t x.d)), (14, AV.i (cnE l x.w)),
   (15, AV.i (tdE (oneC l l.length) x.fl x.b x.a))] [] 1 ∧ K8 l x) ∧ (K8 l x → (((cnE l x.w == 0) = true → PCall Tryz.prog G0 80 [AV.sl 2 (List.map encCp l), AV.sl 1 (List.map encI x.an)] (AV.i (fIx x.an (↑l.length : Int))) ∧ PCall
   Tryz.prog G0 81 [AV.i x.t, AV.i 0, AV.i 100000000] (AV.i (sWithin x.t (0 : Int) (100000000 : Int))) ∧ PCall Tryz.prog G0 77 [AV.i x.d] (AV.i (sWithin x.d (0 : Int) (100000 : Int))) ∧ PCall Tryz.prog G0 32 [AV.sl 1 [[AV.i (fIx x.an
   (↑l.length : Int))], [AV.i (sWithin x.t (0 : Int) (100000000 : Int))], [AV.i (sWithin x.d (0 : Int) (100000 : Int))]]] (AV.i (sFirst [hdI [AV.i (fIx x.an (↑l.length : Int))], hdI [AV.i (sWithin x.t (0 : Int) (100000000 : Int))],
   hdI [AV.i (sWithin x.d (0 : Int) (100000 : Int))]])) ∧ AS.mk [(0, AV.sl 2 (List.map encCp l)), (3, AV.elt 7 [(encDk x)] 0 0), (5, AV.elt 2 [(encCp (oneC l l.length))] 0 0), (8, AV.sl 1 (List.map encI (cnV l x.w))), (9, AV.i (cnE l
   x.w)), (10, AV.sl 1 (List.map encI (tdV (oneC l l.length) x.fl x.b x.a))), (11, AV.i (tdE (oneC l l.length) x.fl x.b x.a)), (12, AV.sl 1 (List.map encI (duV l x.w x.an x.t x.d))), (13, AV.i (duE l x.w x.an x.t x.d)), (14, AV.i (cnE
   l x.w)), (15, AV.i (tdE (oneC l l.length) x.fl x.b x.a)), (16, AV.i (sFirst [hdI [AV.i (fIx x.an (↑l.length : Int))], hdI [AV.i (sWithin x.t (0 : Int) (100000000 : Int))], hdI [AV.i (sWithin x.d (0 : Int) (100000 : Int))]]))] [] 1
   = AS.mk [(0, AV.sl 2 (List.map encCp l)), (3, AV.elt 7 [(encDk x)] 0 0), (5, AV.elt 2 [(encCp (oneC l l.length))] 0 0), (8, AV.sl 1 (List.map encI (cnV l x.w))), (9, AV.i (cnE l x.w)), (10, AV.sl 1 (List.map encI (tdV (oneC l
   l.length) x.fl x.b x.a))), (11, AV.i (tdE (oneC l l.length) x.fl x.b x.a)), (12, AV.sl 1 (List.map encI (duV l x.w x.an x.t x.d))), (13, AV.i (duE l x.w x.an x.t x.d)), (14, AV.i (cnE l x.w)), (15, AV.i (tdE (oneC l l.length) x.fl
   x.b x.a)), (16, AV.i (duE l x.w x.an x.t x.d))] [] 1 ∧ K8 l x) ∧ ((cnE l x.w == 0) = false → AS.mk [(0, AV.sl 2 (List.map encCp l)), (3, AV.elt 7 [(encDk x)] 0 0), (5, AV.elt 2 [(encCp (oneC l l.length))] 0 0), (8, AV.sl 1
   (List.map encI (cnV l x.w))), (9, AV.i (cnE l x.w)), (10, AV.sl 1 (List.map encI (tdV (oneC l l.length) x.fl x.b x.a))), (11, AV.i (tdE (oneC l l.length) x.fl x.b x.a)), (12, AV.sl 1 (List.map encI (duV l x.w x.an x.t x.d))), (13,
   AV.i (duE l x.w x.an x.t x.d)), (14, AV.i (cnE l x.w)), (15, AV.i (tdE (oneC l l.length) x.fl x.b x.a)), (16, AV.i (cnE l x.w))] [] 1 = AS.mk [(0, AV.sl 2 (List.map encCp l)), (3, AV.elt 7 [(encDk x)] 0 0), (5, AV.elt 2 [(encCp
   (oneC l l.length))] 0 0), (8, AV.sl 1 (List.map encI (cnV l x.w))), (9, AV.i (cnE l x.w)), (10, AV.sl 1 (List.map encI (tdV (oneC l l.length) x.fl x.b x.a))), (11, AV.i (tdE (oneC l l.length) x.fl x.b x.a)), (12, AV.sl 1 (List.map
   encI (duV l x.w x.an x.t x.d))), (13, AV.i (duE l x.w x.an x.t x.d)), (14, AV.i (cnE l x.w)), (15, AV.i (tdE (oneC l l.length) x.fl x.b x.a)), (16, AV.i (duE l x.w x.an x.t x.d))] [] 1 ∧ K8 l x)) ∧ (K8 l x → (((cnE l x.w == 0) =
   true → PCall Tryz.prog G0 82 [AV.sl 2 (List.map encCp l), AV.i x.w] (AV.sl 1 (List.map encI (cnR l x.w l.length))) ∧ AS.mk [(0, AV.sl 2 (List.map encCp l)), (3, AV.elt 7 [(encDk x)] 0 0), (5, AV.elt 2 [(encCp (oneC l l.length))] 0
   0), (8, AV.sl 1 (List.map encI (cnV l x.w))), (9, AV.i (cnE l x.w)), (10, AV.sl 1 (List.map encI (tdV (oneC l l.length) x.fl x.b x.a))), (11, AV.i (tdE (oneC l l.length) x.fl x.b x.a)), (12, AV.sl 1 (List.map encI (duV l x.w x.an
   x.t x.d))), (13, AV.i (duE l x.w x.an x.t x.d)), (14, AV.i (cnE l x.w)), (15, AV.i (tdE (oneC l l.length) x.fl x.b x.a)), (16, AV.i (duE l x.w x.an x.t x.d)), (17, AV.sl 1 (List.map encI (cnR l x.w l.length))), (18, AV.sl 1 []),
   (19, AV.sl 1 [])] [] 1 = AS.mk [(0, AV.sl 2 (List.map encCp l)), (3, AV.elt 7 [(encDk x)] 0 0), (5, AV.elt 2 [(encCp (oneC l l.length))] 0 0), (8, AV.sl 1 (List.map encI (cnV l x.w))), (9, AV.i (cnE l x.w)), (10, AV.sl 1 (List.map
   encI (tdV (oneC l l.length) x.fl x.b x.a))), (11, AV.i (tdE (oneC l l.length) x.fl x.b x.a)), (12, AV.sl 1 (List.map encI (duV l x.w x.an x.t x.d))), (13, AV.i (duE l x.w x.an x.t x.d)), (14, AV.i (cnE l x.w)), (15, AV.i (tdE (oneC
   l l.length) x.fl x.b x.a)), (16, AV.i (duE l x.w x.an x.t x.d)), (17, AV.sl 1 (List.map encI (cnV l x.w))), (18, AV.sl 1 []), (19, AV.sl 1 [])] [] 1 ∧ K8 l x) ∧ ((cnE l x.w == 0) = false → AS.mk [(0, AV.sl 2 (List.map encCp l)),
   (3, AV.elt 7 [(encDk x)] 0 0), (5, AV.elt 2 [(encCp (oneC l l.length))] 0 0), (8, AV.sl 1 (List.map encI (cnV l x.w))), (9, AV.i (cnE l x.w)), (10, AV.sl 1 (List.map encI (tdV (oneC l l.length) x.fl x.b x.a))), (11, AV.i (tdE (oneC
   l l.length) x.fl x.b x.a)), (12, AV.sl 1 (List.map encI (duV l x.w x.an x.t x.d))), (13, AV.i (duE l x.w x.an x.t x.d)), (14, AV.i (cnE l x.w)), (15, AV.i (tdE (oneC l l.length) x.fl x.b x.a)), (16, AV.i (duE l x.w x.an x.t x.d)),
   (17, AV.sl 1 []), (18, AV.sl 1 []), (19, AV.sl 1 [])] [] 1 = AS.mk [(0, AV.sl 2 (List.map encCp l)), (3, AV.elt 7 [(encDk x)] 0 0), (5, AV.elt 2 [(encCp (oneC l l.length))] 0 0), (8, AV.sl 1 (List.map encI (cnV l x.w))), (9, AV.i
   (cnE l x.w)), (10, AV.sl 1 (List.map encI (tdV (oneC l l.length) x.fl x.b x.a))), (11, AV.i (tdE (oneC l l.length) x.fl x.b x.a)), (12, AV.sl 1 (List.map encI (duV l x.w x.an x.t x.d))), (13, AV.i (duE l x.w x.an x.t x.d)), (14,
   AV.i (cnE l x.w)), (15, AV.i (tdE (oneC l l.length) x.fl x.b x.a)), (16, AV.i (duE l x.w x.an x.t x.d)), (17, AV.sl 1 (List.map encI (cnV l x.w))), (18, AV.sl 1 []), (19, AV.sl 1 [])] [] 1 ∧ K8 l x)) ∧ (K8 l x → (((tdE (oneC l
   l.length) x.fl x.b x.a == 0) = true → PCall Tryz.prog G0 83 [AV.agg (encCp (oneC l l.length)), AV.sl 2 (List.map encSp x.fl), AV.i x.b, AV.i x.a] (AV.sl 1 (List.map encI (tdN (oneC l l.length) x.fl x.b x.a x.fl.length))) ∧ AS.mk
   [(0, AV.sl 2 (List.map encCp l)), (3, AV.elt 7 [(encDk x)] 0 0), (5, AV.elt 2 [(encCp (oneC l l.length))] 0 0), (8, AV.sl 1 (List.map encI (cnV l x.w))), (9, AV.i (cnE l x.w)), (10, AV.sl 1 (List.map encI (tdV (oneC l l.length)
   x.fl x.b x.a))), (11, AV.i (tdE (oneC l l.length) x.fl x.b x.a)), (12, AV.sl 1 (List.map encI (duV l x.w x.an x.t x.d))), (13, AV.i (duE l x.w x.an x.t x.d)), (14, AV.i (cnE l x.w)), (15, AV.i (tdE (oneC l l.length) x.fl x.b x.a)),
   (16, AV.i (duE l x.w x.an x.t x.d)), (17, AV.sl 1 (List.map encI (cnV l x.w))), (18, AV.sl 1 (List.map encI (tdN (oneC l l.length) x.fl x.b x.a x.fl.length))), (19, AV.sl 1 [])] [] 1 = AS.mk [(0, AV.sl 2 (List.map encCp l)), (3,
   AV.elt 7 [(encDk x)] 0 0), (5, AV.elt 2 [(encCp (oneC l l.length))] 0 0), (8, AV.sl 1 (List.map encI (cnV l x.w))), (9, AV.i (cnE l x.w)), (10, AV.sl 1 (List.map encI (tdV (oneC l l.length) x.fl x.b x.a))), (11, AV.i (tdE (oneC l
   l.length) x.fl x.b x.a)), (12, AV.sl 1 (List.map encI (duV l x.w x.an x.t x.d))), (13, AV.i (duE l x.w x.an x.t x.d)), (14, AV.i (cnE l x.w)), (15, AV.i (tdE (oneC l l.length) x.fl x.b x.a)), (16, AV.i (duE l x.w x.an x.t x.d)),
   (17, AV.sl 1 (List.map encI (cnV l x.w))), (18, AV.sl 1 (List.map encI (tdV (oneC l l.length) x.fl x.b x.a))), (19, AV.sl 1 [])] [] 1 ∧ K8 l x) ∧ ((tdE (oneC l l.length) x.fl x.b x.a == 0) = false → AS.mk [(0, AV.sl 2 (List.map
   encCp l)), (3, AV.elt 7 [(encDk x)] 0 0), (5, AV.elt 2 [(encCp (oneC l l.length))] 0 0), (8, AV.sl 1 (List.map encI (cnV l x.w))), (9, AV.i (cnE l x.w)), (10, AV.sl 1 (List.map encI (tdV (oneC l l.length) x.fl x.b x.a))), (11, AV.i
   (tdE (oneC l l.length) x.fl x.b x.a)), (12, AV.sl 1 (List.map encI (duV l x.w x.an x.t x.d))), (13, AV.i (duE l x.w x.an x.t x.d)), (14, AV.i (cnE l x.w)), (15, AV.i (tdE (oneC l l.length) x.fl x.b x.a)), (16, AV.i (duE l x.w x.an
   x.t x.d)), (17, AV.sl 1 (List.map encI (cnV l x.w))), (18, AV.sl 1 []), (19, AV.sl 1 [])] [] 1 = AS.mk [(0, AV.sl 2 (List.map encCp l)), (3, AV.elt 7 [(encDk x)] 0 0), (5, AV.elt 2 [(encCp (oneC l l.length))] 0 0), (8, AV.sl 1
   (List.map encI (cnV l x.w))), (9, AV.i (cnE l x.w)), (10, AV.sl 1 (List.map encI (tdV (oneC l l.length) x.fl x.b x.a))), (11, AV.i (tdE (oneC l l.length) x.fl x.b x.a)), (12, AV.sl 1 (List.map encI (duV l x.w x.an x.t x.d))), (13,
   AV.i (duE l x.w x.an x.t x.d)), (14, AV.i (cnE l x.w)), (15, AV.i (tdE (oneC l l.length) x.fl x.b x.a)), (16, AV.i (duE l x.w x.an x.t x.d)), (17, AV.sl 1 (List.map encI (cnV l x.w))), (18, AV.sl 1 (List.map encI (tdV (oneC l
   l.length) x.fl x.b x.a))), (19, AV.sl 1 [])] [] 1 ∧ K8 l x)) ∧ (K8 l x → (((duE l x.w x.an x.t x.d == 0) = true → PCall Tryz.prog G0 84 [AV.sl 2 (List.map encCp l), AV.i x.w, AV.sl 1 (List.map encI x.an), AV.i x.t, AV.i x.d] (AV.sl
   1 (List.map encI (dlG (dueX x.an l x.t x.d) (cnR l x.w l.length)))) ∧ AS.mk [(0, AV.sl 2 (List.map encCp l)), (3, AV.elt 7 [(encDk x)] 0 0), (5, AV.elt 2 [(encCp (oneC l l.length))] 0 0), (8, AV.sl 1 (List.map encI (cnV l x.w))),
   (9, AV.i (cnE l x.w)), (10, AV.sl 1 (List.map encI (tdV (oneC l l.length) x.fl x.b x.a))), (11, AV.i (tdE (oneC l l.length) x.fl x.b x.a)), (12, AV.sl 1 (List.map encI (duV l x.w x.an x.t x.d))), (13, AV.i (duE l x.w x.an x.t
   x.d)), (14, AV.i (cnE l x.w)), (15, AV.i (tdE (oneC l l.length) x.fl x.b x.a)), (16, AV.i (duE l x.w x.an x.t x.d)), (17, AV.sl 1 (List.map encI (cnV l x.w))), (18, AV.sl 1 (List.map encI (tdV (oneC l l.length) x.fl x.b x.a))),
   (19, AV.sl 1 (List.map encI (dlG (dueX x.an l x.t x.d) (cnR l x.w l.length))))] [] 1 = AS.mk [(0, AV.sl 2 (List.map encCp l)), (3, AV.elt 7 [(encDk x)] 0 0), (5, AV.elt 2 [(encCp (oneC l l.length))] 0 0), (8, AV.sl 1 (List.map encI
   (cnV l x.w))), (9, AV.i (cnE l x.w)), (10, AV.sl 1 (List.map encI (tdV (oneC l l.length) x.fl x.b x.a))), (11, AV.i (tdE (oneC l l.length) x.fl x.b x.a)), (12, AV.sl 1 (List.map encI (duV l x.w x.an x.t x.d))), (13, AV.i (duE l x.w
   x.an x.t x.d)), (14, AV.i (cnE l x.w)), (15, AV.i (tdE (oneC l l.length) x.fl x.b x.a)), (16, AV.i (duE l x.w x.an x.t x.d)), (17, AV.sl 1 (List.map encI (cnV l x.w))), (18, AV.sl 1 (List.map encI (tdV (oneC l l.length) x.fl x.b
   x.a))), (19, AV.sl 1 (List.map encI (duV l x.w x.an x.t x.d)))] [] 1 ∧ K8 l x) ∧ ((duE l x.w x.an x.t x.d == 0) = false → AS.mk [(0, AV.sl 2 (List.map encCp l)), (3, AV.elt 7 [(encDk x)] 0 0), (5, AV.elt 2 [(encCp (oneC l
   l.length))] 0 0), (8, AV.sl 1 (List.map encI (cnV l x.w))), (9, AV.i (cnE l x.w)), (10, AV.sl 1 (List.map encI (tdV (oneC l l.length) x.fl x.b x.a))), (11, AV.i (tdE (oneC l l.length) x.fl x.b x.a)), (12, AV.sl 1 (List.map encI
   (duV l x.w x.an x.t x.d))), (13, AV.i (duE l x.w x.an x.t x.d)), (14, AV.i (cnE l x.w)), (15, AV.i (tdE (oneC l l.length) x.fl x.b x.a)), (16, AV.i (duE l x.w x.an x.t x.d)), (17, AV.sl 1 (List.map encI (cnV l x.w))), (18, AV.sl 1
   (List.map encI (tdV (oneC l l.length) x.fl x.b x.a))), (19, AV.sl 1 [])] [] 1 = AS.mk [(0, AV.sl 2 (List.map encCp l)), (3, AV.elt 7 [(encDk x)] 0 0), (5, AV.elt 2 [(encCp (oneC l l.length))] 0 0), (8, AV.sl 1 (List.map encI (cnV l
   x.w))), (9, AV.i (cnE l x.w)), (10, AV.sl 1 (List.map encI (tdV (oneC l l.length) x.fl x.b x.a))), (11, AV.i (tdE (oneC l l.length) x.fl x.b x.a)), (12, AV.sl 1 (List.map encI (duV l x.w x.an x.t x.d))), (13, AV.i (duE l x.w x.an
   x.t x.d)), (14, AV.i (cnE l x.w)), (15, AV.i (tdE (oneC l l.length) x.fl x.b x.a)), (16, AV.i (duE l x.w x.an x.t x.d)), (17, AV.sl 1 (List.map encI (cnV l x.w))), (18, AV.sl 1 (List.map encI (tdV (oneC l l.length) x.fl x.b x.a))),
   (19, AV.sl 1 (List.map encI (duV l x.w x.an x.t x.d)))] [] 1 ∧ K8 l x)) ∧ (K8 l x → PCall Tryz.prog G0 47 [AV.sl 1 (List.map encI (cnV l x.w)), AV.sl 1 (List.map encI (cnV l x.w))] (AV.bool true) ∧ AV.bool (cnE l x.w == cnE l x.w)
   = AV.bool true ∧ PCall Tryz.prog G0 47 [AV.sl 1 (List.map encI (tdV (oneC l l.length) x.fl x.b x.a)), AV.sl 1 (List.map encI (tdV (oneC l l.length) x.fl x.b x.a))] (AV.bool true) ∧ AV.bool (tdE (oneC l l.length) x.fl x.b x.a == tdE
   (oneC l l.length) x.fl x.b x.a) = AV.bool true ∧ PCall Tryz.prog G0 47 [AV.sl 1 (List.map encI (duV l x.w x.an x.t x.d)), AV.sl 1 (List.map encI (duV l x.w x.an x.t x.d))] (AV.bool true) ∧ AV.bool (duE l x.w x.an x.t x.d == duE l
   x.w x.an x.t x.d) = AV.bool true ∧ PCall Tryz.prog G0 16 [] (AV.bool true) ∧ AV.bool true = AV.bool true))))))) := by
    have hlm : (List.map encCp l).length = l.length := List.length_map _
    have ham : (List.map encI x.an).length = x.an.length := List.length_map _
    have hfm : (List.map encSp x.fl).length = x.fl.length := List.length_map _
    have : (List.map encCp l).length = l.length := by simp only [List.length_map]
    have : (List.map encI x.an).length = x.an.length := by simp only [List.length_map]
    have : (List.map encSp x.fl).length = x.fl.length := by simp only [List.length_map]
    refine ⟨fun h => h, fun h => h, fun h => h, fun h => h, fun h => h, fun h => h, fun h => by first | exact h | (rw [h]; rfl) | simp_all, fun h => h, fun h => h, fun h => h, fun h => h, fun h => h, fun h => h, fun h => h, fun h => h, fun h1 => fun h => by first | exact h | (rw [h]; rfl) | simp_all, fun h => by first | exact h | (rw [h]; rfl) | simp_all, fun h1 => ⟨hA, rfl⟩, fun h1 => ?_⟩
    · obtain ⟨hg1, hg2, hg3⟩ := guard8 (l := l) (x := x) (by rw [hlm, ham, hfm] at h1; exact h1)
      refine ⟨⟨⟨0, ⟨by omega, by intros; omega⟩, rfl⟩, fun g ⟨hg, ha⟩ => ⟨fun hd => ?_, fun hd => ?_⟩⟩, fun h2 => ?_⟩
      · have hlt : g < l.length := by have h9 := of_decide_eq_true hd; have h8 := hg; (try simp only [List.length_map] at h8); (try simp only [List.length_map] at h9); omega
        try rw [show (↑g : Int).toNat = g from Int.toNat_natCast g]
        refine ⟨(by omega), (by omega), congrArg AV.agg (row_at encCp hlt), fun h2 => ⟨hA, rfl⟩, fun h2 => ⟨fun h3 => ⟨(by unfold In64; omega), ⟨g + 1, ⟨by omega, all_ext ha ?_⟩, by omega, ?_⟩⟩, fun h3 => ⟨(by unfold In64; omega), ⟨g + 1, ⟨by omega, all_ext ha ?_⟩, by omega, ?_⟩⟩⟩⟩
        · have := of_decide_eq_false h2
          omega
        · first
            | (rw [one_next, if_pos (by assumption)]; rfl)
            | (rw [one_next, if_neg (by simp_all)]; rfl)
        · have := of_decide_eq_false h2
          omega
        · first
            | (rw [one_next, if_pos (by assumption)]; rfl)
            | (rw [one_next, if_neg (by simp_all)]; rfl)
      · have hge : g = l.length := by have h9 := of_decide_eq_false hd; have h8 := hg; (try simp only [List.length_map] at h8); (try simp only [List.length_map] at h9); omega
        subst hge
        refine ⟨rfl, ?_⟩
        · first
            | exact hK
            | exact ⟨hg1, mem_all ha, one_bd (Nat.le_refl _) ha, hg2, hg3⟩
      · have hK := h2
        obtain ⟨k1, k2, k3, k4, k5⟩ := h2
        refine ⟨((c72 l (by omega)).un), (c71 l _ (by omega) k2), (c74 _ (by omega)), (c73 _ _ _ _ (by omega) (by omega)), ((c72 l (by omega)).un), (c23 _ (by omega)), (c75 l _ _ _ _ (by omega) k2 (by omega)), (c76 l (by omega) k2), (c77 _), (c32 [_, _] (by simp)), ⟨(c78 _ (by omega)), (c79 _ (by omega)), (c77 _), (c77 _), (c32 [_, _, _, _] (by simp)), rfl, ?_⟩, fun h3 => ?_⟩
        · first
            | exact hK
            | exact ⟨hg1, mem_all ha, one_bd (Nat.le_refl _) ha, hg2, hg3⟩
        · have hK := h3
          obtain ⟨k1, k2, k3, k4, k5⟩ := h3
          refine ⟨⟨fun h4 => ?_, fun h4 => ?_⟩, fun h4 => ?_⟩
          · obtain ⟨z1, z2, z3, z4⟩ := cnE_z h4
            refine ⟨(c80 l _ (by omega)), (c81 _ _ _), (c77 _), (c32 [_, _, _] (by simp)), ?_, ?_⟩
            · rw [duE_z z4]
              rfl
            · first
                | exact hK
                | exact ⟨hg1, mem_all ha, one_bd (Nat.le_refl _) ha, hg2, hg3⟩
          · obtain ⟨z5, z6⟩ := cnE_n h4
            refine ⟨?_, ?_⟩
            · rw [duE_n z6]
            · first
                | exact hK
                | exact ⟨hg1, mem_all ha, one_bd (Nat.le_refl _) ha, hg2, hg3⟩
          · have hK := h4
            obtain ⟨k1, k2, k3, k4, k5⟩ := h4
            refine ⟨⟨fun h5 => ?_, fun h5 => ?_⟩, fun h5 => ?_⟩
            · obtain ⟨z1, z2, z3, z4⟩ := cnE_z h5
              refine ⟨((c82 l _ z1 z2).un), ?_, ?_⟩
              · rw [z3]
              · first
                  | exact hK
                  | exact ⟨hg1, mem_all ha, one_bd (Nat.le_refl _) ha, hg2, hg3⟩
            · obtain ⟨z5, z6⟩ := cnE_n h5
              refine ⟨?_, ?_⟩
              · rw [z5]
                rfl
              · first
                  | exact hK
                  | exact ⟨hg1, mem_all ha, one_bd (Nat.le_refl _) ha, hg2, hg3⟩
            · have hK := h5
              obtain ⟨k1, k2, k3, k4, k5⟩ := h5
              refine ⟨⟨fun h6 => ?_, fun h6 => ?_⟩, fun h6 => ?_⟩
              · obtain ⟨y1, y2, y3, y4, y5⟩ := tdE_z h6
                refine ⟨((c83 _ _ _ _ (by omega) y1 y2 y3 y4).un), ?_, ?_⟩
                · rw [y5]
                · first
                    | exact hK
                    | exact ⟨hg1, mem_all ha, one_bd (Nat.le_refl _) ha, hg2, hg3⟩
              · have y6 := tdE_n h6
                refine ⟨?_, ?_⟩
                · rw [y6]
                  rfl
                · first
                    | exact hK
                    | exact ⟨hg1, mem_all ha, one_bd (Nat.le_refl _) ha, hg2, hg3⟩
              · have hK := h6
                obtain ⟨k1, k2, k3, k4, k5⟩ := h6
                refine ⟨⟨fun h7 => ?_, fun h7 => ?_⟩, fun h7 => ?_⟩
                · obtain ⟨x1, x2, x3, x4⟩ := duE_t h7
                  refine ⟨((c84 l _ _ _ _ x1 x2 (by omega) x3).un), ?_, ?_⟩
                  · rw [x4]
                  · first
                      | exact hK
                      | exact ⟨hg1, mem_all ha, one_bd (Nat.le_refl _) ha, hg2, hg3⟩
                · have x6 := duE_f h7
                  refine ⟨?_, ?_⟩
                  · rw [x6]
                    rfl
                  · first
                      | exact hK
                      | exact ⟨hg1, mem_all ha, one_bd (Nat.le_refl _) ha, hg2, hg3⟩
                · have hK := h7
                  obtain ⟨k1, k2, k3, k4, k5⟩ := h7
                  exact ⟨(same_t _ (by have := cnV_len l x.w; have := tdV_len (oneC l l.length) x.fl x.b x.a; have := duV_len l x.w x.an x.t x.d; omega)), congrArg AV.bool (beq_self_eq_true _), (same_t _ (by have := cnV_len l x.w; have := tdV_len (oneC l l.length) x.fl x.b x.a; have := duV_len l x.w x.an x.t x.d; omega)), congrArg AV.bool (beq_self_eq_true _), (same_t _ (by have := cnV_len l x.w; have := tdV_len (oneC l l.length) x.fl x.b x.a; have := duV_len l x.w x.an x.t x.d; omega)), congrArg AV.bool (beq_self_eq_true _), hA, rfl⟩
  exact c_ofH Tryz.f8 (noSyms [27] (gsB (fun i => if i.beq 20 then [.nil 17 1, .nil 18 1, .nil 19 1] else []) (fzB (mkB (sp8 l x) 8 (lits true [(27, 6), (27, 16), (27, 26)] ++ [(6, 2, rdL 2 encCp l 2 true)]) (la1 (la8 l x)))))) (m8 l x) (by kernel_rfl) (by kernel_rfl) (by kernel_rfl) (by kernel_rfl) key (by kernel_rfl)
end Go.Proofs.YtfoeefaamjknpaaGreatDoor
namespace Go.Proofs.YtfoeefaamjknpaaGreatDoor
open Go Go.Av Go.RowKit Go.ChangeShapes Go.WideShapes
theorem cp_of {n : Nat} {r : List AV} (hn : shapeT T0 n 126 = [.str, .int .i64]) (hp : plainT T0 n 126 = true) (h : ASh T0 n 126 r) : ∃ x : Cp, r = encCp x ∧ True := by
  have := ash_shape n 126 r hp h
  rw [hn] at this
  obtain ⟨_, _, rfl, ⟨b, rfl, _⟩, _, _, rfl, ⟨c, rfl, _⟩, rfl⟩ := this
  exact ⟨⟨b, c⟩, rfl, trivial⟩
theorem cps_arg {a : AV} (h : ASh1 T0 8 121 a) : ∃ l : List Cp, a = .sl 2 (l.map encCp) ∧ l.length ≤ maxLen := by
  obtain ⟨rows, rfl, hl, hr⟩ := ash1_one (c := .sl 7 126 2) (ti := ⟨(.slice 126 2 24), 1, 24, false, [.ex (.slice none 0 0)], false⟩) (by kernel_rfl) rfl (by kernel_rfl) (by kernel_rfl) h
  obtain ⟨l, rfl, _⟩ := rows_enc (enc := encCp) (Q := fun _ => True) (fun r hm => cp_of (by kernel_rfl) (by kernel_rfl) (hr r hm))
  exact ⟨l, rfl, by simpa using hl⟩
theorem sp_of {n : Nat} {r : List AV} (hn : shapeT T0 n 187 = [.int .i64, .int .i64]) (hp : plainT T0 n 187 = true) (h : ASh T0 n 187 r) : ∃ x : Sp, r = encSp x ∧ True := by
  have := ash_shape n 187 r hp h
  rw [hn] at this
  obtain ⟨_, _, rfl, ⟨b, rfl, _⟩, _, _, rfl, ⟨c, rfl, _⟩, rfl⟩ := this
  exact ⟨⟨b, c⟩, rfl, trivial⟩
theorem i_of {n : Nat} {r : List AV} (hn : shapeT T0 n 3 = [.int .i64]) (hp : plainT T0 n 3 = true) (h : ASh T0 n 3 r) : ∃ x : Int, r = encI x ∧ True := by
  have := ash_shape n 3 r hp h
  rw [hn] at this
  obtain ⟨_, _, rfl, ⟨d, rfl, _⟩, rfl⟩ := this
  exact ⟨d, rfl, trivial⟩
theorem dk_arg {a : AV} (h : ASh1 T0 8 124 a) : ∃ x : Dk, a = .agg (encDk x) := by
  obtain ⟨l, rfl, h2⟩ := ash1_agg (cs := [.int .i64, .sl 6 3 1, .int .i64, .int .i64, .sl 6 187 2, .int .i64, .int .i64])
    (ti := ⟨(.struct [(0, 3, 1), (1, 26, 1), (2, 3, 1), (3, 3, 1), (4, 122, 1), (5, 3, 1), (6, 3, 1)]), 7, 88, true, [.int .i64 0, .ex (.slice none 0 0), .int .i64 0, .int .i64 0, .ex (.slice none 0 0), .int .i64 0, .int .i64 0], true⟩)
    (by kernel_rfl) rfl (by kernel_rfl) (by kernel_rfl) h
  obtain ⟨_, _, rfl, ⟨w, rfl, _⟩, _, _, rfl, ⟨ra, rfl, _, hra⟩, _, _, rfl, ⟨t, rfl, _⟩, _, _, rfl, ⟨d, rfl, _⟩, _, _, rfl, ⟨rf, rfl, _, hrf⟩, _, _, rfl, ⟨b, rfl, _⟩, _, _, rfl, ⟨e, rfl, _⟩, rfl⟩ := h2
  obtain ⟨an, rfl, _⟩ := rows_enc (enc := encI) (Q := fun _ => True) (fun r hm => i_of (by kernel_rfl) (by kernel_rfl) (hra r hm))
  obtain ⟨fl, rfl, _⟩ := rows_enc (enc := encSp) (Q := fun _ => True) (fun r hm => sp_of (by kernel_rfl) (by kernel_rfl) (hrf r hm))
  exact ⟨⟨w, an, t, d, fl, b, e⟩, rfl⟩
end Go.Proofs.YtfoeefaamjknpaaGreatDoor
namespace Go.Proofs.YtfoeefaamjknpaaGreatDoor
open Go Go.Av Go.RowKit Go.ChangeShapes Go.WideShapes
theorem jp0_8 : (Rows.homeComplaintsRow.inPlace == Tryz.prog.inPlace 8) = true := by kernel_rfl
theorem jp1_8 : (Rows.homeComplaintsRow.unfollowed == Tryz.prog.unfollowed 8) = true := by kernel_rfl
theorem jp2_8 : (Rows.homeComplaintsRow.recurses == Tryz.prog.recurses 8) = true := by kernel_rfl
theorem jp3_8 : (Rows.homeComplaintsRow.named == Tryz.prog.varsNamed 8) = true := by kernel_rfl
theorem jfacts_8 : joinedFacts Tryz.prog 8 Tryz.f8 Rows.homeComplaintsSpec Rows.homeComplaintsRow = true := by
  unfold joinedFacts
  rw [jp0_8, jp1_8, jp2_8, jp3_8]
  kernel_rfl
end Go.Proofs.YtfoeefaamjknpaaGreatDoor
