/-
  What chapter 7's functions of requests and bounds return. No condition but the theorems' own. NightBounds returns true. No condition but the theorems' own. The seals of chapter 7's evidence. No condition but the theorems' own. Exceptions of chapter 7, their evidence, and what is wrong with them. No condition but the theorems' own. The checks of exceptions of chapter 7, both sides, and their validity. No condition but the theorems' own. What a respite has, and that movements of one night are valid. No condition but the theorems' own. NightRests returns true. No condition but the theorems' own. What NightRests' row says of the program's text. No condition.
-/
import Derived.Test.YtimgfogakgakhaaGreatDoorPC
import Derived.Test.YtimgfogakgakhaaGreatDoorAvD
import Derived.Test.YtimgfogakgakhaaGreatDoorPB
namespace Go.Proofs.YtimgfogakgakhaaGreatDoor
open Go Go.Av Go.RowKit
def sFloor (n d : Int) : Int := if n.tdiv d * d > n then n.tdiv d - 1 else n.tdiv d
def hrR (a b : Int) : Int := 0 - sFloor (0 - (cntN (fun m => wiR a b m) 1440 : Nat)) 60
end Go.Proofs.YtimgfogakgakhaaGreatDoor
namespace Go.Proofs.YtimgfogakgakhaaGreatDoor
open Go Go.Av Go.RowKit
structure RqOK (r : Ru) (x : Tp) : Prop where
  t : fiN (pN r.ts x.n) r.ts.length < r.ts.length
  h : 0 ≤ x.c ∧ x.c ≤ hrR r.a r.b - 1
  v : 0 ≤ x.f ∧ x.f ≤ 1000
end Go.Proofs.YtimgfogakgakhaaGreatDoor
namespace Go.Proofs.YtimgfogakgakhaaGreatDoor
open Go Go.Av Go.RowKit
def encB (b : UInt8) : List AV := [.int .u8 b.toNat]
end Go.Proofs.YtimgfogakgakhaaGreatDoor
namespace Go.Proofs.YtimgfogakgakhaaGreatDoor
open Go Go.Av Go.RowKit
structure Xc where
  fl : List UInt8
  re : List UInt8
  day : Int
  e0 : Int
  e1 : Int
  e2 : Int
  e3 : Int
  e4 : Int
  e5 : Int
  e6 : Int
  e7 : Int
  deriving Inhabited
def W1 : List UInt8 := [101, 97, 114, 108, 121]
def W2 : List UInt8 := [108, 97, 116, 101]
def W3 : List UInt8 := [101, 118, 105, 100, 101, 110, 99, 101]
end Go.Proofs.YtimgfogakgakhaaGreatDoor
namespace Go.Proofs.YtimgfogakgakhaaGreatDoor
open Go Go.Av Go.RowKit
def dis (l : List Mv) : Prop := ∀ i, i < l.length → ∀ j, j < i → ((l.getD j default).fl == (l.getD i default).fl) = false
theorem dis_of {r : Ru} {l : List Mv} (h : chkMR r l = 0) : dis l := by
  unfold chkMR at h
  obtain ⟨h1, h2⟩ := ite_z h
  intro i hi j hj
  have h7 := (scan_zero h2).1 i hi
  unfold fMv at h7
  rw [first_zero, first_zero] at h7
  have h8 := when_z (by decide) h7.2.1
  rw [fiI_dec, decide_eq_false_iff_not] at h8
  exact fi_all h8 j hj
end Go.Proofs.YtimgfogakgakhaaGreatDoor
namespace Go.Proofs.YtimgfogakgakhaaGreatDoor
open Go Go.Av Go.RowKit
theorem dis_pw {l : List Mv} : dis l ↔ l.Pairwise (fun a b => a.fl ≠ b.fl) := by
  rw [List.pairwise_iff_getElem]
  constructor
  · intro h i j hi hj hij
    have := h j hj i hij
    rw [List.getD_eq_getElem?_getD, List.getD_eq_getElem?_getD, List.getElem?_eq_getElem hi, List.getElem?_eq_getElem hj] at this
    simpa using this
  · intro h i hi j hj
    have := h j i (by omega) hi hj
    rw [List.getD_eq_getElem?_getD, List.getD_eq_getElem?_getD, List.getElem?_eq_getElem hi, List.getElem?_eq_getElem (show j < l.length by omega)]
    simpa using this
theorem filter_len_le {α : Type} (p : α → Bool) (l : List α) : (l.filter p).length ≤ l.length := List.length_filter_le p l
theorem chk_filter {r : Ru} {l : List Mv} (h : chkMR r l = 0) (p : Mv → Bool) : chkMR r (l.filter p) = 0 := by
  have hm := mv_ok h
  have hd := dis_of h
  have hd2 : dis (l.filter p) := dis_pw.2 ((dis_pw.1 hd).filter p)
  have hl := filter_len_le p l
  unfold chkMR at h ⊢
  obtain ⟨h1, h2⟩ := ite_z h
  have e : sFirst [chkR r, sWhen (decide (((l.filter p).length : Int) > 256)) 5] = 0 := by
    rw [hm.1, decide_eq_false (show ¬ ((l.filter p).length : Int) > 256 by have := hm.2.2; omega)]; rfl
  rw [e, if_neg (by decide)]
  have h3 := (scan_zero h2).1
  refine scan_end fun i hi => ?_
  obtain ⟨j, hj, e2⟩ := mem_get ((List.mem_filter.1 (getD_mem hi)).1)
  have h4 := h3 j hj
  unfold fMv at h4 ⊢
  rw [e2, first_zero, first_zero, first_zero, first_zero, first_zero, first_zero] at h4
  rw [first_zero, first_zero, first_zero, first_zero, first_zero, first_zero]
  refine ⟨h4.1, ?_, h4.2.2.1, h4.2.2.2.1, h4.2.2.2.2.1, h4.2.2.2.2.2.1, rfl⟩
  have e3 : decide (fiI (pM (l.filter p) ((l.filter p).getD i default).fl) i ≥ 0) = false := by
    rw [fiI_dec, decide_eq_false_iff_not, fi_none (p := pM (l.filter p) ((l.filter p).getD i default).fl) (fun k hk => hd2 i hi k hk)]
    omega
  rw [e3]
  rfl
theorem sh_filter {r : Ru} {l : List Mv} (h : Sh r l) (p : Mv → Bool) : Sh r (l.filter p) :=
  ⟨h.t, h.s, h.n, h.m, by have := h.k; have := filter_len_le p l; omega, fun m hm => h.v m (List.mem_filter.1 hm).1⟩
theorem rB_inv (tk : Nat → Bool) : ∀ i, ((rB tk i).1 < (rB tk i).2.1 → ∀ t : Nat, (rB tk i).1 ≤ t → (t : Int) < (rB tk i).2.1 → tk t = false) ∧
    (∀ t : Nat, (rB tk i).2.2 ≤ t → t < i → tk t = false) ∧
    ((rB tk i).2.2 = 0 ∨ ∃ t : Nat, (rB tk i).2.2 = t + 1 ∧ tk t = true) ∧
    ((rB tk i).1 < (rB tk i).2.1 → (rB tk i).1 = 0 ∨ ∃ t : Nat, (rB tk i).1 = t + 1 ∧ tk t = true) ∧
    ((rB tk i).1 < (rB tk i).2.1 → ((rB tk i).2.1 = i ∧ (rB tk i).2.2 = (rB tk i).1) ∨ ∃ t : Nat, (rB tk i).2.1 = t ∧ t < i ∧ tk t = true) ∧
    (i : Int) - (rB tk i).2.2 ≤ (rB tk i).2.1 - (rB tk i).1
  | 0 => by
    unfold rB
    exact ⟨fun h => absurd h (by decide), fun t _ h => by omega, .inl rfl, fun _ => .inl rfl, fun h => absurd h (by decide), by decide⟩
  | i + 1 => by
    obtain ⟨h1, h2, h3, h4, h5, h6⟩ := rB_inv tk i
    have hb := rB_bd tk i
    rw [rB]
    split
    · rename_i ht
      dsimp only
      refine ⟨h1, fun t ha hb => by omega, .inr ⟨i, rfl, ht⟩, h4, fun h => ?_, by omega⟩
      rcases h5 h with ⟨e, -⟩ | ⟨t, e, hl, hq⟩
      · exact .inr ⟨i, e, by omega, ht⟩
      · exact .inr ⟨t, e, by omega, hq⟩
    · rename_i ht
      have ht : tk i = false := by simpa using ht
      have h2' : ∀ t : Nat, (rB tk i).2.2 ≤ t → t < i + 1 → tk t = false := fun t ha hb => by
        by_cases q : t = i
        · rw [q]; exact ht
        · exact h2 t ha (by omega)
      split
      · dsimp only
        exact ⟨fun _ t ha hb => h2' t ha (by omega), h2', h3, fun _ => h3, fun _ => .inl ⟨by omega, rfl⟩, by omega⟩
      · rename_i hq
        refine ⟨h1, h2', h3, h4, fun h => ?_, by omega⟩
        rcases h5 h with ⟨e, e2⟩ | ⟨t, e, hl, hq⟩
        · omega
        · exact .inr ⟨t, e, by omega, hq⟩
theorem rB_mono (tk : Nat → Bool) {i : Nat} : ∀ {j : Nat}, i ≤ j → (rB tk i).2.1 - (rB tk i).1 ≤ (rB tk j).2.1 - (rB tk j).1
  | 0, h => by rw [show i = 0 by omega]; omega
  | j + 1, h => by
    by_cases q : i = j + 1
    · rw [q]; omega
    · have ih := rB_mono tk (show i ≤ j by omega)
      rw [rB.eq_2 tk j]
      split
      · exact ih
      · split
        · dsimp only; omega
        · exact ih
theorem rB_congr {tk tk' : Nat → Bool} : ∀ {i : Nat}, (∀ t, t < i → tk t = tk' t) → rB tk i = rB tk' i
  | 0, _ => rfl
  | i + 1, h => by
    rw [rB, rB, rB_congr (fun t ht => h t (by omega)), h i (by omega)]
end Go.Proofs.YtimgfogakgakhaaGreatDoor
namespace Go.Proofs.YtimgfogakgakhaaGreatDoor
open Go Go.Av Go.RowKit
def At0 (l : List Mv) (n0 : Int) : Mv := l.getD (n0.tmod l.length).toNat default
def nbI (r : Ru) (m : Mv) : Int := if wiR r.a r.b m.mi = true then niI r.a r.b m.day m.mi else m.day
theorem tkN_iff {r : Ru} {l : List Mv} {n : Int} {t : Nat} : tkN r l n l.length t = true ↔ ∃ m, m ∈ l ∧ nP r n m = true ∧ (offR r.a m.mi).toNat = t := by
  have ht : ∀ i, i ≤ l.length → (tkN r l n i t = true ↔ ∃ j, j < i ∧ nP r n (l.getD j default) = true ∧ (offR r.a (l.getD j default).mi).toNat = t) := by
    intro i
    induction i with
    | zero => intro _; simp [tkN]
    | succ i ih =>
      intro hi
      have ih := ih (by omega)
      rw [tkN]
      by_cases h1 : nP r n (l.getD i default) = true
      · rw [if_pos h1]
        by_cases h2 : (offR r.a (l.getD i default).mi).toNat = t
        · rw [if_pos h2]
          exact ⟨fun _ => ⟨i, by omega, h1, h2⟩, fun _ => rfl⟩
        · rw [if_neg h2, ih]
          constructor
          · rintro ⟨j, hj, h3, h4⟩
            exact ⟨j, by omega, h3, h4⟩
          · rintro ⟨j, hj, h3, h4⟩
            by_cases q : j = i
            · rw [q] at h4; exact absurd h4 h2
            · exact ⟨j, by omega, h3, h4⟩
      · rw [if_neg h1, ih]
        constructor
        · rintro ⟨j, hj, h3, h4⟩
          exact ⟨j, by omega, h3, h4⟩
        · rintro ⟨j, hj, h3, h4⟩
          by_cases q : j = i
          · rw [q] at h3; exact absurd h3 h1
          · exact ⟨j, by omega, h3, h4⟩
  rw [ht l.length (Nat.le_refl _)]
  constructor
  · rintro ⟨j, hj, h⟩
    exact ⟨_, getD_mem hj, h⟩
  · rintro ⟨m, hm, h⟩
    obtain ⟨j, hj, rfl⟩ := mem_get hm
    exact ⟨j, hj, h⟩
def eI (x : Int) : AV × AV := (.i x, .bool true)
theorem look_eI (k : Int) : ∀ ks : List Int, mlook (.i k) (ks.map eI) = some (if k ∈ ks then some (.bool true) else none)
  | [] => rfl
  | x :: ks => by
    have ih := look_eI k ks
    simp only [List.map_cons, eI, mlook, eqCell, if_true] at ih ⊢
    by_cases h : k = x
    · subst h; simp
    · rw [beq_false_of_ne h]
      simp only [ih, List.mem_cons, h, false_or]
theorem put_eI (k : Int) : ∀ ks : List Int, mput (.i k) (.bool true) (ks.map eI) = some ((if k ∈ ks then ks else ks ++ [k]).map eI)
  | [] => rfl
  | x :: ks => by
    have ih := put_eI k ks
    simp only [List.map_cons, eI, mput, eqCell, if_true] at ih ⊢
    by_cases h : k = x
    · subst h; simp [eI]
    · rw [beq_false_of_ne h]
      simp only [ih, List.mem_cons, h, false_or]
      split <;> simp [eI]
def kI (r : Ru) (l : List Mv) (n : Int) : Nat → List Int
  | 0 => []
  | i + 1 => if nP r n (l.getD i default) = true then (if offM r.a (l.getD i default).mi ∈ kI r l n i then kI r l n i else kI r l n i ++ [offM r.a (l.getD i default).mi]) else kI r l n i
def hvL (r : Ru) (l : List Mv) (n : Int) : Nat → List Mv
  | 0 => []
  | i + 1 => if nP r n (l.getD i default) = true then hvL r l n i ++ [l.getD i default] else hvL r l n i
theorem kI_mem {r : Ru} {l : List Mv} {n x : Int} : ∀ {i}, x ∈ kI r l n i ↔ ∃ j, j < i ∧ nP r n (l.getD j default) = true ∧ offM r.a (l.getD j default).mi = x
  | 0 => by simp [kI]
  | i + 1 => by
    have ih := kI_mem (r := r) (l := l) (n := n) (x := x) (i := i)
    have up : (∃ j, j < i ∧ nP r n (l.getD j default) = true ∧ offM r.a (l.getD j default).mi = x) → ∃ j, j < i + 1 ∧ nP r n (l.getD j default) = true ∧ offM r.a (l.getD j default).mi = x := by
      rintro ⟨j, hj, h⟩
      exact ⟨j, by omega, h⟩
    rw [kI]
    by_cases q : nP r n (l.getD i default) = true
    · rw [if_pos q]
      constructor
      · intro h
        split at h
        · exact up (ih.1 h)
        · rw [List.mem_append, List.mem_singleton] at h
          rcases h with h | h
          · exact up (ih.1 h)
          · exact ⟨i, by omega, q, h.symm⟩
      · rintro ⟨j, hj, h1, h2⟩
        by_cases e : j = i
        · subst e
          split
          · rename_i h3; rw [h2] at h3; exact h3
          · rw [h2]; simp
        · have := ih.2 ⟨j, by omega, h1, h2⟩
          split
          · exact this
          · exact List.mem_append_left _ this
    · rw [if_neg q, ih]
      constructor
      · exact up
      · rintro ⟨j, hj, h1, h2⟩
        by_cases e : j = i
        · subst e; exact absurd h1 q
        · exact ⟨j, by omega, h1, h2⟩
theorem hv_filter (r : Ru) (l : List Mv) (n : Int) : hvL r l n l.length = l.filter (nP r n) := by
  have key : ∀ i, i ≤ l.length → hvL r l n i = (l.take i).filter (nP r n) := by
    intro i
    induction i with
    | zero => intro _; rfl
    | succ i ih =>
      intro hi
      have e : l.take (i + 1) = l.take i ++ [l.getD i default] := by
        rw [List.getD_eq_getElem?_getD, List.getElem?_eq_getElem hi]
        exact (List.take_append_getElem hi).symm
      rw [hvL, e, List.filter_append, ih (by omega)]
      by_cases q : nP r n (l.getD i default) = true
      · rw [if_pos q, List.filter_cons_of_pos q]; rfl
      · rw [if_neg q, List.filter_cons_of_neg q, List.filter_nil, List.append_nil]
  rw [key l.length (Nat.le_refl _), List.take_length]
theorem hv_len (r : Ru) (l : List Mv) (n : Int) : ∀ i, (hvL r l n i).length ≤ i
  | 0 => Nat.le_refl _
  | i + 1 => by
    have := hv_len r l n i
    rw [hvL]
    split
    · rw [List.length_append, List.length_singleton]; omega
    · omega
theorem nP_wi {r : Ru} {n : Int} {m : Mv} (h : nP r n m = true) : wiR r.a r.b m.mi = true := by
  unfold nP at h
  cases q : wiR r.a r.b m.mi with
  | true => rfl
  | false => rw [q] at h; cases h
theorem look_tk {r : Ru} {l : List Mv} {n k : Int} (hV : RuOK r ∧ ∀ m, m ∈ l → MvOK r m) (hk : 0 ≤ k) : lookV false (.bool false) (mlook (.i k) ((kI r l n l.length).map eI)) = .bool (tkN r l n l.length k.toNat) := by
  rw [look_eI]
  have key : k ∈ kI r l n l.length ↔ tkN r l n l.length k.toNat = true := by
    rw [kI_mem, tkN_iff]
    constructor
    · rintro ⟨j, hj, h1, h2⟩
      have hm := (hV.2 _ (getD_mem hj)).m
      refine ⟨_, getD_mem hj, h1, ?_⟩
      rw [offR_eq hV.1.a (by omega), h2]
    · rintro ⟨m, hm, h1, h2⟩
      obtain ⟨j, hj, rfl⟩ := mem_get hm
      have hmm := (hV.2 _ hm).m
      have ho := offR_in hV.1.a hV.1.b hV.1.n (by omega) (nP_wi h1)
      refine ⟨j, hj, h1, ?_⟩
      rw [← offR_eq hV.1.a (by omega)]
      omega
  by_cases q : k ∈ kI r l n l.length
  · rw [if_pos q, key.1 q]; rfl
  · rw [if_neg q, show tkN r l n l.length k.toNat = false by rw [← Bool.not_eq_true]; exact fun h => q (key.2 h)]; rfl
theorem g44_at {r : Ru} {l : List Mv} {n : Int} (h0 : chkMR r l = 0) (hn : 0 ≤ n ∧ n ≤ 100000) : e44 r l n = 0 ∧ g44 r l n = ((rB (tkN r l n l.length) (offM r.a r.b).toNat).1, (rB (tkN r l n l.length) (offM r.a r.b).toNat).2.1) := by
  have hz : e44 r l n = 0 := by unfold e44; rw [h0, within_z hn]; rfl
  have hV := (mv_ok h0).2.1
  refine ⟨hz, ?_⟩
  rw [← re_eq n hV.1 hV.2]
  exact if_neg (by rw [hz]; decide)
theorem g44_hv {r : Ru} {l : List Mv} {n : Int} (h0 : chkMR r l = 0) (hn : 0 ≤ n ∧ n ≤ 100000) : e44 r (hvL r l n l.length) n = 0 ∧ g44 r (hvL r l n l.length) n = g44 r l n := by
  rw [hv_filter]
  have h1 := g44_at (chk_filter h0 (nP r n)) hn
  have h2 := g44_at h0 hn
  refine ⟨h1.1, ?_⟩
  rw [h1.2, h2.2, rB_congr (tk := tkN r (l.filter (nP r n)) n (l.filter (nP r n)).length) (tk' := tkN r l n l.length)]
  intro t _
  rw [Bool.eq_iff_iff, tkN_iff, tkN_iff]
  constructor
  · rintro ⟨m, hm, h⟩
    exact ⟨m, (List.mem_filter.1 hm).1, h⟩
  · rintro ⟨m, hm, h3, h4⟩
    exact ⟨m, List.mem_filter.2 ⟨hm, h3⟩, h3, h4⟩
theorem c44g {r : Ru} {l : List Mv} {n : Int} (hS : Sh r l) (h0 : chkMR r l = 0) (hn : 0 ≤ n ∧ n ≤ 100000) : PCall Tryz.prog G0 44 [.agg (encRu r), .sl 5 (l.map encMv), .i n] (.tup [.agg [.i (g44 r l n).1, .i (g44 r l n).2], .i 0]) := by
  have := c44 r l n hS
  rw [(g44_at h0 hn).1] at this
  exact this
theorem c44h {r : Ru} {l : List Mv} {n : Int} (hS : Sh r l) (h0 : chkMR r l = 0) (hn : 0 ≤ n ∧ n ≤ 100000) : PCall Tryz.prog G0 44 [.agg (encRu r), .sl 5 ((hvL r l n l.length).map encMv), .i n] (.tup [.agg [.i (g44 r l n).1, .i (g44 r l n).2], .i 0]) := by
  have h := g44_hv h0 hn
  have := c44 r (hvL r l n l.length) n (by rw [hv_filter]; exact sh_filter hS _)
  rw [h.1, h.2] at this
  exact this
def sp12 (r : Ru) (l : List Mv) (nb : Int) : Nat → List AV → Option AV
  | 16, _ => some (.bool true)
  | 17, _ => some (.bool (shR r))
  | 30, _ => some (.bool (shM l))
  | 21, _ => some (.agg (encRu r))
  | 32, [.sl _ rows] => some (.sl 5 rows)
  | 36, _ => some (.i (chkMR r l))
  | 19, [.agg [.int _ a, .int _ b]] => some (.tup [.i (offM a b), .i 0])
  | 20, [_, .int _ d, .int _ m] => some (.tup [.i (if wiR r.a r.b m = true then niI r.a r.b d m else 0), .i (if wiR r.a r.b m = true then 0 else 7)])
  | 44, _ => some (.tup [.agg [.i (g44 r l nb).1, .i (g44 r l nb).2], .i 0])
  | n, w => spS n w
def la12 (r : Ru) (l : List Mv) (nb : Int) (b : Nat) : Option LA :=
  let B : List (Nat × AV) := [(3, .elt 18 [encRu r] 0 0), (8, .i nb), (10, .elt 2 [[.i (g44 r l nb).1, .i (g44 r l nb).2]] 0 0), (12, .i (offM r.a r.b)), (14, .ref 2)]
  if b.beq 0 then
    let ks := [3, 8, 10, 12, 14, 15, 116, 117, 118]
    some { pre := [.own 15 64 5, .reno 15 1, .ren 45 2, .keep ks [1, 2], .bound 3], post := [.reno 15 1, .keep ks [1, 2], .bound 3]
           Gh := Nat
           st := fun i => ⟨B ++ [(15, .own 1 ((hvL r l nb i).map encMv).length), (116, .sl 5 (l.map encMv)), (117, .i (l.map encMv).length), (118, .i i)], [(1, .buf 64 5 ((hvL r l nb i).map encMv)), (2, .map ((kI r l nb i).map eI))], 3⟩
           ok := fun i => i ≤ (l.map encMv).length
           ms := fun i => (l.map encMv).length - i }
  else
    let K : List GS := [.keep [3, 8, 10, 12, 14, 15, 21, 156, 157] [2], .bound 3]
    some { pre := K, post := K
           Gh := Nat
           st := fun i => ⟨B ++ [(15, .sl 5 ((hvL r l nb l.length).map encMv)), (21, .i (i - (rB (tkN r l nb l.length) i).2.2)), (156, .i (offM r.a r.b)), (157, .i i)], [(2, .map ((kI r l nb l.length).map eI))], 3⟩
           ok := fun i => i ≤ (offM r.a r.b).toNat
           ms := fun i => (offM r.a r.b).toNat - i }
def rdO (tk : Nat → Bool) : BL → List AV → Option AV := fun _ ins => match ins with
  | [.ref _, .int _ k] => some (.bool (tk k.toNat))
  | _ => none
def B12 (r : Ru) (l : List Mv) (n0 nb : Int) : BA :=
  { modA 28 2 (fun a => { a with rdb := rdO (tkN r l nb l.length) }) (modA 36 14 (fun a => { a with rdb := rdO (tkN r l nb l.length) }) (modA 36 26 (fun a => { a with rdb := rdO (tkN r l nb l.length) }) (gsB (fun i => if i.beq 25 then [.frzo 15] else []) (noSyms [9, 39] (fzB (mkB (sp12 r l nb) 12 (lits false [(9, 5), (9, 10), (9, 17), (9, 23), (29, 9), (33, 6), (36, 30)] ++ lits true [(39, 6)] ++
      [(3, 2, fun _ => some (.i n0)), (3, 7, fun _ => some (.agg (encMv (At0 l n0)))), (15, 1, rdL 5 encMv l 5 true)]) (la12 r l nb))))))) with
    cl := clL [114, 172, 181, 213] }
def m12 (r : Ru) (l : List Mv) (nb : Int) : List (Option (List GS × AS)) :=
  [none, none, none, none, none, none, md [] [(1, .sl 5 (l.map encMv)), (3, .elt 18 [encRu r] 0 0), (8, .i nb)]]
theorem sh_g2 {r : Ru} {l : List Mv} {c d : Bool} (h : (!if (if (if (!shR r) = true then true else !shM l) = true then true else c) = true then true else d) = true) : Sh r l := by
  obtain ⟨h1, h2⟩ := or_f (or_f (or_f (nor_t h)).1).1
  exact sh_mv (by simpa using h1) (by simpa using h2)
theorem ni_in {r : Ru} {m : Mv} (h : MvOK r m) : 0 ≤ nbI r m ∧ nbI r m ≤ 100000 := by
  have h1 := ni_bd (a := r.a) (b := r.b) (day := m.day) (m := m.mi)
  have h2 := h.d
  unfold nbI
  split <;> omega
theorem ends12 {tk : Nat → Bool} {L : Nat} {o : Int} (ho : (L : Int) = o) {g1 g2 : Int} (e1 : g1 = (rB tk L).1) (e2 : g2 = (rB tk L).2.1) :
    (if decide (g2 > g1) = true then (if (if decide (g1 > 0) = true then !tk (g1 - 1).toNat else false) = true then true else (if decide (g2 < o) = true then !tk g2.toNat else false)) else false) = false := by
  obtain ⟨-, -, -, h4, h5, -⟩ := rB_inv tk L
  subst e1 e2
  by_cases q : (rB tk L).2.1 > (rB tk L).1
  · rw [if_pos (decide_eq_true q)]
    have a1 : (if decide ((rB tk L).1 > 0) = true then !tk ((rB tk L).1 - 1).toNat else false) = false := by
      by_cases q1 : (rB tk L).1 > 0
      · rw [if_pos (decide_eq_true q1)]
        rcases h4 q with h | ⟨t, h, ht⟩
        · omega
        · rw [show ((rB tk L).1 - 1).toNat = t by omega, ht]; rfl
      · rw [if_neg (by simpa using q1)]
    have a2 : (if decide ((rB tk L).2.1 < o) = true then !tk (rB tk L).2.1.toNat else false) = false := by
      by_cases q1 : (rB tk L).2.1 < o
      · rw [if_pos (decide_eq_true q1)]
        rcases h5 q with ⟨h, -⟩ | ⟨t, h, -, ht⟩
        · omega
        · rw [show (rB tk L).2.1.toNat = t by omega, ht]; rfl
      · rw [if_neg (by simpa using q1)]
    rw [a1, a2]
    rfl
  · rw [if_neg (by simpa using q)]
theorem c12 (r : Ru) (l : List Mv) (n0 nb : Int) (hA : PCall Tryz.prog G0 16 [] (.bool true)) (hl : r.ts.length ≤ maxLen) (hm : r.rs.length ≤ maxLen) (hn : l.length ≤ maxLen) (hn0 : 0 ≤ n0 ∧ n0 ≤ 255) (hnb : nb = nbI r (At0 l n0)) : PCall Tryz.prog G0 12 [.agg (encRu r), .sl 5 (l.map encMv), .int .u8 n0] (.bool true) := by
  have key :
   (true = true → true = true) ∧ (true = true → true = true) ∧ (false = false → true = true) ∧ ((!!shR r) = true → (!!shR r) = true) ∧ ((!!shR r) = true → (!!shR r) = true) ∧ ((!shR r) = false → (!!shR r) = true) ∧ ((!if (!shR r) =
   true then true else !shM l) = true → (!if (!shR r) = true then true else !shM l) = true) ∧ ((!if (!shR r) = true then true else !shM l) = true → (!if (!shR r) = true then true else !shM l) = true) ∧ ((if (!shR r) = true then true
   else !shM l) = false → (!if (!shR r) = true then true else !shM l) = true) ∧ ((!if (if (!shR r) = true then true else !shM l) = true then true else decide ((↑(List.map encMv l).length : Int) > 12)) = true → (!if (if (!shR r) = true
   then true else !shM l) = true then true else decide ((↑(List.map encMv l).length : Int) > 12)) = true) ∧ ((!if (if (!shR r) = true then true else !shM l) = true then true else decide ((↑(List.map encMv l).length : Int) > 12)) =
   true → (!if (if (!shR r) = true then true else !shM l) = true then true else decide ((↑(List.map encMv l).length : Int) > 12)) = true) ∧ ((if (if (!shR r) = true then true else !shM l) = true then true else decide ((↑(List.map
   encMv l).length : Int) > 12)) = false → (!if (if (!shR r) = true then true else !shM l) = true then true else decide ((↑(List.map encMv l).length : Int) > 12)) = true) ∧ ((!if (if (if (!shR r) = true then true else !shM l) = true
   then true else decide ((↑(List.map encMv l).length : Int) > 12)) = true then true else (↑(List.map encMv l).length : Int) == 0) = true → (!if (if (if (!shR r) = true then true else !shM l) = true then true else decide ((↑(List.map
   encMv l).length : Int) > 12)) = true then true else (↑(List.map encMv l).length : Int) == 0) = true) ∧ ((!if (if (if (!shR r) = true then true else !shM l) = true then true else decide ((↑(List.map encMv l).length : Int) > 12)) =
   true then true else (↑(List.map encMv l).length : Int) == 0) = true → (!if (if (if (!shR r) = true then true else !shM l) = true then true else decide ((↑(List.map encMv l).length : Int) > 12)) = true then true else (↑(List.map
   encMv l).length : Int) == 0) = true) ∧ ((!if (if (if (!shR r) = true then true else !shM l) = true then true else decide ((↑(List.map encMv l).length : Int) > 12)) = true then true else (↑(List.map encMv l).length : Int) == 0) =
   true → (!if (if (if (!shR r) = true then true else !shM l) = true then true else decide ((↑(List.map encMv l).length : Int) > 12)) = true then true else (↑(List.map encMv l).length : Int) == 0) = true) ∧ ((if (if (if (!shR r) =
   true then true else !shM l) = true then true else decide ((↑(List.map encMv l).length : Int) > 12)) = true then true else (↑(List.map encMv l).length : Int) == 0) = false → (!if (if (if (!shR r) = true then true else !shM l) = true
   then true else decide ((↑(List.map encMv l).length : Int) > 12)) = true then true else (↑(List.map encMv l).length : Int) == 0) = true) ∧ PCall Tryz.prog G0 16 [] (AV.bool true) ∧ PCall Tryz.prog G0 17 [AV.agg (encRu r)] (AV.bool
   (shR r)) ∧ impB (!!shR r) (PCall Tryz.prog G0 30 [AV.sl 5 (List.map encMv l)] (AV.bool (shM l))) ∧ impB (!if (if (if (!shR r) = true then true else !shM l) = true then true else decide ((↑(List.map encMv l).length : Int) > 12)) =
   true then true else (↑(List.map encMv l).length : Int) == 0) (PCall Tryz.prog G0 36 [AV.agg (encRu r), AV.sl 5 (List.map encMv l)] (AV.i (chkMR r l))) ∧ ((if (if (if (if (!shR r) = true then true else !shM l) = true then true else
   decide ((↑(List.map encMv l).length : Int) > 12)) = true then true else (↑(List.map encMv l).length : Int) == 0) = true then true else chkMR r l != 0) = true → PCall Tryz.prog G0 16 [] (AV.bool true) ∧ AV.bool true = AV.bool true)
   ∧ ((if (if (if (if (!shR r) = true then true else !shM l) = true then true else decide ((↑(List.map encMv l).length : Int) > 12)) = true then true else (↑(List.map encMv l).length : Int) == 0) = true then true else chkMR r l != 0)
   = false → ¬(↑(List.map encMv l).length : Int) = (0 : Int) ∧ (0 : Int) ≤ n0.tmod (↑(List.map encMv l).length : Int) ∧ n0.tmod (↑(List.map encMv l).length : Int) < (↑(List.map encMv l).length : Int) ∧ AV.i (IntKind.i64.wrap n0) =
   AV.i n0 ∧ AV.agg (nthR (List.map encMv l) (n0.tmod (↑(List.map encMv l).length : Int)).toNat) = AV.agg (encMv (At0 l n0)) ∧ PCall Tryz.prog G0 21 [AV.agg (encRu r)] (AV.agg (encRu r)) ∧ PCall Tryz.prog G0 20 [AV.agg (encRu r), AV.i
   (At0 l n0).day, AV.i (At0 l n0).mi] (AV.tup [AV.i (if wiR r.a r.b (At0 l n0).mi = true then niI r.a r.b (At0 l n0).day (At0 l n0).mi else (0 : Int)), AV.i (if wiR r.a r.b (At0 l n0).mi = true then (0 : Int) else (7 : Int))]) ∧
   ((((if wiR r.a r.b (At0 l n0).mi = true then (0 : Int) else (7 : Int)) != 0) = true → AS.mk [(1, AV.sl 5 (List.map encMv l)), (3, AV.elt 18 [(encRu r)] 0 0), (8, AV.i (At0 l n0).day)] [] 1 = AS.mk [(1, AV.sl 5 (List.map encMv l)),
   (3, AV.elt 18 [(encRu r)] 0 0), (8, AV.i nb)] [] 1) ∧ (((if wiR r.a r.b (At0 l n0).mi = true then (0 : Int) else (7 : Int)) != 0) = false → AS.mk [(1, AV.sl 5 (List.map encMv l)), (3, AV.elt 18 [(encRu r)] 0 0), (8, AV.i (if wiR
   r.a r.b (At0 l n0).mi = true then niI r.a r.b (At0 l n0).day (At0 l n0).mi else (0 : Int)))] [] 1 = AS.mk [(1, AV.sl 5 (List.map encMv l)), (3, AV.elt 18 [(encRu r)] 0 0), (8, AV.i nb)] [] 1)) ∧ PCall Tryz.prog G0 21 [AV.agg (encRu
   r)] (AV.agg (encRu r)) ∧ PCall Tryz.prog G0 32 [AV.sl 5 (List.map encMv l)] (AV.sl 5 (List.map encMv l)) ∧ PCall Tryz.prog G0 44 [AV.agg (encRu r), AV.sl 5 (List.map encMv l), AV.i nb] (AV.tup [AV.agg [AV.i (g44 r l nb).fst, AV.i
   (g44 r l nb).snd], AV.i 0]) ∧ PCall Tryz.prog G0 19 [AV.agg [AV.i r.a, AV.i r.b]] (AV.tup [AV.i (offM r.a r.b), AV.i 0]) ∧ AV.bool false = AV.bool false ∧ AV.bool (decide ((g44 r l nb).fst < 0)) = AV.bool false ∧ AV.bool (decide
   ((g44 r l nb).fst > (g44 r l nb).snd)) = AV.bool false ∧ AV.bool (decide ((g44 r l nb).snd > offM r.a r.b)) = AV.bool false ∧ (∃ (g : Nat), g ≤ (List.map encMv l).length ∧ AS.mk [(3, AV.elt 18 [(encRu r)] 0 0), (8, AV.i nb), (10,
   AV.elt 2 [[AV.i (g44 r l nb).fst, AV.i (g44 r l nb).snd]] 0 0), (12, AV.i (offM r.a r.b)), (14, AV.ref 2), (15, AV.own 1 0), (116, AV.sl 5 (List.map encMv l)), (117, AV.i (↑(List.map encMv l).length : Int)), (118, AV.i 0)] [(1,
   ABlk.buf 64 5 []), (2, ABlk.map [])] 3 = AS.mk [(3, AV.elt 18 [(encRu r)] 0 0), (8, AV.i nb), (10, AV.elt 2 [[AV.i (g44 r l nb).fst, AV.i (g44 r l nb).snd]] 0 0), (12, AV.i (offM r.a r.b)), (14, AV.ref 2), (15, AV.own 1 (List.map
   encMv (hvL r l nb g)).length), (116, AV.sl 5 (List.map encMv l)), (117, AV.i (↑(List.map encMv l).length : Int)), (118, AV.i (↑g : Int))] [(1, ABlk.buf 64 5 (List.map encMv (hvL r l nb g))), (2, ABlk.map (List.map eI (kI r l nb
   g)))] 3) ∧ ∀ (g : Nat), g ≤ (List.map encMv l).length → (decide ((↑g : Int) < (↑(List.map encMv l).length : Int)) = true → (0 : Int) ≤ (↑g : Int) ∧ (↑g : Int) < (↑(List.map encMv l).length : Int) ∧ AV.agg (nthR (List.map encMv l)
   (↑g : Int).toNat) = AV.agg (encMv (l.getD (↑g : Int).toNat default)) ∧ PCall Tryz.prog G0 21 [AV.agg (encRu r)] (AV.agg (encRu r)) ∧ PCall Tryz.prog G0 20 [AV.agg (encRu r), AV.i (l.getD (↑g : Int).toNat default).day, AV.i (l.getD
   (↑g : Int).toNat default).mi] (AV.tup [AV.i (if wiR r.a r.b (l.getD (↑g : Int).toNat default).mi = true then niI r.a r.b (l.getD (↑g : Int).toNat default).day (l.getD (↑g : Int).toNat default).mi else (0 : Int)), AV.i (if wiR r.a
   r.b (l.getD (↑g : Int).toNat default).mi = true then (0 : Int) else (7 : Int))]) ∧ ((!(if wiR r.a r.b (l.getD (↑g : Int).toNat default).mi = true then (0 : Int) else (7 : Int)) != 0) = true → (!(if wiR r.a r.b (l.getD (↑g :
   Int).toNat default).mi = true then (0 : Int) else (7 : Int)) != 0) = true) ∧ ((!(if wiR r.a r.b (l.getD (↑g : Int).toNat default).mi = true then (0 : Int) else (7 : Int)) != 0) = true → (!(if wiR r.a r.b (l.getD (↑g : Int).toNat
   default).mi = true then (0 : Int) else (7 : Int)) != 0) = true) ∧ (((if wiR r.a r.b (l.getD (↑g : Int).toNat default).mi = true then (0 : Int) else (7 : Int)) != 0) = false → (!(if wiR r.a r.b (l.getD (↑g : Int).toNat default).mi =
   true then (0 : Int) else (7 : Int)) != 0) = true) ∧ ((if ((if wiR r.a r.b (l.getD (↑g : Int).toNat default).mi = true then (0 : Int) else (7 : Int)) != 0) = true then true else (if wiR r.a r.b (l.getD (↑g : Int).toNat default).mi =
   true then niI r.a r.b (l.getD (↑g : Int).toNat default).day (l.getD (↑g : Int).toNat default).mi else (0 : Int)) != nb) = true → In64 ((↑g : Int) + 1) ∧ ∃ (g' : Nat), g' ≤ (List.map encMv l).length ∧ (List.map encMv l).length - g'
   < (List.map encMv l).length - g ∧ AS.mk [(3, AV.elt 18 [(encRu r)] 0 0), (8, AV.i nb), (10, AV.elt 2 [[AV.i (g44 r l nb).fst, AV.i (g44 r l nb).snd]] 0 0), (12, AV.i (offM r.a r.b)), (14, AV.ref 2), (15, AV.own 1 (List.map encMv
   (hvL r l nb g)).length), (116, AV.sl 5 (List.map encMv l)), (117, AV.i (↑(List.map encMv l).length : Int)), (118, AV.i ((↑g : Int) + 1))] [(1, ABlk.buf 64 5 (List.map encMv (hvL r l nb g))), (2, ABlk.map (List.map eI (kI r l nb
   g)))] 3 = AS.mk [(3, AV.elt 18 [(encRu r)] 0 0), (8, AV.i nb), (10, AV.elt 2 [[AV.i (g44 r l nb).fst, AV.i (g44 r l nb).snd]] 0 0), (12, AV.i (offM r.a r.b)), (14, AV.ref 2), (15, AV.own 1 (List.map encMv (hvL r l nb g')).length),
   (116, AV.sl 5 (List.map encMv l)), (117, AV.i (↑(List.map encMv l).length : Int)), (118, AV.i (↑g' : Int))] [(1, ABlk.buf 64 5 (List.map encMv (hvL r l nb g'))), (2, ABlk.map (List.map eI (kI r l nb g')))] 3) ∧ ((if ((if wiR r.a
   r.b (l.getD (↑g : Int).toNat default).mi = true then (0 : Int) else (7 : Int)) != 0) = true then true else (if wiR r.a r.b (l.getD (↑g : Int).toNat default).mi = true then niI r.a r.b (l.getD (↑g : Int).toNat default).day (l.getD
   (↑g : Int).toNat default).mi else (0 : Int)) != nb) = false → (List.map encMv (hvL r l nb g)).length + 1 ≤ 9223372036854775807 ∧ ((List.map encMv (hvL r l nb g)).length + 1) * 64 ≤ 140737488355328 ∧ In64 ((l.getD (↑g : Int).toNat
   default).mi - r.a) ∧ (decide ((l.getD (↑g : Int).toNat default).mi - r.a < 0) = true → In64 ((l.getD (↑g : Int).toNat default).mi - r.a + 1440) ∧ (mput (AV.i ((l.getD (↑g : Int).toNat default).mi - r.a + 1440)) (AV.bool true)
   (List.map eI (kI r l nb g))).isSome = true ∧ In64 ((↑g : Int) + 1) ∧ ∃ (g' : Nat), g' ≤ (List.map encMv l).length ∧ (List.map encMv l).length - g' < (List.map encMv l).length - g ∧ AS.mk [(3, AV.elt 18 [(encRu r)] 0 0), (8, AV.i
   nb), (10, AV.elt 2 [[AV.i (g44 r l nb).fst, AV.i (g44 r l nb).snd]] 0 0), (12, AV.i (offM r.a r.b)), (14, AV.ref 2), (15, AV.own 1 ((List.map encMv (hvL r l nb g)).length + 1)), (116, AV.sl 5 (List.map encMv l)), (117, AV.i
   (↑(List.map encMv l).length : Int)), (118, AV.i ((↑g : Int) + 1))] [(1, ABlk.buf 64 5 (List.map encMv (hvL r l nb g) ++ [(encMv (l.getD (↑g : Int).toNat default))])), (2, ABlk.map ((mput (AV.i ((l.getD (↑g : Int).toNat default).mi
   - r.a + 1440)) (AV.bool true) (List.map eI (kI r l nb g))).getD []))] 3 = AS.mk [(3, AV.elt 18 [(encRu r)] 0 0), (8, AV.i nb), (10, AV.elt 2 [[AV.i (g44 r l nb).fst, AV.i (g44 r l nb).snd]] 0 0), (12, AV.i (offM r.a r.b)), (14,
   AV.ref 2), (15, AV.own 1 (List.map encMv (hvL r l nb g')).length), (116, AV.sl 5 (List.map encMv l)), (117, AV.i (↑(List.map encMv l).length : Int)), (118, AV.i (↑g' : Int))] [(1, ABlk.buf 64 5 (List.map encMv (hvL r l nb g'))),
   (2, ABlk.map (List.map eI (kI r l nb g')))] 3) ∧ (decide ((l.getD (↑g : Int).toNat default).mi - r.a < 0) = false → (mput (AV.i ((l.getD (↑g : Int).toNat default).mi - r.a)) (AV.bool true) (List.map eI (kI r l nb g))).isSome = true
   ∧ In64 ((↑g : Int) + 1) ∧ ∃ (g' : Nat), g' ≤ (List.map encMv l).length ∧ (List.map encMv l).length - g' < (List.map encMv l).length - g ∧ AS.mk [(3, AV.elt 18 [(encRu r)] 0 0), (8, AV.i nb), (10, AV.elt 2 [[AV.i (g44 r l nb).fst,
   AV.i (g44 r l nb).snd]] 0 0), (12, AV.i (offM r.a r.b)), (14, AV.ref 2), (15, AV.own 1 ((List.map encMv (hvL r l nb g)).length + 1)), (116, AV.sl 5 (List.map encMv l)), (117, AV.i (↑(List.map encMv l).length : Int)), (118, AV.i
   ((↑g : Int) + 1))] [(1, ABlk.buf 64 5 (List.map encMv (hvL r l nb g) ++ [(encMv (l.getD (↑g : Int).toNat default))])), (2, ABlk.map ((mput (AV.i ((l.getD (↑g : Int).toNat default).mi - r.a)) (AV.bool true) (List.map eI (kI r l nb
   g))).getD []))] 3 = AS.mk [(3, AV.elt 18 [(encRu r)] 0 0), (8, AV.i nb), (10, AV.elt 2 [[AV.i (g44 r l nb).fst, AV.i (g44 r l nb).snd]] 0 0), (12, AV.i (offM r.a r.b)), (14, AV.ref 2), (15, AV.own 1 (List.map encMv (hvL r l nb
   g')).length), (116, AV.sl 5 (List.map encMv l)), (117, AV.i (↑(List.map encMv l).length : Int)), (118, AV.i (↑g' : Int))] [(1, ABlk.buf 64 5 (List.map encMv (hvL r l nb g'))), (2, ABlk.map (List.map eI (kI r l nb g')))] 3))) ∧
   (decide ((↑g : Int) < (↑(List.map encMv l).length : Int)) = false → (∃ (g_1 : Nat), g_1 ≤ (offM r.a r.b).toNat ∧ AS.mk [(3, AV.elt 18 [(encRu r)] 0 0), (8, AV.i nb), (10, AV.elt 2 [[AV.i (g44 r l nb).fst, AV.i (g44 r l nb).snd]] 0
   0), (12, AV.i (offM r.a r.b)), (14, AV.ref 2), (15, AV.sl 5 (List.map encMv (hvL r l nb g))), (21, AV.i 0), (156, AV.i (offM r.a r.b)), (157, AV.i 0)] [(2, ABlk.map (List.map eI (kI r l nb g)))] 3 = AS.mk [(3, AV.elt 18 [(encRu r)]
   0 0), (8, AV.i nb), (10, AV.elt 2 [[AV.i (g44 r l nb).fst, AV.i (g44 r l nb).snd]] 0 0), (12, AV.i (offM r.a r.b)), (14, AV.ref 2), (15, AV.sl 5 (List.map encMv (hvL r l nb l.length))), (21, AV.i ((↑g_1 : Int) - (rB (tkN r l nb
   l.length) g_1).snd.snd)), (156, AV.i (offM r.a r.b)), (157, AV.i (↑g_1 : Int))] [(2, ABlk.map (List.map eI (kI r l nb l.length)))] 3) ∧ ∀ (g : Nat), g ≤ (offM r.a r.b).toNat → (decide ((↑g : Int) < offM r.a r.b) = true → (mlook
   (AV.i (↑g : Int)) (List.map eI (kI r l nb l.length))).isSome = true ∧ lookV false (AV.bool false) (mlook (AV.i (↑g : Int)) (List.map eI (kI r l nb l.length))) = AV.bool (tkN r l nb l.length (↑g : Int).toNat) ∧ (tkN r l nb l.length
   (↑g : Int).toNat = true → (decide ((↑g : Int) ≥ (g44 r l nb).fst) = true → decide ((↑g : Int) ≥ (g44 r l nb).fst) = true) ∧ (decide ((↑g : Int) ≥ (g44 r l nb).fst) = true → decide ((↑g : Int) ≥ (g44 r l nb).fst) = true) ∧ (decide
   ((↑g : Int) ≥ (g44 r l nb).fst) = true → decide ((↑g : Int) ≥ (g44 r l nb).fst) = true) ∧ (decide ((↑g : Int) ≥ (g44 r l nb).fst) = true → decide ((↑g : Int) ≥ (g44 r l nb).fst) = true) ∧ AV.bool (if decide ((↑g : Int) ≥ (g44 r l
   nb).fst) = true then decide ((↑g : Int) < (g44 r l nb).snd) else false) = AV.bool false ∧ In64 ((↑g : Int) + 1) ∧ ∃ (g' : Nat), g' ≤ (offM r.a r.b).toNat ∧ (offM r.a r.b).toNat - g' < (offM r.a r.b).toNat - g ∧ AS.mk [(3, AV.elt 18
   [(encRu r)] 0 0), (8, AV.i nb), (10, AV.elt 2 [[AV.i (g44 r l nb).fst, AV.i (g44 r l nb).snd]] 0 0), (12, AV.i (offM r.a r.b)), (14, AV.ref 2), (15, AV.sl 5 (List.map encMv (hvL r l nb l.length))), (21, AV.i 0), (156, AV.i (offM
   r.a r.b)), (157, AV.i ((↑g : Int) + 1))] [(2, ABlk.map (List.map eI (kI r l nb l.length)))] 3 = AS.mk [(3, AV.elt 18 [(encRu r)] 0 0), (8, AV.i nb), (10, AV.elt 2 [[AV.i (g44 r l nb).fst, AV.i (g44 r l nb).snd]] 0 0), (12, AV.i
   (offM r.a r.b)), (14, AV.ref 2), (15, AV.sl 5 (List.map encMv (hvL r l nb l.length))), (21, AV.i ((↑g' : Int) - (rB (tkN r l nb l.length) g').snd.snd)), (156, AV.i (offM r.a r.b)), (157, AV.i (↑g' : Int))] [(2, ABlk.map (List.map
   eI (kI r l nb l.length)))] 3) ∧ (tkN r l nb l.length (↑g : Int).toNat = false → In64 ((↑g : Int) - (rB (tkN r l nb l.length) g).snd.snd + 1) ∧ In64 ((g44 r l nb).snd - (g44 r l nb).fst) ∧ AV.bool (decide ((↑g : Int) - (rB (tkN r l
   nb l.length) g).snd.snd + 1 > (g44 r l nb).snd - (g44 r l nb).fst)) = AV.bool false ∧ In64 ((↑g : Int) + 1) ∧ ∃ (g' : Nat), g' ≤ (offM r.a r.b).toNat ∧ (offM r.a r.b).toNat - g' < (offM r.a r.b).toNat - g ∧ AS.mk [(3, AV.elt 18
   [(encRu r)] 0 0), (8, AV.i nb), (10, AV.elt 2 [[AV.i (g44 r l nb).fst, AV.i (g44 r l nb).snd]] 0 0), (12, AV.i (offM r.a r.b)), (14, AV.ref 2), (15, AV.sl 5 (List.map encMv (hvL r l nb l.length))), (21, AV.i ((↑g : Int) - (rB (tkN
   r l nb l.length) g).snd.snd + 1)), (156, AV.i (offM r.a r.b)), (157, AV.i ((↑g : Int) + 1))] [(2, ABlk.map (List.map eI (kI r l nb l.length)))] 3 = AS.mk [(3, AV.elt 18 [(encRu r)] 0 0), (8, AV.i nb), (10, AV.elt 2 [[AV.i (g44 r l
   nb).fst, AV.i (g44 r l nb).snd]] 0 0), (12, AV.i (offM r.a r.b)), (14, AV.ref 2), (15, AV.sl 5 (List.map encMv (hvL r l nb l.length))), (21, AV.i ((↑g' : Int) - (rB (tkN r l nb l.length) g').snd.snd)), (156, AV.i (offM r.a r.b)),
   (157, AV.i (↑g' : Int))] [(2, ABlk.map (List.map eI (kI r l nb l.length)))] 3)) ∧ (decide ((↑g : Int) < offM r.a r.b) = false → (decide ((g44 r l nb).snd > (g44 r l nb).fst) = true → decide ((g44 r l nb).snd > (g44 r l nb).fst) =
   true) ∧ (decide ((g44 r l nb).snd > (g44 r l nb).fst) = true → decide ((g44 r l nb).snd > (g44 r l nb).fst) = true) ∧ (decide ((g44 r l nb).snd > (g44 r l nb).fst) = true → decide ((g44 r l nb).snd > (g44 r l nb).fst) = true) ∧
   ((decide ((g44 r l nb).snd > (g44 r l nb).fst) && decide ((g44 r l nb).fst > 0)) = true → (decide ((g44 r l nb).snd > (g44 r l nb).fst) && decide ((g44 r l nb).fst > 0)) = true) ∧ ((decide ((g44 r l nb).snd > (g44 r l nb).fst) &&
   decide ((g44 r l nb).fst > 0)) = true → (decide ((g44 r l nb).snd > (g44 r l nb).fst) && decide ((g44 r l nb).fst > 0)) = true) ∧ ((decide ((g44 r l nb).snd > (g44 r l nb).fst) && decide ((g44 r l nb).fst > 0)) = true → In64 ((g44
   r l nb).fst - 1)) ∧ ((decide ((g44 r l nb).snd > (g44 r l nb).fst) && decide ((g44 r l nb).fst > 0)) = true → (decide ((g44 r l nb).snd > (g44 r l nb).fst) && decide ((g44 r l nb).fst > 0)) = true) ∧ ((decide ((g44 r l nb).snd >
   (g44 r l nb).fst) && decide ((g44 r l nb).fst > 0)) = true → (decide ((g44 r l nb).snd > (g44 r l nb).fst) && decide ((g44 r l nb).fst > 0)) = true) ∧ ((decide ((g44 r l nb).snd > (g44 r l nb).fst) && decide ((g44 r l nb).fst > 0))
   = true → (mlook (AV.i ((g44 r l nb).fst - 1)) (List.map eI (kI r l nb l.length))).isSome = true) ∧ ((decide ((g44 r l nb).snd > (g44 r l nb).fst) && decide ((g44 r l nb).fst > 0)) = true → (decide ((g44 r l nb).snd > (g44 r l
   nb).fst) && decide ((g44 r l nb).fst > 0)) = true) ∧ (decide ((g44 r l nb).snd > (g44 r l nb).fst) = true → decide ((g44 r l nb).snd > (g44 r l nb).fst) = true) ∧ (decide ((g44 r l nb).snd > (g44 r l nb).fst) = true → decide ((g44
   r l nb).fst > 0) = true → (decide ((g44 r l nb).snd > (g44 r l nb).fst) && decide ((g44 r l nb).fst > 0)) = true) ∧ (decide ((g44 r l nb).snd > (g44 r l nb).fst) = true → decide ((g44 r l nb).snd > (g44 r l nb).fst) = true) ∧
   ((decide ((g44 r l nb).snd > (g44 r l nb).fst) && !if decide ((g44 r l nb).fst > 0) = true then !tkN r l nb l.length ((g44 r l nb).fst - 1).toNat else false) = true → (decide ((g44 r l nb).snd > (g44 r l nb).fst) && !if decide
   ((g44 r l nb).fst > 0) = true then !tkN r l nb l.length ((g44 r l nb).fst - 1).toNat else false) = true) ∧ ((decide ((g44 r l nb).snd > (g44 r l nb).fst) && !if decide ((g44 r l nb).fst > 0) = true then !tkN r l nb l.length ((g44 r
   l nb).fst - 1).toNat else false) = true → (decide ((g44 r l nb).snd > (g44 r l nb).fst) && !if decide ((g44 r l nb).fst > 0) = true then !tkN r l nb l.length ((g44 r l nb).fst - 1).toNat else false) = true) ∧ ((decide ((g44 r l
   nb).snd > (g44 r l nb).fst) && !if decide ((g44 r l nb).fst > 0) = true then !tkN r l nb l.length ((g44 r l nb).fst - 1).toNat else false) = true → (decide ((g44 r l nb).snd > (g44 r l nb).fst) && !if decide ((g44 r l nb).fst > 0)
   = true then !tkN r l nb l.length ((g44 r l nb).fst - 1).toNat else false) = true) ∧ ((decide ((g44 r l nb).snd > (g44 r l nb).fst) && !if decide ((g44 r l nb).fst > 0) = true then !tkN r l nb l.length ((g44 r l nb).fst - 1).toNat
   else false) = true → (decide ((g44 r l nb).snd > (g44 r l nb).fst) && !if decide ((g44 r l nb).fst > 0) = true then !tkN r l nb l.length ((g44 r l nb).fst - 1).toNat else false) = true) ∧ (((decide ((g44 r l nb).snd > (g44 r l
   nb).fst) && !if decide ((g44 r l nb).fst > 0) = true then !tkN r l nb l.length ((g44 r l nb).fst - 1).toNat else false) && decide ((g44 r l nb).snd < offM r.a r.b)) = true → ((decide ((g44 r l nb).snd > (g44 r l nb).fst) && !if
   decide ((g44 r l nb).fst > 0) = true then !tkN r l nb l.length ((g44 r l nb).fst - 1).toNat else false) && decide ((g44 r l nb).snd < offM r.a r.b)) = true) ∧ (((decide ((g44 r l nb).snd > (g44 r l nb).fst) && !if decide ((g44 r l
   nb).fst > 0) = true then !tkN r l nb l.length ((g44 r l nb).fst - 1).toNat else false) && decide ((g44 r l nb).snd < offM r.a r.b)) = true → ((decide ((g44 r l nb).snd > (g44 r l nb).fst) && !if decide ((g44 r l nb).fst > 0) = true
   then !tkN r l nb l.length ((g44 r l nb).fst - 1).toNat else false) && decide ((g44 r l nb).snd < offM r.a r.b)) = true) ∧ (((decide ((g44 r l nb).snd > (g44 r l nb).fst) && !if decide ((g44 r l nb).fst > 0) = true then !tkN r l nb
   l.length ((g44 r l nb).fst - 1).toNat else false) && decide ((g44 r l nb).snd < offM r.a r.b)) = true → ((decide ((g44 r l nb).snd > (g44 r l nb).fst) && !if decide ((g44 r l nb).fst > 0) = true then !tkN r l nb l.length ((g44 r l
   nb).fst - 1).toNat else false) && decide ((g44 r l nb).snd < offM r.a r.b)) = true) ∧ (((decide ((g44 r l nb).snd > (g44 r l nb).fst) && !if decide ((g44 r l nb).fst > 0) = true then !tkN r l nb l.length ((g44 r l nb).fst -
   1).toNat else false) && decide ((g44 r l nb).snd < offM r.a r.b)) = true → (mlook (AV.i (g44 r l nb).snd) (List.map eI (kI r l nb l.length))).isSome = true) ∧ (((decide ((g44 r l nb).snd > (g44 r l nb).fst) && !if decide ((g44 r l
   nb).fst > 0) = true then !tkN r l nb l.length ((g44 r l nb).fst - 1).toNat else false) && decide ((g44 r l nb).snd < offM r.a r.b)) = true → ((decide ((g44 r l nb).snd > (g44 r l nb).fst) && !if decide ((g44 r l nb).fst > 0) = true
   then !tkN r l nb l.length ((g44 r l nb).fst - 1).toNat else false) && decide ((g44 r l nb).snd < offM r.a r.b)) = true) ∧ ((decide ((g44 r l nb).snd > (g44 r l nb).fst) && !if decide ((g44 r l nb).fst > 0) = true then !tkN r l nb
   l.length ((g44 r l nb).fst - 1).toNat else false) = true → (decide ((g44 r l nb).snd > (g44 r l nb).fst) && !if decide ((g44 r l nb).fst > 0) = true then !tkN r l nb l.length ((g44 r l nb).fst - 1).toNat else false) = true) ∧
   ((decide ((g44 r l nb).snd > (g44 r l nb).fst) && !if decide ((g44 r l nb).fst > 0) = true then !tkN r l nb l.length ((g44 r l nb).fst - 1).toNat else false) = true → decide ((g44 r l nb).snd < offM r.a r.b) = true → ((decide ((g44
   r l nb).snd > (g44 r l nb).fst) && !if decide ((g44 r l nb).fst > 0) = true then !tkN r l nb l.length ((g44 r l nb).fst - 1).toNat else false) && decide ((g44 r l nb).snd < offM r.a r.b)) = true) ∧ (decide ((g44 r l nb).snd > (g44
   r l nb).fst) = true → decide ((g44 r l nb).snd > (g44 r l nb).fst) = true) ∧ (decide ((g44 r l nb).snd > (g44 r l nb).fst) = true → (if decide ((g44 r l nb).fst > 0) = true then !tkN r l nb l.length ((g44 r l nb).fst - 1).toNat
   else false) = false → (decide ((g44 r l nb).snd > (g44 r l nb).fst) && !if decide ((g44 r l nb).fst > 0) = true then !tkN r l nb l.length ((g44 r l nb).fst - 1).toNat else false) = true) ∧ (decide ((g44 r l nb).snd > (g44 r l
   nb).fst) = true → decide ((g44 r l nb).snd > (g44 r l nb).fst) = true) ∧ impB (decide ((g44 r l nb).snd > (g44 r l nb).fst) && decide ((g44 r l nb).fst > 0)) (lookV false (AV.bool false) (mlook (AV.i ((g44 r l nb).fst - 1))
   (List.map eI (kI r l nb l.length))) = AV.bool (tkN r l nb l.length ((g44 r l nb).fst - 1).toNat)) ∧ impB ((decide ((g44 r l nb).snd > (g44 r l nb).fst) && !if decide ((g44 r l nb).fst > 0) = true then !tkN r l nb l.length ((g44 r l
   nb).fst - 1).toNat else false) && decide ((g44 r l nb).snd < offM r.a r.b)) (lookV false (AV.bool false) (mlook (AV.i (g44 r l nb).snd) (List.map eI (kI r l nb l.length))) = AV.bool (tkN r l nb l.length (g44 r l nb).snd.toNat)) ∧
   AV.bool (if decide ((g44 r l nb).snd > (g44 r l nb).fst) = true then if (if decide ((g44 r l nb).fst > 0) = true then !tkN r l nb l.length ((g44 r l nb).fst - 1).toNat else false) = true then true else if decide ((g44 r l nb).snd <
   offM r.a r.b) = true then !tkN r l nb l.length (g44 r l nb).snd.toNat else false else false) = AV.bool false ∧ PCall Tryz.prog G0 21 [AV.agg (encRu r)] (AV.agg (encRu r)) ∧ PCall Tryz.prog G0 32 [AV.sl 5 (List.map encMv (hvL r l nb
   l.length))] (AV.sl 5 (List.map encMv (hvL r l nb l.length))) ∧ PCall Tryz.prog G0 44 [AV.agg (encRu r), AV.sl 5 (List.map encMv (hvL r l nb l.length)), AV.i nb] (AV.tup [AV.agg [AV.i (g44 r l nb).fst, AV.i (g44 r l nb).snd], AV.i
   0]) ∧ AV.bool ((g44 r l nb).fst == (g44 r l nb).fst && true && ((g44 r l nb).snd == (g44 r l nb).snd && true && true)) = AV.bool true ∧ AV.bool true = AV.bool true))) := by
    have hlm : (List.map encMv l).length = l.length := List.length_map _
    have : (List.map encMv l).length = l.length := by simp only [List.length_map]
    refine ⟨fun h => h, fun h => h, fun h => by first | exact h | (rw [h]; rfl) | simp_all, fun h => h, fun h => h, fun h => by first | exact h | (rw [h]; rfl) | simp_all, fun h => h, fun h => h, fun h => by first | exact h | (rw [h]; rfl) | simp_all, fun h => h, fun h => h, fun h => by first | exact h | (rw [h]; rfl) | simp_all, fun h => h, fun h => h, fun h => h, fun h => by first | exact h | (rw [h]; rfl) | simp_all, hA, (c17 r hl hm), impB_iff.2 fun hb => (c30 l hn), impB_iff.2 fun hb => (c36s (sh_g2 hb)), fun h1 => ⟨hA, rfl⟩, fun h1 => ?_⟩
    · obtain ⟨hx, hx0⟩ := or_f h1
      obtain ⟨hx, hxe⟩ := or_f hx
      obtain ⟨hx, hx12⟩ := or_f hx
      obtain ⟨hx1, hx2⟩ := or_f hx
      have hS : Sh r l := sh_mv (by simpa using hx1) (by simpa using hx2)
      have h0 : chkMR r l = 0 := bne_f hx0
      have hV := (mv_ok h0).2.1
      have hR := hV.1
      have hlk := hS.k
      have hle : ¬ ((List.map encMv l).length : Int) = 0 := by simpa only [beq_eq_false_iff_ne, ne_eq] using hxe
      have ht0 : 0 ≤ n0.tmod ((List.map encMv l).length : Int) ∧ n0.tmod ((List.map encMv l).length : Int) < ((List.map encMv l).length : Int) := ⟨Int.tmod_nonneg _ hn0.1, Int.tmod_lt_of_pos _ (by omega)⟩
      have t1 : (n0.tmod (l.length : Int)).toNat < l.length := by have h := ht0; rw [List.length_map] at h; omega
      have hat := hV.2 _ (show At0 l n0 ∈ l from getD_mem t1)
      have hatd := hat.d
      have hnb2 : 0 ≤ nb ∧ nb ≤ 100000 := by rw [hnb]; exact ni_in hat
      have hg2 := g44_at h0 hnb2
      have hob := offM_bd hR.a hR.b
      have hG1 : (g44 r l nb).1 = (rB (tkN r l nb l.length) (offM r.a r.b).toNat).1 := by rw [hg2.2]
      have hG2 : (g44 r l nb).2 = (rB (tkN r l nb l.length) (offM r.a r.b).toNat).2.1 := by rw [hg2.2]
      have hGb := rB_bd (tkN r l nb l.length) (offM r.a r.b).toNat
      have hra := hR.a
      have hrb := hR.b
      refine ⟨(by omega), (by omega), (by omega), congrArg AV.i (wrap_in (by unfold In64; omega)), ?_, (c21 r hS.t hS.s), (c20v hS h0 hat.d hat.m), ⟨fun h2 => ?_, fun h2 => ?_⟩, (c21 r hS.t hS.s), ((c32 l hS.k).un), (c44g hS h0 hnb2), (c19v hR.a hR.b hR.n), rfl, congrArg AV.bool (decide_eq_false (by omega)), congrArg AV.bool (decide_eq_false (by omega)), congrArg AV.bool (decide_eq_false (by omega)), ⟨⟨0, by omega, rfl⟩, fun g hg => ⟨fun hd => ?_, fun hd => ?_⟩⟩⟩
      · rw [List.length_map, row_at encMv t1]
        rfl
      · subst hnb
        unfold nbI
        cases q : wiR r.a r.b (At0 l n0).mi with
        | true => rw [q] at h2; exact absurd h2 (by decide)
        | false => rfl
      · subst hnb
        unfold nbI
        cases q : wiR r.a r.b (At0 l n0).mi with
        | true => rfl
        | false => rw [q] at h2; exact absurd h2 (by decide)
      · have hlt : g < l.length := by have h9 := of_decide_eq_true hd; have h8 := hg; (try simp only [List.length_map] at h8); (try simp only [List.length_map] at h9); omega
        have hmm := (hV.2 _ (getD_mem hlt)).m
        have hoe := off_eq hR.a (show 0 ≤ (l.getD g default).mi ∧ (l.getD g default).mi < 1440 by omega)
        have hhl := hv_len r l nb g
        have hhl2 : (List.map encMv (hvL r l nb g)).length = (hvL r l nb g).length := List.length_map _
        try rw [show (↑g : Int).toNat = g from Int.toNat_natCast g]
        refine ⟨(by omega), (by omega), congrArg AV.agg (row_at encMv hlt), (c21 r hS.t hS.s), (c20v hS h0 (hV.2 _ (getD_mem hlt)).d (hV.2 _ (getD_mem hlt)).m), fun h => h, fun h => h, fun h => by first | exact h | (rw [h]; rfl) | simp_all, fun h2 => ?_, fun h2 => ?_⟩
        · have hp : nP r nb (l.getD g default) = false := by
            unfold nP
            cases q : wiR r.a r.b (l.getD g default).mi with
            | true =>
              have h9 := h2
              rw [q] at h9
              rw [if_pos rfl, beq_eq_false_iff_ne]
              simpa using h9
            | false => rfl
          refine ⟨(by unfold In64; omega), ⟨g + 1, by omega, by omega, ?_⟩⟩
          · rw [show hvL r l nb (g + 1) = hvL r l nb g from if_neg (by rw [hp]; decide), show kI r l nb (g + 1) = kI r l nb g from if_neg (by rw [hp]; decide)]
            rfl
        · have hp : nP r nb (l.getD g default) = true := by
            unfold nP
            cases q : wiR r.a r.b (l.getD g default).mi with
            | true =>
              have h9 := h2
              rw [q] at h9
              rw [if_pos rfl, beq_iff_eq]
              simpa using h9
            | false => have h9 := h2; rw [q] at h9; simp at h9
          refine ⟨(by omega), (by omega), (by unfold In64; omega), fun h3 => ?_, fun h3 => ?_⟩
          · have hk : (l.getD g default).mi - r.a + 1440 = offM r.a (l.getD g default).mi := by
              have h9 := of_decide_eq_true h3
              have := hoe.2 (by omega)
              omega
            refine ⟨(by unfold In64; omega), ?_, (by unfold In64; omega), ⟨g + 1, by omega, by omega, ?_⟩⟩
            · rw [put_eI]
              rfl
            · rw [hk, put_eI, show hvL r l nb (g + 1) = hvL r l nb g ++ [l.getD g default] from if_pos hp, show kI r l nb (g + 1) = (if offM r.a (l.getD g default).mi ∈ kI r l nb g then kI r l nb g else kI r l nb g ++ [offM r.a (l.getD g default).mi]) from if_pos hp, List.map_append, List.length_append]
              rfl
          · have hk : (l.getD g default).mi - r.a = offM r.a (l.getD g default).mi := by
              have h9 := of_decide_eq_false h3
              have := hoe.1 (by omega)
              omega
            refine ⟨?_, (by unfold In64; omega), ⟨g + 1, by omega, by omega, ?_⟩⟩
            · rw [put_eI]
              rfl
            · rw [hk, put_eI, show hvL r l nb (g + 1) = hvL r l nb g ++ [l.getD g default] from if_pos hp, show kI r l nb (g + 1) = (if offM r.a (l.getD g default).mi ∈ kI r l nb g then kI r l nb g else kI r l nb g ++ [offM r.a (l.getD g default).mi]) from if_pos hp, List.map_append, List.length_append]
              rfl
      · have hge : g = l.length := by have h9 := of_decide_eq_false hd; have h8 := hg; (try simp only [List.length_map] at h8); (try simp only [List.length_map] at h9); omega
        subst hge
        refine ⟨⟨0, by omega, rfl⟩, fun g hg2 => ⟨fun hd2 => ?_, fun hd2 => ?_⟩⟩
        · have hlt2 : g < (offM r.a r.b).toNat := by have h9 := of_decide_eq_true hd2; have h8 := hg2; (try simp only [List.length_map] at h8); (try simp only [List.length_map] at h9); omega
          have hrb2 := rB_bd (tkN r l nb l.length) g
          have hrb3 := rB_bd (tkN r l nb l.length) (g + 1)
          have hri := (rB_inv (tkN r l nb l.length) (g + 1)).2.2.2.2.2
          have hrm := rB_mono (tkN r l nb l.length) (show g + 1 ≤ (offM r.a r.b).toNat by omega)
          try rw [show (↑g : Int).toNat = g from Int.toNat_natCast g]
          refine ⟨?_, ?_, fun h2 => ?_, fun h2 => ?_⟩
          · rw [look_eI]
            rfl
          · exact look_tk hV (by omega)
          · have htk : tkN r l nb l.length g = true := h2
            have hfr : (rB (tkN r l nb l.length) (g + 1)).2.2 = (g : Int) + 1 := by rw [rB.eq_2, if_pos htk]
            refine ⟨fun h => h, fun h => h, fun h => h, fun h => h, ?_, (by unfold In64; omega), ⟨g + 1, by omega, by omega, ?_⟩⟩
            · refine congrArg AV.bool ?_
              by_cases q1 : (g : Int) ≥ (g44 r l nb).1
              · rw [if_pos (decide_eq_true q1)]
                refine decide_eq_false fun q2 => ?_
                rw [hG1] at q1
                rw [hG2] at q2
                have := (rB_inv (tkN r l nb l.length) (offM r.a r.b).toNat).1 (by omega) g q1 q2
                rw [htk] at this
                cases this
              · rw [if_neg (by simpa using q1)]
            · rw [hfr]
              first
                | rfl
                | (rw [show ((g + 1 : Nat) : Int) - (rB (tkN r l nb l.length) g).2.2 = (g : Int) - (rB (tkN r l nb l.length) g).2.2 + 1 by omega]; rfl)
                | (rw [show ((g + 1 : Nat) : Int) - ((g : Int) + 1) = 0 by omega]; rfl)
          · have htk : tkN r l nb l.length g = false := h2
            have hfr : (rB (tkN r l nb l.length) (g + 1)).2.2 = (rB (tkN r l nb l.length) g).2.2 := by
              rw [rB.eq_2, if_neg (by rw [htk]; decide)]
              split <;> rfl
            refine ⟨(by unfold In64; omega), (by unfold In64; omega), congrArg AV.bool (decide_eq_false (by omega)), (by unfold In64; omega), ⟨g + 1, by omega, by omega, ?_⟩⟩
            · rw [hfr]
              first
                | rfl
                | (rw [show ((g + 1 : Nat) : Int) - (rB (tkN r l nb l.length) g).2.2 = (g : Int) - (rB (tkN r l nb l.length) g).2.2 + 1 by omega]; rfl)
                | (rw [show ((g + 1 : Nat) : Int) - ((g : Int) + 1) = 0 by omega]; rfl)
        · have hge2 : g = (offM r.a r.b).toNat := by have h9 := of_decide_eq_false hd2; have h8 := hg2; (try simp only [List.length_map] at h8); (try simp only [List.length_map] at h9); omega
          subst hge2
          refine ⟨fun h => h, fun h => h, fun h => h, fun h => h, fun h => h, fun _ => by unfold In64; omega, fun h => h, fun h => h, ?_, fun h => h, fun h => h, fun h2 => fun h => by first | exact h | (rw [h]; rfl) | simp_all, fun h => h, fun h => h, fun h => h, fun h => h, fun h => h, fun h => h, fun h => h, fun h => h, ?_, fun h => h, fun h => h, fun h2 => fun h => by first | exact h | (rw [h]; rfl) | simp_all, fun h => h, fun h2 => fun h => by first | exact h | (rw [h]; rfl) | simp_all, fun h => h, impB_iff.2 fun hb => ?_, impB_iff.2 fun hb => ?_, congrArg AV.bool (ends12 (by omega) hG1 hG2), (c21 r hS.t hS.s), ((c32 _ (by have := hv_len r l nb l.length; omega)).un), (c44h hS h0 hnb2), ?_, rfl⟩
          · intro _
            rw [look_eI]
            rfl
          · intro _
            rw [look_eI]
            rfl
          · exact look_tk hV (by have h9 := hb; simp only [Bool.and_eq_true, decide_eq_true_eq] at h9; omega)
          · exact look_tk hV (by omega)
          · simp
  exact c_ofG Tryz.f12 (B12 r l n0 nb) (m12 r l nb) (by kernel_rfl) (by kernel_rfl) (by kernel_rfl) (by kernel_rfl) key (by kernel_rfl)
end Go.Proofs.YtimgfogakgakhaaGreatDoor
namespace Go.Proofs.YtimgfogakgakhaaGreatDoor
open Go Go.Av Go.RowKit Go.ChangeShapes Go.WideShapes
theorem jp0_12 : (Rows.nightRestsRow.inPlace == Tryz.prog.inPlace 12) = true := by kernel_rfl
theorem jp1_12 : (Rows.nightRestsRow.unfollowed == Tryz.prog.unfollowed 12) = true := by kernel_rfl
theorem jp2_12 : (Rows.nightRestsRow.recurses == Tryz.prog.recurses 12) = true := by kernel_rfl
theorem jp3_12 : (Rows.nightRestsRow.named == Tryz.prog.varsNamed 12) = true := by kernel_rfl
theorem jfacts_12 : joinedFacts Tryz.prog 12 Tryz.f12 Rows.nightRestsSpec Rows.nightRestsRow = true := by
  unfold joinedFacts
  rw [jp0_12, jp1_12, jp2_12, jp3_12]
  kernel_rfl
end Go.Proofs.YtimgfogakgakhaaGreatDoor
