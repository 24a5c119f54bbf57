/-
  What is read as data is what an abstract value says: the way from a row's reading to the contracts of this folder. No condition but the theorems' own. The abstract values of a type, cell by cell. No condition but the theorems' own.
-/
import Derived.Test.YtjhjmncjidbieaaGreatDoorAvC
import Derived.Carry
import Derived.MakeChecks
import Derived.OpenShut
import Derived.RowKit
import Derived.WideShapes
import Derived.Handed
namespace Go.Av
open Go Go.RowKit Go.ChangeShapes Go.WideShapes

def contig : List (Nat × Nat × Nat) → Nat → Nat → Bool
  | [], off, tot => off.beq tot
  | (o, _, s) :: l, off, tot => o.beq off && contig l (off + s) tot

def plainT (T : TT) : Nat → Nat → Bool
  | 0, _ => false
  | n + 1, t => match lk t T with
    | some ti => match ti.k with
      | .int _ | .bool | .str => ti.size.beq 1
      | .slice e es _ => plainT T n e && !(es.beq 0) && ti.size.beq 1
      | .arr m e es => plainT T n e && contig ((List.range m).map fun i => (i * es, e, es)) 0 ti.size
      | .struct fs => fs.all (fun f => plainT T n f.2.1) && contig fs 0 ti.size
      | _ => false
    | none => false

def plainF (T : TT) : Nat → Nat → Bool
  | 0, _ => false
  | n + 1, t => match lk t T with
    | some ti => match ti.k with
      | .int _ | .bool | .str => true
      | .arr _ e _ => plainF T n e
      | .struct fs => fs.all (fun f => plainF T n f.2.1)
      | _ => false
    | none => false

def ASh (T : TT) : Nat → Nat → List AV → Prop
  | 0, _, _ => False
  | n + 1, t, l => match lk t T with
    | some ti => match ti.k with
      | .int k => ∃ x, l = [.int k x] ∧ (Lit.int k x).wf = true
      | .bool => ∃ b, l = [.bool b]
      | .str => ∃ s, l = [.str s] ∧ s.length ≤ maxLen
      | .slice e es _ => ∃ rows, l = [.sl es rows] ∧ rows.length ≤ maxLen ∧ ∀ r, r ∈ rows → ASh T n e r
      | .arr m e es => l.length = ti.size ∧ ∀ i, i < m → ASh T n e ((l.drop (i * es)).take es)
      | .struct fs => l.length = ti.size ∧ ∀ f, f ∈ fs → ASh T n f.2.1 ((l.drop f.1).take f.2.2)
      | _ => False
    | none => False

def avD {H : Type} : Nat → DataW H → List AV
  | 0, _ => []
  | n + 1, d => match d with
    | .lit (.int k x) => [.int k x]
    | .lit (.bool b) => [.bool b]
    | .lit (.string s) => [.str s]
    | .agg ps => ps.flatMap (avD n)
    | _ => []

def NoX : Nat → Prop := fun _ => False

def RepL (w : World) (cs : List Value) (l : List AV) : Prop := l.length = cs.length ∧ ∀ (i : Nat) (c : Value), cs[i]? = some c → Rep NoX w c (nth l i) ∧ c.oneCell' = true

theorem RepL.nil {w : World} : RepL w [] [] := ⟨rfl, fun i c h => by simp at h⟩
theorem RepL.one {w : World} {c : Value} {a : AV} (h : Rep NoX w c a) (h1 : c.oneCell' = true) : RepL w [c] [a] := ⟨rfl, fun i c' hc => by
  match i, hc with
  | 0, hc => cases hc; exact ⟨h, h1⟩⟩
theorem RepL.append {w : World} {cs cs' : List Value} {l l' : List AV} (h : RepL w cs l) (h' : RepL w cs' l') : RepL w (cs ++ cs') (l ++ l') := by
  refine ⟨by simp [h.1, h'.1], fun i c hc => ?_⟩
  by_cases hi : i < cs.length
  · rw [List.getElem?_append_left hi] at hc
    have := h.2 i c hc
    rw [show nth (l ++ l') i = nth l i by simp [nth, List.getD_eq_getElem?_getD, List.getElem?_append_left (show i < l.length by rw [h.1]; exact hi)]]
    exact this
  · rw [List.getElem?_append_right (by omega)] at hc
    have := h'.2 (i - cs.length) c hc
    rw [show nth (l ++ l') i = nth l' (i - cs.length) by simp [nth, List.getD_eq_getElem?_getD, List.getElem?_append_right (show l.length ≤ i by rw [h.1]; omega), h.1]]
    exact this

theorem contig_le : ∀ {l : List (Nat × Nat × Nat)} {off tot : Nat}, contig l off tot = true → off ≤ tot
  | [], off, tot, h => Nat.le_of_eq (Nat.eq_of_beq_eq_true h)
  | (o, t, s) :: l, off, tot, h => by
    simp only [contig, Bool.and_eq_true] at h
    have := contig_le h.2
    omega
theorem contig_mem : ∀ {l : List (Nat × Nat × Nat)} {off tot : Nat}, contig l off tot = true → ∀ f, f ∈ l → off ≤ f.1 ∧ f.1 + f.2.2 ≤ tot
  | (o, t, s) :: l, off, tot, h, f, hf => by
    simp only [contig, Bool.and_eq_true] at h
    have e := Nat.eq_of_beq_eq_true h.1
    subst e
    rcases List.mem_cons.1 hf with rfl | hf
    · exact ⟨Nat.le_refl _, contig_le h.2⟩
    · have := contig_mem h.2 f hf
      omega

theorem segs_ok {H : Type} {Q : Nat → List AV → Prop} {w : World} {cs : List Value} {sl : Bool} {g : DataW H → List AV} : ∀ (L : List (Nat × Nat × Nat)) (ds : List (DataW H)) (off : Nat),
    (∀ (i : Nat) (s : Nat × Nat × Nat), L[i]? = some s → ∃ d l, ds[i]? = some d ∧ Q s.2.1 l ∧ RepL w ((cs.drop s.1).take s.2.2) l ∧ (sl = true → l = g d)) → ds.length = L.length →
    contig L off cs.length = true → ∃ l, (∀ s, s ∈ L → Q s.2.1 ((l.drop (s.1 - off)).take s.2.2)) ∧ RepL w (cs.drop off) l ∧ (sl = true → l = ds.flatMap g)
  | [], ds, off, _, hlen, hc => by
    have e := Nat.eq_of_beq_eq_true hc
    refine ⟨[], by simp, ?_, fun _ => ?_⟩
    · rw [List.drop_eq_nil_of_le (by omega)]
      exact RepL.nil
    · match ds, hlen with
      | [], _ => rfl
  | (o, t, s) :: L, ds, off, hL, hlen, hc => by
    match ds, hlen, hL with
    | d :: ds, hlen, hL =>
      have hc0 := hc
      simp only [contig, Bool.and_eq_true] at hc
      have e := Nat.eq_of_beq_eq_true hc.1
      subst e
      obtain ⟨d', l1, hd', hq1, hr1, hg1⟩ := hL 0 _ rfl
      simp only [List.getElem?_cons_zero, Option.some.injEq] at hd'
      subst hd'
      have hle := contig_le hc.2
      have hlen1 : l1.length = s := by
        rw [hr1.1, List.length_take, List.length_drop]
        show min s (cs.length - o) = s
        omega
      obtain ⟨l2, hq2, hr2, hg2⟩ := segs_ok L ds (o + s) (fun i x hx => hL (i + 1) x (by simpa using hx)) (by simpa using hlen) hc.2
      refine ⟨l1 ++ l2, fun x hx => ?_, ?_, fun hs => ?_⟩
      · rcases List.mem_cons.1 hx with rfl | hx
        · rw [Nat.sub_self, List.drop_zero]
          show Q t ((l1 ++ l2).take s)
          rw [← hlen1, List.take_left']
          · exact hq1
          · rfl
        · have := contig_mem hc.2 x hx
          have h2 := hq2 x hx
          rw [List.drop_append, List.drop_eq_nil_of_le (show l1.length ≤ x.1 - o by omega), List.nil_append, hlen1, show x.1 - o - s = x.1 - (o + s) by omega]
          exact h2
      · have e2 : cs.drop o = (cs.drop o).take s ++ cs.drop (o + s) := by
          rw [← List.drop_drop, List.take_append_drop]
        rw [e2]
        exact hr1.append hr2
      · rw [hg1 hs, hg2 hs]
        rfl

theorem cellsOf_of {P : Program} {t : Nat} {i : TypeInfo} (h : P.info? t = some i) : P.cellsOf t = i.size := by simp [Program.cellsOf, h]

theorem mapM_gets {α β : Type} {f : α → Option β} : ∀ {l : List α} {r : List β}, l.mapM f = some r → ∀ (i : Nat) (y : β), r[i]? = some y → ∃ x, l[i]? = some x ∧ f x = some y := by
  intro l r h i y hy
  have hlen := mapM_some_length h
  have hi : i < l.length := by
    have := (List.getElem?_eq_some_iff.1 hy).1
    omega
  refine ⟨l[i], by simp [hi], ?_⟩
  rw [mapM_some_get h i l[i] (by simp [hi]), hy]

theorem cells_get {w : World} {base : Nat} {a : Addr} {n : Nat} {cs : List Value} (h : w.cells? base a n = some cs) : cs.length = n ∧ ∀ j, j < n → w.cell? (a.add j) = cs[j]? := by
  unfold World.cells? at h
  split at h
  · refine ⟨by simpa using mapM_some_length h, fun j hj => ?_⟩
    exact mapM_some_get h j j (by simp [hj])
  · cases h

theorem spot_none {w : World} {a : Addr} {v : Value} (h : w.cell? a = some v) : a.spot = none ∧ a.block < w.heap.size := by
  unfold World.cell? at h
  split at h
  · rename_i c t f hb
    split at h
    · cases h
    · rename_i hs
      exact ⟨by simpa using hs, (Array.getElem?_eq_some_iff.1 hb).1⟩
  · cases h

theorem choose_rows {Q : List AV → Nat → Prop} : ∀ (n : Nat), (∀ i, i < n → ∃ l, Q l i) → ∃ rows : List (List AV), rows.length = n ∧ ∀ i, i < n → Q (nthR rows i) i
  | 0, _ => ⟨[], rfl, fun i h => absurd h (Nat.not_lt_zero i)⟩
  | n + 1, h => by
    obtain ⟨rows, h1, h2⟩ := choose_rows n (fun i hi => h i (by omega))
    obtain ⟨l, hl⟩ := h n (by omega)
    refine ⟨rows ++ [l], by simp [h1], fun i hi => ?_⟩
    by_cases e : i < n
    · rw [show nthR (rows ++ [l]) i = nthR rows i by simp [nthR, List.getD_eq_getElem?_getD, List.getElem?_append_left (show i < rows.length by omega)]]
      exact h2 i e
    · have e2 : i = n := by omega
      subst e2
      rw [show nthR (rows ++ [l]) i = l by simp [nthR, List.getD_eq_getElem?_getD, ← h1]]
      exact hl

theorem trod_rep {H : Type} {enc : TypeId × Value → H} {P : Program} {T : TT} (hT : TOK P T) {w : World} {base : Nat} {sp : Nat → Bool} {held : Bool} : ∀ (n t : Nat) (cs : List Value) (m : Nat) (x : DataW H × List MemPlace),
    plainT T n t = true → DataW.trod enc P w base sp held m t cs = some x → ∃ l, ASh T n t l ∧ RepL w cs l ∧ (plainF T n t = true → l = avD n x.1)
  | 0, _, _, _, _, h, _ => by cases h
  | n + 1, t, cs, m, x, h, hx => by
    unfold plainT at h
    unfold ASh plainF
    cases hti : lk t T with
    | none => rw [hti] at h; cases h
    | some ti =>
      rw [hti] at h
      simp only at h
      obtain ⟨d, inf, z, kk⟩ := mkTI_ok (hT t ti hti)
      have hu := kk.und
      have hkind := kk.kind
      have hsz : P.cellsOf t = ti.size := by rw [cellsOf_of kk.info, kk.size]
      cases hk : ti.k with
      | int k =>
        simp only [hk]
        have hd := kk.intKind hk
        subst hd
        obtain ⟨y, rfl, rfl, hw⟩ := DataW.trod_int hu hx
        exact ⟨_, ⟨y, rfl, hw⟩, .one (.int k y) rfl, fun _ => rfl⟩
      | bool =>
        simp only [hk]
        rw [hk] at hkind
        have hd : d = .bool := by
          cases d <;> simp only [KindOK, reduceCtorEq, false_and, and_false, exists_false] at hkind
          rfl
        subst hd
        obtain ⟨y, rfl, rfl⟩ := DataW.trod_bool hu hx
        exact ⟨_, ⟨y, rfl⟩, .one (.bool y) rfl, fun _ => rfl⟩
      | str =>
        simp only [hk]
        have hd := kk.strKind hk
        subst hd
        obtain ⟨s, rfl, rfl, hl⟩ := DataW.trod_string hu hx
        exact ⟨_, ⟨s.data.toList, rfl, by simpa using hl⟩, .one (by
          have := Rep.str (X := NoX) (w := w) s.data.toList
          rwa [show (⟨s.data.toList.toArray⟩ : ByteArray) = s by simp] at this) rfl, fun _ => rfl⟩
      | slice e es eb =>
        simp only [hk]
        rw [hk] at h
        simp only [Bool.and_eq_true, Bool.not_eq_true'] at h
        obtain ⟨rfl, ei, hei, rfl, rfl⟩ := kk.sliceKind hk
        have hes : P.cellsOf e = ei.size := cellsOf_of hei
        have hne : ei.size ≠ 0 := fun e0 => by rw [e0] at h; exact absurd h.1.2 (by decide)
        refine Exists.imp (fun l hl => ⟨hl.1, hl.2, fun hf => by cases hf⟩) (?_ : ∃ l, (∃ rows, l = [AV.sl ei.size rows] ∧ rows.length ≤ maxLen ∧ ∀ r, r ∈ rows → ASh T n e r) ∧ RepL w cs l)
        rcases DataW.trod_slice hu hx with ⟨rfl, _⟩ | ⟨a, len, cap, elems, rest, m', _, rfl, _, hb, hl, hm, hlen, hel, _, _⟩
        · exact ⟨_, ⟨[], rfl, Nat.zero_le _, by simp⟩, .one (.slE none 0 ei.size) rfl⟩
        · have hrow : ∀ i, i < len → ∃ l : List AV, ASh T n e l ∧ ∃ cs' : List Value, w.cells? base (a.add (i * ei.size)) ei.size = some cs' ∧ RepL w cs' l := by
            intro i hi
            have h1 := hel i hi
            rw [hes, List.getElem?_eq_getElem (by omega)] at h1
            obtain ⟨cs', hcs', h2⟩ := Option.bind_eq_some_iff.1 h1
            obtain ⟨l, h3, h4, _⟩ := trod_rep hT n e cs' m' _ h.1.1 h2
            exact ⟨l, h3, cs', hcs', h4⟩
          obtain ⟨rows, hr1, hr2⟩ := choose_rows len hrow
          refine ⟨_, ⟨rows, rfl, by omega, fun r hr => ?_⟩, ?_⟩
          · obtain ⟨i, hi, rfl⟩ := List.getElem_of_mem hr
            have := (hr2 i (by omega)).1
            rwa [show nthR rows i = rows[i] by simp [nthR, List.getD_eq_getElem?_getD, hi]] at this
          · rcases Nat.eq_zero_or_pos len with h0 | h0
            · subst h0
              have : rows = [] := List.eq_nil_of_length_eq_zero hr1
              subst this
              exact .one (.slE (some a) cap ei.size) rfl
            · obtain ⟨_, cs0, hcs0, _⟩ := hr2 0 h0
              obtain ⟨hl0, hc0⟩ := cells_get hcs0
              have hcell0 : w.cell? ((a.add (0 * ei.size)).add 0) = some cs0[0] := by rw [hc0 0 (by omega)]; simp
              obtain ⟨hs, hbk⟩ := spot_none hcell0
              obtain ⟨b, o, spot⟩ := a
              have hs' : spot = none := by simpa [Addr.add] using hs
              subst hs'
              have key : ∀ i, i < rows.length → ∀ j, j < ei.size → ∃ v, w.cell? ⟨b, o + i * ei.size + j, none⟩ = some v ∧ Rep NoX w v (nth (nthR rows i) j) ∧ v.oneCell' = true := fun i hi j hj => by
                obtain ⟨_, cs', hcs', hrl⟩ := hr2 i (by omega)
                obtain ⟨hl', hc'⟩ := cells_get hcs'
                have := hc' j hj
                rw [List.getElem?_eq_getElem (by omega)] at this
                refine ⟨_, ?_, hrl.2 j _ (List.getElem?_eq_getElem (by omega))⟩
                rw [add_plain, add_plain] at this
                exact this
              have hrep : Rep NoX w (.slice (some ⟨b, o, none⟩) rows.length cap) (.sl ei.size rows) := by
                refine .sl b o cap ei.size rows (fun i j => (w.cell? ⟨b, o + i * ei.size + j, none⟩).getD undef) (by simpa [Addr.add] using hbk) (fun h => h) (by omega) (by omega) (fun i hi => ?_) (fun i hi j hj => ?_) (fun i hi j hj => ?_) (fun i hi j hj => ?_)
                · obtain ⟨_, cs', hcs', hrl⟩ := hr2 i (by omega)
                  rw [hrl.1, (cells_get hcs').1]
                · obtain ⟨v, h1, _, _⟩ := key i hi j hj
                  rw [h1]; rfl
                · obtain ⟨v, h1, h2, _⟩ := key i hi j hj
                  simp only [h1, Option.getD_some]; exact h2
                · obtain ⟨v, h1, _, h3⟩ := key i hi j hj
                  simp only [h1, Option.getD_some]; exact h3
              rw [hr1] at hrep
              exact .one hrep rfl
      | arr k e es =>
        simp only [hk]
        rw [hk] at h
        simp only [Bool.and_eq_true] at h
        obtain ⟨rfl, _, ei, hei, rfl⟩ := kk.arrKind hk
        have hes : P.cellsOf e = ei.size := cellsOf_of hei
        obtain ⟨xs, m', _, rfl, hl, hxl, hel⟩ := DataW.trod_array hu hx
        have := segs_ok (Q := ASh T n) (w := w) (cs := cs) (sl := plainF T n e) (g := avD n) ((List.range k).map fun i => (i * ei.size, e, ei.size)) (xs.map (·.1)) 0 (fun i s hs => by
          rw [List.getElem?_map] at hs
          obtain ⟨i', hi', rfl⟩ := Option.map_eq_some_iff.1 hs
          have hik : i < k := by
            have := (List.getElem?_eq_some_iff.1 hi').1
            simpa using this
          have e1 : i' = i := by simp [hik] at hi'; exact hi'.symm
          subst e1
          have h1 := hel i' hik
          rw [hes, List.getElem?_eq_getElem (by omega)] at h1
          obtain ⟨l, h3, h4, h5⟩ := trod_rep hT n e _ m' _ h.1 h1
          exact ⟨xs[i'].1, l, by simp [List.getElem?_eq_getElem (show i' < xs.length by omega)], h3, h4, h5⟩) (by simp [hxl]) (by rw [hl, hsz]; exact h.2)
        obtain ⟨l, h1, h2, h3⟩ := this
        refine ⟨l, ⟨by rw [h2.1]; simpa [hsz] using hl, fun i hi => ?_⟩, by simpa using h2, fun hf => ?_⟩
        · have := h1 (i * ei.size, e, ei.size) (List.mem_map.2 ⟨i, by simpa using hi, rfl⟩)
          simpa using this
        · rw [h3 hf]
          simp [avD]
      | struct fs =>
        simp only [hk]
        rw [hk] at h hkind
        simp only [Bool.and_eq_true] at h
        cases d <;> simp only [KindOK, reduceCtorEq, false_and, and_false, exists_false] at hkind
        case struct fields =>
          obtain ⟨_, _, l0, hl0, hfs⟩ := hkind
          simp only [TK.struct.injEq] at hfs
          subst hfs
          obtain ⟨xs, m', _, rfl, hl, hxl, hel⟩ := DataW.trod_struct hu hx
          have hfl : fs.length = fields.size := by simpa using mapM_some_length hl0
          have := segs_ok (Q := ASh T n) (w := w) (cs := cs) (sl := fs.all (fun f => plainF T n f.2.1)) (g := avD n) fs (xs.map (·.1)) 0 (fun i s hs => by
            obtain ⟨f, hf, hfi⟩ := mapM_gets hl0 i s hs
            obtain ⟨fi, hfi', rfl⟩ := Option.map_eq_some_iff.1 hfi
            have hi : i < fs.length := (List.getElem?_eq_some_iff.1 hs).1
            have h1 := hel i f (by simpa using hf)
            rw [cellsOf_of hfi', List.getElem?_eq_getElem (by omega)] at h1
            have hpl := List.all_eq_true.1 h.1 _ (List.mem_of_getElem? hs)
            obtain ⟨l, h3, h4, h5⟩ := trod_rep hT n f.type _ m' _ hpl h1
            exact ⟨xs[i].1, l, by simp [List.getElem?_eq_getElem (show i < xs.length by omega)], h3, h4, fun hsl => h5 (List.all_eq_true.1 hsl _ (List.mem_of_getElem? hs))⟩) (by simp [hxl, hfl]) (by rw [hl, hsz]; exact h.2)
          obtain ⟨l, h1, h2, h3⟩ := this
          refine ⟨l, ⟨by rw [h2.1]; simpa [hsz] using hl, fun f hf => ?_⟩, by simpa using h2, fun hf => ?_⟩
          · simpa using h1 f hf
          · rw [h3 hf]
            simp [avD]
      | map _ _ => rw [hk] at h; cases h
      | other => rw [hk] at h; cases h

def ASh1 (T : TT) (n t : Nat) (a : AV) : Prop := match lk t T with
  | some ti => if ti.agg then ∃ l, a = .agg l ∧ ASh T n t l else ASh T n t [a]
  | none => False

def AShs (T : TT) (n : Nat) : List Nat → List AV → Prop
  | [], [] => True
  | t :: ts, a :: l => ASh1 T n t a ∧ AShs T n ts l
  | _, _ => False

theorem toRange {l : List Value} : l = (List.range l.length).map fun i => l.getD i undef := by
  refine List.ext_getElem (by simp) fun i h1 h2 => ?_
  simp [List.getD_eq_getElem?_getD, h1]

theorem arg_rep {H : Type} {enc : TypeId × Value → H} {P : Program} {T : TT} (hT : TOK P T) {W : World} {r : Reach} {base base' : Nat} {sp : Nat → Bool} {held : Bool} {n t : Nat} {v : Value} {d : DataW H} {ps : List MemPlace}
    (hp : plainT T n t = true) (hok : Value.okWide P W r base t v) (h : DataW.Trod enc P W base' sp held t v d ps) : ∃ a, ASh1 T n t a ∧ Rep NoX W v a := by
  obtain ⟨m, hm⟩ := h
  obtain ⟨l, h1, h2, _⟩ := trod_rep hT n t _ m _ hp hm
  unfold ASh1
  have hp' := hp
  cases n with
  | zero => cases hp
  | succ n =>
    unfold plainT at hp
    cases hti : lk t T with
    | none => rw [hti] at hp; cases hp
    | some ti =>
      rw [hti] at hp
      simp only at hp
      obtain ⟨de, inf, z, kk⟩ := mkTI_ok (hT t ti hti)
      have hu := kk.und
      have hkind := kk.kind
      have agg : ∀ cs, v = .agg cs → ∃ a, (∃ l, a = AV.agg l ∧ ASh T (n + 1) t l) ∧ Rep NoX W v a := by
        intro cs hv
        subst hv
        simp only [Value.cells] at h2
        refine ⟨.agg l, ⟨l, rfl, h1⟩, ?_⟩
        have key := Rep.agg (X := NoX) (w := W) (fun i => cs.toList.getD i undef) l (fun i hi => ?_) (fun i hi => ?_)
        · have e : ((List.range l.length).map fun i => cs.toList.getD i undef).toArray = cs := by
            rw [h2.1]
            rw [← toRange]
          rw [e] at key
          exact key
        · have hi' : i < cs.toList.length := by rw [← h2.1]; exact hi
          have := (h2.2 i cs.toList[i] (by simp)).1
          rwa [show cs.toList.getD i undef = cs.toList[i] by simp only [List.getD_eq_getElem?_getD, List.getElem?_eq_getElem hi', Option.getD_some]]
        · have hi' : i < cs.toList.length := by rw [← h2.1]; exact hi
          have := (h2.2 i cs.toList[i] (by simp)).2
          rwa [show cs.toList.getD i undef = cs.toList[i] by simp only [List.getD_eq_getElem?_getD, List.getElem?_eq_getElem hi', Option.getD_some]]
      have one : ti.agg = false → v.cells = #[v] → ∃ a, (if ti.agg then ∃ l, a = AV.agg l ∧ ASh T (n + 1) t l else ASh T (n + 1) t [a]) ∧ Rep NoX W v a := by
        intro ha hv
        rw [hv] at h2
        have : l.length = 1 := by simpa using h2.1
        match l, this with
        | [a], _ =>
          refine ⟨a, by rw [ha]; simpa using h1, ?_⟩
          exact (h2.2 0 v rfl).1
      cases hk : ti.k with
      | int k =>
        have hd := kk.intKind hk
        subst hd
        obtain ⟨x, rfl⟩ := okWide_int hu hok
        exact one hkind.2 rfl
      | bool =>
        rw [hk] at hkind
        have hd : de = .bool := by
          cases de <;> simp only [KindOK, reduceCtorEq, false_and, and_false, exists_false] at hkind
          rfl
        subst hd
        obtain ⟨x, rfl⟩ := okWide_bool hu hok
        exact one hkind.2 rfl
      | str =>
        have hd := kk.strKind hk
        subst hd
        obtain ⟨x, rfl⟩ := okWide_string hu hok
        exact one hkind.2 rfl
      | slice e es eb =>
        obtain ⟨rfl, ei, hei, rfl, rfl⟩ := kk.sliceKind hk
        obtain ⟨a, len, cap, rfl⟩ := okWide_slice hu hok
        exact one hkind.1 rfl
      | arr k e es =>
        obtain ⟨rfl, hagg, _⟩ := kk.arrKind hk
        have : ∃ cs, v = .agg cs := by
          unfold Value.okWide at hok
          rw [hu] at hok
          obtain ⟨cs, h, _⟩ := hok
          exact ⟨cs, h⟩
        obtain ⟨cs, hv⟩ := this
        simp only [hagg, if_true]
        exact agg cs hv
      | struct fs =>
        rw [hk] at hkind
        cases de <;> simp only [KindOK, reduceCtorEq, false_and, and_false, exists_false] at hkind
        case struct fields =>
          have : ∃ cs, v = .agg cs := by
            unfold Value.okWide at hok
            rw [hu] at hok
            obtain ⟨cs, h, _⟩ := hok
            exact ⟨cs, h⟩
          obtain ⟨cs, hv⟩ := this
          simp only [hkind.1, if_true]
          exact agg cs hv
      | map _ _ => rw [hk] at hp; cases hp
      | other => rw [hk] at hp; cases hp

theorem args_rep {H : Type} {enc : TypeId × Value → H} {P : Program} {T : TT} (hT : TOK P T) {W : World} {r : Reach} {base base' : Nat} {sp : Nat → Bool} {held : Bool} {n : Nat} : ∀ {ts : List Nat} {vs : List Value} {ds : List (DataW H)} {ps : List MemPlace},
    ts.all (plainT T n) = true → (∀ (j : Nat) t v, ts[j]? = some t → vs[j]? = some v → Value.okWide P W r base t v) → DataW.TrodAll enc P W base' sp held ts vs ds ps → ∃ l, AShs T n ts l ∧ Z (Rep NoX W) vs l
  | [], vs, ds, ps, _, _, h => by
    obtain ⟨rfl, rfl, rfl⟩ := trodAll_nil h
    exact ⟨[], trivial, rfl, fun i v a hv => by simp at hv⟩
  | t :: ts, vs, ds, ps, hp, hok, h => by
    obtain ⟨v, vs', d, ds', p, q, rfl, rfl, rfl, hd, hrest⟩ := trodAll_cons h
    simp only [List.all_cons, Bool.and_eq_true] at hp
    obtain ⟨a, h1, h2⟩ := arg_rep hT hp.1 (hok 0 t v rfl rfl) hd
    obtain ⟨l, h3, h4⟩ := args_rep hT hp.2 (fun j t' v' ht hv => hok (j + 1) t' v' (by simpa using ht) (by simpa using hv)) hrest
    refine ⟨a :: l, ⟨h1, h3⟩, by simp [h4.1], fun i v' a' hv ha => ?_⟩
    match i, hv, ha with
    | 0, hv, ha => cases hv; cases ha; exact h2
    | i + 1, hv, ha => exact h4.2 i v' a' (by simpa using hv) (by simpa using ha)

theorem laid_glob {P : Program} {T : TT} (hT : TOK P T) {w : World} {n : Nat} {name : String} {d : DataW Unit} {g t : Nat} {cells : List AV} (hg : P.globalNamed name = some g) (ht : (P.globals[g]?).map (·.type) = some t) (hp : plainT T n t = true) (hf : plainF T n t = true) (hd : avD n d = cells) (hne : cells ≠ []) :
    ∀ {laid : List (String × DataW Unit)} {ps : List MemPlace}, (name, d) ∈ laid → DataW.LaidVars P w laid ps → GlobOK NoX w g cells
  | (n', d') :: laid, ps, hm, h => by
    obtain ⟨g', t', cs, fuel, p, q, hg', ht', hv, htr, hrest, _⟩ := h
    by_cases e : (name, d) = (n', d')
    · cases e
      obtain rfl := Option.some.inj (hg.symm.trans hg')
      obtain rfl := Option.some.inj (ht.symm.trans ht')
      obtain ⟨l, _, h2, h3⟩ := trod_rep hT n t _ fuel _ hp htr
      have e1 : l = cells := (h3 hf).trans hd
      subst e1
      have hlen : cs.size = l.length := by rw [h2.1]; simp
      unfold World.var? at hv
      rw [hg] at hv
      simp only [Option.bind_some] at hv
      split at hv
      · rename_i cs' ty fr hb
        cases hv
        have hbs : g < w.heap.size := (Array.getElem?_eq_some_iff.1 hb).1
        have hcell : ∀ j, j < l.length → w.cell? ⟨g, j, none⟩ = some (cs.getD j undef) := fun j hj => by
          unfold World.cell?
          rw [hb]
          simp [Array.getD, show j < cs.size by omega]
        refine ⟨?_, cs, ty, fr, hb, hlen⟩
        have key := Rep.elt (X := NoX) (w := w) g 0 l.length [l] 0 0 (fun i j => cs.getD j undef) hbs (fun h => h) (by simp) (fun i hi => ?_) (fun i hi j hj => ?_) (fun i hi j hj => ?_) (fun i hi j hj => ?_)
        · simpa using key
        · have : i = 0 := by simp at hi; exact hi
          subst this
          rfl
        · have : i = 0 := by simp at hi; exact hi
          subst this
          simpa using hcell j hj
        · have : i = 0 := by simp at hi; exact hi
          subst this
          have := (h2.2 j (cs.getD j undef) (by simp [Array.getD, show j < cs.size by omega])).1
          simpa [nthR] using this
        · exact (h2.2 j (cs.getD j undef) (by simp [Array.getD, show j < cs.size by omega])).2
      · cases hv
    · rcases List.mem_cons.1 hm with e2 | hm
      · exact absurd e2 e
      · exact laid_glob hT hg ht hp hf hd hne hm hrest

theorem law_call {H : Type} {enc : TypeId × Value → H} {P : Program} {T : TT} {G : List (Nat × List AV)} (hT : TOK P T) {f : Nat} {fn : Func} {s : ChangeSpec} {n tb : Nat} (hlaid : laidOutB P = true) (hvars : s.vars = [])
    (hres : fn.resultTypes = #[tb]) (htb : P.underlying tb = some .bool) (htys : fn.params.toList.all (fun t => plainT T n t && P.readableRec t && decide (t < P.types.size)) = true)
    (hfn : ∀ ds : List (DataW H), ds.length = fn.params.toList.length → s.fn H ds = { results := [.lit (.bool true)], args := ds })
    (main : ∀ l, AShs T n fn.params.toList l → PCall P G f l (.bool true))
    {W : World} {base : Nat} {args : Array Value} {ds gs : List (DataW H)} {before : List MemPlace}
    (hval : ∀ (j : Nat) t v, fn.params[j]? = some t → args[j]? = some v → Value.okWide P W .any base t v)
    (hW : DataW.Whole enc P fn.params.toList s.vars false W args.toList ds gs before)
    (hG : ∀ g cells, lk g G = some cells → GlobOK NoX W g cells) :
    Calls P f args W fun e W' => ∃ v, e = .returned v ∧ s.post enc P fn false true false false W args v W' := by
  have hW' := hW
  obtain ⟨p, q, hA, hV, rfl, _, _⟩ := hW
  rw [hvars] at hV
  obtain ⟨rfl, rfl⟩ := trodVars_none hV
  have hpl : fn.params.toList.all (plainT T n) = true := List.all_eq_true.2 fun t ht => by
    have := List.all_eq_true.1 htys t ht
    simp only [Bool.and_eq_true] at this
    exact this.1.1
  obtain ⟨l, h1, h2⟩ := args_rep hT hpl (fun j t v ht hv => hval j t v (by simpa using ht) (by simpa using hv)) hA
  have hds : ds.length = fn.params.toList.length := by
    have : ∀ {ts : List Nat} {vs : List Value} {ds : List (DataW H)} {ps : List MemPlace}, DataW.TrodAll enc P W 0 (fun _ => true) true ts vs ds ps → ds.length = ts.length := by
      intro ts
      induction ts with
      | nil => intro vs ds ps h; obtain ⟨_, rfl, _⟩ := trodAll_nil h; rfl
      | cons t ts ih =>
        intro vs ds ps h
        obtain ⟨v, vs', d, ds', p, q, rfl, rfl, rfl, hd, hrest⟩ := trodAll_cons h
        simp [ih hrest]
    exact this hA
  refine ((main l h1).run W NoX args (fun b h => h.elim) hG h2).mono fun e W' ⟨v, he, hb, hr⟩ => ⟨v, he, ?_⟩
  have hv : v = .bool true := by
    have : Rep NoX W' v (.bool true) := hr
    cases this
    rfl
  subst hv
  have hlt : ∀ x ∈ p, x.block < W.heap.size := fun x hx => by simpa using hW'.lt x (by simp [hx])
  have hargs : ∀ {ts : List Nat} {vs : List Value} {ds : List (DataW H)} {ps : List MemPlace}, ts.all (fun t => plainT T n t && P.readableRec t && decide (t < P.types.size)) = true → (∀ x ∈ ps, x.block < W.heap.size) →
      DataW.TrodAll enc P W 0 (fun _ => true) true ts vs ds ps → DataW.TrodAll enc P W' 0 (fun b => decide (b < W.heap.size)) true ts vs ds ps := by
    intro ts
    induction ts with
    | nil =>
      intro vs ds ps _ _ h
      obtain ⟨rfl, rfl, rfl⟩ := trodAll_nil h
      rfl
    | cons t ts ih =>
      intro vs ds ps hall hps h
      obtain ⟨v, vs', d, ds', p, q, rfl, rfl, rfl, hd, hrest⟩ := trodAll_cons h
      simp only [List.all_cons, Bool.and_eq_true, decide_eq_true_eq] at hall
      refine ⟨p, q, ?_, ih (by simpa only [Bool.and_eq_true, decide_eq_true_eq] using hall.2) (fun x hx => hps x (by simp [hx])) hrest, rfl⟩
      exact Below.trod hlaid hall.1.1.2 hall.1.2 hd hb (fun x hx => hps x (by simp [hx]))
  have hs := hfn ds hds
  have hs' : s.fn H (ds ++ []) = { results := [.lit (.bool true)], args := ds } := by rw [List.append_nil]; exact hs
  refine ⟨ds, [], p ++ [], [], p, [], hW', ?_, ?_, ?_, ?_, fun h => by cases h⟩
  · rw [hs', hres]
    exact trodAll_mk1 (shut_bool htb true)
  · rw [hs']
    exact hargs htys hlt hA
  · rw [hs', hvars]
    rfl
  · exact hb.frame _

end Go.Av
namespace Go.Av
open Go Go.RowKit

inductive SC where
  | int (k : IntKind)
  | bool
  | str
  | sl (n e es : Nat)

def shapeT (T : TT) : Nat → Nat → List SC
  | 0, _ => []
  | n + 1, t => match lk t T with
    | some ti => match ti.k with
      | .int k => [.int k]
      | .bool => [.bool]
      | .str => [.str]
      | .slice e es _ => [.sl n e es]
      | .arr m e _ => (List.range m).flatMap fun _ => shapeT T n e
      | .struct fs => fs.flatMap fun f => shapeT T n f.2.1
      | _ => []
    | none => []

def SC.ok (T : TT) : SC → AV → Prop
  | .int k, a => ∃ x, a = .int k x ∧ (Lit.int k x).wf = true
  | .bool, a => ∃ b, a = .bool b
  | .str, a => ∃ s, a = .str s ∧ s.length ≤ maxLen
  | .sl n e es, a => ∃ rows, a = .sl es rows ∧ rows.length ≤ maxLen ∧ ∀ r, r ∈ rows → ASh T n e r

def ShL (T : TT) : List SC → List AV → Prop
  | [], l => l = []
  | c :: cs, l => ∃ a m, l = a :: m ∧ c.ok T a ∧ ShL T cs m

theorem ShL.append {T : TT} : ∀ {cs cs' : List SC} {l l' : List AV}, ShL T cs l → ShL T cs' l' → ShL T (cs ++ cs') (l ++ l')
  | [], _, _, _, h, h' => by
    have : _ = [] := h
    subst this
    exact h'
  | c :: cs, cs', l, l', h, h' => by
    obtain ⟨a, m, rfl, h1, h2⟩ := h
    exact ⟨a, m ++ l', rfl, h1, ShL.append h2 h'⟩

theorem segs_shape {T : TT} {n : Nat} {l : List AV} (ih : ∀ t m, plainT T n t = true → ASh T n t m → ShL T (shapeT T n t) m) : ∀ (fs : List (Nat × Nat × Nat)) (off : Nat), contig fs off l.length = true → (∀ f, f ∈ fs → plainT T n f.2.1 = true) →
    (∀ f, f ∈ fs → ASh T n f.2.1 ((l.drop f.1).take f.2.2)) → ShL T (fs.flatMap fun f => shapeT T n f.2.1) (l.drop off)
  | [], off, hc, _, _ => by
    have e := Nat.eq_of_beq_eq_true hc
    exact List.drop_eq_nil_of_le (by omega)
  | (o, t, s) :: fs, off, hc, hp, h => by
    simp only [contig, Bool.and_eq_true] at hc
    have e := Nat.eq_of_beq_eq_true hc.1
    subst e
    have e2 : l.drop o = (l.drop o).take s ++ l.drop (o + s) := by
      rw [← List.drop_drop, List.take_append_drop]
    rw [e2, List.flatMap_cons]
    exact (ih t _ (hp (o, t, s) (by simp)) (h (o, t, s) (by simp))).append (segs_shape ih fs (o + s) hc.2 (fun f hf => hp f (by simp [hf])) (fun f hf => h f (by simp [hf])))

theorem ash_shape {T : TT} : ∀ (n t : Nat) (l : List AV), plainT T n t = true → ASh T n t l → ShL T (shapeT T n t) l
  | 0, _, _, h, _ => by cases h
  | n + 1, t, l, h, hl => by
    unfold plainT at h
    unfold ASh at hl
    unfold shapeT
    cases hti : lk t T with
    | none => rw [hti] at h; cases h
    | some ti =>
      rw [hti] at h hl
      simp only at h hl ⊢
      cases hk : ti.k with
      | int k =>
        rw [hk] at hl
        obtain ⟨x, rfl, hw⟩ := hl
        exact ⟨_, _, rfl, ⟨x, rfl, hw⟩, rfl⟩
      | bool =>
        rw [hk] at hl
        obtain ⟨x, rfl⟩ := hl
        exact ⟨_, _, rfl, ⟨x, rfl⟩, rfl⟩
      | str =>
        rw [hk] at hl
        obtain ⟨x, rfl, hw⟩ := hl
        exact ⟨_, _, rfl, ⟨x, rfl, hw⟩, rfl⟩
      | slice e es eb =>
        rw [hk] at hl
        obtain ⟨rows, rfl, h1, h2⟩ := hl
        exact ⟨_, _, rfl, ⟨rows, rfl, h1, h2⟩, rfl⟩
      | arr m e es =>
        rw [hk] at hl h
        simp only [Bool.and_eq_true] at h hl
        have := segs_shape (T := T) (n := n) (l := l) (fun t m => ash_shape n t m) ((List.range m).map fun i => (i * es, e, es)) 0 (by rw [hl.1]; exact h.2) (fun f hf => by
          obtain ⟨i, _, rfl⟩ := List.mem_map.1 hf
          exact h.1) (fun f hf => by
          obtain ⟨i, hi, rfl⟩ := List.mem_map.1 hf
          exact hl.2 i (by simpa using hi))
        rw [List.flatMap_map] at this
        simpa using this
      | struct fs =>
        rw [hk] at hl h
        simp only [Bool.and_eq_true] at h hl
        have := segs_shape (T := T) (n := n) (l := l) (fun t m => ash_shape n t m) fs 0 (by rw [hl.1]; exact h.2) (fun f hf => List.all_eq_true.1 h.1 f hf) hl.2
        simpa using this
      | map _ _ => rw [hk] at h; cases h
      | other => rw [hk] at h; cases h

theorem ash1_one {T : TT} {n t : Nat} {a : AV} {ti : TI} (hti : lk t T = some ti) (hagg : ti.agg = false) (hp : plainT T n t = true) {c : SC} (hs : shapeT T n t = [c]) (h : ASh1 T n t a) : c.ok T a := by
  unfold ASh1 at h
  rw [hti] at h
  simp only [hagg] at h
  have := ash_shape n t _ hp h
  rw [hs] at this
  obtain ⟨x, m, e, h1, _⟩ := this
  cases e
  exact h1
theorem ash1_agg {T : TT} {n t : Nat} {a : AV} {ti : TI} (hti : lk t T = some ti) (hagg : ti.agg = true) (hp : plainT T n t = true) {cs : List SC} (hs : shapeT T n t = cs) (h : ASh1 T n t a) : ∃ l, a = .agg l ∧ ShL T cs l := by
  unfold ASh1 at h
  rw [hti] at h
  simp only [hagg, if_true] at h
  obtain ⟨l, rfl, h⟩ := h
  have := ash_shape n t _ hp h
  rw [hs] at this
  exact ⟨l, rfl, this⟩

theorem rows_enc {α : Type} {enc : α → List AV} {Q : α → Prop} : ∀ {rows : List (List AV)}, (∀ r, r ∈ rows → ∃ x, r = enc x ∧ Q x) → ∃ l : List α, rows = l.map enc ∧ ∀ x, x ∈ l → Q x
  | [], _ => ⟨[], rfl, by simp⟩
  | r :: rows, h => by
    obtain ⟨x, rfl, hx⟩ := h r (by simp)
    obtain ⟨l, rfl, hl⟩ := rows_enc (rows := rows) (fun r hr => h r (by simp [hr]))
    exact ⟨x :: l, rfl, fun y hy => by
      rcases List.mem_cons.1 hy with rfl | hy
      · exact hx
      · exact hl y hy⟩

end Go.Av
