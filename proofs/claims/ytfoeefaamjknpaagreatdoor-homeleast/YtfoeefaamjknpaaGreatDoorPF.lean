/-
  HomeLeast returns true. No condition but the theorems' own. What HomeLeast' row says of the program's text. No condition.
-/
import Derived.Test.YtfoeefaamjknpaaGreatDoorPE
import Derived.Test.YtfoeefaamjknpaaGreatDoorAvD
import Derived.Test.YtfoeefaamjknpaaGreatDoorPD
namespace Go.Proofs.YtfoeefaamjknpaaGreatDoor
open Go Go.Av Go.RowKit
theorem ends_ok {x y m : Int} (h : 0 ≤ x ∧ x ≤ y ∧ y ≤ m) : fEnds x y m = 0 := by
  unfold fEnds
  rw [first_zero, first_zero, first_zero, within_zero, within_zero, decide_eq_false (by omega)]
  exact ⟨by omega, by omega, rfl, rfl⟩
theorem wn_ok {w : Wn} (h : WnOK w) : fWn w = 0 := by
  unfold fWn
  rw [first_zero, first_zero, first_zero, within_zero]
  exact ⟨scan_end fun b hb => within_zero.2 (h.o0 b hb), h.a0, scan_end fun b hb => ends_ok (h.l0 b hb), rfl⟩
theorem hm_ok {h : Hm} (e : fHd h = 0) (hw : ∀ i, i < h.ws.length → WnOK (h.ws.getD i default)) : fHm h = 0 := by
  unfold fHm sLS
  rw [if_neg (by rw [e]; decide)]
  exact scan_end fun i hi => wn_ok (hw i hi)
theorem af_hm {h : Hm} {l : List Ms} {g : List Int} (q1 : fMs h l = 0) (q2 : fSet l g = 0) : fHm (afH h l g) = 0 := by
  obtain ⟨a1, a2, _, _⟩ := af_ok q1 q2
  have h1 := (hm_z (ms_z q1).1).1
  refine hm_ok ?_ a1
  have e : fHd (afH h l g) = fHd h := by
    unfold fHd
    rw [show (afH h l g).ws.length = h.ws.length from a2]
    rfl
  rw [e]
  exact h1
theorem ck_ok {h : Hm} {l : List Ms} {g : List Int} (q1 : fMs h l = 0) (q2 : fSet l g = 0) : ckE h l g = 0 ∧ afV h l g = afH h l g := by
  have e : ckE h l g = 0 := by
    unfold ckE
    rw [if_neg (by rw [q1]; decide), q2]
  exact ⟨e, if_neg (by rw [e]; decide)⟩
theorem su_ok {h : Hm} {l : List Ms} {g : List Int} {t : Int} (q1 : fMs h l = 0) (q2 : fSet l g = 0) (ht : fEn t = 0) : suE h l g t = 0 ∧ suV h l g t = decide (afU h l g ≤ t) := by
  have e : suE h l g t = 0 := by
    unfold suE
    rw [first_zero, first_zero]
    exact ⟨(ck_ok q1 q2).1, ht, rfl⟩
  exact ⟨e, if_neg (by rw [e]; decide)⟩
theorem iV_ok {h : Hm} {l : List Ms} {g : List Int} (q1 : fMs h l = 0) (q2 : fSet l g = 0) : fHm (afV h l g) = 0 ∧ iV2 (afV h l g) = afU h l g := by
  obtain ⟨a1, a2, _, _⟩ := af_ok q1 q2
  rw [(ck_ok q1 q2).2]
  have e := af_hm q1 q2
  refine ⟨e, ?_⟩
  unfold iV2
  rw [if_neg (by rw [e]; decide), show (afH h l g).ws.length = h.ws.length from a2]
  rfl
theorem ch_z {h : Hm} {l : List Ms} {t : Int} (q1 : fMs h l = 0) (ht : fEn t = 0) : chE h l t = 0 := by
  unfold chE
  rw [first_zero, first_zero]
  exact ⟨q1, ht, rfl⟩
theorem wE_e {h : Hm} {l : List Ms} {t : Int} (q1 : fMs h l = 0) (ht : fEn t = 0) : wE h l t = if (bst h l t).isSome = true then 0 else 18 := if_neg (by rw [ch_z q1 ht]; decide)
theorem w_18 {h : Hm} {l : List Ms} {t : Int} (q1 : fMs h l = 0) (ht : fEn t = 0) (h1 : wE h l t ≠ 0) : wE h l t = 18 := by
  rw [wE_e q1 ht] at h1 ⊢
  split
  · rename_i h2
    rw [if_pos h2] at h1
    exact absurd rfl h1
  · rfl
structure W10 (h : Hm) (l : List Ms) (t : Int) : Prop where
  s : fSet l (wS h l t) = 0
  u : afU h l (wS h l t) ≤ t
  c : costN l (wS h l t) = wC h l t
  m : ∀ b, b < pwN l.length → fSet l (bsM l b) = 0 → afU h l (bsM l b) ≤ t → wC h l t < costN l (bsM l b) ∨ (wC h l t = costN l (bsM l b) ∧ afU h l (wS h l t) ≤ afU h l (bsM l b))
  o : ∀ t', t ≤ t' → fEn t' = 0 → wE h l t' = 0 ∧ wC h l t' ≤ wC h l t
theorem w_some {h : Hm} {l : List Ms} {t : Int} (q1 : fMs h l = 0) (ht : fEn t = 0) (h1 : wE h l t = 0) : W10 h l t := by
  have hz := ch_z q1 ht
  rw [wE_e q1 ht] at h1
  have eS : wS h l t = (chO h l (bst h l t)).s := if_neg (by rw [hz]; decide)
  have eC : wC h l t = (chO h l (bst h l t)).c := if_neg (by rw [hz]; decide)
  cases q : bst h l t with
  | none => rw [q] at h1; exact absurd h1 (by decide)
  | some a =>
    rw [q] at eS eC
    have eS : wS h l t = bsM l a := eS
    have eC : wC h l t = costN l (bsM l a) := eC
    obtain ⟨b1, b2, b3⟩ := bst_some q
    refine ⟨by rw [eS]; exact b2, by rw [eS]; exact b3, by rw [eS, eC], fun b hb hs hu => ?_, fun t' h2 h3 => ?_⟩
    · obtain ⟨a', e1, e2⟩ := bst_min (h := h) (t := t) (mem_msk hb hs) hu
      rw [q] at e1
      injection e1 with e1
      subst e1
      rw [eS, eC]
      exact e2
    · obtain ⟨a', e1, e2⟩ := bst_mono q h2
      have hz' := ch_z q1 h3
      have eC' : wC h l t' = (chO h l (bst h l t')).c := if_neg (by rw [hz']; decide)
      refine ⟨by rw [wE_e q1 h3, e1]; rfl, ?_⟩
      rw [eC', e1, eC]
      exact e2
theorem w_none {h : Hm} {l : List Ms} {t : Int} (q1 : fMs h l = 0) (ht : fEn t = 0) (h1 : wE h l t ≠ 0) {b : Nat} (hb : b < pwN l.length) (hs : fSet l (bsM l b) = 0) (hu : afU h l (bsM l b) ≤ t) : False := by
  obtain ⟨a', e1, _⟩ := bst_min (h := h) (t := t) (mem_msk hb hs) hu
  rw [wE_e q1 ht, e1] at h1
  exact h1 rfl
theorem w_bd {h : Hm} {l : List Ms} {t p : Int} (q1 : fMs h l = 0) (ht : fEn t = 0) (h1 : wE h l t = 0) (hp : 0 ≤ p ∧ p ≤ 100000) : bdE h l t p = 0 ∧ bdV h l t p ≤ wC h l t := by
  have hw := w_some q1 ht h1
  have e : bdE h l t p = 0 := by
    unfold bdE
    rw [first_zero, first_zero, first_zero, within_zero]
    exact ⟨q1, ht, hp, rfl⟩
  refine ⟨e, ?_⟩
  rw [show bdV h l t p = bdS h l t p h.ws.length from if_neg (by rw [e]; decide), ← hw.c]
  exact bd_le q1 hw.s hp.1 hw.u
def insD (h : Hm) (l : List Ms) (t : Int) : Int := if (wE h l t == 0) = true then afU h l (wS h l t) else 0
theorem csN_app {l : List Ms} {g : List Int} {x : Int} : ∀ k, k ≤ g.length → csN l (g ++ [x]) k = csN l g k
  | 0, _ => rfl
  | k + 1, h => by
    rw [csN, csN, csN_app k (by omega), show (g ++ [x]).getD k default = g.getD k default by simp [List.getD_eq_getElem?_getD, List.getElem?_append_left (show k < g.length by omega)]]
theorem cost_app (l : List Ms) (g : List Int) (j : Nat) : costN l (g ++ [(j : Int)]) = costN l g + (l.getD j default).c := by
  unfold costN
  rw [List.length_append, List.length_singleton, csN, csN_app _ (Nat.le_refl _), show (g ++ [(j : Int)]).getD g.length default = (j : Int) by simp [List.getD_eq_getElem?_getD]]
  rfl
theorem cost_bd {n : Nat} {l : List Ms} (hl : ∀ i, i < l.length → MsOK n (l.getD i default)) (m : Nat) : ∀ j, j ≤ l.length → 0 ≤ costN l (bitsM m j) ∧ costN l (bitsM m j) ≤ 1000000 * j
  | 0, _ => by simp [bitsM, costN, csN]
  | j + 1, h => by
    have h1 := cost_bd hl m j (by omega)
    have h2 := (hl j (by omega)).c0
    rw [bitsM]
    split
    · rw [cost_app]
      omega
    · omega
def sp10 (h : Hm) (l : List Ms) : Nat → List AV → Option AV
  | 16, _ => some (.bool true)
  | 14, _ => some (.bool (shH h))
  | 15, _ => some (.bool (shM l))
  | 18, [.agg c] => some (.agg c)
  | 22, [.sl _ rows] => some (.sl 19 rows)
  | 23, [.sl _ rows] => some (.sl 1 rows)
  | 42, [_, _, .int _ t] => some (.tup [.sl 1 ((wS h l t).map encI), .i (wC h l t), .i (wE h l t)])
  | 43, [_, _, .int _ t, .int _ p] => some (.tup [.i (bdV h l t p), .i (bdE h l t p)])
  | 27, _ => some (.i (fMs h l))
  | 31, [_, .sl _ r] => some (.i (fSet l (r.map hdI)))
  | 24, [_, _, .sl _ r, .int _ t] => some (.tup [.bool (suV h l (r.map hdI) t), .i (suE h l (r.map hdI) t)])
  | 21, [_, _, .sl _ r] => some (.tup [.agg (encHm (afV h l (r.map hdI))), .i (ckE h l (r.map hdI))])
  | 19, [.agg [.str s, .int _ p, .sl _ rows]] => some (.tup [.agg [.i (iV1 ⟨s, p, rows.map decWn⟩), .i (iV2 ⟨s, p, rows.map decWn⟩)], .i (fHm ⟨s, p, rows.map decWn⟩)])
  | n, y => spW n y
structure K10 (h : Hm) (l : List Ms) : Prop where
  ko : h.nm.length ≤ 40
  kw : h.ws.length ≤ 3
  kl : l.length ≤ 5
  kn : ∀ y, y ∈ l → y.nm.length ≤ 1000
  kq : fMs h l = 0
def la10 (h : Hm) (l : List Ms) (t n0 n1 n2 : Int) (b : Nat) : Option LA :=
  let sl : List (Nat × AV) := [(1, .sl 19 (l.map encMs)), (3, .elt 3 [encHm h] 0 0), (7, .i t), (9, .i (wC h l t)), (10, .i (wE h l t))]
  if b.beq 0 then some {
    pre := [.keep [1, 3, 7, 9, 10, 5, 8, 11, 12, 89, 90, 91] [], .bound 1], post := [.keep [1, 3, 7, 9, 10, 5, 8, 11, 12, 89, 90, 91] [], .bound 1]
    Gh := Nat
    st := fun i => ⟨sl ++ [(5, .elt 3 [[.int .u32 n0, .int .u32 n1, .int .u32 n2]] 0 0), (8, .sl 1 ((wS h l t).map encI)), (11, .i (csN l (wS h l t) i)), (12, .i 0), (89, .sl 1 ((wS h l t).map encI)), (90, .i ((wS h l t).map encI).length), (91, .i i)], [], 1⟩
    ok := fun i => i ≤ (wS h l t).length
    ms := fun i => (wS h l t).length - i }
  else if b.beq 2 then none
  else if b.beq 4 then some {
    pre := [.keep [1, 3, 7, 9, 10, 12, 210, 211] [], .bound 1], post := [.keep [1, 3, 7, 9, 10, 12, 210, 211] [], .bound 1]
    Gh := Nat
    st := fun k => ⟨sl ++ [(12, .i (insD h l t)), (210, .i (pwN l.length : Nat)), (211, .i k)], [], 1⟩
    ok := fun k => k ≤ pwN l.length
    ms := fun k => pwN l.length - k }
  else some {
    pre := [.own 29 3 1, .reno 29 1, .keep [1, 3, 7, 9, 10, 12, 210, 211, 28, 29, 30, 215, 216] [1], .bound 2], post := [.reno 29 1, .keep [1, 3, 7, 9, 10, 12, 210, 211, 28, 29, 30, 215, 216] [1], .bound 2]
    Gh := Nat × Nat
    st := fun q => ⟨sl ++ [(12, .i (insD h l t)), (210, .i (pwN l.length : Nat)), (211, .i q.1), (28, .i q.1), (29, .own 1 ((bitsM q.1 q.2).map encI).length), (30, .i (costN l (bitsM q.1 q.2))), (215, .i (l.map encMs).length), (216, .i q.2)], [(1, .buf 3 1 ((bitsM q.1 q.2).map encI))], 2⟩
    ok := fun q => q.1 < pwN l.length ∧ q.2 ≤ l.length
    rel := some fun q0 q => q.1 = q0.1
    ms := fun q => l.length - q.2 }
def m10a (h : Hm) (l : List Ms) (t n0 n1 n2 : Int) : List (Nat × AV) := [(1, .sl 19 (l.map encMs)), (3, .elt 3 [encHm h] 0 0), (5, .elt 3 [[.int .u32 n0, .int .u32 n1, .int .u32 n2]] 0 0), (7, .i t), (8, .sl 1 ((wS h l t).map encI)), (9, .i (wC h l t)), (10, .i (wE h l t))]
def m10 (h : Hm) (l : List Ms) (t n0 n1 n2 : Int) : List (Option (List GS × AS × Prop)) :=
  [none, none, none, none, none, none,
   mdB [] (K10 h l) (m10a h l t n0 n1 n2) [] 1, none, none,
   mdB [] (K10 h l) [(1, .sl 19 (l.map encMs)), (3, .elt 3 [encHm h] 0 0), (7, .i t), (9, .i (wC h l t)), (10, .i (wE h l t)), (12, .i (insD h l t))] [] 1, none, none, none]
def ks10 (i : Nat) : List Nat := if i.beq 19 then [1, 3, 5, 7, 9, 10, 12, 19, 147] else if i.beq 23 then [1, 3, 5, 7, 9, 10, 12, 177] else if i.beq 29 then [1, 3, 7, 9, 10, 12, 186, 187, 206] else if i.beq 45 then [1, 3, 7, 9, 10, 12, 210, 211, 29, 30, 32, 259] else if i.beq 50 then [1, 3, 7, 9, 10, 12, 210, 211, 298] else []
def tk10 (i : Nat) : Nat := if i.beq 19 then 147 else if i.beq 23 then 177 else if i.beq 29 then 206 else if i.beq 45 then 259 else if i.beq 50 then 298 else 0
def gs10 (i : Nat) : List GS := if (tk10 i).beq 0 then [] else [.keep (ks10 i) [], .bound 1]
def cut10 (i : Nat) : Option (AS → AS) := if (tk10 i).beq 0 then none else some (cutA (ks10 i) [] 1 (tk10 i) fun _ => .bool false)
theorem guard10 {h : Hm} {l : List Ms} (q : (if (if (if (!shH h) = true then true else decide (((h.ws.map encWn).length : Int) > 3)) = true then true else decide (((l.map encMs).length : Int) > 5)) = true then true else !shM l) = false) : h.nm.length ≤ 40 ∧ h.ws.length ≤ 3 ∧ l.length ≤ 5 ∧ ∀ x, x ∈ l → x.nm.length ≤ 1000 := by
  rw [List.length_map, List.length_map] at q
  cases q1 : shH h with
  | false => rw [q1] at q; cases q
  | true =>
    rw [q1] at q
    by_cases q2 : (h.ws.length : Int) > 3
    · rw [decide_eq_true q2] at q; cases q
    · rw [decide_eq_false q2] at q
      by_cases q3 : (l.length : Int) > 5
      · rw [decide_eq_true q3] at q; cases q
      · rw [decide_eq_false q3] at q
        cases q4 : shM l with
        | false => rw [q4] at q; cases q
        | true => exact ⟨(sh_hm q1).1, by omega, by omega, (sh_ms q4).2⟩
theorem guard10b {h : Hm} {l : List Ms} (q : (if (if (if (if (!shH h) = true then true else decide (((h.ws.map encWn).length : Int) > 3)) = true then true else decide (((l.map encMs).length : Int) > 5)) = true then true else !shM l) = true then true else fMs h l != 0) = false) : K10 h l := by
  have hi : ∀ a b : Bool, (if a = true then true else b) = false → a = false ∧ b = false := by decide
  obtain ⟨h1, h2⟩ := hi _ _ q
  obtain ⟨a, b, c, d⟩ := guard10 h1
  exact ⟨a, b, c, d, bne_f h2⟩
theorem no18 {h : Hm} {l : List Ms} {t : Int} (q1 : fMs h l = 0) (ht : fEn t = 0) (e : (if (wE h l t != 0) = true then wE h l t != 18 else false) = true) : False := by
  by_cases h1 : wE h l t = 0
  · rw [h1] at e; cases e
  · rw [w_18 q1 ht h1] at e; cases e
theorem afV_nm (h : Hm) (l : List Ms) (g : List Int) : (afV h l g).nm.length ≤ h.nm.length := by
  unfold afV
  split
  · exact Nat.zero_le _
  · exact Nat.le_refl _
def hmV (h : Hm) (l : List Ms) (g : List Int) : Hm := (Hm.mk (afV h l (List.map hdI (List.map encI g))).nm (afV h l (List.map hdI (List.map encI g))).pe (List.map decWn (List.map encWn (afV h l (List.map hdI (List.map encI g))).ws)))
theorem mk_e (h : Hm) (l : List Ms) (g : List Int) : hmV h l g = afV h l g := by
  unfold hmV
  rw [hd_encI, ws_dec]
theorem x147 {h : Hm} {l : List Ms} {t : Int} {g : Nat} (q1 : fMs h l = 0) (ht : fEn t = 0) (hw : W10 h l t) (hg : g = (wS h l t).length) : (if (if (if (if (suE h l (List.map hdI (List.map encI (wS h l t))) t != (0 : Int)) = true then true else ckE h l (List.map hdI (List.map encI (wS h l t))) != (0 : Int)) = true then true else fHm (hmV h l (wS h l t)) != (0 : Int)) = true then true else !suV h l (List.map hdI (List.map encI (wS h l t))) t) = true then true else csN l (wS h l t) g != wC h l t) = false := by
  have u1 := su_ok q1 hw.s ht
  have u2 := ck_ok q1 hw.s
  have u3 := iV_ok q1 hw.s
  have u4 : csN l (wS h l t) g = wC h l t := by rw [hg]; exact hw.c
  rw [mk_e, hd_encI, u1.1, u1.2, u2.1, u3.1, u4, decide_eq_true hw.u]
  simp
theorem x177 {h : Hm} {l : List Ms} {t t' : Int} (q1 : fMs h l = 0) (hw : W10 h l t) (h1 : t ≤ t') (ht' : fEn t' = 0) : (if (if (wE h l t' != (0 : Int)) = true then true else decide (wC h l t' > wC h l t)) = true then true else fSet l (List.map hdI (List.map encI (wS h l t'))) != (0 : Int)) = false := by
  obtain ⟨o1, o2⟩ := hw.o t' h1 ht'
  have hw' := w_some q1 ht' o1
  rw [hd_encI, o1, decide_eq_false (by omega), hw'.s]
  rfl
theorem x206 {h : Hm} {l : List Ms} {t p : Int} (q1 : fMs h l = 0) (ht : fEn t = 0) (h1 : wE h l t = 0) (hp : 0 ≤ p ∧ p ≤ 100000) : (if (bdE h l t p != (0 : Int)) = true then true else decide (bdV h l t p > wC h l t)) = false := by
  obtain ⟨e1, e2⟩ := w_bd q1 ht h1 hp
  rw [e1, decide_eq_false (by omega)]
  rfl
theorem x259 {h : Hm} {l : List Ms} {t : Int} {b : Nat} (q1 : fMs h l = 0) (ht : fEn t = 0) (hb : b < pwN l.length) (hs : fSet l (bitsM b l.length) = 0) : (if (suE h l (List.map hdI (List.map encI (bitsM b l.length))) t != (0 : Int)) = true then true else if suV h l (List.map hdI (List.map encI (bitsM b l.length))) t = true then wE h l t != (0 : Int) else false) = false := by
  have u1 := su_ok q1 hs ht
  rw [hd_encI, u1.1, u1.2]
  by_cases hu : afU h l (bitsM b l.length) ≤ t
  · have e : wE h l t = 0 := Classical.byContradiction fun h1 => w_none q1 ht h1 hb (by rw [bsM_e]; exact hs) (by rw [bsM_e]; exact hu)
    rw [e, decide_eq_true hu]
    rfl
  · rw [decide_eq_false hu]
    rfl
theorem x298 {h : Hm} {l : List Ms} {t : Int} {b : Nat} (q1 : fMs h l = 0) (ht : fEn t = 0) (hb : b < pwN l.length) (hs : fSet l (bitsM b l.length) = 0) (hv : (!suV h l (List.map hdI (List.map encI (bitsM b l.length))) t) = false) : (if (if (if (ckE h l (List.map hdI (List.map encI (bitsM b l.length))) != (0 : Int)) = true then true else fHm (hmV h l (bitsM b l.length)) != (0 : Int)) = true then true else decide (costN l (bitsM b l.length) < wC h l t)) = true then true else if (costN l (bitsM b l.length) == wC h l t) = true then decide (iV2 (hmV h l (bitsM b l.length)) < insD h l t) else false) = false := by
  have u1 := su_ok q1 hs ht
  rw [hd_encI, u1.2] at hv
  have hu : afU h l (bitsM b l.length) ≤ t := by simpa using hv
  have e : wE h l t = 0 := Classical.byContradiction fun h1 => w_none q1 ht h1 hb (by rw [bsM_e]; exact hs) (by rw [bsM_e]; exact hu)
  have hw := w_some q1 ht e
  have hm := hw.m b hb (by rw [bsM_e]; exact hs) (by rw [bsM_e]; exact hu)
  rw [bsM_e] at hm
  have u2 := ck_ok q1 hs
  have u3 := iV_ok q1 hs
  rw [mk_e, hd_encI, u2.1, u3.1, u3.2, show insD h l t = afU h l (wS h l t) from if_pos (by rw [e]; rfl)]
  rcases hm with hm | ⟨hm, hm2⟩
  · rw [decide_eq_false (show ¬ costN l (bitsM b l.length) < wC h l t by omega), beq_eq_false_iff_ne.2 (show costN l (bitsM b l.length) ≠ wC h l t by omega)]
    rfl
  · rw [decide_eq_false (show ¬ costN l (bitsM b l.length) < wC h l t by omega), decide_eq_false (show ¬ afU h l (bitsM b l.length) < afU h l (wS h l t) by omega)]
    cases costN l (bitsM b l.length) == wC h l t <;> rfl
theorem x12 {h : Hm} {l : List Ms} {t : Int} (q1 : fMs h l = 0) (e : wE h l t = 0) (hw : W10 h l t) : iV2 (hmV h l (wS h l t)) = insD h l t := by
  rw [mk_e, (iV_ok q1 hw.s).2]
  exact (if_pos (by rw [e]; rfl)).symm
theorem lp1 {h : Hm} {l : List Ms} {t : Int} {g : Nat} (q1 : fMs h l = 0) (hw : W10 h l t) (hg : g < (wS h l t).length) : (0 ≤ (wS h l t).getD g default ∧ (wS h l t).getD g default < l.length) ∧ (0 ≤ csN l (wS h l t) g ∧ csN l (wS h l t) g ≤ 1000000 * g) ∧ 0 ≤ (l.getD ((wS h l t).getD g default).toNat default).c ∧ (l.getD ((wS h l t).getD g default).toNat default).c ≤ 1000000 := by
  obtain ⟨y1, y2, y3⟩ := ms_z q1
  obtain ⟨x1, _⟩ := ix_z (set_z hw.s).1
  have h1 := x1 g hg
  have h2 := (y3 ((wS h l t).getD g default).toNat (by omega)).c0
  exact ⟨h1, cs_bd y3 x1 g (by omega), h2.1, h2.2⟩
theorem c10 (h : Hm) (l : List Ms) (n0 n1 n2 : Int) (hA : PCall Tryz.prog G0 16 [] (.bool true)) (hl : l.length ≤ maxLen) (hn0 : 0 ≤ n0 ∧ n0 ≤ 4294967295) (hn1 : 0 ≤ n1 ∧ n1 ≤ 4294967295) (hn2 : 0 ≤ n2 ∧ n2 ≤ 4294967295) : PCall Tryz.prog G0 10 [.agg (encHm h), .sl 19 (l.map encMs), .agg [.int .u32 n0, .int .u32 n1, .int .u32 n2]] (.bool true) := by
  have key :
   ((!!shH h) = true → (!!shH h) = true) ∧ ((!!shH h) = true → (!!shH h) = true) ∧ ((!!shH h) = true → (!!shH h) = true) ∧ ((!shH h) = false → (!!shH h) = true) ∧ ((!if (!shH h) = true then true else decide ((↑(List.map encWn
   h.ws).length : Int) > 3)) = true → (!if (!shH h) = true then true else decide ((↑(List.map encWn h.ws).length : Int) > 3)) = true) ∧ ((!if (!shH h) = true then true else decide ((↑(List.map encWn h.ws).length : Int) > 3)) = true →
   (!if (!shH h) = true then true else decide ((↑(List.map encWn h.ws).length : Int) > 3)) = true) ∧ ((if (!shH h) = true then true else decide ((↑(List.map encWn h.ws).length : Int) > 3)) = false → (!if (!shH h) = true then true else
   decide ((↑(List.map encWn h.ws).length : Int) > 3)) = true) ∧ ((!if (if (!shH h) = true then true else decide ((↑(List.map encWn h.ws).length : Int) > 3)) = true then true else decide ((↑(List.map encMs l).length : Int) > 5)) =
   true → (!if (if (!shH h) = true then true else decide ((↑(List.map encWn h.ws).length : Int) > 3)) = true then true else decide ((↑(List.map encMs l).length : Int) > 5)) = true) ∧ ((!if (if (!shH h) = true then true else decide
   ((↑(List.map encWn h.ws).length : Int) > 3)) = true then true else decide ((↑(List.map encMs l).length : Int) > 5)) = true → (!if (if (!shH h) = true then true else decide ((↑(List.map encWn h.ws).length : Int) > 3)) = true then
   true else decide ((↑(List.map encMs l).length : Int) > 5)) = true) ∧ ((if (if (!shH h) = true then true else decide ((↑(List.map encWn h.ws).length : Int) > 3)) = true then true else decide ((↑(List.map encMs l).length : Int) > 5))
   = false → (!if (if (!shH h) = true then true else decide ((↑(List.map encWn h.ws).length : Int) > 3)) = true then true else decide ((↑(List.map encMs l).length : Int) > 5)) = true) ∧ ((!if (if (if (!shH h) = true then true else
   decide ((↑(List.map encWn h.ws).length : Int) > 3)) = true then true else decide ((↑(List.map encMs l).length : Int) > 5)) = true then true else !shM l) = true → (!if (if (if (!shH h) = true then true else decide ((↑(List.map encWn
   h.ws).length : Int) > 3)) = true then true else decide ((↑(List.map encMs l).length : Int) > 5)) = true then true else !shM l) = true) ∧ ((!if (if (if (!shH h) = true then true else decide ((↑(List.map encWn h.ws).length : Int) >
   3)) = true then true else decide ((↑(List.map encMs l).length : Int) > 5)) = true then true else !shM l) = true → (!if (if (if (!shH h) = true then true else decide ((↑(List.map encWn h.ws).length : Int) > 3)) = true then true else
   decide ((↑(List.map encMs l).length : Int) > 5)) = true then true else !shM l) = true) ∧ ((!if (if (if (!shH h) = true then true else decide ((↑(List.map encWn h.ws).length : Int) > 3)) = true then true else decide ((↑(List.map
   encMs l).length : Int) > 5)) = true then true else !shM l) = true → (!if (if (if (!shH h) = true then true else decide ((↑(List.map encWn h.ws).length : Int) > 3)) = true then true else decide ((↑(List.map encMs l).length : Int) >
   5)) = true then true else !shM l) = true) ∧ ((if (if (if (!shH h) = true then true else decide ((↑(List.map encWn h.ws).length : Int) > 3)) = true then true else decide ((↑(List.map encMs l).length : Int) > 5)) = true then true
   else !shM l) = false → (!if (if (if (!shH h) = true then true else decide ((↑(List.map encWn h.ws).length : Int) > 3)) = true then true else decide ((↑(List.map encMs l).length : Int) > 5)) = true then true else !shM l) = true) ∧
   PCall Tryz.prog G0 14 [AV.agg (encHm h)] (AV.bool (shH h)) ∧ impB (!if (if (!shH h) = true then true else decide ((↑(List.map encWn h.ws).length : Int) > 3)) = true then true else decide ((↑(List.map encMs l).length : Int) > 5))
   (PCall Tryz.prog G0 15 [AV.sl 19 (List.map encMs l)] (AV.bool (shM l))) ∧ impB (!if (if (if (!shH h) = true then true else decide ((↑(List.map encWn h.ws).length : Int) > 3)) = true then true else decide ((↑(List.map encMs
   l).length : Int) > 5)) = true then true else !shM l) (PCall Tryz.prog G0 27 [AV.agg (encHm h), AV.sl 19 (List.map encMs l)] (AV.i (fMs h l))) ∧ ((if (if (if (if (!shH h) = true then true else decide ((↑(List.map encWn h.ws).length
   : Int) > 3)) = true then true else decide ((↑(List.map encMs l).length : Int) > 5)) = true then true else !shM l) = true then true else fMs h l != 0) = true → PCall Tryz.prog G0 16 [] (AV.bool true) ∧ AV.bool true = AV.bool true) ∧
   ((if (if (if (if (!shH h) = true then true else decide ((↑(List.map encWn h.ws).length : Int) > 3)) = true then true else decide ((↑(List.map encMs l).length : Int) > 5)) = true then true else !shM l) = true then true else fMs h l
   != 0) = false → (0 : Int) ≤ 0 ∧ (0 : Int) < (↑3 : Int) ∧ PCall Tryz.prog G0 18 [AV.agg (encHm h)] (AV.agg (encHm h)) ∧ PCall Tryz.prog G0 22 [AV.sl 19 (List.map encMs l)] (AV.sl 19 (List.map encMs l)) ∧ PCall Tryz.prog G0 42
   [AV.agg (encHm h), AV.sl 19 (List.map encMs l), AV.i (IntKind.i64.wrap n0)] (AV.tup [AV.sl 1 (List.map encI (wS h l (IntKind.i64.wrap n0))), AV.i (wC h l (IntKind.i64.wrap n0)), AV.i (wE h l (IntKind.i64.wrap n0))]) ∧ ((wE h l
   (IntKind.i64.wrap n0) != 0) = true → (wE h l (IntKind.i64.wrap n0) != 0) = true) ∧ ((wE h l (IntKind.i64.wrap n0) != 0) = true → (wE h l (IntKind.i64.wrap n0) != 0) = true) ∧ (((if (wE h l (IntKind.i64.wrap n0) != 0) = true then wE
   h l (IntKind.i64.wrap n0) != 18 else false) = true → AV.bool false = AV.bool true) ∧ ((if (wE h l (IntKind.i64.wrap n0) != 0) = true then wE h l (IntKind.i64.wrap n0) != 18 else false) = false → AS.mk [(1, AV.sl 19 (List.map encMs
   l)), (3, AV.elt 3 [(encHm h)] 0 0), (5, AV.elt 3 [[AV.int IntKind.u32 n0, AV.int IntKind.u32 n1, AV.int IntKind.u32 n2]] 0 0), (7, AV.i (IntKind.i64.wrap n0)), (8, AV.sl 1 (List.map encI (wS h l (IntKind.i64.wrap n0)))), (9, AV.i
   (wC h l (IntKind.i64.wrap n0))), (10, AV.i (wE h l (IntKind.i64.wrap n0)))] [] 1 = AS.mk [(1, AV.sl 19 (List.map encMs l)), (3, AV.elt 3 [(encHm h)] 0 0), (5, AV.elt 3 [[AV.int IntKind.u32 n0, AV.int IntKind.u32 n1, AV.int
   IntKind.u32 n2]] 0 0), (7, AV.i n0), (8, AV.sl 1 (List.map encI (wS h l n0))), (9, AV.i (wC h l n0)), (10, AV.i (wE h l n0))] [] 1 ∧ K10 h l)) ∧ (K10 h l → (((wE h l n0 == 0) = true → PCall Tryz.prog G0 31 [AV.sl 19 (List.map encMs
   l), AV.sl 1 (List.map encI (wS h l n0))] (AV.i (fSet l (List.map hdI (List.map encI (wS h l n0))))) ∧ ((fSet l (List.map hdI (List.map encI (wS h l n0))) != 0) = true → AV.bool false = AV.bool true) ∧ ((fSet l (List.map hdI
   (List.map encI (wS h l n0))) != 0) = false → (∃ (g : Nat), g ≤ (wS h l n0).length ∧ AS.mk [(1, AV.sl 19 (List.map encMs l)), (3, AV.elt 3 [(encHm h)] 0 0), (7, AV.i n0), (9, AV.i (wC h l n0)), (10, AV.i (wE h l n0)), (5, AV.elt 3
   [[AV.int IntKind.u32 n0, AV.int IntKind.u32 n1, AV.int IntKind.u32 n2]] 0 0), (8, AV.sl 1 (List.map encI (wS h l n0))), (11, AV.i 0), (12, AV.i 0), (89, AV.sl 1 (List.map encI (wS h l n0))), (90, AV.i (↑(List.map encI (wS h l
   n0)).length : Int)), (91, AV.i 0)] [] 1 = AS.mk [(1, AV.sl 19 (List.map encMs l)), (3, AV.elt 3 [(encHm h)] 0 0), (7, AV.i n0), (9, AV.i (wC h l n0)), (10, AV.i (wE h l n0)), (5, AV.elt 3 [[AV.int IntKind.u32 n0, AV.int IntKind.u32
   n1, AV.int IntKind.u32 n2]] 0 0), (8, AV.sl 1 (List.map encI (wS h l n0))), (11, AV.i (csN l (wS h l n0) g)), (12, AV.i 0), (89, AV.sl 1 (List.map encI (wS h l n0))), (90, AV.i (↑(List.map encI (wS h l n0)).length : Int)), (91,
   AV.i (↑g : Int))] [] 1) ∧ ∀ (g : Nat), g ≤ (wS h l n0).length → (decide ((↑g : Int) < (↑(List.map encI (wS h l n0)).length : Int)) = true → (0 : Int) ≤ (↑g : Int) ∧ (↑g : Int) < (↑(List.map encI (wS h l n0)).length : Int) ∧ nth
   (nthR (List.map encI (wS h l n0)) (↑g : Int).toNat) 0 = AV.i ((wS h l n0).getD (↑g : Int).toNat default) ∧ (0 : Int) ≤ (wS h l n0).getD (↑g : Int).toNat default ∧ (wS h l n0).getD (↑g : Int).toNat default < (↑(List.map encMs
   l).length : Int) ∧ In64 (csN l (wS h l n0) g + (l.getD ((wS h l n0).getD (↑g : Int).toNat default).toNat default).c) ∧ nth (nthR (List.map encMs l) ((wS h l n0).getD (↑g : Int).toNat default).toNat) 2 = AV.i (l.getD ((wS h l
   n0).getD (↑g : Int).toNat default).toNat default).c ∧ In64 ((↑g : Int) + 1) ∧ ∃ (g' : Nat), g' ≤ (wS h l n0).length ∧ (wS h l n0).length - g' < (wS h l n0).length - g ∧ AS.mk [(1, AV.sl 19 (List.map encMs l)), (3, AV.elt 3 [(encHm
   h)] 0 0), (7, AV.i n0), (9, AV.i (wC h l n0)), (10, AV.i (wE h l n0)), (5, AV.elt 3 [[AV.int IntKind.u32 n0, AV.int IntKind.u32 n1, AV.int IntKind.u32 n2]] 0 0), (8, AV.sl 1 (List.map encI (wS h l n0))), (11, AV.i (csN l (wS h l
   n0) g + (l.getD ((wS h l n0).getD (↑g : Int).toNat default).toNat default).c)), (12, AV.i 0), (89, AV.sl 1 (List.map encI (wS h l n0))), (90, AV.i (↑(List.map encI (wS h l n0)).length : Int)), (91, AV.i ((↑g : Int) + 1))] [] 1 =
   AS.mk [(1, AV.sl 19 (List.map encMs l)), (3, AV.elt 3 [(encHm h)] 0 0), (7, AV.i n0), (9, AV.i (wC h l n0)), (10, AV.i (wE h l n0)), (5, AV.elt 3 [[AV.int IntKind.u32 n0, AV.int IntKind.u32 n1, AV.int IntKind.u32 n2]] 0 0), (8,
   AV.sl 1 (List.map encI (wS h l n0))), (11, AV.i (csN l (wS h l n0) g')), (12, AV.i 0), (89, AV.sl 1 (List.map encI (wS h l n0))), (90, AV.i (↑(List.map encI (wS h l n0)).length : Int)), (91, AV.i (↑g' : Int))] [] 1) ∧ (decide ((↑g
   : Int) < (↑(List.map encI (wS h l n0)).length : Int)) = false → PCall Tryz.prog G0 18 [AV.agg (encHm h)] (AV.agg (encHm h)) ∧ PCall Tryz.prog G0 22 [AV.sl 19 (List.map encMs l)] (AV.sl 19 (List.map encMs l)) ∧ PCall Tryz.prog G0 23
   [AV.sl 1 (List.map encI (wS h l n0))] (AV.sl 1 (List.map encI (wS h l n0))) ∧ PCall Tryz.prog G0 24 [AV.agg (encHm h), AV.sl 19 (List.map encMs l), AV.sl 1 (List.map encI (wS h l n0)), AV.i n0] (AV.tup [AV.bool (suV h l (List.map
   hdI (List.map encI (wS h l n0))) n0), AV.i (suE h l (List.map hdI (List.map encI (wS h l n0))) n0)]) ∧ PCall Tryz.prog G0 18 [AV.agg (encHm h)] (AV.agg (encHm h)) ∧ PCall Tryz.prog G0 22 [AV.sl 19 (List.map encMs l)] (AV.sl 19
   (List.map encMs l)) ∧ PCall Tryz.prog G0 23 [AV.sl 1 (List.map encI (wS h l n0))] (AV.sl 1 (List.map encI (wS h l n0))) ∧ PCall Tryz.prog G0 21 [AV.agg (encHm h), AV.sl 19 (List.map encMs l), AV.sl 1 (List.map encI (wS h l n0))]
   (AV.tup [AV.agg (encHm (afV h l (List.map hdI (List.map encI (wS h l n0))))), AV.i (ckE h l (List.map hdI (List.map encI (wS h l n0))))]) ∧ PCall Tryz.prog G0 19 [AV.agg (encHm (afV h l (List.map hdI (List.map encI (wS h l n0)))))]
   (AV.tup [AV.agg [AV.i (iV1 (hmV h l (wS h l n0))), AV.i (iV2 (hmV h l (wS h l n0)))], AV.i (fHm (hmV h l (wS h l n0)))]) ∧ (((!suE h l (List.map hdI (List.map encI (wS h l n0))) n0 != 0) = true → (!suE h l (List.map hdI (List.map
   encI (wS h l n0))) n0 != 0) = true) ∧ ((suE h l (List.map hdI (List.map encI (wS h l n0))) n0 != 0) = false → (!suE h l (List.map hdI (List.map encI (wS h l n0))) n0 != 0) = true) ∧ ((!if (suE h l (List.map hdI (List.map encI (wS h
   l n0))) n0 != 0) = true then true else ckE h l (List.map hdI (List.map encI (wS h l n0))) != 0) = true → (!if (suE h l (List.map hdI (List.map encI (wS h l n0))) n0 != 0) = true then true else ckE h l (List.map hdI (List.map encI
   (wS h l n0))) != 0) = true) ∧ ((if (suE h l (List.map hdI (List.map encI (wS h l n0))) n0 != 0) = true then true else ckE h l (List.map hdI (List.map encI (wS h l n0))) != 0) = false → (!if (suE h l (List.map hdI (List.map encI (wS
   h l n0))) n0 != 0) = true then true else ckE h l (List.map hdI (List.map encI (wS h l n0))) != 0) = true) ∧ ((!if (if (suE h l (List.map hdI (List.map encI (wS h l n0))) n0 != 0) = true then true else ckE h l (List.map hdI
   (List.map encI (wS h l n0))) != 0) = true then true else fHm (hmV h l (wS h l n0)) != 0) = true → (!if (if (suE h l (List.map hdI (List.map encI (wS h l n0))) n0 != 0) = true then true else ckE h l (List.map hdI (List.map encI (wS
   h l n0))) != 0) = true then true else fHm (hmV h l (wS h l n0)) != 0) = true) ∧ ((if (if (suE h l (List.map hdI (List.map encI (wS h l n0))) n0 != 0) = true then true else ckE h l (List.map hdI (List.map encI (wS h l n0))) != 0) =
   true then true else fHm (hmV h l (wS h l n0)) != 0) = false → (!if (if (suE h l (List.map hdI (List.map encI (wS h l n0))) n0 != 0) = true then true else ckE h l (List.map hdI (List.map encI (wS h l n0))) != 0) = true then true
   else fHm (hmV h l (wS h l n0)) != 0) = true) ∧ ((!if (if (if (suE h l (List.map hdI (List.map encI (wS h l n0))) n0 != 0) = true then true else ckE h l (List.map hdI (List.map encI (wS h l n0))) != 0) = true then true else fHm (hmV
   h l (wS h l n0)) != 0) = true then true else !suV h l (List.map hdI (List.map encI (wS h l n0))) n0) = true → (!if (if (if (suE h l (List.map hdI (List.map encI (wS h l n0))) n0 != 0) = true then true else ckE h l (List.map hdI
   (List.map encI (wS h l n0))) != 0) = true then true else fHm (hmV h l (wS h l n0)) != 0) = true then true else !suV h l (List.map hdI (List.map encI (wS h l n0))) n0) = true) ∧ ((!if (if (if (suE h l (List.map hdI (List.map encI
   (wS h l n0))) n0 != 0) = true then true else ckE h l (List.map hdI (List.map encI (wS h l n0))) != 0) = true then true else fHm (hmV h l (wS h l n0)) != 0) = true then true else !suV h l (List.map hdI (List.map encI (wS h l n0)))
   n0) = true → (!if (if (if (suE h l (List.map hdI (List.map encI (wS h l n0))) n0 != 0) = true then true else ckE h l (List.map hdI (List.map encI (wS h l n0))) != 0) = true then true else fHm (hmV h l (wS h l n0)) != 0) = true then
   true else !suV h l (List.map hdI (List.map encI (wS h l n0))) n0) = true) ∧ ((if (if (if (suE h l (List.map hdI (List.map encI (wS h l n0))) n0 != 0) = true then true else ckE h l (List.map hdI (List.map encI (wS h l n0))) != 0) =
   true then true else fHm (hmV h l (wS h l n0)) != 0) = true then true else !suV h l (List.map hdI (List.map encI (wS h l n0))) n0) = false → (!if (if (if (suE h l (List.map hdI (List.map encI (wS h l n0))) n0 != 0) = true then true
   else ckE h l (List.map hdI (List.map encI (wS h l n0))) != 0) = true then true else fHm (hmV h l (wS h l n0)) != 0) = true then true else !suV h l (List.map hdI (List.map encI (wS h l n0))) n0) = true) ∧ AS.mk [(1, AV.sl 19
   (List.map encMs l)), (3, AV.elt 3 [(encHm h)] 0 0), (5, AV.elt 3 [[AV.int IntKind.u32 n0, AV.int IntKind.u32 n1, AV.int IntKind.u32 n2]] 0 0), (7, AV.i n0), (9, AV.i (wC h l n0)), (10, AV.i (wE h l n0)), (12, AV.i 0), (19, AV.elt 2
   [[AV.i (iV1 (hmV h l (wS h l n0))), AV.i (iV2 (hmV h l (wS h l n0)))]] 0 0), (147, AV.bool (if (if (if (if (suE h l (List.map hdI (List.map encI (wS h l n0))) n0 != 0) = true then true else ckE h l (List.map hdI (List.map encI (wS
   h l n0))) != 0) = true then true else fHm (hmV h l (wS h l n0)) != 0) = true then true else !suV h l (List.map hdI (List.map encI (wS h l n0))) n0) = true then true else csN l (wS h l n0) g != wC h l n0))] [] 1 = AS.mk [(1, AV.sl
   19 (List.map encMs l)), (3, AV.elt 3 [(encHm h)] 0 0), (5, AV.elt 3 [[AV.int IntKind.u32 n0, AV.int IntKind.u32 n1, AV.int IntKind.u32 n2]] 0 0), (7, AV.i n0), (9, AV.i (wC h l n0)), (10, AV.i (wE h l n0)), (12, AV.i 0), (19,
   AV.elt 2 [[AV.i (iV1 (hmV h l (wS h l n0))), AV.i (iV2 (hmV h l (wS h l n0)))]] 0 0), (147, AV.bool false)] [] 1) ∧ (0 : Int) ≤ 1 ∧ (1 : Int) < (↑3 : Int) ∧ ¬(1000 : Int) = (0 : Int) ∧ In64 (n0 + (IntKind.i64.wrap n1).tmod (1000 :
   Int)) ∧ PCall Tryz.prog G0 18 [AV.agg (encHm h)] (AV.agg (encHm h)) ∧ PCall Tryz.prog G0 22 [AV.sl 19 (List.map encMs l)] (AV.sl 19 (List.map encMs l)) ∧ PCall Tryz.prog G0 42 [AV.agg (encHm h), AV.sl 19 (List.map encMs l), AV.i
   (n0 + (IntKind.i64.wrap n1).tmod (1000 : Int))] (AV.tup [AV.sl 1 (List.map encI (wS h l (n0 + (IntKind.i64.wrap n1).tmod (1000 : Int)))), AV.i (wC h l (n0 + (IntKind.i64.wrap n1).tmod (1000 : Int))), AV.i (wE h l (n0 +
   (IntKind.i64.wrap n1).tmod (1000 : Int)))]) ∧ (((!wE h l (n0 + (IntKind.i64.wrap n1).tmod (1000 : Int)) != 0) = true → (!wE h l (n0 + (IntKind.i64.wrap n1).tmod (1000 : Int)) != 0) = true) ∧ ((!wE h l (n0 + (IntKind.i64.wrap
   n1).tmod (1000 : Int)) != 0) = true → (!wE h l (n0 + (IntKind.i64.wrap n1).tmod (1000 : Int)) != 0) = true) ∧ ((wE h l (n0 + (IntKind.i64.wrap n1).tmod (1000 : Int)) != 0) = false → (!wE h l (n0 + (IntKind.i64.wrap n1).tmod (1000 :
   Int)) != 0) = true) ∧ ((!if (wE h l (n0 + (IntKind.i64.wrap n1).tmod (1000 : Int)) != 0) = true then true else decide (wC h l (n0 + (IntKind.i64.wrap n1).tmod (1000 : Int)) > wC h l n0)) = true → (!if (wE h l (n0 +
   (IntKind.i64.wrap n1).tmod (1000 : Int)) != 0) = true then true else decide (wC h l (n0 + (IntKind.i64.wrap n1).tmod (1000 : Int)) > wC h l n0)) = true) ∧ ((!if (wE h l (n0 + (IntKind.i64.wrap n1).tmod (1000 : Int)) != 0) = true
   then true else decide (wC h l (n0 + (IntKind.i64.wrap n1).tmod (1000 : Int)) > wC h l n0)) = true → (!if (wE h l (n0 + (IntKind.i64.wrap n1).tmod (1000 : Int)) != 0) = true then true else decide (wC h l (n0 + (IntKind.i64.wrap
   n1).tmod (1000 : Int)) > wC h l n0)) = true) ∧ ((!if (wE h l (n0 + (IntKind.i64.wrap n1).tmod (1000 : Int)) != 0) = true then true else decide (wC h l (n0 + (IntKind.i64.wrap n1).tmod (1000 : Int)) > wC h l n0)) = true → (!if (wE h
   l (n0 + (IntKind.i64.wrap n1).tmod (1000 : Int)) != 0) = true then true else decide (wC h l (n0 + (IntKind.i64.wrap n1).tmod (1000 : Int)) > wC h l n0)) = true) ∧ ((if (wE h l (n0 + (IntKind.i64.wrap n1).tmod (1000 : Int)) != 0) =
   true then true else decide (wC h l (n0 + (IntKind.i64.wrap n1).tmod (1000 : Int)) > wC h l n0)) = false → (!if (wE h l (n0 + (IntKind.i64.wrap n1).tmod (1000 : Int)) != 0) = true then true else decide (wC h l (n0 +
   (IntKind.i64.wrap n1).tmod (1000 : Int)) > wC h l n0)) = true) ∧ impB (!if (wE h l (n0 + (IntKind.i64.wrap n1).tmod (1000 : Int)) != 0) = true then true else decide (wC h l (n0 + (IntKind.i64.wrap n1).tmod (1000 : Int)) > wC h l
   n0)) (PCall Tryz.prog G0 31 [AV.sl 19 (List.map encMs l), AV.sl 1 (List.map encI (wS h l (n0 + (IntKind.i64.wrap n1).tmod (1000 : Int))))] (AV.i (fSet l (List.map hdI (List.map encI (wS h l (n0 + (IntKind.i64.wrap n1).tmod (1000 :
   Int)))))))) ∧ AS.mk [(1, AV.sl 19 (List.map encMs l)), (3, AV.elt 3 [(encHm h)] 0 0), (5, AV.elt 3 [[AV.int IntKind.u32 n0, AV.int IntKind.u32 n1, AV.int IntKind.u32 n2]] 0 0), (7, AV.i n0), (9, AV.i (wC h l n0)), (10, AV.i (wE h l
   n0)), (12, AV.i (iV2 (hmV h l (wS h l n0)))), (177, AV.bool (if (if (wE h l (n0 + (IntKind.i64.wrap n1).tmod (1000 : Int)) != 0) = true then true else decide (wC h l (n0 + (IntKind.i64.wrap n1).tmod (1000 : Int)) > wC h l n0)) =
   true then true else fSet l (List.map hdI (List.map encI (wS h l (n0 + (IntKind.i64.wrap n1).tmod (1000 : Int))))) != 0))] [] 1 = AS.mk [(1, AV.sl 19 (List.map encMs l)), (3, AV.elt 3 [(encHm h)] 0 0), (5, AV.elt 3 [[AV.int
   IntKind.u32 n0, AV.int IntKind.u32 n1, AV.int IntKind.u32 n2]] 0 0), (7, AV.i n0), (9, AV.i (wC h l n0)), (10, AV.i (wE h l n0)), (12, AV.i (iV2 (hmV h l (wS h l n0)))), (177, AV.bool false)] [] 1) ∧ (0 : Int) ≤ 1 ∧ (1 : Int) < (↑3
   : Int) ∧ ¬(100 : Int) = (0 : Int) ∧ (0 : Int) ≤ 2 ∧ (2 : Int) < (↑3 : Int) ∧ ¬(100001 : Int) = (0 : Int) ∧ (0 : Int) ≤ 0 ∧ (0 : Int) < (↑3 : Int) ∧ PCall Tryz.prog G0 18 [AV.agg (encHm h)] (AV.agg (encHm h)) ∧ PCall Tryz.prog G0 22
   [AV.sl 19 (List.map encMs l)] (AV.sl 19 (List.map encMs l)) ∧ PCall Tryz.prog G0 43 [AV.agg (encHm h), AV.sl 19 (List.map encMs l), AV.i n0, AV.i 0] (AV.tup [AV.i (bdV h l n0 (0 : Int)), AV.i (bdE h l n0 (0 : Int))]) ∧ (((!bdE h l
   n0 (0 : Int) != 0) = true → (!bdE h l n0 (0 : Int) != 0) = true) ∧ ((!bdE h l n0 (0 : Int) != 0) = true → (!bdE h l n0 (0 : Int) != 0) = true) ∧ ((bdE h l n0 (0 : Int) != 0) = false → (!bdE h l n0 (0 : Int) != 0) = true) ∧ AS.mk
   [(1, AV.sl 19 (List.map encMs l)), (3, AV.elt 3 [(encHm h)] 0 0), (7, AV.i n0), (9, AV.i (wC h l n0)), (10, AV.i (wE h l n0)), (12, AV.i (iV2 (hmV h l (wS h l n0)))), (186, AV.agg [AV.i 0, AV.i ((IntKind.i64.wrap n1).tmod (100 :
   Int)), AV.i ((IntKind.i64.wrap n2).tmod (100001 : Int))]), (187, AV.i 0), (206, AV.bool (if (bdE h l n0 (0 : Int) != 0) = true then true else decide (bdV h l n0 (0 : Int) > wC h l n0)))] [] 1 = AS.mk [(1, AV.sl 19 (List.map encMs
   l)), (3, AV.elt 3 [(encHm h)] 0 0), (7, AV.i n0), (9, AV.i (wC h l n0)), (10, AV.i (wE h l n0)), (12, AV.i (iV2 (hmV h l (wS h l n0)))), (186, AV.agg [AV.i 0, AV.i ((IntKind.i64.wrap n1).tmod (100 : Int)), AV.i ((IntKind.i64.wrap
   n2).tmod (100001 : Int))]), (187, AV.i 0), (206, AV.bool false)] [] 1) ∧ In64 ((0 : Int) + 1) ∧ (0 : Int) ≤ 0 + 1 ∧ (0 : Int) + 1 < (↑3 : Int) ∧ PCall Tryz.prog G0 18 [AV.agg (encHm h)] (AV.agg (encHm h)) ∧ PCall Tryz.prog G0 22
   [AV.sl 19 (List.map encMs l)] (AV.sl 19 (List.map encMs l)) ∧ PCall Tryz.prog G0 43 [AV.agg (encHm h), AV.sl 19 (List.map encMs l), AV.i n0, AV.i ((IntKind.i64.wrap n1).tmod (100 : Int))] (AV.tup [AV.i (bdV h l n0
   ((IntKind.i64.wrap n1).tmod (100 : Int))), AV.i (bdE h l n0 ((IntKind.i64.wrap n1).tmod (100 : Int)))]) ∧ (((!bdE h l n0 ((IntKind.i64.wrap n1).tmod (100 : Int)) != 0) = true → (!bdE h l n0 ((IntKind.i64.wrap n1).tmod (100 : Int))
   != 0) = true) ∧ ((!bdE h l n0 ((IntKind.i64.wrap n1).tmod (100 : Int)) != 0) = true → (!bdE h l n0 ((IntKind.i64.wrap n1).tmod (100 : Int)) != 0) = true) ∧ ((bdE h l n0 ((IntKind.i64.wrap n1).tmod (100 : Int)) != 0) = false → (!bdE
   h l n0 ((IntKind.i64.wrap n1).tmod (100 : Int)) != 0) = true) ∧ AS.mk [(1, AV.sl 19 (List.map encMs l)), (3, AV.elt 3 [(encHm h)] 0 0), (7, AV.i n0), (9, AV.i (wC h l n0)), (10, AV.i (wE h l n0)), (12, AV.i (iV2 (hmV h l (wS h l
   n0)))), (186, AV.agg [AV.i 0, AV.i ((IntKind.i64.wrap n1).tmod (100 : Int)), AV.i ((IntKind.i64.wrap n2).tmod (100001 : Int))]), (187, AV.i ((0 : Int) + 1)), (206, AV.bool (if (bdE h l n0 ((IntKind.i64.wrap n1).tmod (100 : Int)) !=
   0) = true then true else decide (bdV h l n0 ((IntKind.i64.wrap n1).tmod (100 : Int)) > wC h l n0)))] [] 1 = AS.mk [(1, AV.sl 19 (List.map encMs l)), (3, AV.elt 3 [(encHm h)] 0 0), (7, AV.i n0), (9, AV.i (wC h l n0)), (10, AV.i (wE
   h l n0)), (12, AV.i (iV2 (hmV h l (wS h l n0)))), (186, AV.agg [AV.i 0, AV.i ((IntKind.i64.wrap n1).tmod (100 : Int)), AV.i ((IntKind.i64.wrap n2).tmod (100001 : Int))]), (187, AV.i ((0 : Int) + 1)), (206, AV.bool false)] [] 1) ∧
   In64 ((0 : Int) + 1 + 1) ∧ (0 : Int) ≤ 0 + 1 + 1 ∧ (0 : Int) + 1 + 1 < (↑3 : Int) ∧ PCall Tryz.prog G0 18 [AV.agg (encHm h)] (AV.agg (encHm h)) ∧ PCall Tryz.prog G0 22 [AV.sl 19 (List.map encMs l)] (AV.sl 19 (List.map encMs l)) ∧
   PCall Tryz.prog G0 43 [AV.agg (encHm h), AV.sl 19 (List.map encMs l), AV.i n0, AV.i ((IntKind.i64.wrap n2).tmod (100001 : Int))] (AV.tup [AV.i (bdV h l n0 ((IntKind.i64.wrap n2).tmod (100001 : Int))), AV.i (bdE h l n0
   ((IntKind.i64.wrap n2).tmod (100001 : Int)))]) ∧ (((!bdE h l n0 ((IntKind.i64.wrap n2).tmod (100001 : Int)) != 0) = true → (!bdE h l n0 ((IntKind.i64.wrap n2).tmod (100001 : Int)) != 0) = true) ∧ ((!bdE h l n0 ((IntKind.i64.wrap
   n2).tmod (100001 : Int)) != 0) = true → (!bdE h l n0 ((IntKind.i64.wrap n2).tmod (100001 : Int)) != 0) = true) ∧ ((bdE h l n0 ((IntKind.i64.wrap n2).tmod (100001 : Int)) != 0) = false → (!bdE h l n0 ((IntKind.i64.wrap n2).tmod
   (100001 : Int)) != 0) = true) ∧ AS.mk [(1, AV.sl 19 (List.map encMs l)), (3, AV.elt 3 [(encHm h)] 0 0), (7, AV.i n0), (9, AV.i (wC h l n0)), (10, AV.i (wE h l n0)), (12, AV.i (iV2 (hmV h l (wS h l n0)))), (186, AV.agg [AV.i 0, AV.i
   ((IntKind.i64.wrap n1).tmod (100 : Int)), AV.i ((IntKind.i64.wrap n2).tmod (100001 : Int))]), (187, AV.i ((0 : Int) + 1 + 1)), (206, AV.bool (if (bdE h l n0 ((IntKind.i64.wrap n2).tmod (100001 : Int)) != 0) = true then true else
   decide (bdV h l n0 ((IntKind.i64.wrap n2).tmod (100001 : Int)) > wC h l n0)))] [] 1 = AS.mk [(1, AV.sl 19 (List.map encMs l)), (3, AV.elt 3 [(encHm h)] 0 0), (7, AV.i n0), (9, AV.i (wC h l n0)), (10, AV.i (wE h l n0)), (12, AV.i
   (iV2 (hmV h l (wS h l n0)))), (186, AV.agg [AV.i 0, AV.i ((IntKind.i64.wrap n1).tmod (100 : Int)), AV.i ((IntKind.i64.wrap n2).tmod (100001 : Int))]), (187, AV.i ((0 : Int) + 1 + 1)), (206, AV.bool false)] [] 1) ∧ In64 ((0 : Int) +
   1 + 1 + 1) ∧ AS.mk [(1, AV.sl 19 (List.map encMs l)), (3, AV.elt 3 [(encHm h)] 0 0), (7, AV.i n0), (9, AV.i (wC h l n0)), (10, AV.i (wE h l n0)), (12, AV.i (iV2 (hmV h l (wS h l n0))))] [] 1 = AS.mk [(1, AV.sl 19 (List.map encMs
   l)), (3, AV.elt 3 [(encHm h)] 0 0), (7, AV.i n0), (9, AV.i (wC h l n0)), (10, AV.i (wE h l n0)), (12, AV.i (insD h l n0))] [] 1 ∧ K10 h l))) ∧ ((wE h l n0 == 0) = false → AS.mk [(1, AV.sl 19 (List.map encMs l)), (3, AV.elt 3
   [(encHm h)] 0 0), (7, AV.i n0), (9, AV.i (wC h l n0)), (10, AV.i (wE h l n0)), (12, AV.i 0)] [] 1 = AS.mk [(1, AV.sl 19 (List.map encMs l)), (3, AV.elt 3 [(encHm h)] 0 0), (7, AV.i n0), (9, AV.i (wC h l n0)), (10, AV.i (wE h l
   n0)), (12, AV.i (insD h l n0))] [] 1 ∧ K10 h l)) ∧ (K10 h l → (0 : Int) ≤ (↑(List.map encMs l).length : Int) ∧ (↑(List.map encMs l).length : Int) ≤ 64 ∧ In64 ((1 : Int) * 2 ^ (↑(List.map encMs l).length : Int).toNat) ∧ AV.i ((1 :
   Int) * 2 ^ (↑(List.map encMs l).length : Int).toNat) = AV.i (↑(pwN l.length) : Int) ∧ (∃ (g : Nat), g ≤ pwN l.length ∧ AS.mk [(1, AV.sl 19 (List.map encMs l)), (3, AV.elt 3 [(encHm h)] 0 0), (7, AV.i n0), (9, AV.i (wC h l n0)),
   (10, AV.i (wE h l n0)), (12, AV.i (insD h l n0)), (210, AV.i (↑(pwN l.length) : Int)), (211, AV.i 0)] [] 1 = AS.mk [(1, AV.sl 19 (List.map encMs l)), (3, AV.elt 3 [(encHm h)] 0 0), (7, AV.i n0), (9, AV.i (wC h l n0)), (10, AV.i (wE
   h l n0)), (12, AV.i (insD h l n0)), (210, AV.i (↑(pwN l.length) : Int)), (211, AV.i (↑g : Int))] [] 1) ∧ ∀ (g : Nat), g ≤ pwN l.length → (decide ((↑g : Int) < (↑(pwN l.length) : Int)) = true → ∃ (g0 : Nat × Nat), (g0.fst < pwN
   l.length ∧ g0.snd ≤ l.length) ∧ g0.fst = g0.fst ∧ AS.mk [(1, AV.sl 19 (List.map encMs l)), (3, AV.elt 3 [(encHm h)] 0 0), (7, AV.i n0), (9, AV.i (wC h l n0)), (10, AV.i (wE h l n0)), (12, AV.i (insD h l n0)), (210, AV.i (↑(pwN
   l.length) : Int)), (211, AV.i (↑g : Int)), (28, AV.i (↑g : Int)), (29, AV.own 1 0), (30, AV.i 0), (215, AV.i (↑(List.map encMs l).length : Int)), (216, AV.i 0)] [(1, ABlk.buf 3 1 [])] 2 = AS.mk [(1, AV.sl 19 (List.map encMs l)),
   (3, AV.elt 3 [(encHm h)] 0 0), (7, AV.i n0), (9, AV.i (wC h l n0)), (10, AV.i (wE h l n0)), (12, AV.i (insD h l n0)), (210, AV.i (↑(pwN l.length) : Int)), (211, AV.i (↑g0.fst : Int)), (28, AV.i (↑g0.fst : Int)), (29, AV.own 1
   (List.map encI (bitsM g0.fst g0.snd)).length), (30, AV.i (costN l (bitsM g0.fst g0.snd))), (215, AV.i (↑(List.map encMs l).length : Int)), (216, AV.i (↑g0.snd : Int))] [(1, ABlk.buf 3 1 (List.map encI (bitsM g0.fst g0.snd)))] 2 ∧ ∀
   (g_1 : Nat × Nat), g_1.fst < pwN l.length ∧ g_1.snd ≤ l.length → g_1.fst = g0.fst → (decide ((↑g_1.snd : Int) < (↑(List.map encMs l).length : Int)) = true → (0 : Int) ≤ (↑g_1.snd : Int) ∧ (↑g_1.snd : Int) ≤ 64 ∧ (0 : Int) ≤
   (↑g_1.fst : Int).fdiv ((2 : Int) ^ (↑g_1.snd : Int).toNat) ∧ (0 : Int) ≤ 1 ∧ In64 ((↑g_1.fst : Int).fdiv ((2 : Int) ^ (↑g_1.snd : Int).toNat)) ∧ In64 (1 : Int) ∧ (((↑(((↑g_1.fst : Int).fdiv ((2 : Int) ^ (↑g_1.snd :
   Int).toNat)).toNat &&& 1) : Int) == 1) = true → (List.map encI (bitsM g_1.fst g_1.snd)).length + 1 ≤ 9223372036854775807 ∧ ((List.map encI (bitsM g_1.fst g_1.snd)).length + 1) * 8 ≤ 140737488355328 ∧ (0 : Int) ≤ (↑g_1.snd : Int) ∧
   (↑g_1.snd : Int) < (↑(List.map encMs l).length : Int) ∧ In64 (costN l (bitsM g_1.fst g_1.snd) + (l.getD (↑g_1.snd : Int).toNat default).c) ∧ nth (nthR (List.map encMs l) (↑g_1.snd : Int).toNat) 2 = AV.i (l.getD (↑g_1.snd :
   Int).toNat default).c ∧ In64 ((↑g_1.snd : Int) + 1) ∧ ∃ (g' : Nat × Nat), (g'.fst < pwN l.length ∧ g'.snd ≤ l.length) ∧ g'.fst = g0.fst ∧ l.length - g'.snd < l.length - g_1.snd ∧ AS.mk [(1, AV.sl 19 (List.map encMs l)), (3, AV.elt
   3 [(encHm h)] 0 0), (7, AV.i n0), (9, AV.i (wC h l n0)), (10, AV.i (wE h l n0)), (12, AV.i (insD h l n0)), (210, AV.i (↑(pwN l.length) : Int)), (211, AV.i (↑g_1.fst : Int)), (28, AV.i (↑g_1.fst : Int)), (29, AV.own 1 ((List.map
   encI (bitsM g_1.fst g_1.snd)).length + 1)), (30, AV.i (costN l (bitsM g_1.fst g_1.snd) + (l.getD (↑g_1.snd : Int).toNat default).c)), (215, AV.i (↑(List.map encMs l).length : Int)), (216, AV.i ((↑g_1.snd : Int) + 1))] [(1, ABlk.buf
   3 1 (List.map encI (bitsM g_1.fst g_1.snd) ++ [[AV.i (↑g_1.snd : Int)]]))] 2 = AS.mk [(1, AV.sl 19 (List.map encMs l)), (3, AV.elt 3 [(encHm h)] 0 0), (7, AV.i n0), (9, AV.i (wC h l n0)), (10, AV.i (wE h l n0)), (12, AV.i (insD h l
   n0)), (210, AV.i (↑(pwN l.length) : Int)), (211, AV.i (↑g'.fst : Int)), (28, AV.i (↑g'.fst : Int)), (29, AV.own 1 (List.map encI (bitsM g'.fst g'.snd)).length), (30, AV.i (costN l (bitsM g'.fst g'.snd))), (215, AV.i (↑(List.map
   encMs l).length : Int)), (216, AV.i (↑g'.snd : Int))] [(1, ABlk.buf 3 1 (List.map encI (bitsM g'.fst g'.snd)))] 2) ∧ (((↑(((↑g_1.fst : Int).fdiv ((2 : Int) ^ (↑g_1.snd : Int).toNat)).toNat &&& 1) : Int) == 1) = false → In64
   ((↑g_1.snd : Int) + 1) ∧ ∃ (g' : Nat × Nat), (g'.fst < pwN l.length ∧ g'.snd ≤ l.length) ∧ g'.fst = g0.fst ∧ l.length - g'.snd < l.length - g_1.snd ∧ AS.mk [(1, AV.sl 19 (List.map encMs l)), (3, AV.elt 3 [(encHm h)] 0 0), (7, AV.i
   n0), (9, AV.i (wC h l n0)), (10, AV.i (wE h l n0)), (12, AV.i (insD h l n0)), (210, AV.i (↑(pwN l.length) : Int)), (211, AV.i (↑g_1.fst : Int)), (28, AV.i (↑g_1.fst : Int)), (29, AV.own 1 (List.map encI (bitsM g_1.fst
   g_1.snd)).length), (30, AV.i (costN l (bitsM g_1.fst g_1.snd))), (215, AV.i (↑(List.map encMs l).length : Int)), (216, AV.i ((↑g_1.snd : Int) + 1))] [(1, ABlk.buf 3 1 (List.map encI (bitsM g_1.fst g_1.snd)))] 2 = AS.mk [(1, AV.sl
   19 (List.map encMs l)), (3, AV.elt 3 [(encHm h)] 0 0), (7, AV.i n0), (9, AV.i (wC h l n0)), (10, AV.i (wE h l n0)), (12, AV.i (insD h l n0)), (210, AV.i (↑(pwN l.length) : Int)), (211, AV.i (↑g'.fst : Int)), (28, AV.i (↑g'.fst :
   Int)), (29, AV.own 1 (List.map encI (bitsM g'.fst g'.snd)).length), (30, AV.i (costN l (bitsM g'.fst g'.snd))), (215, AV.i (↑(List.map encMs l).length : Int)), (216, AV.i (↑g'.snd : Int))] [(1, ABlk.buf 3 1 (List.map encI (bitsM
   g'.fst g'.snd)))] 2)) ∧ (decide ((↑g_1.snd : Int) < (↑(List.map encMs l).length : Int)) = false → PCall Tryz.prog G0 31 [AV.sl 19 (List.map encMs l), AV.sl 1 (List.map encI (bitsM g_1.fst g_1.snd))] (AV.i (fSet l (List.map hdI
   (List.map encI (bitsM g_1.fst g_1.snd))))) ∧ ((fSet l (List.map hdI (List.map encI (bitsM g_1.fst g_1.snd))) != 0) = true → In64 ((↑g_1.fst : Int) + 1) ∧ ∃ (g' : Nat), g' ≤ pwN l.length ∧ pwN l.length - g' < pwN l.length - g ∧
   AS.mk [(1, AV.sl 19 (List.map encMs l)), (3, AV.elt 3 [(encHm h)] 0 0), (7, AV.i n0), (9, AV.i (wC h l n0)), (10, AV.i (wE h l n0)), (12, AV.i (insD h l n0)), (210, AV.i (↑(pwN l.length) : Int)), (211, AV.i ((↑g_1.fst : Int) + 1))]
   [] 1 = AS.mk [(1, AV.sl 19 (List.map encMs l)), (3, AV.elt 3 [(encHm h)] 0 0), (7, AV.i n0), (9, AV.i (wC h l n0)), (10, AV.i (wE h l n0)), (12, AV.i (insD h l n0)), (210, AV.i (↑(pwN l.length) : Int)), (211, AV.i (↑g' : Int))] []
   1) ∧ ((fSet l (List.map hdI (List.map encI (bitsM g_1.fst g_1.snd))) != 0) = false → PCall Tryz.prog G0 18 [AV.agg (encHm h)] (AV.agg (encHm h)) ∧ PCall Tryz.prog G0 22 [AV.sl 19 (List.map encMs l)] (AV.sl 19 (List.map encMs l)) ∧
   PCall Tryz.prog G0 23 [AV.sl 1 (List.map encI (bitsM g_1.fst g_1.snd))] (AV.sl 1 (List.map encI (bitsM g_1.fst g_1.snd))) ∧ PCall Tryz.prog G0 24 [AV.agg (encHm h), AV.sl 19 (List.map encMs l), AV.sl 1 (List.map encI (bitsM g_1.fst
   g_1.snd)), AV.i n0] (AV.tup [AV.bool (suV h l (List.map hdI (List.map encI (bitsM g_1.fst g_1.snd))) n0), AV.i (suE h l (List.map hdI (List.map encI (bitsM g_1.fst g_1.snd))) n0)]) ∧ (((!suE h l (List.map hdI (List.map encI (bitsM
   g_1.fst g_1.snd))) n0 != 0) = true → (!suE h l (List.map hdI (List.map encI (bitsM g_1.fst g_1.snd))) n0 != 0) = true) ∧ ((!suE h l (List.map hdI (List.map encI (bitsM g_1.fst g_1.snd))) n0 != 0 && suV h l (List.map hdI (List.map
   encI (bitsM g_1.fst g_1.snd))) n0) = true → (!suE h l (List.map hdI (List.map encI (bitsM g_1.fst g_1.snd))) n0 != 0 && suV h l (List.map hdI (List.map encI (bitsM g_1.fst g_1.snd))) n0) = true) ∧ ((!suE h l (List.map hdI (List.map
   encI (bitsM g_1.fst g_1.snd))) n0 != 0) = true → (!suE h l (List.map hdI (List.map encI (bitsM g_1.fst g_1.snd))) n0 != 0) = true) ∧ ((!suE h l (List.map hdI (List.map encI (bitsM g_1.fst g_1.snd))) n0 != 0) = true → suV h l
   (List.map hdI (List.map encI (bitsM g_1.fst g_1.snd))) n0 = true → (!suE h l (List.map hdI (List.map encI (bitsM g_1.fst g_1.snd))) n0 != 0 && suV h l (List.map hdI (List.map encI (bitsM g_1.fst g_1.snd))) n0) = true) ∧ ((suE h l
   (List.map hdI (List.map encI (bitsM g_1.fst g_1.snd))) n0 != 0) = false → (!suE h l (List.map hdI (List.map encI (bitsM g_1.fst g_1.snd))) n0 != 0) = true) ∧ AS.mk [(1, AV.sl 19 (List.map encMs l)), (3, AV.elt 3 [(encHm h)] 0 0),
   (7, AV.i n0), (9, AV.i (wC h l n0)), (10, AV.i (wE h l n0)), (12, AV.i (insD h l n0)), (210, AV.i (↑(pwN l.length) : Int)), (211, AV.i (↑g_1.fst : Int)), (29, AV.sl 1 (List.map encI (bitsM g_1.fst g_1.snd))), (30, AV.i (costN l
   (bitsM g_1.fst g_1.snd))), (32, AV.bool (suV h l (List.map hdI (List.map encI (bitsM g_1.fst g_1.snd))) n0)), (259, AV.bool (if (suE h l (List.map hdI (List.map encI (bitsM g_1.fst g_1.snd))) n0 != 0) = true then true else if suV h
   l (List.map hdI (List.map encI (bitsM g_1.fst g_1.snd))) n0 = true then wE h l n0 != 0 else false))] [] 1 = AS.mk [(1, AV.sl 19 (List.map encMs l)), (3, AV.elt 3 [(encHm h)] 0 0), (7, AV.i n0), (9, AV.i (wC h l n0)), (10, AV.i (wE
   h l n0)), (12, AV.i (insD h l n0)), (210, AV.i (↑(pwN l.length) : Int)), (211, AV.i (↑g_1.fst : Int)), (29, AV.sl 1 (List.map encI (bitsM g_1.fst g_1.snd))), (30, AV.i (costN l (bitsM g_1.fst g_1.snd))), (32, AV.bool (suV h l
   (List.map hdI (List.map encI (bitsM g_1.fst g_1.snd))) n0)), (259, AV.bool false)] [] 1) ∧ ((!suV h l (List.map hdI (List.map encI (bitsM g_1.fst g_1.snd))) n0) = true → In64 ((↑g_1.fst : Int) + 1) ∧ ∃ (g' : Nat), g' ≤ pwN l.length
   ∧ pwN l.length - g' < pwN l.length - g ∧ AS.mk [(1, AV.sl 19 (List.map encMs l)), (3, AV.elt 3 [(encHm h)] 0 0), (7, AV.i n0), (9, AV.i (wC h l n0)), (10, AV.i (wE h l n0)), (12, AV.i (insD h l n0)), (210, AV.i (↑(pwN l.length) :
   Int)), (211, AV.i ((↑g_1.fst : Int) + 1))] [] 1 = AS.mk [(1, AV.sl 19 (List.map encMs l)), (3, AV.elt 3 [(encHm h)] 0 0), (7, AV.i n0), (9, AV.i (wC h l n0)), (10, AV.i (wE h l n0)), (12, AV.i (insD h l n0)), (210, AV.i (↑(pwN
   l.length) : Int)), (211, AV.i (↑g' : Int))] [] 1) ∧ ((!suV h l (List.map hdI (List.map encI (bitsM g_1.fst g_1.snd))) n0) = false → PCall Tryz.prog G0 18 [AV.agg (encHm h)] (AV.agg (encHm h)) ∧ PCall Tryz.prog G0 22 [AV.sl 19
   (List.map encMs l)] (AV.sl 19 (List.map encMs l)) ∧ PCall Tryz.prog G0 23 [AV.sl 1 (List.map encI (bitsM g_1.fst g_1.snd))] (AV.sl 1 (List.map encI (bitsM g_1.fst g_1.snd))) ∧ PCall Tryz.prog G0 21 [AV.agg (encHm h), AV.sl 19
   (List.map encMs l), AV.sl 1 (List.map encI (bitsM g_1.fst g_1.snd))] (AV.tup [AV.agg (encHm (afV h l (List.map hdI (List.map encI (bitsM g_1.fst g_1.snd))))), AV.i (ckE h l (List.map hdI (List.map encI (bitsM g_1.fst g_1.snd))))])
   ∧ PCall Tryz.prog G0 19 [AV.agg (encHm (afV h l (List.map hdI (List.map encI (bitsM g_1.fst g_1.snd)))))] (AV.tup [AV.agg [AV.i (iV1 (hmV h l (bitsM g_1.fst g_1.snd))), AV.i (iV2 (hmV h l (bitsM g_1.fst g_1.snd)))], AV.i (fHm (hmV
   h l (bitsM g_1.fst g_1.snd)))]) ∧ (((!ckE h l (List.map hdI (List.map encI (bitsM g_1.fst g_1.snd))) != 0) = true → (!ckE h l (List.map hdI (List.map encI (bitsM g_1.fst g_1.snd))) != 0) = true) ∧ ((ckE h l (List.map hdI (List.map
   encI (bitsM g_1.fst g_1.snd))) != 0) = false → (!ckE h l (List.map hdI (List.map encI (bitsM g_1.fst g_1.snd))) != 0) = true) ∧ ((!if (ckE h l (List.map hdI (List.map encI (bitsM g_1.fst g_1.snd))) != 0) = true then true else fHm
   (hmV h l (bitsM g_1.fst g_1.snd)) != 0) = true → (!if (ckE h l (List.map hdI (List.map encI (bitsM g_1.fst g_1.snd))) != 0) = true then true else fHm (hmV h l (bitsM g_1.fst g_1.snd)) != 0) = true) ∧ ((!if (ckE h l (List.map hdI
   (List.map encI (bitsM g_1.fst g_1.snd))) != 0) = true then true else fHm (hmV h l (bitsM g_1.fst g_1.snd)) != 0) = true → (!if (ckE h l (List.map hdI (List.map encI (bitsM g_1.fst g_1.snd))) != 0) = true then true else fHm (hmV h l
   (bitsM g_1.fst g_1.snd)) != 0) = true) ∧ ((if (ckE h l (List.map hdI (List.map encI (bitsM g_1.fst g_1.snd))) != 0) = true then true else fHm (hmV h l (bitsM g_1.fst g_1.snd)) != 0) = false → (!if (ckE h l (List.map hdI (List.map
   encI (bitsM g_1.fst g_1.snd))) != 0) = true then true else fHm (hmV h l (bitsM g_1.fst g_1.snd)) != 0) = true) ∧ ((!if (if (ckE h l (List.map hdI (List.map encI (bitsM g_1.fst g_1.snd))) != 0) = true then true else fHm (hmV h l
   (bitsM g_1.fst g_1.snd)) != 0) = true then true else decide (costN l (bitsM g_1.fst g_1.snd) < wC h l n0)) = true → (!if (if (ckE h l (List.map hdI (List.map encI (bitsM g_1.fst g_1.snd))) != 0) = true then true else fHm (hmV h l
   (bitsM g_1.fst g_1.snd)) != 0) = true then true else decide (costN l (bitsM g_1.fst g_1.snd) < wC h l n0)) = true) ∧ ((!if (if (ckE h l (List.map hdI (List.map encI (bitsM g_1.fst g_1.snd))) != 0) = true then true else fHm (hmV h l
   (bitsM g_1.fst g_1.snd)) != 0) = true then true else decide (costN l (bitsM g_1.fst g_1.snd) < wC h l n0)) = true → (!if (if (ckE h l (List.map hdI (List.map encI (bitsM g_1.fst g_1.snd))) != 0) = true then true else fHm (hmV h l
   (bitsM g_1.fst g_1.snd)) != 0) = true then true else decide (costN l (bitsM g_1.fst g_1.snd) < wC h l n0)) = true) ∧ ((!if (if (ckE h l (List.map hdI (List.map encI (bitsM g_1.fst g_1.snd))) != 0) = true then true else fHm (hmV h l
   (bitsM g_1.fst g_1.snd)) != 0) = true then true else decide (costN l (bitsM g_1.fst g_1.snd) < wC h l n0)) = true → (!if (if (ckE h l (List.map hdI (List.map encI (bitsM g_1.fst g_1.snd))) != 0) = true then true else fHm (hmV h l
   (bitsM g_1.fst g_1.snd)) != 0) = true then true else decide (costN l (bitsM g_1.fst g_1.snd) < wC h l n0)) = true) ∧ (((!if (if (ckE h l (List.map hdI (List.map encI (bitsM g_1.fst g_1.snd))) != 0) = true then true else fHm (hmV h
   l (bitsM g_1.fst g_1.snd)) != 0) = true then true else decide (costN l (bitsM g_1.fst g_1.snd) < wC h l n0)) && costN l (bitsM g_1.fst g_1.snd) == wC h l n0) = true → ((!if (if (ckE h l (List.map hdI (List.map encI (bitsM g_1.fst
   g_1.snd))) != 0) = true then true else fHm (hmV h l (bitsM g_1.fst g_1.snd)) != 0) = true then true else decide (costN l (bitsM g_1.fst g_1.snd) < wC h l n0)) && costN l (bitsM g_1.fst g_1.snd) == wC h l n0) = true) ∧ (((!if (if
   (ckE h l (List.map hdI (List.map encI (bitsM g_1.fst g_1.snd))) != 0) = true then true else fHm (hmV h l (bitsM g_1.fst g_1.snd)) != 0) = true then true else decide (costN l (bitsM g_1.fst g_1.snd) < wC h l n0)) && costN l (bitsM
   g_1.fst g_1.snd) == wC h l n0) = true → ((!if (if (ckE h l (List.map hdI (List.map encI (bitsM g_1.fst g_1.snd))) != 0) = true then true else fHm (hmV h l (bitsM g_1.fst g_1.snd)) != 0) = true then true else decide (costN l (bitsM
   g_1.fst g_1.snd) < wC h l n0)) && costN l (bitsM g_1.fst g_1.snd) == wC h l n0) = true) ∧ (((!if (if (ckE h l (List.map hdI (List.map encI (bitsM g_1.fst g_1.snd))) != 0) = true then true else fHm (hmV h l (bitsM g_1.fst g_1.snd))
   != 0) = true then true else decide (costN l (bitsM g_1.fst g_1.snd) < wC h l n0)) && costN l (bitsM g_1.fst g_1.snd) == wC h l n0) = true → ((!if (if (ckE h l (List.map hdI (List.map encI (bitsM g_1.fst g_1.snd))) != 0) = true then
   true else fHm (hmV h l (bitsM g_1.fst g_1.snd)) != 0) = true then true else decide (costN l (bitsM g_1.fst g_1.snd) < wC h l n0)) && costN l (bitsM g_1.fst g_1.snd) == wC h l n0) = true) ∧ ((!if (if (ckE h l (List.map hdI (List.map
   encI (bitsM g_1.fst g_1.snd))) != 0) = true then true else fHm (hmV h l (bitsM g_1.fst g_1.snd)) != 0) = true then true else decide (costN l (bitsM g_1.fst g_1.snd) < wC h l n0)) = true → (!if (if (ckE h l (List.map hdI (List.map
   encI (bitsM g_1.fst g_1.snd))) != 0) = true then true else fHm (hmV h l (bitsM g_1.fst g_1.snd)) != 0) = true then true else decide (costN l (bitsM g_1.fst g_1.snd) < wC h l n0)) = true) ∧ ((!if (if (ckE h l (List.map hdI (List.map
   encI (bitsM g_1.fst g_1.snd))) != 0) = true then true else fHm (hmV h l (bitsM g_1.fst g_1.snd)) != 0) = true then true else decide (costN l (bitsM g_1.fst g_1.snd) < wC h l n0)) = true → (costN l (bitsM g_1.fst g_1.snd) == wC h l
   n0) = true → ((!if (if (ckE h l (List.map hdI (List.map encI (bitsM g_1.fst g_1.snd))) != 0) = true then true else fHm (hmV h l (bitsM g_1.fst g_1.snd)) != 0) = true then true else decide (costN l (bitsM g_1.fst g_1.snd) < wC h l
   n0)) && costN l (bitsM g_1.fst g_1.snd) == wC h l n0) = true) ∧ ((if (if (ckE h l (List.map hdI (List.map encI (bitsM g_1.fst g_1.snd))) != 0) = true then true else fHm (hmV h l (bitsM g_1.fst g_1.snd)) != 0) = true then true else
   decide (costN l (bitsM g_1.fst g_1.snd) < wC h l n0)) = false → (!if (if (ckE h l (List.map hdI (List.map encI (bitsM g_1.fst g_1.snd))) != 0) = true then true else fHm (hmV h l (bitsM g_1.fst g_1.snd)) != 0) = true then true else
   decide (costN l (bitsM g_1.fst g_1.snd) < wC h l n0)) = true) ∧ AS.mk [(1, AV.sl 19 (List.map encMs l)), (3, AV.elt 3 [(encHm h)] 0 0), (7, AV.i n0), (9, AV.i (wC h l n0)), (10, AV.i (wE h l n0)), (12, AV.i (insD h l n0)), (210,
   AV.i (↑(pwN l.length) : Int)), (211, AV.i (↑g_1.fst : Int)), (298, AV.bool (if (if (if (ckE h l (List.map hdI (List.map encI (bitsM g_1.fst g_1.snd))) != 0) = true then true else fHm (hmV h l (bitsM g_1.fst g_1.snd)) != 0) = true
   then true else decide (costN l (bitsM g_1.fst g_1.snd) < wC h l n0)) = true then true else if (costN l (bitsM g_1.fst g_1.snd) == wC h l n0) = true then decide (iV2 (hmV h l (bitsM g_1.fst g_1.snd)) < insD h l n0) else false))] []
   1 = AS.mk [(1, AV.sl 19 (List.map encMs l)), (3, AV.elt 3 [(encHm h)] 0 0), (7, AV.i n0), (9, AV.i (wC h l n0)), (10, AV.i (wE h l n0)), (12, AV.i (insD h l n0)), (210, AV.i (↑(pwN l.length) : Int)), (211, AV.i (↑g_1.fst : Int)),
   (298, AV.bool false)] [] 1) ∧ In64 ((↑g_1.fst : Int) + 1) ∧ ∃ (g' : Nat), g' ≤ pwN l.length ∧ pwN l.length - g' < pwN l.length - g ∧ AS.mk [(1, AV.sl 19 (List.map encMs l)), (3, AV.elt 3 [(encHm h)] 0 0), (7, AV.i n0), (9, AV.i (wC
   h l n0)), (10, AV.i (wE h l n0)), (12, AV.i (insD h l n0)), (210, AV.i (↑(pwN l.length) : Int)), (211, AV.i ((↑g_1.fst : Int) + 1))] [] 1 = AS.mk [(1, AV.sl 19 (List.map encMs l)), (3, AV.elt 3 [(encHm h)] 0 0), (7, AV.i n0), (9,
   AV.i (wC h l n0)), (10, AV.i (wE h l n0)), (12, AV.i (insD h l n0)), (210, AV.i (↑(pwN l.length) : Int)), (211, AV.i (↑g' : Int))] [] 1)))) ∧ (decide ((↑g : Int) < (↑(pwN l.length) : Int)) = false → PCall Tryz.prog G0 16 []
   (AV.bool true) ∧ AV.bool true = AV.bool true)))) := by
    have e0 : IntKind.i64.wrap n0 = n0 := in64_wrap (by unfold In64; omega)
    have e1 : IntKind.i64.wrap n1 = n1 := in64_wrap (by unfold In64; omega)
    have e2 : IntKind.i64.wrap n2 = n2 := in64_wrap (by unfold In64; omega)
    rw [e0, e1, e2]
    have hlm : (List.map encMs l).length = l.length := List.length_map _
    have hwm : (List.map encI (wS h l n0)).length = (wS h l n0).length := List.length_map _
    have hwl := wS_len h l n0
    have ht : fEn n0 = 0 := within_zero.2 (by omega)
    have hm1 : 0 ≤ n1.tmod 1000 ∧ n1.tmod 1000 ≤ 999 := by rw [Int.tmod_eq_emod_of_nonneg hn1.1]; omega
    have hm2 : 0 ≤ n1.tmod 100 ∧ n1.tmod 100 ≤ 99 := by rw [Int.tmod_eq_emod_of_nonneg hn1.1]; omega
    have hm3 : 0 ≤ n2.tmod 100001 ∧ n2.tmod 100001 ≤ 100000 := by rw [Int.tmod_eq_emod_of_nonneg hn2.1]; omega
    have ht' : fEn (n0 + n1.tmod 1000) = 0 := within_zero.2 (by omega)
    have hwl' := wS_len h l (n0 + n1.tmod 1000)
    have : (List.map encWn h.ws).length = h.ws.length := by simp only [List.length_map]
    have : (List.map encMs l).length = l.length := by simp only [List.length_map]
    have : (List.map encI (wS h l n0)).length = (wS h l n0).length := by simp only [List.length_map]
    refine ⟨fun h => h, fun h => h, fun h => h, fun h => by first | exact h | (rw [h]; rfl) | simp_all, fun h => h, fun h => h, fun h => by first | exact h | (rw [h]; rfl) | simp_all, fun h => h, fun h => h, fun h => by first | exact h | (rw [h]; rfl) | simp_all, fun h => h, fun h => h, fun h => h, fun h => by first | exact h | (rw [h]; rfl) | simp_all, (c14 h), impB_iff.2 fun hb => (c15 l hl), impB_iff.2 fun hb => ((by obtain ⟨k1, k2, k3, k4⟩ := guard10 (by simpa only [Bool.not_eq_true'] using hb); exact c27 h l (by omega) (by omega) (by omega) k4)), fun h1 => ⟨hA, rfl⟩, fun h1 => ?_⟩
    · have hK := guard10b h1
      obtain ⟨k1, k2, k3, k4, k5⟩ := hK
      have hK := guard10b h1
      refine ⟨(by omega), (by omega), (c18 h (by omega)), ((c22 l (by omega)).un), ((by have e := c42 h l n0 (by omega) (by omega) (by omega) k4; rw [c42V_e] at e; exact e)), fun h => h, fun h => h, ⟨fun h2 => ?_, fun h2 => ⟨rfl, hK⟩⟩, fun h2 => ?_⟩
      · have hbad : False := no18 k5 ht h2
        exact hbad.elim
      · have hK := h2
        obtain ⟨k1, k2, k3, k4, k5⟩ := hK
        have hK := h2
        obtain ⟨y1, y2, y3⟩ := ms_z k5
        have hshl : (1 : Int) * 2 ^ ((List.map encMs l).length : Int).toNat = ((pwN l.length : Nat) : Int) := by
          rw [Int.toNat_natCast, List.length_map, Int.one_mul]
          unfold pwN
          norm_cast
        have hpw : pwN l.length ≤ 32 := Nat.le_trans (Nat.pow_le_pow_right (by decide) k3) (by decide)
        refine ⟨⟨fun h3 => ?_, fun h3 => ⟨?_, hK⟩⟩, fun h3 => ?_⟩
        · have hw0 : wE h l n0 = 0 := by simpa using h3
          have hw := w_some k5 ht hw0
          refine ⟨((by rw [hd_encI]; exact c31 l _ (by omega))), fun h4 => ?_, fun h4 => ⟨⟨0, by omega, rfl⟩, fun g hg => ⟨fun hd => ?_, fun hd => ?_⟩⟩⟩
          · have hbad : False := by
              have q := h4
              rw [hd_encI, hw.s] at q
              cases q
            exact hbad.elim
          · have hlt : g < (wS h l n0).length := by have h9 := of_decide_eq_true hd; have h8 := hg; (try simp only [List.length_map] at h8 h9); omega
            first
              | (obtain ⟨hb1, hb2, hb3, hb4⟩ := lp1 k5 hw hlt)
              | (have hbl2 := bits_len g l.length
                 have hcb2 := cost_bd y3 g l.length (Nat.le_refl _))
            try rw [show (↑g : Int).toNat = g from Int.toNat_natCast g]
            exact ⟨(by omega), (by omega), (congrArg (fun r => nth r 0) (row_at encI hlt)), (by omega), (by omega), (by unfold In64; omega), (congrArg (fun r => nth r 2) (row_at encMs (by omega))), (by unfold In64; omega), ⟨g + 1, by omega, by omega, rfl⟩⟩
          · have hge : g = (wS h l n0).length := by have h9 := of_decide_eq_false hd; have h8 := hg; (try simp only [List.length_map] at h8 h9); omega
            subst hge
            refine ⟨(c18 h (by omega)), ((c22 l (by omega)).un), (c23 _ (by omega)), ((by rw [hd_encI]; exact c24 h l _ _ (by omega) (by omega) (by omega) k4 (by omega))), (c18 h (by omega)), ((c22 l (by omega)).un), (c23 _ (by omega)), ((by rw [hd_encI]; exact c21 h l _ (by omega) (by omega) (by omega) k4 (by omega))), ((by rw [mk_e, hd_encI]; exact c19 (afV h l _) (Nat.le_trans (afV_nm h l _) (by omega)) (Nat.le_trans (afV_len h l _) (by omega)))), ⟨fun h => h, fun h => by first | exact h | (rw [h]; rfl) | simp_all, fun h => h, fun h => by first | exact h | (rw [h]; rfl) | simp_all, fun h => h, fun h => by first | exact h | (rw [h]; rfl) | simp_all, fun h => h, fun h => h, fun h => by first | exact h | (rw [h]; rfl) | simp_all, ?_⟩, (by omega), (by omega), (by decide), (by unfold In64; omega), (c18 h (by omega)), ((c22 l (by omega)).un), ((by have e := c42 h l (n0 + n1.tmod 1000) (by omega) (by omega) (by omega) k4; rw [c42V_e] at e; exact e)), ⟨fun h => h, fun h => h, fun h => by first | exact h | (rw [h]; rfl) | simp_all, fun h => h, fun h => h, fun h => h, fun h => by first | exact h | (rw [h]; rfl) | simp_all, impB_iff.2 fun hb => ((by rw [hd_encI]; exact c31 l _ (by omega))), ?_⟩, (by omega), (by omega), (by decide), (by omega), (by omega), (by decide), (by omega), (by omega), (c18 h (by omega)), ((c22 l (by omega)).un), (c43 h l _ _ (by omega) (by omega) (by omega) k4), ⟨fun h => h, fun h => h, fun h => by first | exact h | (rw [h]; rfl) | simp_all, ?_⟩, (by unfold In64; omega), (by omega), (by omega), (c18 h (by omega)), ((c22 l (by omega)).un), (c43 h l _ _ (by omega) (by omega) (by omega) k4), ⟨fun h => h, fun h => h, fun h => by first | exact h | (rw [h]; rfl) | simp_all, ?_⟩, (by unfold In64; omega), (by omega), (by omega), (c18 h (by omega)), ((c22 l (by omega)).un), (c43 h l _ _ (by omega) (by omega) (by omega) k4), ⟨fun h => h, fun h => h, fun h => by first | exact h | (rw [h]; rfl) | simp_all, ?_⟩, (by unfold In64; omega), ?_, hK⟩
            · rw [x147 k5 ht hw (by have := of_decide_eq_false hd; omega)]
            · rw [x177 k5 hw (by omega) ht']
            · rw [x206 k5 ht hw0 (by omega)]
            · rw [x206 k5 ht hw0 (by omega)]
            · rw [x206 k5 ht hw0 (by omega)]
            · rw [x12 k5 hw0 hw]
        · rw [show insD h l n0 = 0 from if_neg (by rw [h3]; decide)]
        · have hK := h3
          obtain ⟨k1, k2, k3, k4, k5⟩ := hK
          have hK := h3
          obtain ⟨y1, y2, y3⟩ := ms_z k5
          have hshl : (1 : Int) * 2 ^ ((List.map encMs l).length : Int).toNat = ((pwN l.length : Nat) : Int) := by
            rw [Int.toNat_natCast, List.length_map, Int.one_mul]
            unfold pwN
            norm_cast
          have hpw : pwN l.length ≤ 32 := Nat.le_trans (Nat.pow_le_pow_right (by decide) k3) (by decide)
          refine ⟨(by omega), (by omega), (by rw [hshl]; unfold In64; omega), ?_, ⟨⟨0, by omega, rfl⟩, fun g hg => ⟨fun hd => ?_, fun hd => ?_⟩⟩⟩
          · rw [hshl]
          · have hlt : g < pwN l.length := by have h9 := of_decide_eq_true hd; have h8 := hg; (try simp only [List.length_map] at h8 h9); omega
            first
              | (obtain ⟨hb1, hb2, hb3, hb4⟩ := lp1 k5 hw hlt)
              | (have hbl2 := bits_len g l.length
                 have hcb2 := cost_bd y3 g l.length (Nat.le_refl _))
            refine ⟨(g, 0), ⟨by (try dsimp only); omega, by (try dsimp only); omega⟩, rfl, (by dsimp only; rfl), fun g_1 hok2 hr2 => ?_⟩
            · obtain ⟨i2, j2⟩ := g_1
              dsimp only at hok2 hr2 ⊢
              obtain ⟨hi2, hg2⟩ := hok2
              have hr4 : g = i2 := hr2.symm
              subst hr4
              refine ⟨fun hd2 => ?_, fun hd2 => ?_⟩
              · have hlt2 : j2 < l.length := by have h9 := of_decide_eq_true hd2; have h8 := hg2; (try simp only [List.length_map] at h8 h9); omega
                try rw [show (↑g : Int).toNat = g from Int.toNat_natCast g]
                have hbl := bits_len g j2
                have hbm : (List.map encI (bitsM g j2)).length = (bitsM g j2).length := List.length_map _
                have hcb := cost_bd y3 g j2 (by omega)
                have hcc := (y3 j2 (by omega)).c0
                have hsb : 0 ≤ ((g : Nat) : Int).fdiv ((2 : Int) ^ ((j2 : Nat) : Int).toNat) ∧ ((g : Nat) : Int).fdiv ((2 : Int) ^ ((j2 : Nat) : Int).toNat) ≤ g := shr_bd g j2
                have hsb2 := hsb
                rw [Int.toNat_natCast] at hsb2
                try rw [show (↑j2 : Int).toNat = j2 from Int.toNat_natCast j2]
                refine ⟨(by omega), (by omega), (by omega), (by omega), (by unfold In64; omega), (by unfold In64; omega), fun h4 => ?_, fun h4 => ?_⟩
                · have hbt := h4
                  refine ⟨(by omega), (by omega), (by omega), (by omega), (by unfold In64; omega), (congrArg (fun r => nth r 2) (row_at encMs (by omega))), (by unfold In64; omega), ⟨(g, j2 + 1), ⟨by (try dsimp only); omega, by (try dsimp only); omega⟩, rfl, (by (try dsimp only); omega), ?_⟩⟩
                  · dsimp only
                    rw [show bitsM g (j2 + 1) = bitsM g j2 ++ [(j2 : Int)] from if_pos (by rw [← shr_and]; exact hbt), cost_app, List.map_append, List.length_append]
                    rfl
                · have hbt := h4
                  refine ⟨(by unfold In64; omega), ⟨(g, j2 + 1), ⟨by (try dsimp only); omega, by (try dsimp only); omega⟩, rfl, (by (try dsimp only); omega), ?_⟩⟩
                  · dsimp only
                    rw [show bitsM g (j2 + 1) = bitsM g j2 from if_neg (by rw [← shr_and]; exact fun q => Bool.noConfusion (q.symm.trans hbt))]
                    rfl
              · have hge2 : j2 = l.length := by have h9 := of_decide_eq_false hd2; have h8 := hg2; (try simp only [List.length_map] at h8 h9); omega
                subst hge2
                refine ⟨((by rw [hd_encI]; exact c31 l _ (by omega))), fun h4 => ⟨(by unfold In64; omega), ⟨g + 1, by omega, by omega, rfl⟩⟩, fun h4 => ?_⟩
                · have hfs : fSet l (bitsM g l.length) = 0 := by
                    have q := h4
                    rw [hd_encI] at q
                    exact bne_f q
                  refine ⟨(c18 h (by omega)), ((c22 l (by omega)).un), (c23 _ (by omega)), ((by rw [hd_encI]; exact c24 h l _ _ (by omega) (by omega) (by omega) k4 (by omega))), ⟨fun h => h, fun h => h, fun h => h, fun h5 => fun h => by first | exact h | (rw [h]; rfl) | simp_all, fun h => by first | exact h | (rw [h]; rfl) | simp_all, ?_⟩, fun h5 => ⟨(by unfold In64; omega), ⟨g + 1, by omega, by omega, rfl⟩⟩, fun h5 => ?_⟩
                  · rw [x259 k5 ht (by omega) hfs]
                  · have hsv := h5
                    refine ⟨(c18 h (by omega)), ((c22 l (by omega)).un), (c23 _ (by omega)), ((by rw [hd_encI]; exact c21 h l _ (by omega) (by omega) (by omega) k4 (by omega))), ((by rw [mk_e, hd_encI]; exact c19 (afV h l _) (Nat.le_trans (afV_nm h l _) (by omega)) (Nat.le_trans (afV_len h l _) (by omega)))), ⟨fun h => h, fun h => by first | exact h | (rw [h]; rfl) | simp_all, fun h => h, fun h => h, fun h => by first | exact h | (rw [h]; rfl) | simp_all, fun h => h, fun h => h, fun h => h, fun h => h, fun h => h, fun h => h, fun h => h, fun h6 => fun h => by first | exact h | (rw [h]; rfl) | simp_all, fun h => by first | exact h | (rw [h]; rfl) | simp_all, ?_⟩, (by unfold In64; omega), ⟨g + 1, by omega, by omega, rfl⟩⟩
                    · rw [x298 k5 ht (by omega) hfs hsv]
          · have hge : g = pwN l.length := by have h9 := of_decide_eq_false hd; have h8 := hg; (try simp only [List.length_map] at h8 h9); omega
            subst hge
            exact ⟨hA, rfl⟩
  exact c_ofH Tryz.f10 ({ gsB gs10 (fzB (mkB (sp10 h l) 10 [(13, 1, rdL 1 encI (wS h l n0) 1 false), (14, 5, rdL 19 encMs l 1 false), (41, 9, rdL 19 encMs l 1 false), (32, 2, fun _ => some (.i (pwN l.length : Nat)))] (la10 h l n0 n0 n1 n2))) with bx := fun i => if i.beq 6 then [.frzo 29] else [], cl := clL [188, 147, 177, 206, 259, 298], cut := cut10 }) (m10 h l n0 n0 n1 n2) (by kernel_rfl) (by kernel_rfl) (by kernel_rfl) (by kernel_rfl) key (by kernel_rfl)
end Go.Proofs.YtfoeefaamjknpaaGreatDoor
namespace Go.Proofs.YtfoeefaamjknpaaGreatDoor
open Go Go.Av Go.RowKit Go.ChangeShapes Go.WideShapes
theorem jp0_10 : (Rows.homeLeastRow.inPlace == Tryz.prog.inPlace 10) = true := by kernel_rfl
theorem jp1_10 : (Rows.homeLeastRow.unfollowed == Tryz.prog.unfollowed 10) = true := by kernel_rfl
theorem jp2_10 : (Rows.homeLeastRow.recurses == Tryz.prog.recurses 10) = true := by kernel_rfl
theorem jp3_10 : (Rows.homeLeastRow.named == Tryz.prog.varsNamed 10) = true := by kernel_rfl
theorem jfacts_10 : joinedFacts Tryz.prog 10 Tryz.f10 Rows.homeLeastSpec Rows.homeLeastRow = true := by
  unfold joinedFacts
  rw [jp0_10, jp1_10, jp2_10, jp3_10]
  kernel_rfl
end Go.Proofs.YtfoeefaamjknpaaGreatDoor
