/-
  The plain law of SourcePaths: what the program and the reference compute is the same. No condition but the theorems' own. SourcePaths returns true, if awake does. No condition but the theorems' own.
-/
import Derived.Test.YtjhjmncjidbieaaGreatDoorPB
import Derived.Test.YtjhjmncjidbieaaGreatDoorAvC
namespace Go.Proofs.YtjhjmncjidbieaaGreatDoor
open Go Go.Av Go.RowKit
theorem scan_congr {f g : Nat → Int} {n : Nat} {fin : Int} (h : ∀ k, k < n → f k = g k) : sScan f n fin = sScan g n fin := by
  unfold sScan
  rw [List.map_congr_left (fun k hk => h k (List.mem_range.1 hk))]
theorem ls_congr {c : Int} {f g : Nat → Int} {n : Nat} {fin : Int} (h : ∀ k, k < n → f k = g k) : sLS c f n fin = sLS c g n fin := by
  unfold sLS
  rw [scan_congr h]
theorem lastA_pos {l : List St} {i : Nat} (h : 0 < i) : lastA l i = (l.getD (prv i) default).a := by
  obtain ⟨j, rfl⟩ : ∃ j, i = j + 1 := ⟨i - 1, by omega⟩
  rw [prv_succ]
  rfl
theorem proc_eq (p : List St) : sProcS p = sProcR p := by
  unfold sProcS sProcR
  refine ls_congr fun k _ => ?_
  unfold fProcS fProcR
  have e : (if decide ((p.getD k default).a ≤ lastA p k) = true then true else if ((k : Int) == 0) = true then (p.getD k default).a != 0 else false) =
      (if (if ((k : Int) == 0) = true then (p.getD k default).a != 0 else false) = true then true else if decide ((k : Int) > 0) = true then decide ((p.getD k default).a ≤ (p.getD (prv k) default).a) else false) := by
    rcases Nat.eq_zero_or_pos k with rfl | hk
    · have h1 : lastA p 0 = -1 := rfl
      rw [h1]
      by_cases h2 : (p.getD 0 default).a ≤ -1
      · have h3 : ((p.getD 0 default).a != 0) = true := by rw [bne_iff_ne]; omega
        rw [decide_eq_true h2, h3]
        rfl
      · rw [decide_eq_false h2]
        cases hb : ((p.getD 0 default).a != 0) <;> rfl
    · rw [lastA_pos hk]
      have h1 : ((k : Int) == 0) = false := by rw [beq_eq_false_iff_ne]; omega
      have h2 : decide ((k : Int) > 0) = true := by rw [decide_eq_true_eq]; omega
      rw [h1, h2]
      cases hd : decide ((p.getD k default).a ≤ (p.getD (prv k) default).a) <;> rfl
  rw [e]
theorem first_nest (a b c d : Int) : sFirst [sFirst [a, b, c], d] = sFirst [a, b, c, d] := by
  unfold sFirst
  by_cases ha : a = 0
  · by_cases hb : b = 0
    · by_cases hc : c = 0
      · simp [sFirst, ha, hb, hc]
      · simp [sFirst, ha, hb, hc]
    · simp [sFirst, ha, hb]
  · simp [sFirst, ha]
theorem track_eq (l : List Fx) : sTrackS l = sTrackR l := by
  unfold sTrackS sTrackR
  refine ls_congr fun k _ => ?_
  unfold fTrackS fTrackR sFix
  exact first_nest _ _ _ _
theorem kI_le {p : List St} {al : Int} (h0 : (p.getD 0 default).a ≤ al) : ∀ j, (p.getD (kI p al j) default).a ≤ al
  | 0 => h0
  | j + 1 => by
    simp only [kI]
    split
    · rename_i h; simpa using h
    · exact kI_le h0 j
theorem kI_gt {p : List St} {al : Int} : ∀ j i, kI p al j < i → i < j → al < (p.getD i default).a
  | 0, i, _, h => by omega
  | j + 1, i, h1, h2 => by
    simp only [kI] at h1
    split at h1
    · omega
    · rename_i h
      by_cases e : i = j
      · subst e; simpa using h
      · exact kI_gt j i h1 (by omega)
theorem sorted {p : List St} (hv : ProcOK p) : ∀ d i, i + d < p.length → (p.getD i default).a ≤ (p.getD (i + d) default).a
  | 0, _, _ => Int.le_refl _
  | d + 1, i, h => by
    have h1 := sorted hv d i (by omega)
    have h2 := hv.s (i + d) h
    rw [show i + (d + 1) = i + d + 1 by omega]
    omega
theorem step_at {p : List St} {al : Int} (hv : ProcOK p) (h0 : 0 ≤ al) : ∀ m i, i + m + 1 = p.length → i ≤ kI p al p.length →
    sStepF p al m i = if decide ((kI p al p.length : Int) + 1 < (p.length : Int)) = true then
      ⟨al, sBetween (p.getD (kI p al p.length) default).h (p.getD (kI p al p.length + 1) default).h (al - (p.getD (kI p al p.length) default).a) ((p.getD (kI p al p.length + 1) default).a - (p.getD (kI p al p.length) default).a),
        sBetween (p.getD (kI p al p.length) default).p (p.getD (kI p al p.length + 1) default).p (al - (p.getD (kI p al p.length) default).a) ((p.getD (kI p al p.length + 1) default).a - (p.getD (kI p al p.length) default).a)⟩
      else p.getD (kI p al p.length) default
  | 0, i, h, hk => by
    have hn := hv.n1
    have hlt := kI_lt (p := p) (al := al) (n := p.length) (by omega) p.length (Nat.le_refl _)
    have e : kI p al p.length = i := by omega
    rw [sStepF, List.length_map, e, if_neg (by simp; omega), show lastOf p.length = i by unfold lastOf; omega]
  | m + 1, i, h, hk => by
    have hn := hv.n1
    have hlt := kI_lt (p := p) (al := al) (n := p.length) (by omega) p.length (Nat.le_refl _)
    have hle := kI_le (p := p) (al := al) (by rw [hv.z]; exact h0) p.length
    by_cases e : kI p al p.length = i
    · have hg := kI_gt (p := p) (al := al) p.length (i + 1) (by omega) (by omega)
      rw [sStepF, e, if_pos (by simpa using hg), if_pos (by simp; omega)]
    · have hs := sorted hv (kI p al p.length - (i + 1)) (i + 1) (by omega)
      rw [show i + 1 + (kI p al p.length - (i + 1)) = kI p al p.length by omega] at hs
      rw [sStepF, if_neg (by simp only [decide_eq_true_eq]; omega)]
      exact step_at hv h0 m (i + 1) (by omega) (by omega)
theorem fx_eq {l : List Pt} {p : List St} {sp tk : Int} (hP : PathOK l) (hv : ProcOK p) {i : Nat} (hi : i < l.length) : flFx l p sp tk i = flFxR l p sp tk i := by
  have hn := hv.n1
  have hal := al_bound hP i hi
  unfold flFx flFxR
  rw [alR_eq, sStep, List.length_map, step_at hv hal.1 (p.length - 1) 0 (by omega) (by omega)]
  split
  · congr 1; omega
  · congr 1; omega
theorem fl_eq {l : List Pt} {p : List St} {sp tk : Int} (hP : PathOK l) (hv : ProcOK p) : flL l p sp tk l.length = flR l p sp tk l.length := by
  unfold flL flR
  exact List.map_congr_left fun i hi => fx_eq hP hv (List.mem_range.1 hi)
theorem alB_eq (l : List Pt) : ∀ n, alB l n = sAlR l n
  | 0 => rfl
  | n + 1 => (alR_eq l n).symm
theorem flown_eq {l : List Pt} {p : List St} {sp tk : Int} (h : sPre l p sp tk = 0) : sFlown l p sp tk = sFlownR l p sp tk := by
  have hb := h
  simp only [sPre, first_zero] at hb
  have hP := path_ok hb.1
  have hv := proc_ok hb.2.1
  unfold sFlown sFlownR
  rw [h, if_neg (by decide)]
  unfold sPost
  rw [alB_eq, fl_eq hP hv, track_eq]
  cases hd : decide (sAlR l l.length > 400000) with
  | true => simp [sWhen, sFirst]
  | false =>
    cases ht : (sTrackR (flR l p sp tk l.length) != 0) with
    | true =>
      have := bne_t ht
      simp [sWhen, sFirst, this]
    | false =>
      have := bne_f ht
      simp [sWhen, sFirst, this]
theorem eqFx_refl (a : Fx) : eqFx a a = true := by simp [eqFx]
theorem same_refl (l : List Fx) : sSame l l = true := by
  simp [sSame, eqFx_refl]
end Go.Proofs.YtjhjmncjidbieaaGreatDoor
namespace Go.Proofs.YtjhjmncjidbieaaGreatDoor
open Go Go.Av Go.RowKit
def dI : AV → Int
  | .int _ n => n
  | _ => 0
def decFx (r : List AV) : Fx := ⟨dI (nth r 0), dI (nth r 1), dI (nth r 2), dI (nth r 3), dI (nth r 4)⟩
theorem dec_map (l : List Fx) : (l.map encFx).map decFx = l := by
  rw [List.map_map]
  exact List.map_id _
def spG (l : List Pt) (p : List St) (a b : Int) : Nat → List AV → Option AV
  | 13, _ => some (.bool true)
  | 15, _ => some (.sl 3 (p.map encSt))
  | 14, _ => some (.tup [.sl 5 ((sFlown l p a b).1.map encFx), .i (sFlown l p a b).2])
  | 21, _ => some (.tup [.sl 5 ((sFlownR l p a b).1.map encFx), .i (sFlownR l p a b).2])
  | 17, _ => some (.i (sPath l))
  | 18, _ => some (.i (sProcR p))
  | 22, _ => some (.i (sProcS p))
  | 24, _ => some (.sl 5 ((sFlown l p a b).1.map encFx))
  | 23, [.sl _ x, .sl _ y] => some (.bool (sSame (x.map decFx) (y.map decFx)))
  | n, x => spC n x
def B3 (l : List Pt) (p : List St) (a b : Int) (rds : List (Nat × Nat × (List AV → Option AV))) : BA :=
  { mkB (spG l p a b) 3 rds noLa with gs := fun i => if i.beq 5 then [.nil 10 5] else [] }
theorem c3 (l : List Pt) (p : List St) (a b : Int) (hA : PCall Tryz.prog G0 13 [] (.bool true)) : PCall Tryz.prog G0 3 [.sl 2 (l.map encPt), .sl 3 (p.map encSt), .agg [.i a, .i b]] (.bool true) := by
  have key :
      ((!decide ((↑(List.map encPt l).length : Int) > (17 : Int))) = true →
      (!decide ((↑(List.map encPt l).length : Int) > (17 : Int))) = true) ∧
      ((!decide ((↑(List.map encPt l).length : Int) > (17 : Int))) = true →
      (!decide ((↑(List.map encPt l).length : Int) > (17 : Int))) = true) ∧
      (decide ((↑(List.map encPt l).length : Int) > (17 : Int)) = false →
      (!decide ((↑(List.map encPt l).length : Int) > (17 : Int))) = true) ∧
      ((if decide ((↑(List.map encPt l).length : Int) > (17 : Int)) = true then true
      else decide ((↑(List.map encSt p).length : Int) > (9 : Int))) =
      true →
      PCall Tryz.prog G0 (13 : Nat) [] (AV.bool true) ∧ AV.bool true = AV.bool true) ∧
      ((if decide ((↑(List.map encPt l).length : Int) > (17 : Int)) = true then true
      else decide ((↑(List.map encSt p).length : Int) > (9 : Int))) =
      false →
      (0 : Nat) + (List.map encPt l).length ≤ (9223372036854775807 : Nat) ∧
      ((0 : Nat) + (List.map encPt l).length) * (16 : Nat) ≤ (140737488355328 : Nat) ∧
      (0 : Int) ≤ (0 : Int) ∧
      (0 : Int) < (↑(2 : Nat) : Int) ∧
      (0 : Int) ≤ (1 : Int) ∧
      (1 : Int) < (↑(2 : Nat) : Int) ∧
      PCall Tryz.prog G0 (15 : Nat) [AV.sl (3 : Nat) (List.map encSt p)]
      (AV.sl (3 : Nat) (List.map encSt p)) ∧
      PCall Tryz.prog G0 (14 : Nat)
      [AV.sl (2 : Nat) ([] ++ List.map encPt l), AV.sl (3 : Nat) (List.map encSt p),
      AV.int IntKind.i64 a, AV.int IntKind.i64 b]
      (AV.tup
      [AV.sl (5 : Nat) (List.map encFx (sFlown l p a b).fst),
      AV.int IntKind.i64 (sFlown l p a b).snd]) ∧
      (0 : Int) ≤ (0 : Int) ∧
      (0 : Int) < (↑(2 : Nat) : Int) ∧
      (0 : Int) ≤ (1 : Int) ∧
      (1 : Int) < (↑(2 : Nat) : Int) ∧
      PCall Tryz.prog G0 (17 : Nat) [AV.sl (2 : Nat) (List.map encPt l)]
      (AV.int IntKind.i64 (sPath l)) ∧
      PCall Tryz.prog G0 (18 : Nat) [AV.sl (3 : Nat) (List.map encSt p)]
      (AV.int IntKind.i64 (sProcR p)) ∧
      PCall Tryz.prog G0 (19 : Nat) [AV.int IntKind.i64 a]
      (AV.int IntKind.i64 (sWithin a (1 : Int) (1000 : Int))) ∧
      PCall Tryz.prog G0 (20 : Nat) [AV.int IntKind.i64 b]
      (AV.int IntKind.i64 (sWithin b (0 : Int) (100000000 : Int))) ∧
      PCall Tryz.prog G0 (16 : Nat)
      [AV.sl (1 : Nat)
      [[AV.int IntKind.i64 (sPath l)], [AV.int IntKind.i64 (sProcR p)],
      [AV.int IntKind.i64 (sWithin a (1 : Int) (1000 : Int))],
      [AV.int IntKind.i64 (sWithin b (0 : Int) (100000000 : Int))]]]
      (AV.int IntKind.i64
      (sFirst
      [hdI [AV.int IntKind.i64 (sPath l)],
      hdI [AV.int IntKind.i64 (sProcR p)],
      hdI [AV.int IntKind.i64 (sWithin a (1 : Int) (1000 : Int))],
      hdI
      [AV.int IntKind.i64
      (sWithin b (0 : Int) (100000000 : Int))]])) ∧
      ((sFirst
      [hdI [AV.int IntKind.i64 (sPath l)],
      hdI [AV.int IntKind.i64 (sProcR p)],
      hdI [AV.int IntKind.i64 (sWithin a (1 : Int) (1000 : Int))],
      hdI
      [AV.int IntKind.i64
      (sWithin b (0 : Int) (100000000 : Int))]] ==
      (0 : Int)) =
      true →
      (0 : Int) ≤ (0 : Int) ∧
      (0 : Int) < (↑(2 : Nat) : Int) ∧
      (0 : Int) ≤ (1 : Int) ∧
      (1 : Int) < (↑(2 : Nat) : Int) ∧
      PCall Tryz.prog G0 (21 : Nat)
      [AV.sl (2 : Nat) (List.map encPt l),
      AV.sl (3 : Nat) (List.map encSt p),
      AV.int IntKind.i64 a, AV.int IntKind.i64 b]
      (AV.tup
      [AV.sl (5 : Nat) (List.map encFx (sFlownR l p a b).fst),
      AV.int IntKind.i64 (sFlownR l p a b).snd]) ∧
      ((sProcS p == sProcR p) = true →
      (sProcS p == sProcR p) = true) ∧
      ((sProcS p == sProcR p) = true →
      (sProcS p == sProcR p) = true) ∧
      ((sProcS p == sProcR p) = true →
      (sProcS p == sProcR p) = true) ∧
      ((sProcS p == sProcR p) = true →
      (sProcS p == sProcR p) = true) ∧
      ((if (sProcS p == sProcR p) = true then
      sSame
      (List.map decFx
      (List.map encFx (sFlown l p a b).fst))
      (List.map decFx
      (List.map encFx (sFlownR l p a b).fst))
      else false) =
      true →
      (if (sProcS p == sProcR p) = true then
      sSame
      (List.map decFx
      (List.map encFx (sFlown l p a b).fst))
      (List.map decFx
      (List.map encFx (sFlownR l p a b).fst))
      else false) =
      true) ∧
      ((if (sProcS p == sProcR p) = true then
      sSame
      (List.map decFx
      (List.map encFx (sFlown l p a b).fst))
      (List.map decFx
      (List.map encFx
      (sFlownR l p a b).fst))
      else false) =
      true →
      (if (sProcS p == sProcR p) = true then
      sSame
      (List.map decFx
      (List.map encFx (sFlown l p a b).fst))
      (List.map decFx
      (List.map encFx
      (sFlownR l p a b).fst))
      else false) =
      true) ∧
      ((if (sProcS p == sProcR p) = true then
      sSame
      (List.map decFx
      (List.map encFx
      (sFlown l p a b).fst))
      (List.map decFx
      (List.map encFx
      (sFlownR l p a b).fst))
      else false) =
      true →
      (if (sProcS p == sProcR p) = true then
      sSame
      (List.map decFx
      (List.map encFx
      (sFlown l p a b).fst))
      (List.map decFx
      (List.map encFx
      (sFlownR l p a b).fst))
      else false) =
      true) ∧
      ((if
      (if
      (sProcS p == sProcR p) =
      true then
      sSame
      (List.map decFx
      (List.map encFx
      (sFlown l p a b).fst))
      (List.map decFx
      (List.map encFx
      (sFlownR l p a b).fst))
      else false) =
      true then
      (sFlown l p a b).snd ==
      (sFlownR l p a b).snd
      else false) =
      true →
      (if
      (if
      (sProcS p == sProcR p) =
      true then
      sSame
      (List.map decFx
      (List.map encFx
      (sFlown l p a b).fst))
      (List.map decFx
      (List.map encFx
      (sFlownR l p a b).fst))
      else false) =
      true then
      (sFlown l p a b).snd ==
      (sFlownR l p a b).snd
      else false) =
      true) ∧
      PCall Tryz.prog G0 (15 : Nat)
      [AV.sl (3 : Nat) (List.map encSt p)]
      (AV.sl (3 : Nat) (List.map encSt p)) ∧
      PCall Tryz.prog G0 (22 : Nat)
      [AV.sl (3 : Nat) (List.map encSt p)]
      (AV.int IntKind.i64 (sProcS p)) ∧
      PCall Tryz.prog G0 (18 : Nat)
      [AV.sl (3 : Nat) (List.map encSt p)]
      (AV.int IntKind.i64 (sProcR p)) ∧
      impB (sProcS p == sProcR p)
      (PCall Tryz.prog G0 (24 : Nat)
      [AV.sl (5 : Nat)
      (List.map encFx
      (sFlown l p a b).fst)]
      (AV.sl (5 : Nat)
      (List.map encFx
      (sFlown l p a b).fst))) ∧
      impB (sProcS p == sProcR p)
      (PCall Tryz.prog G0 (23 : Nat)
      [AV.sl (5 : Nat)
      (List.map encFx
      (sFlown l p a b).fst),
      AV.sl (5 : Nat)
      (List.map encFx
      (sFlownR l p a b).fst)]
      (AV.bool
      (sSame
      (List.map decFx
      (List.map encFx
      (sFlown l p a b).fst))
      (List.map decFx
      (List.map encFx
      (sFlownR l p a
      b).fst))))) ∧
      impB
      (if
      (if
      (sProcS p ==
      sProcR p) =
      true then
      sSame
      (List.map decFx
      (List.map encFx
      (sFlown l p a
      b).fst))
      (List.map decFx
      (List.map encFx
      (sFlownR l p a
      b).fst))
      else false) =
      true then
      (sFlown l p a b).snd ==
      (sFlownR l p a b).snd
      else false)
      (PCall Tryz.prog G0 (13 : Nat)
      [] (AV.bool true)) ∧
      AV.bool
      (if
      (if
      (if
      (sProcS p ==
      sProcR
      p) =
      true then
      sSame
      (List.map
      decFx
      (List.map
      encFx
      (sFlown
      l p
      a
      b).fst))
      (List.map
      decFx
      (List.map
      encFx
      (sFlownR
      l p
      a
      b).fst))
      else false) =
      true then
      (sFlown l p a
      b).snd ==
      (sFlownR l p a
      b).snd
      else false) =
      true then
      true
      else false) =
      AV.bool true) ∧
      ((sFirst
      [hdI [AV.int IntKind.i64 (sPath l)],
      hdI [AV.int IntKind.i64 (sProcR p)],
      hdI [AV.int IntKind.i64 (sWithin a (1 : Int) (1000 : Int))],
      hdI
      [AV.int IntKind.i64
      (sWithin b (0 : Int) (100000000 : Int))]] ==
      (0 : Int)) =
      false →
      ((sProcS p == sProcR p) = true → (sProcS p == sProcR p) = true) ∧
      ((sProcS p == sProcR p) = true → (sProcS p == sProcR p) = true) ∧
      ((sProcS p == sProcR p) = true → (sProcS p == sProcR p) = true) ∧
      ((sProcS p == sProcR p) = true →
      (sProcS p == sProcR p) = true) ∧
      ((if (sProcS p == sProcR p) = true then
      sSame
      (List.map decFx
      (List.map encFx (sFlown l p a b).fst))
      []
      else false) =
      true →
      (if (sProcS p == sProcR p) = true then
      sSame
      (List.map decFx
      (List.map encFx (sFlown l p a b).fst))
      []
      else false) =
      true) ∧
      ((if (sProcS p == sProcR p) = true then
      sSame
      (List.map decFx
      (List.map encFx (sFlown l p a b).fst))
      []
      else false) =
      true →
      (if (sProcS p == sProcR p) = true then
      sSame
      (List.map decFx
      (List.map encFx (sFlown l p a b).fst))
      []
      else false) =
      true) ∧
      ((if (sProcS p == sProcR p) = true then
      sSame
      (List.map decFx
      (List.map encFx (sFlown l p a b).fst))
      []
      else false) =
      true →
      (if (sProcS p == sProcR p) = true then
      sSame
      (List.map decFx
      (List.map encFx (sFlown l p a b).fst))
      []
      else false) =
      true) ∧
      ((if
      (if (sProcS p == sProcR p) = true then
      sSame
      (List.map decFx
      (List.map encFx (sFlown l p a b).fst))
      []
      else false) =
      true then
      (sFlown l p a b).snd ==
      sFirst
      [hdI [AV.int IntKind.i64 (sPath l)],
      hdI [AV.int IntKind.i64 (sProcR p)],
      hdI
      [AV.int IntKind.i64
      (sWithin a (1 : Int) (1000 : Int))],
      hdI
      [AV.int IntKind.i64
      (sWithin b (0 : Int)
      (100000000 : Int))]]
      else false) =
      true →
      (if
      (if (sProcS p == sProcR p) = true then
      sSame
      (List.map decFx
      (List.map encFx (sFlown l p a b).fst))
      []
      else false) =
      true then
      (sFlown l p a b).snd ==
      sFirst
      [hdI [AV.int IntKind.i64 (sPath l)],
      hdI [AV.int IntKind.i64 (sProcR p)],
      hdI
      [AV.int IntKind.i64
      (sWithin a (1 : Int) (1000 : Int))],
      hdI
      [AV.int IntKind.i64
      (sWithin b (0 : Int)
      (100000000 : Int))]]
      else false) =
      true) ∧
      PCall Tryz.prog G0 (15 : Nat)
      [AV.sl (3 : Nat) (List.map encSt p)]
      (AV.sl (3 : Nat) (List.map encSt p)) ∧
      PCall Tryz.prog G0 (22 : Nat)
      [AV.sl (3 : Nat) (List.map encSt p)]
      (AV.int IntKind.i64 (sProcS p)) ∧
      PCall Tryz.prog G0 (18 : Nat)
      [AV.sl (3 : Nat) (List.map encSt p)]
      (AV.int IntKind.i64 (sProcR p)) ∧
      impB (sProcS p == sProcR p)
      (PCall Tryz.prog G0 (24 : Nat)
      [AV.sl (5 : Nat)
      (List.map encFx (sFlown l p a b).fst)]
      (AV.sl (5 : Nat)
      (List.map encFx
      (sFlown l p a b).fst))) ∧
      impB (sProcS p == sProcR p)
      (PCall Tryz.prog G0 (23 : Nat)
      [AV.sl (5 : Nat)
      (List.map encFx
      (sFlown l p a b).fst),
      AV.sl (5 : Nat) []]
      (AV.bool
      (sSame
      (List.map decFx
      (List.map encFx
      (sFlown l p a b).fst))
      []))) ∧
      impB
      (if
      (if
      (sProcS p == sProcR p) =
      true then
      sSame
      (List.map decFx
      (List.map encFx
      (sFlown l p a b).fst))
      []
      else false) =
      true then
      (sFlown l p a b).snd ==
      sFirst
      [hdI
      [AV.int IntKind.i64
      (sPath l)],
      hdI
      [AV.int IntKind.i64
      (sProcR p)],
      hdI
      [AV.int IntKind.i64
      (sWithin a (1 : Int)
      (1000 : Int))],
      hdI
      [AV.int IntKind.i64
      (sWithin b (0 : Int)
      (100000000 : Int))]]
      else false)
      (PCall Tryz.prog G0 (13 : Nat) []
      (AV.bool true)) ∧
      AV.bool
      (if
      (if
      (if
      (sProcS p ==
      sProcR p) =
      true then
      sSame
      (List.map decFx
      (List.map encFx
      (sFlown l p a
      b).fst))
      []
      else false) =
      true then
      (sFlown l p a b).snd ==
      sFirst
      [hdI
      [AV.int IntKind.i64
      (sPath l)],
      hdI
      [AV.int IntKind.i64
      (sProcR p)],
      hdI
      [AV.int IntKind.i64
      (sWithin a
      (1 : Int)
      (1000 : Int))],
      hdI
      [AV.int IntKind.i64
      (sWithin b
      (0 : Int)
      (100000000 :
      Int))]]
      else false) =
      true then
      true
      else false) =
      AV.bool true)) := by
    have hlen1 : (l.map encPt).length = l.length := List.length_map ..
    have hlen2 : (p.map encSt).length = p.length := List.length_map ..
    have hpq : (sProcS p == sProcR p) = true := by rw [proc_eq]; simp
    have hpre : sFirst [sPath l, sProcR p, sWithin a 1 1000, sWithin b 0 100000000] = sPre l p a b := by rw [sPre, proc_eq]
    simp only [dec_map, hdI, hpre, hpq, hlen1, hlen2, if_true, List.map_nil]
    refine ⟨fun h => h, fun h => h, fun h => by simp [h], fun _ => ⟨hA, trivial⟩, fun hbig => ?_⟩
    have hl1 : l.length ≤ 17 := by
      by_cases h : (l.length : Int) > 17
      · simp [h] at hbig
      · omega
    have hl2 : p.length ≤ 9 := by
      by_cases h : (p.length : Int) > 9
      · simp [h] at hbig
      · omega
    have k14 := c14 l p a b (by omega) (by omega)
    have k15 := (c15 p (by omega)).un
    have k16 := c16 [sPath l, sProcR p, sWithin a 1 1000, sWithin b 0 100000000] (by simp)
    rw [hpre] at k16
    have k22 := c22 p (by omega)
    have k18 := c18 p (by omega)
    have hsl : (sFlown l p a b).1.length ≤ 1000 := by
      unfold sFlown
      split
      · simp
      · split
        · simp
        · simp [flL]; omega
    have k24 := (c24 (sFlown l p a b).1 hsl).un
    refine ⟨by omega, by omega, by omega, by omega, by omega, by omega, k15, k14, by omega, by omega, by omega, by omega, c17 l (by omega), k18, c19 a, c20 b, k16, fun h0 => ?_, fun h0 => ?_⟩
    · have h0' : sPre l p a b = 0 := by simpa using h0
      have hb := h0'
      simp only [sPre, first_zero, within_zero] at hb
      have hP := path_ok hb.1
      have hv := proc_ok hb.2.1
      have e := flown_eq h0'
      have k21 := c21 l p a b hP hv hb.2.2.1.1 hb.2.2.1.2 hb.2.2.2.1.1 hb.2.2.2.1.2
      have k23 := c23 (sFlown l p a b).1 (sFlownR l p a b).1 hsl
      have hs : sSame (sFlown l p a b).1 (sFlownR l p a b).1 = true := by rw [e]; exact same_refl _
      have he : ((sFlown l p a b).2 == (sFlownR l p a b).2) = true := by rw [e]; simp
      rw [hs] at k23
      simp only [hs, he, if_true, impB]
      repeat' (first | apply And.intro | intro _)
      all_goals first
        | omega
        | exact k21
        | exact k15
        | exact k22
        | exact k18
        | exact k24
        | exact k23
        | exact hA
        | trivial
        | rfl
    · have h0' : (sPre l p a b != 0) = true := by
        rw [bne_iff_ne]
        simpa using h0
      have e1 : (sFlown l p a b).1 = [] := by rw [sFlown, if_pos h0']
      have e2 : (sFlown l p a b).2 = sPre l p a b := by rw [sFlown, if_pos h0']
      have k23 := c23 [] [] (by simp)
      have hs : sSame [] [] = true := same_refl _
      rw [hs] at k23
      rw [e1] at k24
      simp only [e1, e2, hs, if_true, impB, beq_self_eq_true, List.map_nil]
      repeat' (first | apply And.intro | intro _)
      all_goals first
        | exact k15
        | exact k22
        | exact k18
        | exact k24
        | exact k23
        | exact hA
        | trivial
        | rfl
  exact c_of Tryz.f3 (B3 l p a b []) (by kernel_rfl) (by kernel_rfl) (by kernel_rfl) (by kernel_rfl) key (by kernel_rfl)
end Go.Proofs.YtjhjmncjidbieaaGreatDoor
