/-
  NightCases returns true. No condition but the theorems' own. What NightEscapes says, in plain terms: sums over airlines, seals of strings that differ in one byte. No condition but the theorems' own. NightEscapes returns true. No condition but the theorems' own. What NightEscapes' row says of the program's text. No condition.
-/
import Derived.Test.YtimgfogakgakhaaGreatDoorPD
import Derived.Test.YtimgfogakgakhaaGreatDoorAvD
namespace Go.Proofs.YtimgfogakgakhaaGreatDoor
open Go Go.Av Go.RowKit
def sp46 (l : List Mv) (x : List Xc) : Nat → List AV → Option AV
  | 30, _ => some (.bool (shM l))
  | 118, _ => some (.bool (shX x))
  | n, z => spS n z
theorem c46 (l : List Mv) (x : List Xc) (hn : l.length ≤ maxLen) (hx : x.length ≤ maxLen) : PCall Tryz.prog G0 46 [.agg [.sl 5 (l.map encMv), .sl 11 (x.map encXc)]] (.bool (if shM l = true then shX x else false)) := by
  have key :
   (shM l = true → shM l = true) ∧ (shM l = true → shM l = true) ∧ (shM l = true → shM l = true) ∧ PCall Tryz.prog G0 30 [AV.sl 5 (List.map encMv l)] (AV.bool (shM l)) ∧ impB (shM l) (PCall Tryz.prog G0 118 [AV.sl 11 (List.map encXc
   x)] (AV.bool (shX x))) ∧ AV.bool (if shM l = true then shX x else false) = AV.bool (if shM l = true then shX x else false) := by
    exact ⟨fun h => h, fun h => h, fun h => h, (c30 l hn), impB_iff.2 fun hb => (c118 x hx), rfl⟩
  exact c_of Tryz.f46 (mkB (sp46 l x) 46 [] noLa) (by kernel_rfl) (by kernel_rfl) (by kernel_rfl) (by kernel_rfl) key (by kernel_rfl)
end Go.Proofs.YtimgfogakgakhaaGreatDoor
namespace Go.Proofs.YtimgfogakgakhaaGreatDoor
open Go Go.Av Go.RowKit
def b6 (r : Ru) (l : List Mv) (x : List Xc) (al : List UInt8) : Int := if eB6 r l x al == 0 then bill r l x al else 0
theorem shX_ok {x : List Xc} (h : shX x = true) : x.length ≤ 1000 ∧ ∀ y, y ∈ x → y.fl.length ≤ 400 ∧ y.re.length ≤ 400 := by
  unfold shX at h
  by_cases q : (if decide ((x.length : Int) > 12) = true then (x.length : Int) != 257 else false) = true
  · rw [if_pos q] at h; cases h
  · rw [if_neg q] at h
    refine ⟨?_, fun y hy => ?_⟩
    · by_cases q2 : decide ((x.length : Int) > 12) = true
      · rw [if_pos q2] at q
        simp only [bne_iff_ne, ne_eq, Classical.not_not] at q
        omega
      · simp only [decide_eq_true_eq] at q2
        omega
    · have := List.all_eq_true.1 h y hy
      unfold okX at this
      by_cases q1 : (y.fl.length : Int) > 40
      · rw [decide_eq_true q1] at this; simp at this
      · by_cases q2 : (y.re.length : Int) > 40
        · rw [decide_eq_true q2] at this; simp at this
        · exact ⟨by omega, by omega⟩
end Go.Proofs.YtimgfogakgakhaaGreatDoor
namespace Go.Proofs.YtimgfogakgakhaaGreatDoor
open Go Go.Av Go.RowKit
def sumI (l : List Int) : Int := l.foldr (· + ·) 0
theorem sumI_cons (x : Int) (l : List Int) : sumI (x :: l) = x + sumI l := rfl
theorem sumI_app : ∀ (l m : List Int), sumI (l ++ m) = sumI l + sumI m
  | [], m => by simp [sumI]
  | x :: l, m => by rw [List.cons_append, sumI_cons, sumI_cons, sumI_app l m]; omega
theorem smF_sum {α : Type} [Inhabited α] (f : α → Int) (n : Int) (l : List α) : ∀ i, i ≤ l.length → smF f n l i = n + sumI ((l.take i).map f)
  | 0, _ => by simp [smF, sumI]
  | i + 1, hi => by
    rw [smF, smF_sum f n l i (by omega), List.take_add_one, List.map_append, sumI_app]
    rw [List.getElem?_eq_getElem (show i < l.length by omega)]
    have : l.getD i default = l[i] := by rw [List.getD_eq_getElem?_getD, List.getElem?_eq_getElem (by omega)]; rfl
    rw [this]
    simp only [Option.toList_some, List.map_cons, List.map_nil, sumI_cons]
    show _ = n + (_ + (f l[i] + 0))
    omega
theorem smF_all {α : Type} [Inhabited α] (f : α → Int) (n : Int) (l : List α) : smF f n l l.length = n + sumI (l.map f) := by
  rw [smF_sum f n l l.length (Nat.le_refl _), List.take_length]
theorem sum_add {α : Type} (f g : α → Int) : ∀ l : List α, sumI (l.map fun a => f a + g a) = sumI (l.map f) + sumI (l.map g)
  | [] => rfl
  | a :: l => by
    have := sum_add f g l
    simp only [List.map_cons, sumI_cons] at this ⊢
    omega
theorem sum_zero {α : Type} {f : α → Int} : ∀ {l : List α}, (∀ a, a ∈ l → f a = 0) → sumI (l.map f) = 0
  | [], _ => rfl
  | a :: l, h => by
    rw [List.map_cons, sumI_cons, h a (by simp), sum_zero fun b hb => h b (by simp [hb])]
    rfl
theorem sum_swap {α β : Type} (f : α → β → Int) (ns : List α) : ∀ l : List β, sumI (ns.map fun a => sumI (l.map (f a))) = sumI (l.map fun b => sumI (ns.map fun a => f a b))
  | [] => by
    exact sum_zero (f := fun _ => (0 : Int)) (fun a _ => rfl)
  | b :: l => by
    simp only [List.map_cons, sumI_cons]
    rw [sum_add (fun a => f a b) (fun a => sumI (l.map (f a))), sum_swap f ns l]
theorem sum_one {s : List UInt8} {w : Int} : ∀ {ns : List (List UInt8)}, ns.Nodup → s ∈ ns → sumI (ns.map fun a => if (s == a) = true then w else 0) = w
  | a :: ns, hn, hs => by
    have h1 := List.nodup_cons.1 hn
    rw [List.map_cons, sumI_cons]
    by_cases e : s = a
    · subst e
      rw [if_pos (beq_self_eq_true s), sum_zero fun b hb => if_neg (by
        simp only [beq_iff_eq]
        intro e
        subst e
        exact h1.1 hb)]
      omega
    · rw [if_neg (by simpa using e), sum_one h1.2 ((List.mem_cons.1 hs).resolve_left e)]
      omega
def airN (l : List Mv) : Nat → List (List UInt8)
  | 0 => []
  | i + 1 => if ((airN l i).any fun a => a == (l.getD i default).al) = true then airN l i else airN l i ++ [(l.getD i default).al]
theorem air_ok (l : List Mv) : ∀ i, (airN l i).Nodup ∧ (∀ j, j < i → (l.getD j default).al ∈ airN l i) ∧ (airN l i).length ≤ i ∧ ∀ a, a ∈ airN l i → ∃ j, j < i ∧ (l.getD j default).al = a
  | 0 => ⟨by simp [airN], by intros; omega, by simp [airN], by simp [airN]⟩
  | i + 1 => by
    obtain ⟨h1, h2, h3, h4⟩ := air_ok l i
    unfold airN
    split
    · rename_i h
      refine ⟨h1, fun j hj => ?_, by omega, fun a ha => ?_⟩
      · by_cases e : j = i
        · subst e
          obtain ⟨a, ha, e⟩ := List.any_eq_true.1 h
          rw [← show a = (l.getD j default).al by simpa using e]
          exact ha
        · exact h2 j (by omega)
      · obtain ⟨j, hj, e⟩ := h4 a ha
        exact ⟨j, by omega, e⟩
    · rename_i h
      have hn : (l.getD i default).al ∉ airN l i := fun hm => h (List.any_eq_true.2 ⟨_, hm, beq_self_eq_true _⟩)
      refine ⟨?_, fun j hj => ?_, by rw [List.length_append]; simp; omega, fun a ha => ?_⟩
      · rw [List.nodup_append]
        refine ⟨h1, by simp, fun a ha b hb => ?_⟩
        rw [List.mem_singleton.1 hb]
        intro e
        subst e
        exact hn ha
      · by_cases e : j = i
        · subst e; simp
        · exact List.mem_append_left _ (h2 j (by omega))
      · rcases List.mem_append.1 ha with ha | ha
        · obtain ⟨j, hj, e⟩ := h4 a ha
          exact ⟨j, by omega, e⟩
        · exact ⟨i, by omega, (List.mem_singleton.1 ha).symm⟩
theorem bills_all {r : Ru} {l : List Mv} {x : List Xc} (hd : dis l) : smF (fun a => bill r l x a) 0 (airN l l.length) (airN l l.length).length = smF (rFe r) 0 l l.length + r.fi * (caL r l x).length := by
  obtain ⟨hn, hc, -, -⟩ := air_ok l l.length
  have key1 : ∀ a, bill r l x a = sumI (l.map (feB r a)) + sumI ((caL r l x).map (fiB l a)) := fun a => by
    unfold bill fees
    rw [smF_all, smF_all]
    omega
  rw [smF_all, smF_all]
  have e1 : (airN l l.length).map (fun a => bill r l x a) = (airN l l.length).map fun a => sumI (l.map (feB r a)) + sumI ((caL r l x).map (fiB l a)) := List.map_congr_left fun a _ => key1 a
  rw [e1, sum_add (fun a => sumI (l.map (feB r a))), sum_swap (fun a => feB r a), sum_swap (fun a => fiB l a)]
  have e2 : (l.map fun m => sumI ((airN l l.length).map fun a => feB r a m)) = l.map (rFe r) := List.map_congr_left fun m hm => by
    obtain ⟨i, hi, rfl⟩ := mem_get hm
    exact sum_one hn (hc i hi)
  have e3 : ((caL r l x).map fun c => sumI ((airN l l.length).map fun a => fiB l a c)) = (caL r l x).map fun _ => r.fi := List.map_congr_left fun c hcm => by
    have hf := ca_found hcm
    obtain ⟨-, -, -, e⟩ := ca_mem hcm
    obtain ⟨i, hi, e4⟩ := mem_get (mvAt_mem hf)
    unfold fiB
    rw [← e4, e]
    exact sum_one hn (hc i hi)
  have e4 : ∀ C : List Cs, sumI (C.map fun _ => r.fi) = r.fi * C.length := fun C => by
    induction C with
    | nil => simp [sumI]
    | cons c C ih =>
      rw [List.map_cons, sumI_cons, ih, List.length_cons, Int.natCast_add, Int.mul_add]
      omega
  rw [e2, e3, e4]
  omega
def apN (a b : List UInt8) : Nat → Int
  | 0 => 0
  | i + 1 => if (((a.getD i 0).toNat : Int) != ((b.getD i 0).toNat : Int)) = true then apN a b i + 1 else apN a b i
theorem ap_nn (a b : List UInt8) : ∀ i, 0 ≤ apN a b i ∧ apN a b i ≤ i
  | 0 => by simp [apN]
  | i + 1 => by
    have := ap_nn a b i
    unfold apN
    split <;> omega
theorem tm_pos {n : Int} (h : 0 ≤ n) : n.tmod 256 = n % 256 := Int.tmod_eq_emod_of_nonneg h
theorem seX_ap {h : Int} {a b : List UInt8} (hh : 0 ≤ h ∧ h ≤ 255) : ∀ i, (apN a b i = 0 → seX 0 h a i = seX 0 h b i) ∧ (apN a b i = 1 → seX 0 h a i ≠ seX 0 h b i)
  | 0 => ⟨fun _ => rfl, fun e => by simp [apN] at e⟩
  | i + 1 => by
    obtain ⟨h1, h2⟩ := seX_ap hh (a := a) (b := b) i
    have ba := seX_b hh (show 0 < 8 by omega) (s := a) i
    have bb := seX_b hh (show 0 < 8 by omega) (s := b) i
    have na := (a.getD i 0).toNat_lt
    have nb := (b.getD i 0).toNat_lt
    have hn := ap_nn a b i
    unfold apN
    simp only [seX]
    rw [tm_pos (by omega), tm_pos (by omega)]
    split
    · rename_i hd
      have hd : ((a.getD i 0).toNat : Int) ≠ ((b.getD i 0).toNat : Int) := by simpa using hd
      refine ⟨fun e => by omega, fun e => ?_⟩
      rw [h1 (by omega)]
      omega
    · rename_i hd
      have hd : ((a.getD i 0).toNat : Int) = ((b.getD i 0).toNat : Int) := by simpa using hd
      rw [hd]
      exact ⟨fun e => by rw [h1 e], fun e => by have := h2 e; omega⟩
theorem ap_app {a b c : List UInt8} (h : a.length = b.length) : ∀ i, apN (a ++ c) (b ++ c) i = apN a b (min i a.length)
  | 0 => by simp [apN]
  | i + 1 => by
    have ih := ap_app h (c := c) i
    rw [show apN (a ++ c) (b ++ c) (i + 1) = if ((((a ++ c).getD i 0).toNat : Int) != (((b ++ c).getD i 0).toNat : Int)) = true then apN (a ++ c) (b ++ c) i + 1 else apN (a ++ c) (b ++ c) i from rfl]
    by_cases q : i < a.length
    · have e1 : (a ++ c).getD i 0 = a.getD i 0 := by rw [List.getD_eq_getElem?_getD, List.getD_eq_getElem?_getD, List.getElem?_append_left q]
      have e2 : (b ++ c).getD i 0 = b.getD i 0 := by rw [List.getD_eq_getElem?_getD, List.getD_eq_getElem?_getD, List.getElem?_append_left (by omega)]
      rw [e1, e2, ih, show min (i + 1) a.length = i + 1 by omega, show min i a.length = i by omega]
      rfl
    · have e1 : (a ++ c).getD i 0 = (b ++ c).getD i 0 := by rw [List.getD_eq_getElem?_getD, List.getD_eq_getElem?_getD, List.getElem?_append_right (by omega), List.getElem?_append_right (by omega), h]
      rw [e1, if_neg (by simp), ih, show min i a.length = a.length by omega, show min (i + 1) a.length = a.length by omega]
theorem ev_ap {r : Ru} (hk : KyOK r) {a b c : List UInt8} (hl : a.length = b.length) (h : apN a b a.length = 1) : sea (kyR r) (a ++ [32] ++ c) 0 ≠ sea (kyR r) (b ++ [32] ++ c) 0 := by
  unfold sea
  have e : (b ++ [32] ++ c).length = (a ++ [32] ++ c).length := by simp [hl]
  rw [e]
  refine (seX_ap (hk 0) _).2 ?_
  rw [List.append_assoc, List.append_assoc, ap_app hl]
  simp only [List.length_append]
  rw [Nat.min_eq_right (by omega)]
  exact h
def wdN (r : Ru) (x : List Xc) (m : Mv) (j : Nat) : List UInt8 := if fiN (pX x m.fl) j < j then wordV r m (x.getD (fiN (pX x m.fl) j) default) else WN
theorem wd_all (r : Ru) (x : List Xc) (m : Mv) : wdN r x m x.length = wordC r x m := rfl
theorem ex_dis {r : Ru} {l : List Mv} {x : List Xc} (h : exR r l x = 0) : ∀ i, i < x.length → ∀ j, j < i → ((x.getD j default).fl == (x.getD i default).fl) = false := by
  intro i hi j hj
  have h7 := (ex_ok h).2.2 i hi
  unfold fXr at h7
  rw [first_zero, first_zero] at h7
  have h8 := when_z (by decide) h7.2.1
  rw [fiI_dec, decide_eq_false_iff_not] at h8
  exact fi_all h8 j hj
theorem wd_skip {r : Ru} {x : List Xc} {m : Mv} {j : Nat} (h : ((x.getD j default).fl == m.fl) = false) : wdN r x m (j + 1) = wdN r x m j := by
  have hp : pX x m.fl j = false := h
  have hl := fi_le (p := pX x m.fl) j
  unfold wdN
  simp only [fiN, hp]
  by_cases q : fiN (pX x m.fl) j < j
  · rw [if_pos q, if_pos (by omega), if_pos q]
  · rw [if_neg q, if_neg (by simp), if_neg q]
theorem wd_hit {r : Ru} {l : List Mv} {x : List Xc} {m : Mv} (h : exR r l x = 0) {j : Nat} (hj : j < x.length) (hf : (x.getD j default).fl = m.fl) : wdN r x m (j + 1) = wordV r m (x.getD j default) := by
  have hn : ∀ k, k < j → pX x m.fl k = false := fun k hk => by
    have := ex_dis h j hj k hk
    rw [hf] at this
    exact this
  have e : fiN (pX x m.fl) (j + 1) = j := fi_some hn (by unfold pX; rw [hf]; exact beq_self_eq_true _) (by omega)
  unfold wdN
  rw [e, if_pos (by omega)]
end Go.Proofs.YtimgfogakgakhaaGreatDoor
namespace Go.Proofs.YtimgfogakgakhaaGreatDoor
open Go Go.Av Go.RowKit
theorem and_dec_t {p q : Prop} [Decidable p] [Decidable q] (h : (if decide p = true then decide q else false) = true) : p ∧ q := by
  by_cases hp : p <;> by_cases hq : q <;> simp_all
theorem and_dec_f {p q : Prop} [Decidable p] [Decidable q] (h : (if decide p = true then decide q else false) = false) : ¬ p ∨ ¬ q := by
  by_cases hp : p <;> by_cases hq : q <;> simp_all
def la73 (a b : List UInt8) : LA := {
  pre := [.keep [0, 1, 5, 6] [], .bound 1], post := [.keep [0, 1, 5, 6] [], .bound 1]
  Gh := Nat
  st := fun i => ⟨[(0, .str a), (1, .str b), (5, .i (apN a b i)), (6, .i i)], [], 1⟩
  ok := fun i => i ≤ a.length
  ms := fun i => a.length - i }
theorem c73 (a b : List UInt8) (hl : a.length = b.length) (ha : a.length ≤ 1000) : PCall Tryz.prog G0 73 [.str a, .str b] (.i (apN a b a.length)) := by
  have key :
   (∃ (g : Nat), g ≤ a.length ∧ AS.mk [(0, AV.str a), (1, AV.str b), (5, AV.i 0), (6, AV.i 0)] [] 1 = AS.mk [(0, AV.str a), (1, AV.str b), (5, AV.i (apN a b g)), (6, AV.i (↑g : Int))] [] 1) ∧ ∀ (g : Nat), g ≤ a.length → (decide ((↑g :
   Int) < (↑a.length : Int)) = true → decide ((↑g : Int) < (↑a.length : Int)) = true) ∧ (decide ((↑g : Int) < (↑a.length : Int)) = true → decide ((↑g : Int) < (↑a.length : Int)) = true) ∧ (decide ((↑g : Int) < (↑a.length : Int)) =
   true → decide ((↑g : Int) < (↑a.length : Int)) = true) ∧ (decide ((↑g : Int) < (↑a.length : Int)) = true → decide ((↑g : Int) < (↑a.length : Int)) = true) ∧ ((if decide ((↑g : Int) < (↑a.length : Int)) = true then decide ((↑g :
   Int) < (↑b.length : Int)) else false) = true → (0 : Int) ≤ (↑g : Int) ∧ (↑g : Int) < (↑a.length : Int) ∧ (0 : Int) ≤ (↑g : Int) ∧ (↑g : Int) < (↑b.length : Int) ∧ (((↑(a.getD (↑g : Int).toNat (0 : UInt8)).toNat : Int) != (↑(b.getD
   (↑g : Int).toNat (0 : UInt8)).toNat : Int)) = true → In64 (apN a b g + 1) ∧ In64 ((↑g : Int) + 1) ∧ ∃ (g' : Nat), g' ≤ a.length ∧ a.length - g' < a.length - g ∧ AS.mk [(0, AV.str a), (1, AV.str b), (5, AV.i (apN a b g + 1)), (6,
   AV.i ((↑g : Int) + 1))] [] 1 = AS.mk [(0, AV.str a), (1, AV.str b), (5, AV.i (apN a b g')), (6, AV.i (↑g' : Int))] [] 1) ∧ (((↑(a.getD (↑g : Int).toNat (0 : UInt8)).toNat : Int) != (↑(b.getD (↑g : Int).toNat (0 : UInt8)).toNat :
   Int)) = false → In64 ((↑g : Int) + 1) ∧ ∃ (g' : Nat), g' ≤ a.length ∧ a.length - g' < a.length - g ∧ AS.mk [(0, AV.str a), (1, AV.str b), (5, AV.i (apN a b g)), (6, AV.i ((↑g : Int) + 1))] [] 1 = AS.mk [(0, AV.str a), (1, AV.str
   b), (5, AV.i (apN a b g')), (6, AV.i (↑g' : Int))] [] 1)) ∧ ((if decide ((↑g : Int) < (↑a.length : Int)) = true then decide ((↑g : Int) < (↑b.length : Int)) else false) = false → AV.i (apN a b g) = AV.i (apN a b a.length)) := by
    refine ⟨⟨0, by omega, rfl⟩, fun g hg => ⟨fun h => h, fun h => h, fun h => h, fun h => h, fun hd => ?_, fun hd => ?_⟩⟩
    · have hlt : g < a.length := by have h9 := and_dec_t hd; have h8 := hg; (try simp only [List.length_map] at h8); (try simp only [List.length_map] at h9); omega
      try rw [show (↑g : Int).toNat = g from Int.toNat_natCast g]
      have hn := ap_nn a b g
      try rw [show (↑g : Int).toNat = g from Int.toNat_natCast g]
      refine ⟨(by omega), (by omega), (by omega), (by omega), fun h1 => ⟨(by unfold In64; omega), (by unfold In64; omega), ⟨g + 1, by omega, by omega, ?_⟩⟩, fun h1 => ⟨(by unfold In64; omega), ⟨g + 1, by omega, by omega, ?_⟩⟩⟩
      · rw [show apN a b (g + 1) = apN a b g + 1 from if_pos h1]; rfl
      · rw [show apN a b (g + 1) = apN a b g from if_neg (by rw [h1]; decide)]; rfl
    · have hge : g = a.length := by have h9 := and_dec_f hd; have h8 := hg; (try simp only [List.length_map] at h8); (try simp only [List.length_map] at h9); omega
      subst hge
      first | rfl | trivial
  exact c_of Tryz.f73 (mkB spS 73 [] (la1 (la73 a b))) (by kernel_rfl) (by kernel_rfl) (by kernel_rfl) (by kernel_rfl) key (by kernel_rfl)
end Go.Proofs.YtimgfogakgakhaaGreatDoor
namespace Go.Proofs.YtimgfogakgakhaaGreatDoor
open Go Go.Av Go.RowKit
def hasR (rows : List (List AV)) (s : List UInt8) : Bool := decide (fiN (pRn rows s) rows.length < rows.length)
def wordX (r : Ru) (l : List Mv) (y : List AV) : List UInt8 := wordV r (mvAt l (decXc y).fl) (decXc y)
def evQ (a b : List AV) : Bool := match eqTy T0 9 27 a b with
  | some q => q
  | none => false
def kN (r : Ru) (l : List Mv) (x : List Xc) (i : Nat) : Nat := ((l.take i).flatMap (oneC r x)).length
def sN (r : Ru) (l : List Mv) (x : List Xc) (i : Nat) : Int := smF (rFe r) 0 l i + r.fi * kN r l x i
def sp10 (r : Ru) (l : List Mv) (x : List Xc) : Nat → List AV → Option AV
  | 16, _ => some (.bool true)
  | 17, _ => some (.bool (shR r))
  | 46, _ => some (.bool (if shM l = true then shX x else false))
  | 21, _ => some (.agg (encRu r))
  | 32, [.sl _ rows] => some (.sl 5 rows)
  | 48, [.sl _ rows] => some (.sl 11 rows)
  | 47, _ => some (.tup [.sl 3 ((caL r l x).map encCs), .i 0])
  | 33, _ => some (.tup [.sl 1 ((l.map (rFe r)).map encI), .i 0])
  | 50, _ => some (.i (exR r l x))
  | 72, [.sl _ rows, .str s] => some (.bool (hasR rows s))
  | 18, [.agg [.int _ a, .int _ b], .int _ m] => some (.tup [.bool (wiR a b m), .i 0])
  | 56, [_, _, .agg y] => some (.tup [.str (wordX r l y), .i 0])
  | 49, [_, _, _, .str a] => some (.tup [.i (bill r l x a), .i 0])
  | 57, [_, .str a, .str b] => some (.tup [.agg (evS r a b), .i 0])
  | 73, [.str a, .str b] => some (.i (apN a b a.length))
  | n, z => spS n z
def la10 (r : Ru) (l : List Mv) (x : List Xc) (n0 n1 n2 : Int) (m0 : Mv) (w0 : List UInt8) (b : Nat) : Option LA :=
  let B : List (Nat × AV) := [(3, .elt 18 [encRu r] 0 0), (4, .elt 2 [[.sl 5 (l.map encMv), .sl 11 (x.map encXc)]] 0 0)]
  let N : List (Nat × AV) := [(5, .elt 3 [[.int .u8 n0, .int .u8 n1, .int .u8 n2]] 0 0)]
  let A := airN l l.length
  if b.beq 0 then
    let ks := [3, 4, 5, 7, 9, 11, 12, 13, 118, 119, 120]
    some { pre := [.own 13 9 1, .reno 13 1, .keep ks [1], .bound 2], post := [.reno 13 1, .keep ks [1], .bound 2]
           Gh := Nat
           st := fun i => ⟨B ++ N ++ [(7, .sl 3 ((caL r l x).map encCs)), (9, .sl 1 ((l.map (rFe r)).map encI)), (11, .i (kN r l x i)), (12, .i (sN r l x i)), (13, .own 1 ((airN l i).map encS).length), (118, .sl 5 (l.map encMv)), (119, .i (l.map encMv).length), (120, .i i)], [(1, .buf 9 1 ((airN l i).map encS))], 2⟩
           ok := fun i => i ≤ (l.map encMv).length
           ms := fun i => (l.map encMv).length - i }
  else if b.beq 2 then
    let ks := [3, 4, 5, 7, 9, 11, 12, 13, 14, 15, 16, 18, 118, 119, 120, 152, 153, 154]
    let K : List GS := [.reno 13 1, .keep ks [1], .bound 2]
    some { pre := K, post := K
           Gh := Nat × Nat
           st := fun g => ⟨B ++ N ++ [(7, .sl 3 ((caL r l x).map encCs)), (9, .sl 1 ((l.map (rFe r)).map encI)), (11, .i (kN r l x g.1)), (12, .i (sN r l x g.1 + rFe r (l.getD g.1 default))), (13, .own 1 ((airN l (g.1 + 1)).map encS).length), (14, .i g.1), (15, .elt 5 [encMv (l.getD g.1 default)] 0 0), (16, .bool (wiR r.c r.d (l.getD g.1 default).mi)), (18, .str (wdN r x (l.getD g.1 default) g.2)), (118, .sl 5 (l.map encMv)), (119, .i (l.map encMv).length), (120, .i g.1), (152, .sl 11 (x.map encXc)), (153, .i (x.map encXc).length), (154, .i g.2)], [(1, .buf 9 1 ((airN l (g.1 + 1)).map encS))], 2⟩
           ok := fun g => g.1 < l.length ∧ g.2 ≤ x.length
           rel := some fun g0 g => g.1 = g0.1
           ms := fun g => x.length - g.2 }
  else if b.beq 4 then
    let K : List GS := [.keep [3, 4, 5, 12, 240, 241, 242] [], .bound 1]
    some { pre := K, post := K
           Gh := Nat
           st := fun i => ⟨B ++ N ++ [(12, .i (sN r l x l.length - smF (bill r l x) 0 A i)), (240, .sl 1 (A.map encS)), (241, .i (A.map encS).length), (242, .i i)], [], 1⟩
           ok := fun i => i ≤ A.length
           ms := fun i => A.length - i }
  else
    let K : List GS := [.keep [3, 4, 27, 28, 29, 362, 363, 364] [], .bound 1]
    some { pre := K, post := K
           Gh := Nat
           st := fun i => ⟨B ++ [(27, .elt 5 [encMv m0] 0 0), (28, .str w0), (29, .elt 8 [evS r m0.fl w0] 0 0), (362, .sl 5 (l.map encMv)), (363, .i (l.map encMv).length), (364, .i i)], [], 1⟩
           ok := fun i => i ≤ (l.map encMv).length
           ms := fun i => (l.map encMv).length - i }
def B10 (r : Ru) (l : List Mv) (x : List Xc) (n0 n1 n2 : Int) (m0 : Mv) (w0 : List UInt8) : BA :=
  { symA 25 [6, 7, 8, 9, 10, 11, 12, 13, 14, 15, 16, 17, 18, 19, 20, 21, 22, 23, 24, 25, 26, 27, 28] (symA 64 [11, 12, 13, 14, 15, 16, 19, 20, 21] (noSyms [5, 25, 30, 53, 58, 64] (yA 56 5 (yA 56 9 (fzB (mkB (sp10 r l x) 10 (lits false [(5, 12), (5, 20), (25, 30), (30, 3), (30, 15), (35, 3), (45, 1), (53, 8), (58, 4), (64, 23)] ++
      [(12, 2, rdL 5 encMv l 5 true), (13, 4, rdL 1 encI (l.map (rFe r)) 1 false), (22, 1, rdL 11 encXc x 11 true), (30, 8, rdL 3 encCs (caL r l x) 3 true), (39, 1, rdL 1 encS (airN l l.length) 1 false), (62, 1, rdL 5 encMv l 5 true), (49, 4, rdId), (49, 15, rdId), (49, 10, fun _ => some (.agg (encMv m0))), (49, 21, fun _ => some (.str w0)), (56, 5, fun _ => some (.int .u8 (sea (kyR r) (m0.fl ++ [32] ++ w0) (n2.tmod 8).toNat))), (64, 21, fun y => match y with | [.agg a, .agg b] => some (.bool (evQ a b)) | _ => none)]) (la10 r l x n0 n1 n2 m0 w0))))))) with
    cl := clL [116, 150, 203, 228, 239, 260, 266, 334, 360, 400], bx := fun i => if i.beq 0 then [.frzo 13] else [] }
def M0 (l : List Mv) (n0 : Int) : Mv := l.getD (n0.tmod l.length).toNat default
def R0 (r : Ru) (n1 : Int) : List UInt8 := r.rs.getD (n1.tmod r.rs.length).toNat default
theorem sN_0 (r : Ru) (l : List Mv) (x : List Xc) : sN r l x 0 = 0 := by
  show (0 : Int) + r.fi * ((0 : Nat) : Int) = 0
  simp
theorem kN_le (r : Ru) (l : List Mv) (x : List Xc) (i : Nat) : kN r l x i ≤ i := by
  have := flat_len (oneC r x) (oneC_len r x) (l.take i)
  rw [List.length_take] at this
  unfold kN
  omega
theorem kN_all (r : Ru) (l : List Mv) (x : List Xc) : kN r l x l.length = (caL r l x).length := by
  unfold kN caL
  rw [List.take_length]
theorem sN_bd {r : Ru} {l : List Mv} (x : List Xc) (h : RuOK r ∧ ∀ m, m ∈ l → MvOK r m) (hf : 0 ≤ r.fi ∧ r.fi ≤ 100000) {i : Nat} (hi : i ≤ l.length) : 0 ≤ sN r l x i ∧ sN r l x i ≤ 300000 * i := by
  have h1 := sm_bd (f := rFe r) (n := 0) (N := 0) (b := 200000) (l := l) (by omega) (fun m hm => fe_bd h.1 (h.2 m hm)) i hi
  have h2 := mul_bd hf (show (0 : Int) ≤ kN r l x i ∧ ((kN r l x i : Nat) : Int) ≤ i by have := kN_le r l x i; omega)
  unfold sN
  omega
theorem c72a (ws : List (List UInt8)) (s : List UInt8) (h : ws.length ≤ 1000) : PCall Tryz.prog G0 72 [.sl 1 (ws.map encS), .str s] (.bool (hasR (ws.map encS) s)) := by
  have := c72 ws s h
  unfold hasR
  rw [List.length_map, fi_congr (q := pS ws s) (fun j hj => pRn_s hj)]
  exact this
theorem hasR_s (ws : List (List UInt8)) (s : List UInt8) : hasR (ws.map encS) s = decide (fiN (pS ws s) ws.length < ws.length) := by
  unfold hasR
  rw [List.length_map, fi_congr (q := pS ws s) (fun j hj => pRn_s hj)]
theorem hasR_any (ws : List (List UInt8)) (s : List UInt8) : hasR (ws.map encS) s = ws.any fun a => a == s := by
  have := any_take (l := ws) (q := fun a => a == s) (Nat.le_refl ws.length)
  rw [List.take_length] at this
  rw [this, hasR_s]
  rfl
theorem air_new {l : List Mv} {g : Nat} (h : (!hasR ((airN l g).map encS) (l.getD g default).al) = true) : (airN l (g + 1)).map encS = (airN l g).map encS ++ [encS (l.getD g default).al] := by
  rw [hasR_any] at h
  have h : ((airN l g).any fun a => a == (l.getD g default).al) = false := by simpa using h
  rw [show airN l (g + 1) = airN l g ++ [(l.getD g default).al] from if_neg (by rw [h]; decide), List.map_append]
  rfl
theorem air_old {l : List Mv} {g : Nat} (h : (!hasR ((airN l g).map encS) (l.getD g default).al) = false) : airN l (g + 1) = airN l g := by
  rw [hasR_any] at h
  have h : ((airN l g).any fun a => a == (l.getD g default).al) = true := by simpa using h
  exact if_pos h
theorem c47v {r : Ru} {l : List Mv} {x : List Xc} (hO : Of r l x) : PCall Tryz.prog G0 47 [.agg (encRu r), .sl 5 (l.map encMv), .sl 11 (x.map encXc)] (.tup [.sl 3 ((caL r l x).map encCs), .i 0]) := by
  have := c47 r l x hO.S hO.k hO.n hO.b
  rw [hO.e, ca6, hO.e] at this
  exact this
theorem c33v {r : Ru} {l : List Mv} (hS : Sh r l) (h0 : chkMR r l = 0) : PCall Tryz.prog G0 33 [.agg (encRu r), .sl 5 (l.map encMv)] (.tup [.sl 1 ((l.map (rFe r)).map encI), .i 0]) := by
  have := c33r hS
  rw [h0, fs4, h0] at this
  exact this
theorem al_name {r : Ru} {l : List Mv} (h : chkMR r l = 0) {m : Mv} (hm : m ∈ l) : sName m.al = true ∧ sName m.fl = true := by
  unfold chkMR at h
  obtain ⟨h1, h2⟩ := ite_z h
  obtain ⟨i, hi, rfl⟩ := mem_get hm
  have h7 := (scan_zero h2).1 i hi
  unfold fMv at h7
  rw [first_zero, first_zero, first_zero] at h7
  have a := when_z (by decide) h7.1
  have b := when_z (by decide) h7.2.2.1
  exact ⟨by simpa using b, by simpa using a⟩
theorem re_name {r : Ru} (h : chkR r = 0) {s : List UInt8} (hs : s ∈ r.rs) : sName s = true := by
  unfold chkR at h
  obtain ⟨h1, h2⟩ := ite_z h
  obtain ⟨-, h3⟩ := scan_zero h2
  obtain ⟨-, h4⟩ := gt5 h3
  obtain ⟨-, h5⟩ := scan_zero h4
  obtain ⟨-, h6⟩ := ite_z h5
  obtain ⟨i, hi, rfl⟩ := mem_get hs
  have h7 := (scan_zero h6).1 i hi
  unfold fS at h7
  rw [first_zero] at h7
  have a := when_z (by decide) h7.1
  simpa using a
theorem nm_len {s : List UInt8} (h : sName s = true) : s.length ≤ 24 := by
  unfold sName at h
  simp only [Bool.and_eq_true, decide_eq_true_eq] at h
  exact h.2.2
theorem c49v {r : Ru} {l : List Mv} {x : List Xc} (hO : Of r l x) {a : List UInt8} (ha : sName a = true) : PCall Tryz.prog G0 49 [.agg (encRu r), .sl 5 (l.map encMv), .sl 11 (x.map encXc), .str a] (.tup [.i (bill r l x a), .i 0]) := by
  have := c49 r l x a hO.S hO.k hO.n hO.b (by have := nm_len ha; omega)
  have e : eB6 r l x a = 0 := by unfold eB6; rw [hO.e, ha]; rfl
  rw [e, if_neg (by decide)] at this
  exact this
theorem c57v {r : Ru} {l : List Mv} (hS : Sh r l) (hk : KyOK r) (h : chkR r = 0) {a b : List UInt8} (ha : sName a = true) (hb : sName b = true) : PCall Tryz.prog G0 57 [.agg (encRu r), .str a, .str b] (.tup [.agg (evS r a b), .i 0]) := by
  have := c57 r a b hS.t hS.s hS.n hS.m hk (by have := nm_len ha; omega) (by have := nm_len hb; omega)
  have e : e57 r a b = 0 := by unfold e57; rw [h, ha, hb]; rfl
  rw [e] at this
  exact this
theorem ex_mk {r : Ru} {l : List Mv} (h : chkMR r l = 0) {y : Xc} (hf : fiN (pM l y.fl) l.length < l.length) (hn : sName y.re = true) (hd : 0 ≤ y.day ∧ y.day ≤ 100000) : exR r l [y] = 0 := by
  have e : eX r l [y] = 0 := by unfold eX; rw [h]; rfl
  unfold exR
  rw [e, if_neg (by decide)]
  refine scan_end fun i hi => ?_
  have hi0 : i = 0 := by simp at hi; omega
  subst hi0
  unfold fXr
  show sFirst [sWhen (decide (fiI (pM l y.fl) l.length < 0)) 10, sWhen (decide (fiI (pX [y] y.fl) 0 ≥ 0)) 9, sWhen (!sName y.re) 8, sWithin y.day 0 100000] = 0
  rw [hn, within_z hd, ← not_found, decide_eq_true hf]
  rfl
theorem ex_one {r : Ru} {l : List Mv} {x : List Xc} (h : exR r l x = 0) {y : Xc} (hy : y ∈ x) : exR r l [y] = 0 := by
  obtain ⟨i, hi, rfl⟩ := mem_get hy
  have h7 := (ex_ok h).2.2 i hi
  unfold fXr at h7
  rw [first_zero, first_zero, first_zero, first_zero, within_zero] at h7
  have a := when_z (by decide) h7.2.2.1
  exact ex_mk (ex_ok h).1 (ex_found h (getD_mem hi)) (by simpa using a) h7.2.2.2.1
theorem c56x {r : Ru} {l : List Mv} (hS : Sh r l) (hk : KyOK r) {y : Xc} (h : exR r l [y] = 0) (ha : y.fl.length ≤ 400) (hb : y.re.length ≤ 400) : PCall Tryz.prog G0 56 [.agg (encRu r), .sl 5 (l.map encMv), .agg (encXc y)] (.tup [.str (wordX r l (encXc y)), .i 0]) := by
  have := c56 r l y hS hk ha hb
  rw [w7, h] at this
  exact this
theorem wx_hit {r : Ru} {l : List Mv} (hd : dis l) {g : Nat} (hg : g < l.length) {y : Xc} (hf : y.fl = (l.getD g default).fl) : wordX r l (encXc y) = wordV r (l.getD g default) y := by
  show wordV r (mvAt l y.fl) y = _
  rw [hf, mvAt_self hd hg]
theorem word_nil {r : Ru} {m : Mv} {y : Xc} (h : wordV r m y = []) : noRe r y = false ∧ decide (y.day < m.day) = false ∧ decide (y.day > m.day + r.dl) = false ∧ evB r y = false := by
  unfold wordV at h
  by_cases h1 : noRe r y = true
  · rw [if_pos h1] at h; cases h
  · rw [if_neg h1] at h
    by_cases h2 : decide (y.day < m.day) = true
    · rw [if_pos h2] at h; cases h
    · rw [if_neg h2] at h
      by_cases h3 : decide (y.day > m.day + r.dl) = true
      · rw [if_pos h3] at h; cases h
      · rw [if_neg h3] at h
        by_cases h4 : evB r y = true
        · rw [if_pos h4] at h; cases h
        · exact ⟨Bool.eq_false_iff.2 h1, Bool.eq_false_iff.2 h2, Bool.eq_false_iff.2 h3, Bool.eq_false_iff.2 h4⟩
theorem lit25 {r : Ru} {m : Mv} {y : Xc} {w : List UInt8} (hw : w = wordV r m y) : (if (w == []) = true then (if (if (!hasR (r.rs.map encS) y.re) = true then true else decide (y.day < m.day)) = true then true else decide (y.day > m.day + r.dl)) else false) = false := by
  subst hw
  by_cases h : wordV r m y = []
  · obtain ⟨h1, h2, h3, -⟩ := word_nil h
    have e : (!hasR (r.rs.map encS) y.re) = false := by rw [hasR_s]; exact h1
    rw [e, h2, h3]
    simp
  · rw [if_neg (by simpa using h)]
theorem k_no {r : Ru} {l : List Mv} {x : List Xc} {g : Nat} (hg : g < l.length) (h : oneC r x (l.getD g default) = []) : kN r l x (g + 1) = kN r l x g ∧ sN r l x (g + 1) = sN r l x g + rFe r (l.getD g default) := by
  have e : kN r l x (g + 1) = kN r l x g := by unfold kN; rw [flat_succ _ hg, h, List.append_nil]
  refine ⟨e, ?_⟩
  unfold sN
  rw [e, smF]
  omega
theorem k_one {r : Ru} {l : List Mv} {x : List Xc} {g : Nat} {c : Cs} (hg : g < l.length) (h : oneC r x (l.getD g default) = [c]) : kN r l x (g + 1) = kN r l x g + 1 ∧ sN r l x (g + 1) = sN r l x g + rFe r (l.getD g default) + r.fi := by
  have e : kN r l x (g + 1) = kN r l x g + 1 := by unfold kN; rw [flat_succ _ hg, h, List.length_append]; rfl
  refine ⟨e, ?_⟩
  unfold sN
  rw [e, smF, Int.natCast_add, Int.mul_add]
  omega
theorem ca_at {r : Ru} {l : List Mv} {x : List Xc} {g : Nat} {c : Cs} (hg : g < l.length) (h : oneC r x (l.getD g default) = [c]) : kN r l x g < (caL r l x).length ∧ (caL r l x).getD (kN r l x g) default = c := by
  have e : caL r l x = (l.take g).flatMap (oneC r x) ++ ([c] ++ (l.drop (g + 1)).flatMap (oneC r x)) := by
    unfold caL
    rw [← h]
    have : l = l.take g ++ (l.getD g default :: l.drop (g + 1)) := by
      rw [List.getD_eq_getElem?_getD, List.getElem?_eq_getElem hg]
      show l = l.take g ++ (l[g] :: l.drop (g + 1))
      rw [← List.drop_eq_getElem_cons hg, List.take_append_drop]
    conv => lhs; rw [this]
    rw [List.flatMap_append, List.flatMap_cons]
  rw [e]
  unfold kN
  refine ⟨by simp, ?_⟩
  rw [List.getD_eq_getElem?_getD, List.getElem?_append_right (Nat.le_refl _), Nat.sub_self]
  rfl
theorem one_out {r : Ru} {x : List Xc} {m : Mv} (h : (if (!wiR r.c r.d m.mi) = true then true else wdN r x m x.length == []) = true) : oneC r x m = [] := by
  rw [wd_all] at h
  unfold oneC
  by_cases hw : wiR r.c r.d m.mi = true
  · rw [if_pos hw]
    rw [hw] at h
    simp only [Bool.not_true, Bool.false_eq_true, if_false] at h
    rw [if_neg]
    simpa using h
  · rw [if_neg hw]
theorem one_in {r : Ru} {x : List Xc} {m : Mv} (h : (if (!wiR r.c r.d m.mi) = true then true else wdN r x m x.length == []) = false) : oneC r x m = [⟨m.fl, wdN r x m x.length, r.fi⟩] := by
  rw [wd_all] at h ⊢
  obtain ⟨h1, h2⟩ := or_f h
  unfold oneC
  rw [if_pos (by simpa using h1), if_pos (by simpa using h2)]
theorem bill_bd {r : Ru} {l : List Mv} (x : List Xc) (h : chkMR r l = 0) (hl : l.length ≤ 1000) (a : List UInt8) : 0 ≤ bill r l x a ∧ bill r l x a ≤ 300000000 := by
  have h1 := fees_bd (mv_ok h).2.1 a l.length (Nat.le_refl _)
  have h2 := ca_len r l x
  have h3 := sm_bd (f := fiB l a) (n := fees r l a) (N := 200000000) (b := 100000) (l := caL r l x) (by unfold fees; omega) (fun c hc => fiB_bd (mv_ok h).1 a c hc) _ (Nat.le_refl _)
  unfold bill
  omega
theorem inc_ne {v : Int} (h : 0 ≤ v ∧ v ≤ 255) : (IntKind.u8.wrap (v + 1) == v) = false := by
  have e : IntKind.u8.wrap (v + 1) = (v + 1) % 256 := by
    show (if (false && decide ((v + 1) % 256 ≥ 128)) = true then (v + 1) % 256 - 256 else (v + 1) % 256) = _
    simp
  rw [e]
  simp only [beq_eq_false_iff_ne, ne_eq]
  omega
def gdX (r : Ru) (m : Mv) (w : List UInt8) : Xc :=
  let s := m.fl ++ [32] ++ w
  ⟨m.fl, w, m.day, sea (kyR r) s 0, sea (kyR r) s 1, sea (kyR r) s 2, sea (kyR r) s 3, sea (kyR r) s 4, sea (kyR r) s 5, sea (kyR r) s 6, sea (kyR r) s 7⟩
def bdX (r : Ru) (m : Mv) (w : List UInt8) (k : Nat) : Xc :=
  let s := m.fl ++ [32] ++ w
  let v := IntKind.u8.wrap (sea (kyR r) s k + 1)
  ⟨m.fl, w, m.day, if 0 + 3 + k * 1 = 3 then v else sea (kyR r) s 0, if 0 + 3 + k * 1 = 4 then v else sea (kyR r) s 1, if 0 + 3 + k * 1 = 5 then v else sea (kyR r) s 2, if 0 + 3 + k * 1 = 6 then v else sea (kyR r) s 3, if 0 + 3 + k * 1 = 7 then v else sea (kyR r) s 4, if 0 + 3 + k * 1 = 8 then v else sea (kyR r) s 5, if 0 + 3 + k * 1 = 9 then v else sea (kyR r) s 6, if 0 + 3 + k * 1 = 10 then v else sea (kyR r) s 7⟩
theorem re_in {r : Ru} {y : Xc} (h : y.re ∈ r.rs) : noRe r y = false := by
  obtain ⟨i, hi, e⟩ := mem_get h
  unfold noRe
  rw [decide_eq_true (fi_ex (p := pS r.rs y.re) hi (by unfold pS; rw [e]; exact beq_self_eq_true _))]
  rfl
theorem ev_good (r : Ru) (m : Mv) (w : List UInt8) : evB r (gdX r m w) = false := by
  show (!((sea (kyR r) (m.fl ++ [32] ++ w) 0 == sea (kyR r) (m.fl ++ [32] ++ w) 0 && true) && ((sea (kyR r) (m.fl ++ [32] ++ w) 1 == sea (kyR r) (m.fl ++ [32] ++ w) 1 && true) && ((sea (kyR r) (m.fl ++ [32] ++ w) 2 == sea (kyR r) (m.fl ++ [32] ++ w) 2 && true) && ((sea (kyR r) (m.fl ++ [32] ++ w) 3 == sea (kyR r) (m.fl ++ [32] ++ w) 3 && true) && ((sea (kyR r) (m.fl ++ [32] ++ w) 4 == sea (kyR r) (m.fl ++ [32] ++ w) 4 && true) && ((sea (kyR r) (m.fl ++ [32] ++ w) 5 == sea (kyR r) (m.fl ++ [32] ++ w) 5 && true) && ((sea (kyR r) (m.fl ++ [32] ++ w) 6 == sea (kyR r) (m.fl ++ [32] ++ w) 6 && true) && ((sea (kyR r) (m.fl ++ [32] ++ w) 7 == sea (kyR r) (m.fl ++ [32] ++ w) 7 && true) && true))))))))) = false
  simp
theorem ev_bad {r : Ru} (hk : KyOK r) (m : Mv) (w : List UInt8) {k : Nat} (h : k < 8) : evB r (bdX r m w k) = true := by
  have hb := inc_ne (seX_b (hk k) h (s := m.fl ++ [32] ++ w) (m.fl ++ [32] ++ w).length)
  have hb : (IntKind.u8.wrap (sea (kyR r) (m.fl ++ [32] ++ w) k + 1) == sea (kyR r) (m.fl ++ [32] ++ w) k) = false := hb
  show (!(((bdX r m w k).e0 == sea (kyR r) (m.fl ++ [32] ++ w) 0 && true) && (((bdX r m w k).e1 == sea (kyR r) (m.fl ++ [32] ++ w) 1 && true) && (((bdX r m w k).e2 == sea (kyR r) (m.fl ++ [32] ++ w) 2 && true) && (((bdX r m w k).e3 == sea (kyR r) (m.fl ++ [32] ++ w) 3 && true) && (((bdX r m w k).e4 == sea (kyR r) (m.fl ++ [32] ++ w) 4 && true) && (((bdX r m w k).e5 == sea (kyR r) (m.fl ++ [32] ++ w) 5 && true) && (((bdX r m w k).e6 == sea (kyR r) (m.fl ++ [32] ++ w) 6 && true) && (((bdX r m w k).e7 == sea (kyR r) (m.fl ++ [32] ++ w) 7 && true) && true))))))))) = true
  unfold bdX
  dsimp only
  have hb3 : ¬ IntKind.u8.wrap (sea (kyR r) (m.fl ++ [32] ++ w) k + 1) = sea (kyR r) (m.fl ++ [32] ++ w) k := by simpa only [beq_eq_false_iff_ne, ne_eq] using hb
  clear hb
  generalize m.fl ++ [32] ++ w = s at hb3 ⊢
  match k, h, hb3 with
  | 0, _, hb3 => simp [hb3]
  | 1, _, hb3 => simp [hb3]
  | 2, _, hb3 => simp [hb3]
  | 3, _, hb3 => simp [hb3]
  | 4, _, hb3 => simp [hb3]
  | 5, _, hb3 => simp [hb3]
  | 6, _, hb3 => simp [hb3]
  | 7, _, hb3 => simp [hb3]
theorem word_good {r : Ru} {l : List Mv} (hd : dis l) (hdl : 0 ≤ r.dl) {g : Nat} (hg : g < l.length) {w : List UInt8} (hw : w ∈ r.rs) : wordX r l (encXc (gdX r (l.getD g default) w)) = [] := by
  rw [wx_hit hd hg rfl]
  unfold wordV
  rw [re_in (show (gdX r (l.getD g default) w).re ∈ r.rs from hw), ev_good]
  have e1 : decide ((gdX r (l.getD g default) w).day < (l.getD g default).day) = false := decide_eq_false (by show ¬ (l.getD g default).day < (l.getD g default).day; omega)
  have e2 : decide ((gdX r (l.getD g default) w).day > (l.getD g default).day + r.dl) = false := decide_eq_false (by show ¬ (l.getD g default).day > (l.getD g default).day + r.dl; omega)
  rw [e1, e2]
  rfl
theorem word_bad {r : Ru} (hk : KyOK r) {l : List Mv} (hd : dis l) (hdl : 0 ≤ r.dl) {g : Nat} (hg : g < l.length) {w : List UInt8} (hw : w ∈ r.rs) {k : Nat} (h : k < 8) : wordX r l (encXc (bdX r (l.getD g default) w k)) = W3 := by
  rw [wx_hit hd hg rfl]
  unfold wordV
  rw [re_in (show (bdX r (l.getD g default) w k).re ∈ r.rs from hw), ev_bad hk _ _ h]
  have e1 : decide ((bdX r (l.getD g default) w k).day < (l.getD g default).day) = false := decide_eq_false (by show ¬ (l.getD g default).day < (l.getD g default).day; omega)
  have e2 : decide ((bdX r (l.getD g default) w k).day > (l.getD g default).day + r.dl) = false := decide_eq_false (by show ¬ (l.getD g default).day > (l.getD g default).day + r.dl; omega)
  rw [e1, e2]
  rfl
theorem nth_gd (a b c : AV) {ks : Nat → Int} {s : List UInt8} {k : Nat} (h : k < 8) : nth (a :: b :: c :: sealK ks s) (3 + k * 1) = .int .u8 (sea ks s k) := by
  match k, h with
  | 0, _ => rfl
  | 1, _ => rfl
  | 2, _ => rfl
  | 3, _ => rfl
  | 4, _ => rfl
  | 5, _ => rfl
  | 6, _ => rfl
  | 7, _ => rfl
theorem evQ_ap {r : Ru} (hk : KyOK r) {a b c : List UInt8} : (if (if ((a.length : Int) == (b.length : Int)) = true then apN a b a.length == 1 else false) = true then evQ (evS r a c) (evS r b c) else false) = false := by
  by_cases h1 : ((a.length : Int) == (b.length : Int)) = true
  · rw [if_pos h1]
    by_cases h2 : (apN a b a.length == 1) = true
    · rw [if_pos h2]
      have hne := ev_ap hk (c := c) (by simp only [beq_iff_eq] at h1; omega) (show apN a b a.length = 1 by simpa using h2)
      show (((sea (kyR r) (a ++ [32] ++ c) 0 == sea (kyR r) (b ++ [32] ++ c) 0) && true) && _) = false
      rw [beq_false_of_ne hne]
      rfl
    · rw [if_neg h2]
  · rw [if_neg h1]
    rfl
theorem wd_0 (r : Ru) (x : List Xc) (m : Mv) : wdN r x m 0 = WN := if_neg (Nat.not_lt_zero _)
theorem of_g {r : Ru} {l : List Mv} {x : List Xc} {c d : Bool} (h : (if (if (if (!shR r) = true then true else !if shM l = true then shX x else false) = true then true else c) = true then true else d) = false) : Sh r l ∧ (x.length ≤ 1000 ∧ ∀ y, y ∈ x → y.fl.length ≤ 400 ∧ y.re.length ≤ 400) := by
  obtain ⟨h1, -⟩ := or_f h
  obtain ⟨h2, -⟩ := or_f h1
  obtain ⟨h3, h4⟩ := or_f h2
  have hxm : shM l = true ∧ shX x = true := by
    revert h4
    cases shM l <;> cases shX x <;> simp
  exact ⟨sh_mv (by simpa using h3) hxm.1, shX_ok hxm.2⟩
theorem nm_air {r : Ru} {l : List Mv} (h : chkMR r l = 0) {a : List UInt8} (ha : a ∈ airN l l.length) : sName a = true := by
  obtain ⟨j, hj, e⟩ := (air_ok l l.length).2.2.2 a ha
  rw [← e]
  exact (al_name h (getD_mem hj)).1
theorem bl_bd {r : Ru} {l : List Mv} (x : List Xc) (h : chkMR r l = 0) (hl : l.length ≤ 1000) : ∀ i, i ≤ (airN l l.length).length → 0 ≤ smF (bill r l x) 0 (airN l l.length) i ∧ smF (bill r l x) 0 (airN l l.length) i ≤ 0 + 300000000 * i :=
  sm_bd (by omega) fun a _ => bill_bd x h hl a
theorem c10 (r : Ru) (l : List Mv) (x : List Xc) (n0 n1 n2 : Int) (hA : PCall Tryz.prog G0 16 [] (.bool true)) (hl : r.ts.length ≤ maxLen) (hm : r.rs.length ≤ maxLen) (hn : l.length ≤ maxLen) (hx0 : x.length ≤ maxLen) (hk : KyOK r) (hn0 : 0 ≤ n0 ∧ n0 ≤ 255) (hn1 : 0 ≤ n1 ∧ n1 ≤ 255) (hn2 : 0 ≤ n2 ∧ n2 ≤ 255) : PCall Tryz.prog G0 10 [.agg (encRu r), .agg [.sl 5 (l.map encMv), .sl 11 (x.map encXc)], .agg [.int .u8 n0, .int .u8 n1, .int .u8 n2]] (.bool true) := by
  have key :
   (true = true → true = true) ∧ (true = true → true = true) ∧ (false = false → true = true) ∧ ((!!shR r) = true → (!!shR r) = true) ∧ ((!!shR r) = true → (!!shR r) = true) ∧ ((!shR r) = false → (!!shR r) = true) ∧ ((!if (!shR r) =
   true then true else !if shM l = true then shX x else false) = true → (!if (!shR r) = true then true else !if shM l = true then shX x else false) = true) ∧ ((!if (!shR r) = true then true else !if shM l = true then shX x else false)
   = true → (!if (!shR r) = true then true else !if shM l = true then shX x else false) = true) ∧ ((!if (!shR r) = true then true else !if shM l = true then shX x else false) = true → (!if (!shR r) = true then true else !if shM l =
   true then shX x else false) = true) ∧ ((if (!shR r) = true then true else !if shM l = true then shX x else false) = false → (!if (!shR r) = true then true else !if shM l = true then shX x else false) = true) ∧ ((!if (if (!shR r) =
   true then true else !if shM l = true then shX x else false) = true then true else decide ((↑(List.map encMv l).length : Int) > 12)) = true → (!if (if (!shR r) = true then true else !if shM l = true then shX x else false) = true
   then true else decide ((↑(List.map encMv l).length : Int) > 12)) = true) ∧ ((!if (if (!shR r) = true then true else !if shM l = true then shX x else false) = true then true else decide ((↑(List.map encMv l).length : Int) > 12)) =
   true → (!if (if (!shR r) = true then true else !if shM l = true then shX x else false) = true then true else decide ((↑(List.map encMv l).length : Int) > 12)) = true) ∧ ((!if (if (!shR r) = true then true else !if shM l = true then
   shX x else false) = true then true else decide ((↑(List.map encMv l).length : Int) > 12)) = true → (!if (if (!shR r) = true then true else !if shM l = true then shX x else false) = true then true else decide ((↑(List.map encMv
   l).length : Int) > 12)) = true) ∧ ((if (if (!shR r) = true then true else !if shM l = true then shX x else false) = true then true else decide ((↑(List.map encMv l).length : Int) > 12)) = false → (!if (if (!shR r) = true then true
   else !if shM l = true then shX x else false) = true then true else decide ((↑(List.map encMv l).length : Int) > 12)) = true) ∧ ((!if (if (if (!shR r) = true then true else !if shM l = true then shX x else false) = true then true
   else decide ((↑(List.map encMv l).length : Int) > 12)) = true then true else decide ((↑(List.map encXc x).length : Int) > 12)) = true → (!if (if (if (!shR r) = true then true else !if shM l = true then shX x else false) = true then
   true else decide ((↑(List.map encMv l).length : Int) > 12)) = true then true else decide ((↑(List.map encXc x).length : Int) > 12)) = true) ∧ ((!if (if (if (!shR r) = true then true else !if shM l = true then shX x else false) =
   true then true else decide ((↑(List.map encMv l).length : Int) > 12)) = true then true else decide ((↑(List.map encXc x).length : Int) > 12)) = true → (!if (if (if (!shR r) = true then true else !if shM l = true then shX x else
   false) = true then true else decide ((↑(List.map encMv l).length : Int) > 12)) = true then true else decide ((↑(List.map encXc x).length : Int) > 12)) = true) ∧ ((!if (if (if (!shR r) = true then true else !if shM l = true then shX
   x else false) = true then true else decide ((↑(List.map encMv l).length : Int) > 12)) = true then true else decide ((↑(List.map encXc x).length : Int) > 12)) = true → (!if (if (if (!shR r) = true then true else !if shM l = true
   then shX x else false) = true then true else decide ((↑(List.map encMv l).length : Int) > 12)) = true then true else decide ((↑(List.map encXc x).length : Int) > 12)) = true) ∧ ((!if (if (if (!shR r) = true then true else !if shM l
   = true then shX x else false) = true then true else decide ((↑(List.map encMv l).length : Int) > 12)) = true then true else decide ((↑(List.map encXc x).length : Int) > 12)) = true → (!if (if (if (!shR r) = true then true else !if
   shM l = true then shX x else false) = true then true else decide ((↑(List.map encMv l).length : Int) > 12)) = true then true else decide ((↑(List.map encXc x).length : Int) > 12)) = true) ∧ ((!if (if (if (!shR r) = true then true
   else !if shM l = true then shX x else false) = true then true else decide ((↑(List.map encMv l).length : Int) > 12)) = true then true else decide ((↑(List.map encXc x).length : Int) > 12)) = true → (!if (if (if (!shR r) = true then
   true else !if shM l = true then shX x else false) = true then true else decide ((↑(List.map encMv l).length : Int) > 12)) = true then true else decide ((↑(List.map encXc x).length : Int) > 12)) = true) ∧ ((!if (if (if (!shR r) =
   true then true else !if shM l = true then shX x else false) = true then true else decide ((↑(List.map encMv l).length : Int) > 12)) = true then true else decide ((↑(List.map encXc x).length : Int) > 12)) = true → (!if (if (if (!shR
   r) = true then true else !if shM l = true then shX x else false) = true then true else decide ((↑(List.map encMv l).length : Int) > 12)) = true then true else decide ((↑(List.map encXc x).length : Int) > 12)) = true) ∧ ((if (if (if
   (!shR r) = true then true else !if shM l = true then shX x else false) = true then true else decide ((↑(List.map encMv l).length : Int) > 12)) = true then true else decide ((↑(List.map encXc x).length : Int) > 12)) = false → (!if
   (if (if (!shR r) = true then true else !if shM l = true then shX x else false) = true then true else decide ((↑(List.map encMv l).length : Int) > 12)) = true then true else decide ((↑(List.map encXc x).length : Int) > 12)) = true)
   ∧ PCall Tryz.prog G0 16 [] (AV.bool true) ∧ PCall Tryz.prog G0 17 [AV.agg (encRu r)] (AV.bool (shR r)) ∧ impB (!!shR r) (PCall Tryz.prog G0 46 [AV.agg [AV.sl 5 (List.map encMv l), AV.sl 11 (List.map encXc x)]] (AV.bool (if shM l =
   true then shX x else false))) ∧ impB (!if (if (if (!shR r) = true then true else !if shM l = true then shX x else false) = true then true else decide ((↑(List.map encMv l).length : Int) > 12)) = true then true else decide
   ((↑(List.map encXc x).length : Int) > 12)) (PCall Tryz.prog G0 50 [AV.agg (encRu r), AV.sl 5 (List.map encMv l), AV.sl 11 (List.map encXc x)] (AV.i (exR r l x))) ∧ ((if (if (if (if (!shR r) = true then true else !if shM l = true
   then shX x else false) = true then true else decide ((↑(List.map encMv l).length : Int) > 12)) = true then true else decide ((↑(List.map encXc x).length : Int) > 12)) = true then true else exR r l x != 0) = true → PCall Tryz.prog
   G0 16 [] (AV.bool true) ∧ AV.bool true = AV.bool true) ∧ ((if (if (if (if (!shR r) = true then true else !if shM l = true then shX x else false) = true then true else decide ((↑(List.map encMv l).length : Int) > 12)) = true then
   true else decide ((↑(List.map encXc x).length : Int) > 12)) = true then true else exR r l x != 0) = false → PCall Tryz.prog G0 21 [AV.agg (encRu r)] (AV.agg (encRu r)) ∧ PCall Tryz.prog G0 32 [AV.sl 5 (List.map encMv l)] (AV.sl 5
   (List.map encMv l)) ∧ PCall Tryz.prog G0 48 [AV.sl 11 (List.map encXc x)] (AV.sl 11 (List.map encXc x)) ∧ PCall Tryz.prog G0 47 [AV.agg (encRu r), AV.sl 5 (List.map encMv l), AV.sl 11 (List.map encXc x)] (AV.tup [AV.sl 3 (List.map
   encCs (caL r l x)), AV.i 0]) ∧ PCall Tryz.prog G0 21 [AV.agg (encRu r)] (AV.agg (encRu r)) ∧ PCall Tryz.prog G0 32 [AV.sl 5 (List.map encMv l)] (AV.sl 5 (List.map encMv l)) ∧ PCall Tryz.prog G0 33 [AV.agg (encRu r), AV.sl 5
   (List.map encMv l)] (AV.tup [AV.sl 1 (List.map encI (List.map (rFe r) l)), AV.i 0]) ∧ AV.bool ((↑(List.map encI (List.map (rFe r) l)).length : Int) != (↑(List.map encMv l).length : Int)) = AV.bool false ∧ AV.bool (decide
   ((↑(List.map encCs (caL r l x)).length : Int) > (↑(List.map encMv l).length : Int))) = AV.bool false ∧ (∃ (g : Nat), g ≤ (List.map encMv l).length ∧ AS.mk [(3, AV.elt 18 [(encRu r)] 0 0), (4, AV.elt 2 [[AV.sl 5 (List.map encMv l),
   AV.sl 11 (List.map encXc x)]] 0 0), (5, AV.elt 3 [[AV.int IntKind.u8 n0, AV.int IntKind.u8 n1, AV.int IntKind.u8 n2]] 0 0), (7, AV.sl 3 (List.map encCs (caL r l x))), (9, AV.sl 1 (List.map encI (List.map (rFe r) l))), (11, AV.i 0),
   (12, AV.i 0), (13, AV.own 1 0), (118, AV.sl 5 (List.map encMv l)), (119, AV.i (↑(List.map encMv l).length : Int)), (120, AV.i 0)] [(1, ABlk.buf 9 1 [])] 2 = AS.mk [(3, AV.elt 18 [(encRu r)] 0 0), (4, AV.elt 2 [[AV.sl 5 (List.map
   encMv l), AV.sl 11 (List.map encXc x)]] 0 0), (5, AV.elt 3 [[AV.int IntKind.u8 n0, AV.int IntKind.u8 n1, AV.int IntKind.u8 n2]] 0 0), (7, AV.sl 3 (List.map encCs (caL r l x))), (9, AV.sl 1 (List.map encI (List.map (rFe r) l))),
   (11, AV.i (↑(kN r l x g) : Int)), (12, AV.i (sN r l x g)), (13, AV.own 1 (List.map encS (airN l g)).length), (118, AV.sl 5 (List.map encMv l)), (119, AV.i (↑(List.map encMv l).length : Int)), (120, AV.i (↑g : Int))] [(1, ABlk.buf 9
   1 (List.map encS (airN l g)))] 2) ∧ ∀ (g : Nat), g ≤ (List.map encMv l).length → (decide ((↑g : Int) < (↑(List.map encMv l).length : Int)) = true → (0 : Int) ≤ (↑g : Int) ∧ (↑g : Int) < (↑(List.map encMv l).length : Int) ∧ AV.agg
   (nthR (List.map encMv l) (↑g : Int).toNat) = AV.agg (encMv (l.getD (↑g : Int).toNat default)) ∧ (0 : Int) ≤ (↑g : Int) ∧ (↑g : Int) < (↑(List.map encI (List.map (rFe r) l)).length : Int) ∧ In64 (sN r l x g + (List.map (rFe r)
   l).getD (↑g : Int).toNat default) ∧ nth (nthR (List.map encI (List.map (rFe r) l)) (↑g : Int).toNat) 0 = AV.i ((List.map (rFe r) l).getD (↑g : Int).toNat default) ∧ PCall Tryz.prog G0 72 [AV.sl 1 (List.map encS (airN l g)), AV.str
   (l.getD (↑g : Int).toNat default).al] (AV.bool (hasR (List.map encS (airN l g)) (l.getD (↑g : Int).toNat default).al)) ∧ ((!hasR (List.map encS (airN l g)) (l.getD (↑g : Int).toNat default).al) = true → (List.map encS (airN l
   g)).length + 1 ≤ 9223372036854775807 ∧ ((List.map encS (airN l g)).length + 1) * 16 ≤ 140737488355328 ∧ PCall Tryz.prog G0 18 [AV.agg [AV.i r.c, AV.i r.d], AV.i (l.getD (↑g : Int).toNat default).mi] (AV.tup [AV.bool (wiR r.c r.d
   (l.getD (↑g : Int).toNat default).mi), AV.i 0]) ∧ ∃ (g0 : Nat × Nat), (g0.fst < l.length ∧ g0.snd ≤ x.length) ∧ g0.fst = g0.fst ∧ AS.mk [(3, AV.elt 18 [(encRu r)] 0 0), (4, AV.elt 2 [[AV.sl 5 (List.map encMv l), AV.sl 11 (List.map
   encXc x)]] 0 0), (5, AV.elt 3 [[AV.int IntKind.u8 n0, AV.int IntKind.u8 n1, AV.int IntKind.u8 n2]] 0 0), (7, AV.sl 3 (List.map encCs (caL r l x))), (9, AV.sl 1 (List.map encI (List.map (rFe r) l))), (11, AV.i (↑(kN r l x g) :
   Int)), (12, AV.i (sN r l x g + (List.map (rFe r) l).getD (↑g : Int).toNat default)), (13, AV.own 1 ((List.map encS (airN l g)).length + 1)), (14, AV.i (↑g : Int)), (15, AV.elt 5 [(encMv (l.getD (↑g : Int).toNat default))] 0 0),
   (16, AV.bool (wiR r.c r.d (l.getD (↑g : Int).toNat default).mi)), (18, AV.str [(110 : UInt8), (111 : UInt8), (110 : UInt8), (101 : UInt8)]), (118, AV.sl 5 (List.map encMv l)), (119, AV.i (↑(List.map encMv l).length : Int)), (120,
   AV.i (↑g : Int)), (152, AV.sl 11 (List.map encXc x)), (153, AV.i (↑(List.map encXc x).length : Int)), (154, AV.i 0)] [(1, ABlk.buf 9 1 (List.map encS (airN l g) ++ [[AV.str (l.getD (↑g : Int).toNat default).al]]))] 2 = AS.mk [(3,
   AV.elt 18 [(encRu r)] 0 0), (4, AV.elt 2 [[AV.sl 5 (List.map encMv l), AV.sl 11 (List.map encXc x)]] 0 0), (5, AV.elt 3 [[AV.int IntKind.u8 n0, AV.int IntKind.u8 n1, AV.int IntKind.u8 n2]] 0 0), (7, AV.sl 3 (List.map encCs (caL r l
   x))), (9, AV.sl 1 (List.map encI (List.map (rFe r) l))), (11, AV.i (↑(kN r l x g0.fst) : Int)), (12, AV.i (sN r l x g0.fst + rFe r (l.getD g0.fst default))), (13, AV.own 1 (List.map encS (airN l (g0.fst + 1))).length), (14, AV.i
   (↑g0.fst : Int)), (15, AV.elt 5 [(encMv (l.getD g0.fst default))] 0 0), (16, AV.bool (wiR r.c r.d (l.getD g0.fst default).mi)), (18, AV.str (wdN r x (l.getD g0.fst default) g0.snd)), (118, AV.sl 5 (List.map encMv l)), (119, AV.i
   (↑(List.map encMv l).length : Int)), (120, AV.i (↑g0.fst : Int)), (152, AV.sl 11 (List.map encXc x)), (153, AV.i (↑(List.map encXc x).length : Int)), (154, AV.i (↑g0.snd : Int))] [(1, ABlk.buf 9 1 (List.map encS (airN l (g0.fst +
   1))))] 2 ∧ ∀ (g_1 : Nat × Nat), g_1.fst < l.length ∧ g_1.snd ≤ x.length → g_1.fst = g0.fst → (decide ((↑g_1.snd : Int) < (↑(List.map encXc x).length : Int)) = true → (0 : Int) ≤ (↑g_1.snd : Int) ∧ (↑g_1.snd : Int) < (↑(List.map
   encXc x).length : Int) ∧ AV.agg (nthR (List.map encXc x) (↑g_1.snd : Int).toNat) = AV.agg (encXc (x.getD (↑g_1.snd : Int).toNat default)) ∧ ((!(x.getD (↑g_1.snd : Int).toNat default).fl == (l.getD g_1.fst default).fl) = true → In64
   ((↑g_1.snd : Int) + 1) ∧ ∃ (g' : Nat × Nat), (g'.fst < l.length ∧ g'.snd ≤ x.length) ∧ g'.fst = g0.fst ∧ x.length - g'.snd < x.length - g_1.snd ∧ AS.mk [(3, AV.elt 18 [(encRu r)] 0 0), (4, AV.elt 2 [[AV.sl 5 (List.map encMv l),
   AV.sl 11 (List.map encXc x)]] 0 0), (5, AV.elt 3 [[AV.int IntKind.u8 n0, AV.int IntKind.u8 n1, AV.int IntKind.u8 n2]] 0 0), (7, AV.sl 3 (List.map encCs (caL r l x))), (9, AV.sl 1 (List.map encI (List.map (rFe r) l))), (11, AV.i
   (↑(kN r l x g_1.fst) : Int)), (12, AV.i (sN r l x g_1.fst + rFe r (l.getD g_1.fst default))), (13, AV.own 1 (List.map encS (airN l (g_1.fst + 1))).length), (14, AV.i (↑g_1.fst : Int)), (15, AV.elt 5 [(encMv (l.getD g_1.fst
   default))] 0 0), (16, AV.bool (wiR r.c r.d (l.getD g_1.fst default).mi)), (18, AV.str (wdN r x (l.getD g_1.fst default) g_1.snd)), (118, AV.sl 5 (List.map encMv l)), (119, AV.i (↑(List.map encMv l).length : Int)), (120, AV.i
   (↑g_1.fst : Int)), (152, AV.sl 11 (List.map encXc x)), (153, AV.i (↑(List.map encXc x).length : Int)), (154, AV.i ((↑g_1.snd : Int) + 1))] [(1, ABlk.buf 9 1 (List.map encS (airN l (g_1.fst + 1))))] 2 = AS.mk [(3, AV.elt 18 [(encRu
   r)] 0 0), (4, AV.elt 2 [[AV.sl 5 (List.map encMv l), AV.sl 11 (List.map encXc x)]] 0 0), (5, AV.elt 3 [[AV.int IntKind.u8 n0, AV.int IntKind.u8 n1, AV.int IntKind.u8 n2]] 0 0), (7, AV.sl 3 (List.map encCs (caL r l x))), (9, AV.sl 1
   (List.map encI (List.map (rFe r) l))), (11, AV.i (↑(kN r l x g'.fst) : Int)), (12, AV.i (sN r l x g'.fst + rFe r (l.getD g'.fst default))), (13, AV.own 1 (List.map encS (airN l (g'.fst + 1))).length), (14, AV.i (↑g'.fst : Int)),
   (15, AV.elt 5 [(encMv (l.getD g'.fst default))] 0 0), (16, AV.bool (wiR r.c r.d (l.getD g'.fst default).mi)), (18, AV.str (wdN r x (l.getD g'.fst default) g'.snd)), (118, AV.sl 5 (List.map encMv l)), (119, AV.i (↑(List.map encMv
   l).length : Int)), (120, AV.i (↑g'.fst : Int)), (152, AV.sl 11 (List.map encXc x)), (153, AV.i (↑(List.map encXc x).length : Int)), (154, AV.i (↑g'.snd : Int))] [(1, ABlk.buf 9 1 (List.map encS (airN l (g'.fst + 1))))] 2) ∧
   ((!(x.getD (↑g_1.snd : Int).toNat default).fl == (l.getD g_1.fst default).fl) = false → PCall Tryz.prog G0 21 [AV.agg (encRu r)] (AV.agg (encRu r)) ∧ PCall Tryz.prog G0 32 [AV.sl 5 (List.map encMv l)] (AV.sl 5 (List.map encMv l)) ∧
   PCall Tryz.prog G0 56 [AV.agg (encRu r), AV.sl 5 (List.map encMv l), AV.agg (encXc (x.getD (↑g_1.snd : Int).toNat default))] (AV.tup [AV.str (wordX r l (encXc (x.getD (↑g_1.snd : Int).toNat default))), AV.i 0]) ∧ ((wordX r l (encXc
   (x.getD (↑g_1.snd : Int).toNat default)) == []) = true → (wordX r l (encXc (x.getD (↑g_1.snd : Int).toNat default)) == []) = true) ∧ ((wordX r l (encXc (x.getD (↑g_1.snd : Int).toNat default)) == []) = true → (wordX r l (encXc
   (x.getD (↑g_1.snd : Int).toNat default)) == []) = true) ∧ ((wordX r l (encXc (x.getD (↑g_1.snd : Int).toNat default)) == []) = true → (wordX r l (encXc (x.getD (↑g_1.snd : Int).toNat default)) == []) = true) ∧ ((wordX r l (encXc
   (x.getD (↑g_1.snd : Int).toNat default)) == []) = true → (wordX r l (encXc (x.getD (↑g_1.snd : Int).toNat default)) == []) = true) ∧ ((wordX r l (encXc (x.getD (↑g_1.snd : Int).toNat default)) == []) = true → (wordX r l (encXc
   (x.getD (↑g_1.snd : Int).toNat default)) == []) = true) ∧ ((wordX r l (encXc (x.getD (↑g_1.snd : Int).toNat default)) == []) = true → (wordX r l (encXc (x.getD (↑g_1.snd : Int).toNat default)) == []) = true) ∧ ((wordX r l (encXc
   (x.getD (↑g_1.snd : Int).toNat default)) == [] && !!hasR (List.map encS r.rs) (x.getD (↑g_1.snd : Int).toNat default).re) = true → (wordX r l (encXc (x.getD (↑g_1.snd : Int).toNat default)) == [] && !!hasR (List.map encS r.rs)
   (x.getD (↑g_1.snd : Int).toNat default).re) = true) ∧ ((wordX r l (encXc (x.getD (↑g_1.snd : Int).toNat default)) == [] && !!hasR (List.map encS r.rs) (x.getD (↑g_1.snd : Int).toNat default).re) = true → (wordX r l (encXc (x.getD
   (↑g_1.snd : Int).toNat default)) == [] && !!hasR (List.map encS r.rs) (x.getD (↑g_1.snd : Int).toNat default).re) = true) ∧ ((wordX r l (encXc (x.getD (↑g_1.snd : Int).toNat default)) == [] && !!hasR (List.map encS r.rs) (x.getD
   (↑g_1.snd : Int).toNat default).re) = true → (wordX r l (encXc (x.getD (↑g_1.snd : Int).toNat default)) == [] && !!hasR (List.map encS r.rs) (x.getD (↑g_1.snd : Int).toNat default).re) = true) ∧ ((wordX r l (encXc (x.getD (↑g_1.snd
   : Int).toNat default)) == [] && !!hasR (List.map encS r.rs) (x.getD (↑g_1.snd : Int).toNat default).re) = true → (wordX r l (encXc (x.getD (↑g_1.snd : Int).toNat default)) == [] && !!hasR (List.map encS r.rs) (x.getD (↑g_1.snd :
   Int).toNat default).re) = true) ∧ ((wordX r l (encXc (x.getD (↑g_1.snd : Int).toNat default)) == []) = true → (wordX r l (encXc (x.getD (↑g_1.snd : Int).toNat default)) == []) = true) ∧ ((wordX r l (encXc (x.getD (↑g_1.snd :
   Int).toNat default)) == []) = true → (!hasR (List.map encS r.rs) (x.getD (↑g_1.snd : Int).toNat default).re) = false → (wordX r l (encXc (x.getD (↑g_1.snd : Int).toNat default)) == [] && !!hasR (List.map encS r.rs) (x.getD
   (↑g_1.snd : Int).toNat default).re) = true) ∧ ((wordX r l (encXc (x.getD (↑g_1.snd : Int).toNat default)) == []) = true → (wordX r l (encXc (x.getD (↑g_1.snd : Int).toNat default)) == []) = true) ∧ ((wordX r l (encXc (x.getD
   (↑g_1.snd : Int).toNat default)) == [] && !if (!hasR (List.map encS r.rs) (x.getD (↑g_1.snd : Int).toNat default).re) = true then true else decide ((x.getD (↑g_1.snd : Int).toNat default).day < (l.getD g_1.fst default).day)) = true
   → (wordX r l (encXc (x.getD (↑g_1.snd : Int).toNat default)) == [] && !if (!hasR (List.map encS r.rs) (x.getD (↑g_1.snd : Int).toNat default).re) = true then true else decide ((x.getD (↑g_1.snd : Int).toNat default).day < (l.getD
   g_1.fst default).day)) = true) ∧ ((wordX r l (encXc (x.getD (↑g_1.snd : Int).toNat default)) == [] && !if (!hasR (List.map encS r.rs) (x.getD (↑g_1.snd : Int).toNat default).re) = true then true else decide ((x.getD (↑g_1.snd :
   Int).toNat default).day < (l.getD g_1.fst default).day)) = true → (wordX r l (encXc (x.getD (↑g_1.snd : Int).toNat default)) == [] && !if (!hasR (List.map encS r.rs) (x.getD (↑g_1.snd : Int).toNat default).re) = true then true else
   decide ((x.getD (↑g_1.snd : Int).toNat default).day < (l.getD g_1.fst default).day)) = true) ∧ ((wordX r l (encXc (x.getD (↑g_1.snd : Int).toNat default)) == [] && !if (!hasR (List.map encS r.rs) (x.getD (↑g_1.snd : Int).toNat
   default).re) = true then true else decide ((x.getD (↑g_1.snd : Int).toNat default).day < (l.getD g_1.fst default).day)) = true → (wordX r l (encXc (x.getD (↑g_1.snd : Int).toNat default)) == [] && !if (!hasR (List.map encS r.rs)
   (x.getD (↑g_1.snd : Int).toNat default).re) = true then true else decide ((x.getD (↑g_1.snd : Int).toNat default).day < (l.getD g_1.fst default).day)) = true) ∧ ((wordX r l (encXc (x.getD (↑g_1.snd : Int).toNat default)) == [] &&
   !if (!hasR (List.map encS r.rs) (x.getD (↑g_1.snd : Int).toNat default).re) = true then true else decide ((x.getD (↑g_1.snd : Int).toNat default).day < (l.getD g_1.fst default).day)) = true → (wordX r l (encXc (x.getD (↑g_1.snd :
   Int).toNat default)) == [] && !if (!hasR (List.map encS r.rs) (x.getD (↑g_1.snd : Int).toNat default).re) = true then true else decide ((x.getD (↑g_1.snd : Int).toNat default).day < (l.getD g_1.fst default).day)) = true) ∧ ((wordX
   r l (encXc (x.getD (↑g_1.snd : Int).toNat default)) == [] && !if (!hasR (List.map encS r.rs) (x.getD (↑g_1.snd : Int).toNat default).re) = true then true else decide ((x.getD (↑g_1.snd : Int).toNat default).day < (l.getD g_1.fst
   default).day)) = true → (wordX r l (encXc (x.getD (↑g_1.snd : Int).toNat default)) == [] && !if (!hasR (List.map encS r.rs) (x.getD (↑g_1.snd : Int).toNat default).re) = true then true else decide ((x.getD (↑g_1.snd : Int).toNat
   default).day < (l.getD g_1.fst default).day)) = true) ∧ ((wordX r l (encXc (x.getD (↑g_1.snd : Int).toNat default)) == [] && !if (!hasR (List.map encS r.rs) (x.getD (↑g_1.snd : Int).toNat default).re) = true then true else decide
   ((x.getD (↑g_1.snd : Int).toNat default).day < (l.getD g_1.fst default).day)) = true → In64 ((l.getD g_1.fst default).day + r.dl)) ∧ ((wordX r l (encXc (x.getD (↑g_1.snd : Int).toNat default)) == [] && !if (!hasR (List.map encS
   r.rs) (x.getD (↑g_1.snd : Int).toNat default).re) = true then true else decide ((x.getD (↑g_1.snd : Int).toNat default).day < (l.getD g_1.fst default).day)) = true → (wordX r l (encXc (x.getD (↑g_1.snd : Int).toNat default)) == []
   && !if (!hasR (List.map encS r.rs) (x.getD (↑g_1.snd : Int).toNat default).re) = true then true else decide ((x.getD (↑g_1.snd : Int).toNat default).day < (l.getD g_1.fst default).day)) = true) ∧ ((wordX r l (encXc (x.getD
   (↑g_1.snd : Int).toNat default)) == [] && !if (!hasR (List.map encS r.rs) (x.getD (↑g_1.snd : Int).toNat default).re) = true then true else decide ((x.getD (↑g_1.snd : Int).toNat default).day < (l.getD g_1.fst default).day)) = true
   → (wordX r l (encXc (x.getD (↑g_1.snd : Int).toNat default)) == [] && !if (!hasR (List.map encS r.rs) (x.getD (↑g_1.snd : Int).toNat default).re) = true then true else decide ((x.getD (↑g_1.snd : Int).toNat default).day < (l.getD
   g_1.fst default).day)) = true) ∧ ((wordX r l (encXc (x.getD (↑g_1.snd : Int).toNat default)) == []) = true → (wordX r l (encXc (x.getD (↑g_1.snd : Int).toNat default)) == []) = true) ∧ ((wordX r l (encXc (x.getD (↑g_1.snd :
   Int).toNat default)) == []) = true → (if (!hasR (List.map encS r.rs) (x.getD (↑g_1.snd : Int).toNat default).re) = true then true else decide ((x.getD (↑g_1.snd : Int).toNat default).day < (l.getD g_1.fst default).day)) = false →
   (wordX r l (encXc (x.getD (↑g_1.snd : Int).toNat default)) == [] && !if (!hasR (List.map encS r.rs) (x.getD (↑g_1.snd : Int).toNat default).re) = true then true else decide ((x.getD (↑g_1.snd : Int).toNat default).day < (l.getD
   g_1.fst default).day)) = true) ∧ ((wordX r l (encXc (x.getD (↑g_1.snd : Int).toNat default)) == []) = true → (wordX r l (encXc (x.getD (↑g_1.snd : Int).toNat default)) == []) = true) ∧ impB (wordX r l (encXc (x.getD (↑g_1.snd :
   Int).toNat default)) == []) (PCall Tryz.prog G0 72 [AV.sl 1 (List.map encS r.rs), AV.str (x.getD (↑g_1.snd : Int).toNat default).re] (AV.bool (hasR (List.map encS r.rs) (x.getD (↑g_1.snd : Int).toNat default).re))) ∧ AV.bool (if
   (wordX r l (encXc (x.getD (↑g_1.snd : Int).toNat default)) == []) = true then if (if (!hasR (List.map encS r.rs) (x.getD (↑g_1.snd : Int).toNat default).re) = true then true else decide ((x.getD (↑g_1.snd : Int).toNat default).day
   < (l.getD g_1.fst default).day)) = true then true else decide ((x.getD (↑g_1.snd : Int).toNat default).day > (l.getD g_1.fst default).day + r.dl) else false) = AV.bool false ∧ In64 ((↑g_1.snd : Int) + 1) ∧ ∃ (g' : Nat × Nat),
   (g'.fst < l.length ∧ g'.snd ≤ x.length) ∧ g'.fst = g0.fst ∧ x.length - g'.snd < x.length - g_1.snd ∧ AS.mk [(3, AV.elt 18 [(encRu r)] 0 0), (4, AV.elt 2 [[AV.sl 5 (List.map encMv l), AV.sl 11 (List.map encXc x)]] 0 0), (5, AV.elt 3
   [[AV.int IntKind.u8 n0, AV.int IntKind.u8 n1, AV.int IntKind.u8 n2]] 0 0), (7, AV.sl 3 (List.map encCs (caL r l x))), (9, AV.sl 1 (List.map encI (List.map (rFe r) l))), (11, AV.i (↑(kN r l x g_1.fst) : Int)), (12, AV.i (sN r l x
   g_1.fst + rFe r (l.getD g_1.fst default))), (13, AV.own 1 (List.map encS (airN l (g_1.fst + 1))).length), (14, AV.i (↑g_1.fst : Int)), (15, AV.elt 5 [(encMv (l.getD g_1.fst default))] 0 0), (16, AV.bool (wiR r.c r.d (l.getD g_1.fst
   default).mi)), (18, AV.str (wordX r l (encXc (x.getD (↑g_1.snd : Int).toNat default)))), (118, AV.sl 5 (List.map encMv l)), (119, AV.i (↑(List.map encMv l).length : Int)), (120, AV.i (↑g_1.fst : Int)), (152, AV.sl 11 (List.map
   encXc x)), (153, AV.i (↑(List.map encXc x).length : Int)), (154, AV.i ((↑g_1.snd : Int) + 1))] [(1, ABlk.buf 9 1 (List.map encS (airN l (g_1.fst + 1))))] 2 = AS.mk [(3, AV.elt 18 [(encRu r)] 0 0), (4, AV.elt 2 [[AV.sl 5 (List.map
   encMv l), AV.sl 11 (List.map encXc x)]] 0 0), (5, AV.elt 3 [[AV.int IntKind.u8 n0, AV.int IntKind.u8 n1, AV.int IntKind.u8 n2]] 0 0), (7, AV.sl 3 (List.map encCs (caL r l x))), (9, AV.sl 1 (List.map encI (List.map (rFe r) l))),
   (11, AV.i (↑(kN r l x g'.fst) : Int)), (12, AV.i (sN r l x g'.fst + rFe r (l.getD g'.fst default))), (13, AV.own 1 (List.map encS (airN l (g'.fst + 1))).length), (14, AV.i (↑g'.fst : Int)), (15, AV.elt 5 [(encMv (l.getD g'.fst
   default))] 0 0), (16, AV.bool (wiR r.c r.d (l.getD g'.fst default).mi)), (18, AV.str (wdN r x (l.getD g'.fst default) g'.snd)), (118, AV.sl 5 (List.map encMv l)), (119, AV.i (↑(List.map encMv l).length : Int)), (120, AV.i (↑g'.fst
   : Int)), (152, AV.sl 11 (List.map encXc x)), (153, AV.i (↑(List.map encXc x).length : Int)), (154, AV.i (↑g'.snd : Int))] [(1, ABlk.buf 9 1 (List.map encS (airN l (g'.fst + 1))))] 2)) ∧ (decide ((↑g_1.snd : Int) < (↑(List.map encXc
   x).length : Int)) = false → ((!!wiR r.c r.d (l.getD g_1.fst default).mi) = true → (!!wiR r.c r.d (l.getD g_1.fst default).mi) = true) ∧ ((!wiR r.c r.d (l.getD g_1.fst default).mi) = false → (!!wiR r.c r.d (l.getD g_1.fst
   default).mi) = true) ∧ ((if (!wiR r.c r.d (l.getD g_1.fst default).mi) = true then true else wdN r x (l.getD g_1.fst default) g_1.snd == []) = true → In64 ((↑g_1.fst : Int) + 1) ∧ ∃ (g' : Nat), g' ≤ (List.map encMv l).length ∧
   (List.map encMv l).length - g' < (List.map encMv l).length - g ∧ AS.mk [(3, AV.elt 18 [(encRu r)] 0 0), (4, AV.elt 2 [[AV.sl 5 (List.map encMv l), AV.sl 11 (List.map encXc x)]] 0 0), (5, AV.elt 3 [[AV.int IntKind.u8 n0, AV.int
   IntKind.u8 n1, AV.int IntKind.u8 n2]] 0 0), (7, AV.sl 3 (List.map encCs (caL r l x))), (9, AV.sl 1 (List.map encI (List.map (rFe r) l))), (11, AV.i (↑(kN r l x g_1.fst) : Int)), (12, AV.i (sN r l x g_1.fst + rFe r (l.getD g_1.fst
   default))), (13, AV.own 1 (List.map encS (airN l (g_1.fst + 1))).length), (118, AV.sl 5 (List.map encMv l)), (119, AV.i (↑(List.map encMv l).length : Int)), (120, AV.i ((↑g_1.fst : Int) + 1))] [(1, ABlk.buf 9 1 (List.map encS (airN
   l (g_1.fst + 1))))] 2 = AS.mk [(3, AV.elt 18 [(encRu r)] 0 0), (4, AV.elt 2 [[AV.sl 5 (List.map encMv l), AV.sl 11 (List.map encXc x)]] 0 0), (5, AV.elt 3 [[AV.int IntKind.u8 n0, AV.int IntKind.u8 n1, AV.int IntKind.u8 n2]] 0 0),
   (7, AV.sl 3 (List.map encCs (caL r l x))), (9, AV.sl 1 (List.map encI (List.map (rFe r) l))), (11, AV.i (↑(kN r l x g') : Int)), (12, AV.i (sN r l x g')), (13, AV.own 1 (List.map encS (airN l g')).length), (118, AV.sl 5 (List.map
   encMv l)), (119, AV.i (↑(List.map encMv l).length : Int)), (120, AV.i (↑g' : Int))] [(1, ABlk.buf 9 1 (List.map encS (airN l g')))] 2) ∧ ((if (!wiR r.c r.d (l.getD g_1.fst default).mi) = true then true else wdN r x (l.getD g_1.fst
   default) g_1.snd == []) = false → (0 : Int) ≤ (↑(kN r l x g_1.fst) : Int) ∧ (↑(kN r l x g_1.fst) : Int) < (↑(List.map encCs (caL r l x)).length : Int) ∧ AV.bool (decide ((↑(kN r l x g_1.fst) : Int) ≥ (↑(List.map encCs (caL r l
   x)).length : Int))) = AV.bool false ∧ AV.agg (nthR (List.map encCs (caL r l x)) (↑(kN r l x g_1.fst) : Int).toNat) = AV.agg (encCs ((caL r l x).getD (↑(kN r l x g_1.fst) : Int).toNat default)) ∧ (AV.bool !(((caL r l x).getD (↑(kN r
   l x g_1.fst) : Int).toNat default).fl == (l.getD g_1.fst default).fl && true && (((caL r l x).getD (↑(kN r l x g_1.fst) : Int).toNat default).w == wdN r x (l.getD g_1.fst default) g_1.snd && true && (((caL r l x).getD (↑(kN r l x
   g_1.fst) : Int).toNat default).f == r.fi && true && true)))) = AV.bool false ∧ In64 (sN r l x g_1.fst + rFe r (l.getD g_1.fst default) + r.fi) ∧ In64 ((↑(kN r l x g_1.fst) : Int) + 1) ∧ In64 ((↑g_1.fst : Int) + 1) ∧ ∃ (g' : Nat),
   g' ≤ (List.map encMv l).length ∧ (List.map encMv l).length - g' < (List.map encMv l).length - g ∧ AS.mk [(3, AV.elt 18 [(encRu r)] 0 0), (4, AV.elt 2 [[AV.sl 5 (List.map encMv l), AV.sl 11 (List.map encXc x)]] 0 0), (5, AV.elt 3
   [[AV.int IntKind.u8 n0, AV.int IntKind.u8 n1, AV.int IntKind.u8 n2]] 0 0), (7, AV.sl 3 (List.map encCs (caL r l x))), (9, AV.sl 1 (List.map encI (List.map (rFe r) l))), (11, AV.i ((↑(kN r l x g_1.fst) : Int) + 1)), (12, AV.i (sN r
   l x g_1.fst + rFe r (l.getD g_1.fst default) + r.fi)), (13, AV.own 1 (List.map encS (airN l (g_1.fst + 1))).length), (118, AV.sl 5 (List.map encMv l)), (119, AV.i (↑(List.map encMv l).length : Int)), (120, AV.i ((↑g_1.fst : Int) +
   1))] [(1, ABlk.buf 9 1 (List.map encS (airN l (g_1.fst + 1))))] 2 = AS.mk [(3, AV.elt 18 [(encRu r)] 0 0), (4, AV.elt 2 [[AV.sl 5 (List.map encMv l), AV.sl 11 (List.map encXc x)]] 0 0), (5, AV.elt 3 [[AV.int IntKind.u8 n0, AV.int
   IntKind.u8 n1, AV.int IntKind.u8 n2]] 0 0), (7, AV.sl 3 (List.map encCs (caL r l x))), (9, AV.sl 1 (List.map encI (List.map (rFe r) l))), (11, AV.i (↑(kN r l x g') : Int)), (12, AV.i (sN r l x g')), (13, AV.own 1 (List.map encS
   (airN l g')).length), (118, AV.sl 5 (List.map encMv l)), (119, AV.i (↑(List.map encMv l).length : Int)), (120, AV.i (↑g' : Int))] [(1, ABlk.buf 9 1 (List.map encS (airN l g')))] 2))) ∧ ((!hasR (List.map encS (airN l g)) (l.getD (↑g
   : Int).toNat default).al) = false → PCall Tryz.prog G0 18 [AV.agg [AV.i r.c, AV.i r.d], AV.i (l.getD (↑g : Int).toNat default).mi] (AV.tup [AV.bool (wiR r.c r.d (l.getD (↑g : Int).toNat default).mi), AV.i 0]) ∧ ∃ (g0 : Nat × Nat),
   (g0.fst < l.length ∧ g0.snd ≤ x.length) ∧ g0.fst = g0.fst ∧ AS.mk [(3, AV.elt 18 [(encRu r)] 0 0), (4, AV.elt 2 [[AV.sl 5 (List.map encMv l), AV.sl 11 (List.map encXc x)]] 0 0), (5, AV.elt 3 [[AV.int IntKind.u8 n0, AV.int
   IntKind.u8 n1, AV.int IntKind.u8 n2]] 0 0), (7, AV.sl 3 (List.map encCs (caL r l x))), (9, AV.sl 1 (List.map encI (List.map (rFe r) l))), (11, AV.i (↑(kN r l x g) : Int)), (12, AV.i (sN r l x g + (List.map (rFe r) l).getD (↑g :
   Int).toNat default)), (13, AV.own 1 (List.map encS (airN l g)).length), (14, AV.i (↑g : Int)), (15, AV.elt 5 [(encMv (l.getD (↑g : Int).toNat default))] 0 0), (16, AV.bool (wiR r.c r.d (l.getD (↑g : Int).toNat default).mi)), (18,
   AV.str [(110 : UInt8), (111 : UInt8), (110 : UInt8), (101 : UInt8)]), (118, AV.sl 5 (List.map encMv l)), (119, AV.i (↑(List.map encMv l).length : Int)), (120, AV.i (↑g : Int)), (152, AV.sl 11 (List.map encXc x)), (153, AV.i
   (↑(List.map encXc x).length : Int)), (154, AV.i 0)] [(1, ABlk.buf 9 1 (List.map encS (airN l g)))] 2 = AS.mk [(3, AV.elt 18 [(encRu r)] 0 0), (4, AV.elt 2 [[AV.sl 5 (List.map encMv l), AV.sl 11 (List.map encXc x)]] 0 0), (5, AV.elt
   3 [[AV.int IntKind.u8 n0, AV.int IntKind.u8 n1, AV.int IntKind.u8 n2]] 0 0), (7, AV.sl 3 (List.map encCs (caL r l x))), (9, AV.sl 1 (List.map encI (List.map (rFe r) l))), (11, AV.i (↑(kN r l x g0.fst) : Int)), (12, AV.i (sN r l x
   g0.fst + rFe r (l.getD g0.fst default))), (13, AV.own 1 (List.map encS (airN l (g0.fst + 1))).length), (14, AV.i (↑g0.fst : Int)), (15, AV.elt 5 [(encMv (l.getD g0.fst default))] 0 0), (16, AV.bool (wiR r.c r.d (l.getD g0.fst
   default).mi)), (18, AV.str (wdN r x (l.getD g0.fst default) g0.snd)), (118, AV.sl 5 (List.map encMv l)), (119, AV.i (↑(List.map encMv l).length : Int)), (120, AV.i (↑g0.fst : Int)), (152, AV.sl 11 (List.map encXc x)), (153, AV.i
   (↑(List.map encXc x).length : Int)), (154, AV.i (↑g0.snd : Int))] [(1, ABlk.buf 9 1 (List.map encS (airN l (g0.fst + 1))))] 2 ∧ ∀ (g_1 : Nat × Nat), g_1.fst < l.length ∧ g_1.snd ≤ x.length → g_1.fst = g0.fst → (decide ((↑g_1.snd :
   Int) < (↑(List.map encXc x).length : Int)) = true → (0 : Int) ≤ (↑g_1.snd : Int) ∧ (↑g_1.snd : Int) < (↑(List.map encXc x).length : Int) ∧ AV.agg (nthR (List.map encXc x) (↑g_1.snd : Int).toNat) = AV.agg (encXc (x.getD (↑g_1.snd :
   Int).toNat default)) ∧ ((!(x.getD (↑g_1.snd : Int).toNat default).fl == (l.getD g_1.fst default).fl) = true → In64 ((↑g_1.snd : Int) + 1) ∧ ∃ (g' : Nat × Nat), (g'.fst < l.length ∧ g'.snd ≤ x.length) ∧ g'.fst = g0.fst ∧ x.length -
   g'.snd < x.length - g_1.snd ∧ AS.mk [(3, AV.elt 18 [(encRu r)] 0 0), (4, AV.elt 2 [[AV.sl 5 (List.map encMv l), AV.sl 11 (List.map encXc x)]] 0 0), (5, AV.elt 3 [[AV.int IntKind.u8 n0, AV.int IntKind.u8 n1, AV.int IntKind.u8 n2]] 0
   0), (7, AV.sl 3 (List.map encCs (caL r l x))), (9, AV.sl 1 (List.map encI (List.map (rFe r) l))), (11, AV.i (↑(kN r l x g_1.fst) : Int)), (12, AV.i (sN r l x g_1.fst + rFe r (l.getD g_1.fst default))), (13, AV.own 1 (List.map encS
   (airN l (g_1.fst + 1))).length), (14, AV.i (↑g_1.fst : Int)), (15, AV.elt 5 [(encMv (l.getD g_1.fst default))] 0 0), (16, AV.bool (wiR r.c r.d (l.getD g_1.fst default).mi)), (18, AV.str (wdN r x (l.getD g_1.fst default) g_1.snd)),
   (118, AV.sl 5 (List.map encMv l)), (119, AV.i (↑(List.map encMv l).length : Int)), (120, AV.i (↑g_1.fst : Int)), (152, AV.sl 11 (List.map encXc x)), (153, AV.i (↑(List.map encXc x).length : Int)), (154, AV.i ((↑g_1.snd : Int) +
   1))] [(1, ABlk.buf 9 1 (List.map encS (airN l (g_1.fst + 1))))] 2 = AS.mk [(3, AV.elt 18 [(encRu r)] 0 0), (4, AV.elt 2 [[AV.sl 5 (List.map encMv l), AV.sl 11 (List.map encXc x)]] 0 0), (5, AV.elt 3 [[AV.int IntKind.u8 n0, AV.int
   IntKind.u8 n1, AV.int IntKind.u8 n2]] 0 0), (7, AV.sl 3 (List.map encCs (caL r l x))), (9, AV.sl 1 (List.map encI (List.map (rFe r) l))), (11, AV.i (↑(kN r l x g'.fst) : Int)), (12, AV.i (sN r l x g'.fst + rFe r (l.getD g'.fst
   default))), (13, AV.own 1 (List.map encS (airN l (g'.fst + 1))).length), (14, AV.i (↑g'.fst : Int)), (15, AV.elt 5 [(encMv (l.getD g'.fst default))] 0 0), (16, AV.bool (wiR r.c r.d (l.getD g'.fst default).mi)), (18, AV.str (wdN r x
   (l.getD g'.fst default) g'.snd)), (118, AV.sl 5 (List.map encMv l)), (119, AV.i (↑(List.map encMv l).length : Int)), (120, AV.i (↑g'.fst : Int)), (152, AV.sl 11 (List.map encXc x)), (153, AV.i (↑(List.map encXc x).length : Int)),
   (154, AV.i (↑g'.snd : Int))] [(1, ABlk.buf 9 1 (List.map encS (airN l (g'.fst + 1))))] 2) ∧ ((!(x.getD (↑g_1.snd : Int).toNat default).fl == (l.getD g_1.fst default).fl) = false → PCall Tryz.prog G0 21 [AV.agg (encRu r)] (AV.agg
   (encRu r)) ∧ PCall Tryz.prog G0 32 [AV.sl 5 (List.map encMv l)] (AV.sl 5 (List.map encMv l)) ∧ PCall Tryz.prog G0 56 [AV.agg (encRu r), AV.sl 5 (List.map encMv l), AV.agg (encXc (x.getD (↑g_1.snd : Int).toNat default))] (AV.tup
   [AV.str (wordX r l (encXc (x.getD (↑g_1.snd : Int).toNat default))), AV.i 0]) ∧ ((wordX r l (encXc (x.getD (↑g_1.snd : Int).toNat default)) == []) = true → (wordX r l (encXc (x.getD (↑g_1.snd : Int).toNat default)) == []) = true) ∧
   ((wordX r l (encXc (x.getD (↑g_1.snd : Int).toNat default)) == []) = true → (wordX r l (encXc (x.getD (↑g_1.snd : Int).toNat default)) == []) = true) ∧ ((wordX r l (encXc (x.getD (↑g_1.snd : Int).toNat default)) == []) = true →
   (wordX r l (encXc (x.getD (↑g_1.snd : Int).toNat default)) == []) = true) ∧ ((wordX r l (encXc (x.getD (↑g_1.snd : Int).toNat default)) == []) = true → (wordX r l (encXc (x.getD (↑g_1.snd : Int).toNat default)) == []) = true) ∧
   ((wordX r l (encXc (x.getD (↑g_1.snd : Int).toNat default)) == []) = true → (wordX r l (encXc (x.getD (↑g_1.snd : Int).toNat default)) == []) = true) ∧ ((wordX r l (encXc (x.getD (↑g_1.snd : Int).toNat default)) == []) = true →
   (wordX r l (encXc (x.getD (↑g_1.snd : Int).toNat default)) == []) = true) ∧ ((wordX r l (encXc (x.getD (↑g_1.snd : Int).toNat default)) == [] && !!hasR (List.map encS r.rs) (x.getD (↑g_1.snd : Int).toNat default).re) = true →
   (wordX r l (encXc (x.getD (↑g_1.snd : Int).toNat default)) == [] && !!hasR (List.map encS r.rs) (x.getD (↑g_1.snd : Int).toNat default).re) = true) ∧ ((wordX r l (encXc (x.getD (↑g_1.snd : Int).toNat default)) == [] && !!hasR
   (List.map encS r.rs) (x.getD (↑g_1.snd : Int).toNat default).re) = true → (wordX r l (encXc (x.getD (↑g_1.snd : Int).toNat default)) == [] && !!hasR (List.map encS r.rs) (x.getD (↑g_1.snd : Int).toNat default).re) = true) ∧ ((wordX
   r l (encXc (x.getD (↑g_1.snd : Int).toNat default)) == [] && !!hasR (List.map encS r.rs) (x.getD (↑g_1.snd : Int).toNat default).re) = true → (wordX r l (encXc (x.getD (↑g_1.snd : Int).toNat default)) == [] && !!hasR (List.map encS
   r.rs) (x.getD (↑g_1.snd : Int).toNat default).re) = true) ∧ ((wordX r l (encXc (x.getD (↑g_1.snd : Int).toNat default)) == [] && !!hasR (List.map encS r.rs) (x.getD (↑g_1.snd : Int).toNat default).re) = true → (wordX r l (encXc
   (x.getD (↑g_1.snd : Int).toNat default)) == [] && !!hasR (List.map encS r.rs) (x.getD (↑g_1.snd : Int).toNat default).re) = true) ∧ ((wordX r l (encXc (x.getD (↑g_1.snd : Int).toNat default)) == []) = true → (wordX r l (encXc
   (x.getD (↑g_1.snd : Int).toNat default)) == []) = true) ∧ ((wordX r l (encXc (x.getD (↑g_1.snd : Int).toNat default)) == []) = true → (!hasR (List.map encS r.rs) (x.getD (↑g_1.snd : Int).toNat default).re) = false → (wordX r l
   (encXc (x.getD (↑g_1.snd : Int).toNat default)) == [] && !!hasR (List.map encS r.rs) (x.getD (↑g_1.snd : Int).toNat default).re) = true) ∧ ((wordX r l (encXc (x.getD (↑g_1.snd : Int).toNat default)) == []) = true → (wordX r l
   (encXc (x.getD (↑g_1.snd : Int).toNat default)) == []) = true) ∧ ((wordX r l (encXc (x.getD (↑g_1.snd : Int).toNat default)) == [] && !if (!hasR (List.map encS r.rs) (x.getD (↑g_1.snd : Int).toNat default).re) = true then true else
   decide ((x.getD (↑g_1.snd : Int).toNat default).day < (l.getD g_1.fst default).day)) = true → (wordX r l (encXc (x.getD (↑g_1.snd : Int).toNat default)) == [] && !if (!hasR (List.map encS r.rs) (x.getD (↑g_1.snd : Int).toNat
   default).re) = true then true else decide ((x.getD (↑g_1.snd : Int).toNat default).day < (l.getD g_1.fst default).day)) = true) ∧ ((wordX r l (encXc (x.getD (↑g_1.snd : Int).toNat default)) == [] && !if (!hasR (List.map encS r.rs)
   (x.getD (↑g_1.snd : Int).toNat default).re) = true then true else decide ((x.getD (↑g_1.snd : Int).toNat default).day < (l.getD g_1.fst default).day)) = true → (wordX r l (encXc (x.getD (↑g_1.snd : Int).toNat default)) == [] && !if
   (!hasR (List.map encS r.rs) (x.getD (↑g_1.snd : Int).toNat default).re) = true then true else decide ((x.getD (↑g_1.snd : Int).toNat default).day < (l.getD g_1.fst default).day)) = true) ∧ ((wordX r l (encXc (x.getD (↑g_1.snd :
   Int).toNat default)) == [] && !if (!hasR (List.map encS r.rs) (x.getD (↑g_1.snd : Int).toNat default).re) = true then true else decide ((x.getD (↑g_1.snd : Int).toNat default).day < (l.getD g_1.fst default).day)) = true → (wordX r
   l (encXc (x.getD (↑g_1.snd : Int).toNat default)) == [] && !if (!hasR (List.map encS r.rs) (x.getD (↑g_1.snd : Int).toNat default).re) = true then true else decide ((x.getD (↑g_1.snd : Int).toNat default).day < (l.getD g_1.fst
   default).day)) = true) ∧ ((wordX r l (encXc (x.getD (↑g_1.snd : Int).toNat default)) == [] && !if (!hasR (List.map encS r.rs) (x.getD (↑g_1.snd : Int).toNat default).re) = true then true else decide ((x.getD (↑g_1.snd : Int).toNat
   default).day < (l.getD g_1.fst default).day)) = true → (wordX r l (encXc (x.getD (↑g_1.snd : Int).toNat default)) == [] && !if (!hasR (List.map encS r.rs) (x.getD (↑g_1.snd : Int).toNat default).re) = true then true else decide
   ((x.getD (↑g_1.snd : Int).toNat default).day < (l.getD g_1.fst default).day)) = true) ∧ ((wordX r l (encXc (x.getD (↑g_1.snd : Int).toNat default)) == [] && !if (!hasR (List.map encS r.rs) (x.getD (↑g_1.snd : Int).toNat
   default).re) = true then true else decide ((x.getD (↑g_1.snd : Int).toNat default).day < (l.getD g_1.fst default).day)) = true → (wordX r l (encXc (x.getD (↑g_1.snd : Int).toNat default)) == [] && !if (!hasR (List.map encS r.rs)
   (x.getD (↑g_1.snd : Int).toNat default).re) = true then true else decide ((x.getD (↑g_1.snd : Int).toNat default).day < (l.getD g_1.fst default).day)) = true) ∧ ((wordX r l (encXc (x.getD (↑g_1.snd : Int).toNat default)) == [] &&
   !if (!hasR (List.map encS r.rs) (x.getD (↑g_1.snd : Int).toNat default).re) = true then true else decide ((x.getD (↑g_1.snd : Int).toNat default).day < (l.getD g_1.fst default).day)) = true → In64 ((l.getD g_1.fst default).day +
   r.dl)) ∧ ((wordX r l (encXc (x.getD (↑g_1.snd : Int).toNat default)) == [] && !if (!hasR (List.map encS r.rs) (x.getD (↑g_1.snd : Int).toNat default).re) = true then true else decide ((x.getD (↑g_1.snd : Int).toNat default).day <
   (l.getD g_1.fst default).day)) = true → (wordX r l (encXc (x.getD (↑g_1.snd : Int).toNat default)) == [] && !if (!hasR (List.map encS r.rs) (x.getD (↑g_1.snd : Int).toNat default).re) = true then true else decide ((x.getD (↑g_1.snd
   : Int).toNat default).day < (l.getD g_1.fst default).day)) = true) ∧ ((wordX r l (encXc (x.getD (↑g_1.snd : Int).toNat default)) == [] && !if (!hasR (List.map encS r.rs) (x.getD (↑g_1.snd : Int).toNat default).re) = true then true
   else decide ((x.getD (↑g_1.snd : Int).toNat default).day < (l.getD g_1.fst default).day)) = true → (wordX r l (encXc (x.getD (↑g_1.snd : Int).toNat default)) == [] && !if (!hasR (List.map encS r.rs) (x.getD (↑g_1.snd : Int).toNat
   default).re) = true then true else decide ((x.getD (↑g_1.snd : Int).toNat default).day < (l.getD g_1.fst default).day)) = true) ∧ ((wordX r l (encXc (x.getD (↑g_1.snd : Int).toNat default)) == []) = true → (wordX r l (encXc (x.getD
   (↑g_1.snd : Int).toNat default)) == []) = true) ∧ ((wordX r l (encXc (x.getD (↑g_1.snd : Int).toNat default)) == []) = true → (if (!hasR (List.map encS r.rs) (x.getD (↑g_1.snd : Int).toNat default).re) = true then true else decide
   ((x.getD (↑g_1.snd : Int).toNat default).day < (l.getD g_1.fst default).day)) = false → (wordX r l (encXc (x.getD (↑g_1.snd : Int).toNat default)) == [] && !if (!hasR (List.map encS r.rs) (x.getD (↑g_1.snd : Int).toNat default).re)
   = true then true else decide ((x.getD (↑g_1.snd : Int).toNat default).day < (l.getD g_1.fst default).day)) = true) ∧ ((wordX r l (encXc (x.getD (↑g_1.snd : Int).toNat default)) == []) = true → (wordX r l (encXc (x.getD (↑g_1.snd :
   Int).toNat default)) == []) = true) ∧ impB (wordX r l (encXc (x.getD (↑g_1.snd : Int).toNat default)) == []) (PCall Tryz.prog G0 72 [AV.sl 1 (List.map encS r.rs), AV.str (x.getD (↑g_1.snd : Int).toNat default).re] (AV.bool (hasR
   (List.map encS r.rs) (x.getD (↑g_1.snd : Int).toNat default).re))) ∧ AV.bool (if (wordX r l (encXc (x.getD (↑g_1.snd : Int).toNat default)) == []) = true then if (if (!hasR (List.map encS r.rs) (x.getD (↑g_1.snd : Int).toNat
   default).re) = true then true else decide ((x.getD (↑g_1.snd : Int).toNat default).day < (l.getD g_1.fst default).day)) = true then true else decide ((x.getD (↑g_1.snd : Int).toNat default).day > (l.getD g_1.fst default).day +
   r.dl) else false) = AV.bool false ∧ In64 ((↑g_1.snd : Int) + 1) ∧ ∃ (g' : Nat × Nat), (g'.fst < l.length ∧ g'.snd ≤ x.length) ∧ g'.fst = g0.fst ∧ x.length - g'.snd < x.length - g_1.snd ∧ AS.mk [(3, AV.elt 18 [(encRu r)] 0 0), (4,
   AV.elt 2 [[AV.sl 5 (List.map encMv l), AV.sl 11 (List.map encXc x)]] 0 0), (5, AV.elt 3 [[AV.int IntKind.u8 n0, AV.int IntKind.u8 n1, AV.int IntKind.u8 n2]] 0 0), (7, AV.sl 3 (List.map encCs (caL r l x))), (9, AV.sl 1 (List.map
   encI (List.map (rFe r) l))), (11, AV.i (↑(kN r l x g_1.fst) : Int)), (12, AV.i (sN r l x g_1.fst + rFe r (l.getD g_1.fst default))), (13, AV.own 1 (List.map encS (airN l (g_1.fst + 1))).length), (14, AV.i (↑g_1.fst : Int)), (15,
   AV.elt 5 [(encMv (l.getD g_1.fst default))] 0 0), (16, AV.bool (wiR r.c r.d (l.getD g_1.fst default).mi)), (18, AV.str (wordX r l (encXc (x.getD (↑g_1.snd : Int).toNat default)))), (118, AV.sl 5 (List.map encMv l)), (119, AV.i
   (↑(List.map encMv l).length : Int)), (120, AV.i (↑g_1.fst : Int)), (152, AV.sl 11 (List.map encXc x)), (153, AV.i (↑(List.map encXc x).length : Int)), (154, AV.i ((↑g_1.snd : Int) + 1))] [(1, ABlk.buf 9 1 (List.map encS (airN l
   (g_1.fst + 1))))] 2 = AS.mk [(3, AV.elt 18 [(encRu r)] 0 0), (4, AV.elt 2 [[AV.sl 5 (List.map encMv l), AV.sl 11 (List.map encXc x)]] 0 0), (5, AV.elt 3 [[AV.int IntKind.u8 n0, AV.int IntKind.u8 n1, AV.int IntKind.u8 n2]] 0 0), (7,
   AV.sl 3 (List.map encCs (caL r l x))), (9, AV.sl 1 (List.map encI (List.map (rFe r) l))), (11, AV.i (↑(kN r l x g'.fst) : Int)), (12, AV.i (sN r l x g'.fst + rFe r (l.getD g'.fst default))), (13, AV.own 1 (List.map encS (airN l
   (g'.fst + 1))).length), (14, AV.i (↑g'.fst : Int)), (15, AV.elt 5 [(encMv (l.getD g'.fst default))] 0 0), (16, AV.bool (wiR r.c r.d (l.getD g'.fst default).mi)), (18, AV.str (wdN r x (l.getD g'.fst default) g'.snd)), (118, AV.sl 5
   (List.map encMv l)), (119, AV.i (↑(List.map encMv l).length : Int)), (120, AV.i (↑g'.fst : Int)), (152, AV.sl 11 (List.map encXc x)), (153, AV.i (↑(List.map encXc x).length : Int)), (154, AV.i (↑g'.snd : Int))] [(1, ABlk.buf 9 1
   (List.map encS (airN l (g'.fst + 1))))] 2)) ∧ (decide ((↑g_1.snd : Int) < (↑(List.map encXc x).length : Int)) = false → ((!!wiR r.c r.d (l.getD g_1.fst default).mi) = true → (!!wiR r.c r.d (l.getD g_1.fst default).mi) = true) ∧
   ((!wiR r.c r.d (l.getD g_1.fst default).mi) = false → (!!wiR r.c r.d (l.getD g_1.fst default).mi) = true) ∧ ((if (!wiR r.c r.d (l.getD g_1.fst default).mi) = true then true else wdN r x (l.getD g_1.fst default) g_1.snd == []) =
   true → In64 ((↑g_1.fst : Int) + 1) ∧ ∃ (g' : Nat), g' ≤ (List.map encMv l).length ∧ (List.map encMv l).length - g' < (List.map encMv l).length - g ∧ AS.mk [(3, AV.elt 18 [(encRu r)] 0 0), (4, AV.elt 2 [[AV.sl 5 (List.map encMv l),
   AV.sl 11 (List.map encXc x)]] 0 0), (5, AV.elt 3 [[AV.int IntKind.u8 n0, AV.int IntKind.u8 n1, AV.int IntKind.u8 n2]] 0 0), (7, AV.sl 3 (List.map encCs (caL r l x))), (9, AV.sl 1 (List.map encI (List.map (rFe r) l))), (11, AV.i
   (↑(kN r l x g_1.fst) : Int)), (12, AV.i (sN r l x g_1.fst + rFe r (l.getD g_1.fst default))), (13, AV.own 1 (List.map encS (airN l (g_1.fst + 1))).length), (118, AV.sl 5 (List.map encMv l)), (119, AV.i (↑(List.map encMv l).length :
   Int)), (120, AV.i ((↑g_1.fst : Int) + 1))] [(1, ABlk.buf 9 1 (List.map encS (airN l (g_1.fst + 1))))] 2 = AS.mk [(3, AV.elt 18 [(encRu r)] 0 0), (4, AV.elt 2 [[AV.sl 5 (List.map encMv l), AV.sl 11 (List.map encXc x)]] 0 0), (5,
   AV.elt 3 [[AV.int IntKind.u8 n0, AV.int IntKind.u8 n1, AV.int IntKind.u8 n2]] 0 0), (7, AV.sl 3 (List.map encCs (caL r l x))), (9, AV.sl 1 (List.map encI (List.map (rFe r) l))), (11, AV.i (↑(kN r l x g') : Int)), (12, AV.i (sN r l
   x g')), (13, AV.own 1 (List.map encS (airN l g')).length), (118, AV.sl 5 (List.map encMv l)), (119, AV.i (↑(List.map encMv l).length : Int)), (120, AV.i (↑g' : Int))] [(1, ABlk.buf 9 1 (List.map encS (airN l g')))] 2) ∧ ((if (!wiR
   r.c r.d (l.getD g_1.fst default).mi) = true then true else wdN r x (l.getD g_1.fst default) g_1.snd == []) = false → (0 : Int) ≤ (↑(kN r l x g_1.fst) : Int) ∧ (↑(kN r l x g_1.fst) : Int) < (↑(List.map encCs (caL r l x)).length :
   Int) ∧ AV.bool (decide ((↑(kN r l x g_1.fst) : Int) ≥ (↑(List.map encCs (caL r l x)).length : Int))) = AV.bool false ∧ AV.agg (nthR (List.map encCs (caL r l x)) (↑(kN r l x g_1.fst) : Int).toNat) = AV.agg (encCs ((caL r l x).getD
   (↑(kN r l x g_1.fst) : Int).toNat default)) ∧ (AV.bool !(((caL r l x).getD (↑(kN r l x g_1.fst) : Int).toNat default).fl == (l.getD g_1.fst default).fl && true && (((caL r l x).getD (↑(kN r l x g_1.fst) : Int).toNat default).w ==
   wdN r x (l.getD g_1.fst default) g_1.snd && true && (((caL r l x).getD (↑(kN r l x g_1.fst) : Int).toNat default).f == r.fi && true && true)))) = AV.bool false ∧ In64 (sN r l x g_1.fst + rFe r (l.getD g_1.fst default) + r.fi) ∧
   In64 ((↑(kN r l x g_1.fst) : Int) + 1) ∧ In64 ((↑g_1.fst : Int) + 1) ∧ ∃ (g' : Nat), g' ≤ (List.map encMv l).length ∧ (List.map encMv l).length - g' < (List.map encMv l).length - g ∧ AS.mk [(3, AV.elt 18 [(encRu r)] 0 0), (4,
   AV.elt 2 [[AV.sl 5 (List.map encMv l), AV.sl 11 (List.map encXc x)]] 0 0), (5, AV.elt 3 [[AV.int IntKind.u8 n0, AV.int IntKind.u8 n1, AV.int IntKind.u8 n2]] 0 0), (7, AV.sl 3 (List.map encCs (caL r l x))), (9, AV.sl 1 (List.map
   encI (List.map (rFe r) l))), (11, AV.i ((↑(kN r l x g_1.fst) : Int) + 1)), (12, AV.i (sN r l x g_1.fst + rFe r (l.getD g_1.fst default) + r.fi)), (13, AV.own 1 (List.map encS (airN l (g_1.fst + 1))).length), (118, AV.sl 5 (List.map
   encMv l)), (119, AV.i (↑(List.map encMv l).length : Int)), (120, AV.i ((↑g_1.fst : Int) + 1))] [(1, ABlk.buf 9 1 (List.map encS (airN l (g_1.fst + 1))))] 2 = AS.mk [(3, AV.elt 18 [(encRu r)] 0 0), (4, AV.elt 2 [[AV.sl 5 (List.map
   encMv l), AV.sl 11 (List.map encXc x)]] 0 0), (5, AV.elt 3 [[AV.int IntKind.u8 n0, AV.int IntKind.u8 n1, AV.int IntKind.u8 n2]] 0 0), (7, AV.sl 3 (List.map encCs (caL r l x))), (9, AV.sl 1 (List.map encI (List.map (rFe r) l))),
   (11, AV.i (↑(kN r l x g') : Int)), (12, AV.i (sN r l x g')), (13, AV.own 1 (List.map encS (airN l g')).length), (118, AV.sl 5 (List.map encMv l)), (119, AV.i (↑(List.map encMv l).length : Int)), (120, AV.i (↑g' : Int))] [(1,
   ABlk.buf 9 1 (List.map encS (airN l g')))] 2)))) ∧ (decide ((↑g : Int) < (↑(List.map encMv l).length : Int)) = false → AV.bool ((↑(kN r l x g) : Int) != (↑(List.map encCs (caL r l x)).length : Int)) = AV.bool false ∧ (∃ (g_1 :
   Nat), g_1 ≤ (airN l l.length).length ∧ AS.mk [(3, AV.elt 18 [(encRu r)] 0 0), (4, AV.elt 2 [[AV.sl 5 (List.map encMv l), AV.sl 11 (List.map encXc x)]] 0 0), (5, AV.elt 3 [[AV.int IntKind.u8 n0, AV.int IntKind.u8 n1, AV.int
   IntKind.u8 n2]] 0 0), (12, AV.i (sN r l x g)), (240, AV.sl 1 (List.map encS (airN l g))), (241, AV.i (↑(List.map encS (airN l g)).length : Int)), (242, AV.i 0)] [] 1 = AS.mk [(3, AV.elt 18 [(encRu r)] 0 0), (4, AV.elt 2 [[AV.sl 5
   (List.map encMv l), AV.sl 11 (List.map encXc x)]] 0 0), (5, AV.elt 3 [[AV.int IntKind.u8 n0, AV.int IntKind.u8 n1, AV.int IntKind.u8 n2]] 0 0), (12, AV.i (sN r l x l.length - smF (bill r l x) (0 : Int) (airN l l.length) g_1)),
   (240, AV.sl 1 (List.map encS (airN l l.length))), (241, AV.i (↑(List.map encS (airN l l.length)).length : Int)), (242, AV.i (↑g_1 : Int))] [] 1) ∧ ∀ (g : Nat), g ≤ (airN l l.length).length → (decide ((↑g : Int) < (↑(List.map encS
   (airN l l.length)).length : Int)) = true → (0 : Int) ≤ (↑g : Int) ∧ (↑g : Int) < (↑(List.map encS (airN l l.length)).length : Int) ∧ nth (nthR (List.map encS (airN l l.length)) (↑g : Int).toNat) 0 = AV.str ((airN l l.length).getD
   (↑g : Int).toNat []) ∧ PCall Tryz.prog G0 21 [AV.agg (encRu r)] (AV.agg (encRu r)) ∧ PCall Tryz.prog G0 32 [AV.sl 5 (List.map encMv l)] (AV.sl 5 (List.map encMv l)) ∧ PCall Tryz.prog G0 48 [AV.sl 11 (List.map encXc x)] (AV.sl 11
   (List.map encXc x)) ∧ PCall Tryz.prog G0 49 [AV.agg (encRu r), AV.sl 5 (List.map encMv l), AV.sl 11 (List.map encXc x), AV.str ((airN l l.length).getD (↑g : Int).toNat [])] (AV.tup [AV.i (bill r l x ((airN l l.length).getD (↑g :
   Int).toNat [])), AV.i 0]) ∧ In64 (sN r l x l.length - smF (bill r l x) (0 : Int) (airN l l.length) g - bill r l x ((airN l l.length).getD (↑g : Int).toNat [])) ∧ In64 ((↑g : Int) + 1) ∧ ∃ (g' : Nat), g' ≤ (airN l l.length).length ∧
   (airN l l.length).length - g' < (airN l l.length).length - g ∧ AS.mk [(3, AV.elt 18 [(encRu r)] 0 0), (4, AV.elt 2 [[AV.sl 5 (List.map encMv l), AV.sl 11 (List.map encXc x)]] 0 0), (5, AV.elt 3 [[AV.int IntKind.u8 n0, AV.int
   IntKind.u8 n1, AV.int IntKind.u8 n2]] 0 0), (12, AV.i (sN r l x l.length - smF (bill r l x) (0 : Int) (airN l l.length) g - bill r l x ((airN l l.length).getD (↑g : Int).toNat []))), (240, AV.sl 1 (List.map encS (airN l
   l.length))), (241, AV.i (↑(List.map encS (airN l l.length)).length : Int)), (242, AV.i ((↑g : Int) + 1))] [] 1 = AS.mk [(3, AV.elt 18 [(encRu r)] 0 0), (4, AV.elt 2 [[AV.sl 5 (List.map encMv l), AV.sl 11 (List.map encXc x)]] 0 0),
   (5, AV.elt 3 [[AV.int IntKind.u8 n0, AV.int IntKind.u8 n1, AV.int IntKind.u8 n2]] 0 0), (12, AV.i (sN r l x l.length - smF (bill r l x) (0 : Int) (airN l l.length) g')), (240, AV.sl 1 (List.map encS (airN l l.length))), (241, AV.i
   (↑(List.map encS (airN l l.length)).length : Int)), (242, AV.i (↑g' : Int))] [] 1) ∧ (decide ((↑g : Int) < (↑(List.map encS (airN l l.length)).length : Int)) = false → AV.bool (sN r l x l.length - smF (bill r l x) (0 : Int) (airN l
   l.length) g != 0) = AV.bool false ∧ ((!(↑(List.map encMv l).length : Int) == 0) = true → (!(↑(List.map encMv l).length : Int) == 0) = true) ∧ ((!(↑(List.map encMv l).length : Int) == 0) = true → (!(↑(List.map encMv l).length : Int)
   == 0) = true) ∧ ((!(↑(List.map encMv l).length : Int) == 0) = true → (!(↑(List.map encMv l).length : Int) == 0) = true) ∧ (((↑(List.map encMv l).length : Int) == 0) = false → (!(↑(List.map encMv l).length : Int) == 0) = true) ∧
   ((if ((↑(List.map encMv l).length : Int) == 0) = true then true else (↑(List.map encS r.rs).length : Int) == 0) = true → AV.bool true = AV.bool true) ∧ ((if ((↑(List.map encMv l).length : Int) == 0) = true then true else
   (↑(List.map encS r.rs).length : Int) == 0) = false → (0 : Int) ≤ 0 ∧ (0 : Int) < (↑3 : Int) ∧ ¬(↑(List.map encMv l).length : Int) = (0 : Int) ∧ (0 : Int) ≤ n0.tmod (↑(List.map encMv l).length : Int) ∧ n0.tmod (↑(List.map encMv
   l).length : Int) < (↑(List.map encMv l).length : Int) ∧ (0 : Int) ≤ 1 ∧ (1 : Int) < (↑3 : Int) ∧ ¬(↑(List.map encS r.rs).length : Int) = (0 : Int) ∧ (0 : Int) ≤ n1.tmod (↑(List.map encS r.rs).length : Int) ∧ n1.tmod (↑(List.map
   encS r.rs).length : Int) < (↑(List.map encS r.rs).length : Int) ∧ AV.i (IntKind.i64.wrap n0) = AV.i n0 ∧ AV.agg (nthR (List.map encMv l) (n0.tmod (↑(List.map encMv l).length : Int)).toNat) = AV.agg (encMv (M0 l n0)) ∧ AV.i
   (IntKind.i64.wrap n1) = AV.i n1 ∧ nth (nthR (List.map encS r.rs) (n1.tmod (↑(List.map encS r.rs).length : Int)).toNat) 0 = AV.str (R0 r n1) ∧ PCall Tryz.prog G0 21 [AV.agg (encRu r)] (AV.agg (encRu r)) ∧ PCall Tryz.prog G0 57
   [AV.agg (encRu r), AV.str (M0 l n0).fl, AV.str (R0 r n1)] (AV.tup [AV.agg (evS r (M0 l n0).fl (R0 r n1)), AV.i 0]) ∧ PCall Tryz.prog G0 21 [AV.agg (encRu r)] (AV.agg (encRu r)) ∧ PCall Tryz.prog G0 32 [AV.sl 5 (List.map encMv l)]
   (AV.sl 5 (List.map encMv l)) ∧ PCall Tryz.prog G0 56 [AV.agg (encRu r), AV.sl 5 (List.map encMv l), AV.agg (encXc (gdX r (M0 l n0) (R0 r n1)))] (AV.tup [AV.str (wordX r l (encXc (gdX r (M0 l n0) (R0 r n1)))), AV.i 0]) ∧ (AV.bool
   !wordX r l (encXc (gdX r (M0 l n0) (R0 r n1))) == []) = AV.bool false ∧ (0 : Int) ≤ 2 ∧ (2 : Int) < (↑3 : Int) ∧ ¬(8 : Int) = (0 : Int) ∧ (0 : Int) ≤ n2.tmod (8 : Int) ∧ n2.tmod (8 : Int) < (↑8 : Int) ∧ 3 + (n2.tmod (8 :
   Int)).toNat * 1 + 1 ≤ 11 ∧ (0 : Int) ≤ n2.tmod (8 : Int) ∧ n2.tmod (8 : Int) < (↑8 : Int) ∧ 3 + (n2.tmod (8 : Int)).toNat * 1 + 1 ≤ 11 ∧ ¬3 + (n2.tmod (8 : Int)).toNat * 1 = 0 ∧ ¬3 + (n2.tmod (8 : Int)).toNat * 1 = 1 ∧ ¬3 +
   (n2.tmod (8 : Int)).toNat * 1 = 2 ∧ nth (encXc (gdX r (M0 l n0) (R0 r n1))) (3 + (n2.tmod (8 : Int)).toNat * 1) = AV.int IntKind.u8 (sea (kyR r) ((M0 l n0).fl ++ [(32 : UInt8)] ++ R0 r n1) (n2.tmod (8 : Int)).toNat) ∧ PCall
   Tryz.prog G0 21 [AV.agg (encRu r)] (AV.agg (encRu r)) ∧ PCall Tryz.prog G0 32 [AV.sl 5 (List.map encMv l)] (AV.sl 5 (List.map encMv l)) ∧ PCall Tryz.prog G0 56 [AV.agg (encRu r), AV.sl 5 (List.map encMv l), AV.agg [AV.str (M0 l
   n0).fl, AV.str (R0 r n1), AV.i (M0 l n0).day, AV.int IntKind.u8 (if 0 + 3 + (n2.tmod (8 : Int)).toNat * 1 = 0 + 1 + 1 + 1 then IntKind.u8.wrap (sea (kyR r) ((M0 l n0).fl ++ [(32 : UInt8)] ++ R0 r n1) (n2.tmod (8 : Int)).toNat + 1)
   else sea (kyR r) ((M0 l n0).fl ++ [(32 : UInt8)] ++ R0 r n1) 0), AV.int IntKind.u8 (if 0 + 3 + (n2.tmod (8 : Int)).toNat * 1 = 0 + 1 + 1 + 1 + 1 then IntKind.u8.wrap (sea (kyR r) ((M0 l n0).fl ++ [(32 : UInt8)] ++ R0 r n1) (n2.tmod
   (8 : Int)).toNat + 1) else sea (kyR r) ((M0 l n0).fl ++ [(32 : UInt8)] ++ R0 r n1) 1), AV.int IntKind.u8 (if 0 + 3 + (n2.tmod (8 : Int)).toNat * 1 = 0 + 1 + 1 + 1 + 1 + 1 then IntKind.u8.wrap (sea (kyR r) ((M0 l n0).fl ++ [(32 :
   UInt8)] ++ R0 r n1) (n2.tmod (8 : Int)).toNat + 1) else sea (kyR r) ((M0 l n0).fl ++ [(32 : UInt8)] ++ R0 r n1) 2), AV.int IntKind.u8 (if 0 + 3 + (n2.tmod (8 : Int)).toNat * 1 = 0 + 1 + 1 + 1 + 1 + 1 + 1 then IntKind.u8.wrap (sea
   (kyR r) ((M0 l n0).fl ++ [(32 : UInt8)] ++ R0 r n1) (n2.tmod (8 : Int)).toNat + 1) else sea (kyR r) ((M0 l n0).fl ++ [(32 : UInt8)] ++ R0 r n1) 3), AV.int IntKind.u8 (if 0 + 3 + (n2.tmod (8 : Int)).toNat * 1 = 0 + 1 + 1 + 1 + 1 + 1
   + 1 + 1 then IntKind.u8.wrap (sea (kyR r) ((M0 l n0).fl ++ [(32 : UInt8)] ++ R0 r n1) (n2.tmod (8 : Int)).toNat + 1) else sea (kyR r) ((M0 l n0).fl ++ [(32 : UInt8)] ++ R0 r n1) 4), AV.int IntKind.u8 (if 0 + 3 + (n2.tmod (8 :
   Int)).toNat * 1 = 0 + 1 + 1 + 1 + 1 + 1 + 1 + 1 + 1 then IntKind.u8.wrap (sea (kyR r) ((M0 l n0).fl ++ [(32 : UInt8)] ++ R0 r n1) (n2.tmod (8 : Int)).toNat + 1) else sea (kyR r) ((M0 l n0).fl ++ [(32 : UInt8)] ++ R0 r n1) 5),
   AV.int IntKind.u8 (if 0 + 3 + (n2.tmod (8 : Int)).toNat * 1 = 0 + 1 + 1 + 1 + 1 + 1 + 1 + 1 + 1 + 1 then IntKind.u8.wrap (sea (kyR r) ((M0 l n0).fl ++ [(32 : UInt8)] ++ R0 r n1) (n2.tmod (8 : Int)).toNat + 1) else sea (kyR r) ((M0
   l n0).fl ++ [(32 : UInt8)] ++ R0 r n1) 6), AV.int IntKind.u8 (if 0 + 3 + (n2.tmod (8 : Int)).toNat * 1 = 0 + 1 + 1 + 1 + 1 + 1 + 1 + 1 + 1 + 1 + 1 then IntKind.u8.wrap (sea (kyR r) ((M0 l n0).fl ++ [(32 : UInt8)] ++ R0 r n1)
   (n2.tmod (8 : Int)).toNat + 1) else sea (kyR r) ((M0 l n0).fl ++ [(32 : UInt8)] ++ R0 r n1) 7)]] (AV.tup [AV.str (wordX r l [AV.str (M0 l n0).fl, AV.str (R0 r n1), AV.i (M0 l n0).day, AV.int IntKind.u8 (if 0 + 3 + (n2.tmod (8 :
   Int)).toNat * 1 = 0 + 1 + 1 + 1 then IntKind.u8.wrap (sea (kyR r) ((M0 l n0).fl ++ [(32 : UInt8)] ++ R0 r n1) (n2.tmod (8 : Int)).toNat + 1) else sea (kyR r) ((M0 l n0).fl ++ [(32 : UInt8)] ++ R0 r n1) 0), AV.int IntKind.u8 (if 0 +
   3 + (n2.tmod (8 : Int)).toNat * 1 = 0 + 1 + 1 + 1 + 1 then IntKind.u8.wrap (sea (kyR r) ((M0 l n0).fl ++ [(32 : UInt8)] ++ R0 r n1) (n2.tmod (8 : Int)).toNat + 1) else sea (kyR r) ((M0 l n0).fl ++ [(32 : UInt8)] ++ R0 r n1) 1),
   AV.int IntKind.u8 (if 0 + 3 + (n2.tmod (8 : Int)).toNat * 1 = 0 + 1 + 1 + 1 + 1 + 1 then IntKind.u8.wrap (sea (kyR r) ((M0 l n0).fl ++ [(32 : UInt8)] ++ R0 r n1) (n2.tmod (8 : Int)).toNat + 1) else sea (kyR r) ((M0 l n0).fl ++ [(32
   : UInt8)] ++ R0 r n1) 2), AV.int IntKind.u8 (if 0 + 3 + (n2.tmod (8 : Int)).toNat * 1 = 0 + 1 + 1 + 1 + 1 + 1 + 1 then IntKind.u8.wrap (sea (kyR r) ((M0 l n0).fl ++ [(32 : UInt8)] ++ R0 r n1) (n2.tmod (8 : Int)).toNat + 1) else sea
   (kyR r) ((M0 l n0).fl ++ [(32 : UInt8)] ++ R0 r n1) 3), AV.int IntKind.u8 (if 0 + 3 + (n2.tmod (8 : Int)).toNat * 1 = 0 + 1 + 1 + 1 + 1 + 1 + 1 + 1 then IntKind.u8.wrap (sea (kyR r) ((M0 l n0).fl ++ [(32 : UInt8)] ++ R0 r n1)
   (n2.tmod (8 : Int)).toNat + 1) else sea (kyR r) ((M0 l n0).fl ++ [(32 : UInt8)] ++ R0 r n1) 4), AV.int IntKind.u8 (if 0 + 3 + (n2.tmod (8 : Int)).toNat * 1 = 0 + 1 + 1 + 1 + 1 + 1 + 1 + 1 + 1 then IntKind.u8.wrap (sea (kyR r) ((M0
   l n0).fl ++ [(32 : UInt8)] ++ R0 r n1) (n2.tmod (8 : Int)).toNat + 1) else sea (kyR r) ((M0 l n0).fl ++ [(32 : UInt8)] ++ R0 r n1) 5), AV.int IntKind.u8 (if 0 + 3 + (n2.tmod (8 : Int)).toNat * 1 = 0 + 1 + 1 + 1 + 1 + 1 + 1 + 1 + 1
   + 1 then IntKind.u8.wrap (sea (kyR r) ((M0 l n0).fl ++ [(32 : UInt8)] ++ R0 r n1) (n2.tmod (8 : Int)).toNat + 1) else sea (kyR r) ((M0 l n0).fl ++ [(32 : UInt8)] ++ R0 r n1) 6), AV.int IntKind.u8 (if 0 + 3 + (n2.tmod (8 :
   Int)).toNat * 1 = 0 + 1 + 1 + 1 + 1 + 1 + 1 + 1 + 1 + 1 + 1 then IntKind.u8.wrap (sea (kyR r) ((M0 l n0).fl ++ [(32 : UInt8)] ++ R0 r n1) (n2.tmod (8 : Int)).toNat + 1) else sea (kyR r) ((M0 l n0).fl ++ [(32 : UInt8)] ++ R0 r n1)
   7)]), AV.i 0]) ∧ (AV.bool !wordX r l [AV.str (M0 l n0).fl, AV.str (R0 r n1), AV.i (M0 l n0).day, AV.int IntKind.u8 (if 0 + 3 + (n2.tmod (8 : Int)).toNat * 1 = 0 + 1 + 1 + 1 then IntKind.u8.wrap (sea (kyR r) ((M0 l n0).fl ++ [(32 :
   UInt8)] ++ R0 r n1) (n2.tmod (8 : Int)).toNat + 1) else sea (kyR r) ((M0 l n0).fl ++ [(32 : UInt8)] ++ R0 r n1) 0), AV.int IntKind.u8 (if 0 + 3 + (n2.tmod (8 : Int)).toNat * 1 = 0 + 1 + 1 + 1 + 1 then IntKind.u8.wrap (sea (kyR r)
   ((M0 l n0).fl ++ [(32 : UInt8)] ++ R0 r n1) (n2.tmod (8 : Int)).toNat + 1) else sea (kyR r) ((M0 l n0).fl ++ [(32 : UInt8)] ++ R0 r n1) 1), AV.int IntKind.u8 (if 0 + 3 + (n2.tmod (8 : Int)).toNat * 1 = 0 + 1 + 1 + 1 + 1 + 1 then
   IntKind.u8.wrap (sea (kyR r) ((M0 l n0).fl ++ [(32 : UInt8)] ++ R0 r n1) (n2.tmod (8 : Int)).toNat + 1) else sea (kyR r) ((M0 l n0).fl ++ [(32 : UInt8)] ++ R0 r n1) 2), AV.int IntKind.u8 (if 0 + 3 + (n2.tmod (8 : Int)).toNat * 1 =
   0 + 1 + 1 + 1 + 1 + 1 + 1 then IntKind.u8.wrap (sea (kyR r) ((M0 l n0).fl ++ [(32 : UInt8)] ++ R0 r n1) (n2.tmod (8 : Int)).toNat + 1) else sea (kyR r) ((M0 l n0).fl ++ [(32 : UInt8)] ++ R0 r n1) 3), AV.int IntKind.u8 (if 0 + 3 +
   (n2.tmod (8 : Int)).toNat * 1 = 0 + 1 + 1 + 1 + 1 + 1 + 1 + 1 then IntKind.u8.wrap (sea (kyR r) ((M0 l n0).fl ++ [(32 : UInt8)] ++ R0 r n1) (n2.tmod (8 : Int)).toNat + 1) else sea (kyR r) ((M0 l n0).fl ++ [(32 : UInt8)] ++ R0 r n1)
   4), AV.int IntKind.u8 (if 0 + 3 + (n2.tmod (8 : Int)).toNat * 1 = 0 + 1 + 1 + 1 + 1 + 1 + 1 + 1 + 1 then IntKind.u8.wrap (sea (kyR r) ((M0 l n0).fl ++ [(32 : UInt8)] ++ R0 r n1) (n2.tmod (8 : Int)).toNat + 1) else sea (kyR r) ((M0
   l n0).fl ++ [(32 : UInt8)] ++ R0 r n1) 5), AV.int IntKind.u8 (if 0 + 3 + (n2.tmod (8 : Int)).toNat * 1 = 0 + 1 + 1 + 1 + 1 + 1 + 1 + 1 + 1 + 1 then IntKind.u8.wrap (sea (kyR r) ((M0 l n0).fl ++ [(32 : UInt8)] ++ R0 r n1) (n2.tmod
   (8 : Int)).toNat + 1) else sea (kyR r) ((M0 l n0).fl ++ [(32 : UInt8)] ++ R0 r n1) 6), AV.int IntKind.u8 (if 0 + 3 + (n2.tmod (8 : Int)).toNat * 1 = 0 + 1 + 1 + 1 + 1 + 1 + 1 + 1 + 1 + 1 + 1 then IntKind.u8.wrap (sea (kyR r) ((M0 l
   n0).fl ++ [(32 : UInt8)] ++ R0 r n1) (n2.tmod (8 : Int)).toNat + 1) else sea (kyR r) ((M0 l n0).fl ++ [(32 : UInt8)] ++ R0 r n1) 7)] == [(101 : UInt8), (118 : UInt8), (105 : UInt8), (100 : UInt8), (101 : UInt8), (110 : UInt8), (99
   : UInt8), (101 : UInt8)]) = AV.bool false ∧ (∃ (g : Nat), g ≤ (List.map encMv l).length ∧ AS.mk [(3, AV.elt 18 [(encRu r)] 0 0), (4, AV.elt 2 [[AV.sl 5 (List.map encMv l), AV.sl 11 (List.map encXc x)]] 0 0), (27, AV.elt 5 [(encMv
   (M0 l n0))] 0 0), (28, AV.str (R0 r n1)), (29, AV.elt 8 [(evS r (M0 l n0).fl (R0 r n1))] 0 0), (362, AV.sl 5 (List.map encMv l)), (363, AV.i (↑(List.map encMv l).length : Int)), (364, AV.i 0)] [] 1 = AS.mk [(3, AV.elt 18 [(encRu
   r)] 0 0), (4, AV.elt 2 [[AV.sl 5 (List.map encMv l), AV.sl 11 (List.map encXc x)]] 0 0), (27, AV.elt 5 [(encMv (M0 l n0))] 0 0), (28, AV.str (R0 r n1)), (29, AV.elt 8 [(evS r (M0 l n0).fl (R0 r n1))] 0 0), (362, AV.sl 5 (List.map
   encMv l)), (363, AV.i (↑(List.map encMv l).length : Int)), (364, AV.i (↑g : Int))] [] 1) ∧ ∀ (g : Nat), g ≤ (List.map encMv l).length → (decide ((↑g : Int) < (↑(List.map encMv l).length : Int)) = true → (0 : Int) ≤ (↑g : Int) ∧ (↑g
   : Int) < (↑(List.map encMv l).length : Int) ∧ AV.agg (nthR (List.map encMv l) (↑g : Int).toNat) = AV.agg (encMv (l.getD (↑g : Int).toNat default)) ∧ PCall Tryz.prog G0 21 [AV.agg (encRu r)] (AV.agg (encRu r)) ∧ PCall Tryz.prog G0
   57 [AV.agg (encRu r), AV.str (l.getD (↑g : Int).toNat default).fl, AV.str (R0 r n1)] (AV.tup [AV.agg (evS r (l.getD (↑g : Int).toNat default).fl (R0 r n1)), AV.i 0]) ∧ (((↑(l.getD (↑g : Int).toNat default).fl.length : Int) == (↑(M0
   l n0).fl.length : Int)) = true → ((↑(l.getD (↑g : Int).toNat default).fl.length : Int) == (↑(M0 l n0).fl.length : Int)) = true) ∧ (((↑(l.getD (↑g : Int).toNat default).fl.length : Int) == (↑(M0 l n0).fl.length : Int)) = true →
   ((↑(l.getD (↑g : Int).toNat default).fl.length : Int) == (↑(M0 l n0).fl.length : Int)) = true) ∧ (((↑(l.getD (↑g : Int).toNat default).fl.length : Int) == (↑(M0 l n0).fl.length : Int)) = true → ((↑(l.getD (↑g : Int).toNat
   default).fl.length : Int) == (↑(M0 l n0).fl.length : Int)) = true) ∧ (((↑(l.getD (↑g : Int).toNat default).fl.length : Int) == (↑(M0 l n0).fl.length : Int)) = true → ((↑(l.getD (↑g : Int).toNat default).fl.length : Int) == (↑(M0 l
   n0).fl.length : Int)) = true) ∧ (((↑(l.getD (↑g : Int).toNat default).fl.length : Int) == (↑(M0 l n0).fl.length : Int)) = true → ((↑(l.getD (↑g : Int).toNat default).fl.length : Int) == (↑(M0 l n0).fl.length : Int)) = true) ∧
   (((↑(l.getD (↑g : Int).toNat default).fl.length : Int) == (↑(M0 l n0).fl.length : Int)) = true → ((↑(l.getD (↑g : Int).toNat default).fl.length : Int) == (↑(M0 l n0).fl.length : Int)) = true) ∧ ((if ((↑(l.getD (↑g : Int).toNat
   default).fl.length : Int) == (↑(M0 l n0).fl.length : Int)) = true then apN (l.getD (↑g : Int).toNat default).fl (M0 l n0).fl (l.getD (↑g : Int).toNat default).fl.length == 1 else false) = true → (if ((↑(l.getD (↑g : Int).toNat
   default).fl.length : Int) == (↑(M0 l n0).fl.length : Int)) = true then apN (l.getD (↑g : Int).toNat default).fl (M0 l n0).fl (l.getD (↑g : Int).toNat default).fl.length == 1 else false) = true) ∧ ((if ((↑(l.getD (↑g : Int).toNat
   default).fl.length : Int) == (↑(M0 l n0).fl.length : Int)) = true then apN (l.getD (↑g : Int).toNat default).fl (M0 l n0).fl (l.getD (↑g : Int).toNat default).fl.length == 1 else false) = true → (if ((↑(l.getD (↑g : Int).toNat
   default).fl.length : Int) == (↑(M0 l n0).fl.length : Int)) = true then apN (l.getD (↑g : Int).toNat default).fl (M0 l n0).fl (l.getD (↑g : Int).toNat default).fl.length == 1 else false) = true) ∧ ((if ((↑(l.getD (↑g : Int).toNat
   default).fl.length : Int) == (↑(M0 l n0).fl.length : Int)) = true then apN (l.getD (↑g : Int).toNat default).fl (M0 l n0).fl (l.getD (↑g : Int).toNat default).fl.length == 1 else false) = true → (if ((↑(l.getD (↑g : Int).toNat
   default).fl.length : Int) == (↑(M0 l n0).fl.length : Int)) = true then apN (l.getD (↑g : Int).toNat default).fl (M0 l n0).fl (l.getD (↑g : Int).toNat default).fl.length == 1 else false) = true) ∧ impB ((↑(l.getD (↑g : Int).toNat
   default).fl.length : Int) == (↑(M0 l n0).fl.length : Int)) (PCall Tryz.prog G0 73 [AV.str (l.getD (↑g : Int).toNat default).fl, AV.str (M0 l n0).fl] (AV.i (apN (l.getD (↑g : Int).toNat default).fl (M0 l n0).fl (l.getD (↑g :
   Int).toNat default).fl.length))) ∧ impB (if ((↑(l.getD (↑g : Int).toNat default).fl.length : Int) == (↑(M0 l n0).fl.length : Int)) = true then apN (l.getD (↑g : Int).toNat default).fl (M0 l n0).fl (l.getD (↑g : Int).toNat
   default).fl.length == 1 else false) (AV.bool (sea (kyR r) ((l.getD (↑g : Int).toNat default).fl ++ [(32 : UInt8)] ++ R0 r n1) 0 == sea (kyR r) ((M0 l n0).fl ++ [(32 : UInt8)] ++ R0 r n1) 0 && true && (sea (kyR r) ((l.getD (↑g :
   Int).toNat default).fl ++ [(32 : UInt8)] ++ R0 r n1) 1 == sea (kyR r) ((M0 l n0).fl ++ [(32 : UInt8)] ++ R0 r n1) 1 && true && (sea (kyR r) ((l.getD (↑g : Int).toNat default).fl ++ [(32 : UInt8)] ++ R0 r n1) 2 == sea (kyR r) ((M0 l
   n0).fl ++ [(32 : UInt8)] ++ R0 r n1) 2 && true && (sea (kyR r) ((l.getD (↑g : Int).toNat default).fl ++ [(32 : UInt8)] ++ R0 r n1) 3 == sea (kyR r) ((M0 l n0).fl ++ [(32 : UInt8)] ++ R0 r n1) 3 && true && (sea (kyR r) ((l.getD (↑g
   : Int).toNat default).fl ++ [(32 : UInt8)] ++ R0 r n1) 4 == sea (kyR r) ((M0 l n0).fl ++ [(32 : UInt8)] ++ R0 r n1) 4 && true && (sea (kyR r) ((l.getD (↑g : Int).toNat default).fl ++ [(32 : UInt8)] ++ R0 r n1) 5 == sea (kyR r) ((M0
   l n0).fl ++ [(32 : UInt8)] ++ R0 r n1) 5 && true && (sea (kyR r) ((l.getD (↑g : Int).toNat default).fl ++ [(32 : UInt8)] ++ R0 r n1) 6 == sea (kyR r) ((M0 l n0).fl ++ [(32 : UInt8)] ++ R0 r n1) 6 && true && (sea (kyR r) ((l.getD
   (↑g : Int).toNat default).fl ++ [(32 : UInt8)] ++ R0 r n1) 7 == sea (kyR r) ((M0 l n0).fl ++ [(32 : UInt8)] ++ R0 r n1) 7 && true && true)))))))) = AV.bool (evQ (evS r (l.getD (↑g : Int).toNat default).fl (R0 r n1)) (evS r (M0 l
   n0).fl (R0 r n1)))) ∧ AV.bool (if (if ((↑(l.getD (↑g : Int).toNat default).fl.length : Int) == (↑(M0 l n0).fl.length : Int)) = true then apN (l.getD (↑g : Int).toNat default).fl (M0 l n0).fl (l.getD (↑g : Int).toNat
   default).fl.length == 1 else false) = true then evQ (evS r (l.getD (↑g : Int).toNat default).fl (R0 r n1)) (evS r (M0 l n0).fl (R0 r n1)) else false) = AV.bool false ∧ In64 ((↑g : Int) + 1) ∧ ∃ (g' : Nat), g' ≤ (List.map encMv
   l).length ∧ (List.map encMv l).length - g' < (List.map encMv l).length - g ∧ AS.mk [(3, AV.elt 18 [(encRu r)] 0 0), (4, AV.elt 2 [[AV.sl 5 (List.map encMv l), AV.sl 11 (List.map encXc x)]] 0 0), (27, AV.elt 5 [(encMv (M0 l n0))] 0
   0), (28, AV.str (R0 r n1)), (29, AV.elt 8 [(evS r (M0 l n0).fl (R0 r n1))] 0 0), (362, AV.sl 5 (List.map encMv l)), (363, AV.i (↑(List.map encMv l).length : Int)), (364, AV.i ((↑g : Int) + 1))] [] 1 = AS.mk [(3, AV.elt 18 [(encRu
   r)] 0 0), (4, AV.elt 2 [[AV.sl 5 (List.map encMv l), AV.sl 11 (List.map encXc x)]] 0 0), (27, AV.elt 5 [(encMv (M0 l n0))] 0 0), (28, AV.str (R0 r n1)), (29, AV.elt 8 [(evS r (M0 l n0).fl (R0 r n1))] 0 0), (362, AV.sl 5 (List.map
   encMv l)), (363, AV.i (↑(List.map encMv l).length : Int)), (364, AV.i (↑g' : Int))] [] 1) ∧ (decide ((↑g : Int) < (↑(List.map encMv l).length : Int)) = false → AV.bool true = AV.bool true))))) := by
    have hlm : (List.map encMv l).length = l.length := List.length_map _
    have : (List.map encMv l).length = l.length := by simp only [List.length_map]
    have : (List.map encXc x).length = x.length := by simp only [List.length_map]
    have : (List.map encI (List.map (rFe r) l)).length = l.length := by simp only [List.length_map]
    have : (List.map encCs (caL r l x)).length = (caL r l x).length := by simp only [List.length_map]
    have : (List.map encS (airN l l.length)).length = (airN l l.length).length := by simp only [List.length_map]
    have : (List.map encS r.rs).length = r.rs.length := by simp only [List.length_map]
    refine ⟨fun h => h, fun h => h, fun h => by first | exact h | (rw [h]; rfl) | simp_all, fun h => h, fun h => h, fun h => by first | exact h | (rw [h]; rfl) | simp_all, fun h => h, fun h => h, fun h => h, fun h => by first | exact h | (rw [h]; rfl) | simp_all, fun h => h, fun h => h, fun h => h, fun h => by first | exact h | (rw [h]; rfl) | simp_all, fun h => h, fun h => h, fun h => h, fun h => h, fun h => h, fun h => h, fun h => by first | exact h | (rw [h]; rfl) | simp_all, hA, (c17 r hl hm), impB_iff.2 fun hb => (c46 l x hn hx0), impB_iff.2 fun hb => ?_, fun h1 => ⟨hA, rfl⟩, fun h1 => ?_⟩
    · obtain ⟨hS, hX⟩ := of_g (nor_t hb)
      exact c50 r l x hS hX.1 (fun y hy => by have := (hX.2 y hy).2; omega)
    · obtain ⟨hz, hz1⟩ := or_f h1
      obtain ⟨hS, hX⟩ := of_g hz
      have he0 : exR r l x = 0 := bne_f hz1
      have hO : Of r l x := ⟨hS, hk, he0, hX.1, hX.2⟩
      have hM0 := (ex_ok he0).1
      have hV := (mv_ok hM0).2.1
      have hR0 := (mv_ok hM0).1
      have hdis := dis_of hM0
      have hcu := ru_cur hR0
      obtain ⟨hdl, hfi, hrs8⟩ := ru_more hR0
      have hlk := hS.k
      have hca0 := ca_len r l x
      have hal0 := (air_ok l l.length).2.2.1
      refine ⟨(c21 r hS.t hS.s), ((c32 l hS.k).un), ((c48 x hX.1).un), (c47v hO), (c21 r hS.t hS.s), ((c32 l hS.k).un), (c33v hS hM0), ?_, congrArg AV.bool (decide_eq_false (by omega)), ⟨⟨0, by omega, (by rw [sN_0]; rfl)⟩, fun g hg => ⟨fun hd => ?_, fun hd => ?_⟩⟩⟩
      · rw [List.length_map, List.length_map, List.length_map]
        exact congrArg AV.bool (by simp)
      · have hlt : g < l.length := by have h9 := of_decide_eq_true hd; have h8 := hg; (try simp only [List.length_map] at h8); (try simp only [List.length_map] at h9); omega
        have hal := (air_ok l g).2.2.1
        have hal2 : (List.map encS (airN l g)).length = (airN l g).length := List.length_map _
        have hmv := hV.2 _ (getD_mem hlt)
        have hmd := hmv.d
        have hsb := sN_bd x hV hfi (i := g) (by omega)
        have hfe := fe_bd hV.1 hmv
        have hkl := kN_le r l x g
        try rw [show (↑g : Int).toNat = g from Int.toNat_natCast g]
        rw [getD_map hlt]
        try rw [show (↑g : Int).toNat = g from Int.toNat_natCast g]
        refine ⟨(by omega), (by omega), congrArg AV.agg (row_at encMv hlt), (by omega), (by omega), (by unfold In64; omega), (by rw [row_at encI (by simpa using hlt), getD_map hlt]; rfl), (c72a _ _ (by omega)), fun h2 => ⟨(by omega), (by omega), (c18v hcu.1 hcu.2.1 hcu.2.2 (by have := hmv.m; omega)), ⟨(g, 0), ⟨by omega, by omega⟩, rfl, (by dsimp only; first | (rw [air_new h2, List.length_append, wd_0]; rfl) | (rw [air_old h2, wd_0]; rfl)), fun g_1 hok2 hr2 => ?_⟩⟩, fun h2 => ⟨(c18v hcu.1 hcu.2.1 hcu.2.2 (by have := hmv.m; omega)), ⟨(g, 0), ⟨by omega, by omega⟩, rfl, (by dsimp only; first | (rw [air_new h2, List.length_append, wd_0]; rfl) | (rw [air_old h2, wd_0]; rfl)), fun g_1 hok2 hr2 => ?_⟩⟩⟩
        · obtain ⟨i2, j2⟩ := g_1
          dsimp only at hok2 hr2 ⊢
          obtain ⟨hi2, hg2⟩ := hok2
          have hr3 : g = i2 := hr2.symm
          subst hr3
          refine ⟨fun hd2 => ?_, fun hd2 => ?_⟩
          · have hlt2 : j2 < x.length := by have h9 := of_decide_eq_true hd2; have h8 := hg2; (try simp only [List.length_map] at h8); (try simp only [List.length_map] at h9); omega
            try rw [show (↑j2 : Int).toNat = j2 from Int.toNat_natCast j2]
            refine ⟨(by omega), (by omega), congrArg AV.agg (row_at encXc hlt2), fun h3 => ⟨(by unfold In64; omega), ⟨(g, j2 + 1), ⟨by omega, by omega⟩, rfl, (by (try dsimp only); omega), ?_⟩⟩, fun h3 => ?_⟩
            · dsimp only
              rw [wd_skip (x := x) (m := l.getD g default) (j := j2) (nor_t h3)]
              rfl
            · have hf : (x.getD j2 default).fl = (l.getD g default).fl := by have h4 := h3; simp only [Bool.not_eq_false', beq_iff_eq] at h4; exact h4
              refine ⟨(c21 r hS.t hS.s), ((c32 l hS.k).un), (c56x hS hk (ex_one he0 (getD_mem hlt2)) (hX.2 _ (getD_mem hlt2)).1 (hX.2 _ (getD_mem hlt2)).2), fun h => h, fun h => h, fun h => h, fun h => h, fun h => h, fun h => h, fun h => h, fun h => h, fun h => h, fun h => h, fun h => h, ?_, fun h => h, fun h => h, fun h => h, fun h => h, fun h => h, fun h => h, fun _ => by unfold In64; omega, fun h => h, fun h => h, fun h => h, ?_, fun h => h, impB_iff.2 fun hb => (c72a _ _ hS.s), congrArg AV.bool (lit25 (wx_hit hdis hlt hf)), (by unfold In64; omega), ⟨(g, j2 + 1), ⟨by omega, by omega⟩, rfl, (by (try dsimp only); omega), ?_⟩⟩
              · intro a b
                rw [a, b]
                rfl
              · intro a b
                rw [a, b]
                rfl
              · dsimp only
                rw [wd_hit he0 hlt2 hf, wx_hit hdis hlt hf]
                rfl
          · have hge2 : j2 = x.length := by have h9 := of_decide_eq_false hd2; have h8 := hg2; (try simp only [List.length_map] at h8); (try simp only [List.length_map] at h9); omega
            subst hge2
            refine ⟨fun h => h, fun h => by first | exact h | (rw [h]; rfl) | simp_all, fun h3 => ?_, fun h3 => ?_⟩
            · have ho := one_out (r := r) (x := x) (m := l.getD g default) h3
              have hkk := k_no hlt ho
              refine ⟨(by unfold In64; omega), ⟨g + 1, by omega, by omega, ?_⟩⟩
              · rw [hkk.1, hkk.2]
                rfl
            · have ho := one_in (r := r) (x := x) (m := l.getD g default) h3
              have hkk := k_one hlt ho
              have hca := ca_at hlt ho
              refine ⟨(by omega), (by omega), congrArg AV.bool (decide_eq_false (by omega)), congrArg AV.agg (row_at encCs (by rw [Int.toNat_natCast]; exact hca.1)), ?_, (by unfold In64; omega), (by unfold In64; omega), (by unfold In64; omega), ⟨g + 1, by omega, by omega, ?_⟩⟩
              · rw [Int.toNat_natCast, hca.2]
                simp
              · rw [hkk.1, hkk.2]
                rfl
        · obtain ⟨i2, j2⟩ := g_1
          dsimp only at hok2 hr2 ⊢
          obtain ⟨hi2, hg2⟩ := hok2
          have hr3 : g = i2 := hr2.symm
          subst hr3
          refine ⟨fun hd2 => ?_, fun hd2 => ?_⟩
          · have hlt2 : j2 < x.length := by have h9 := of_decide_eq_true hd2; have h8 := hg2; (try simp only [List.length_map] at h8); (try simp only [List.length_map] at h9); omega
            try rw [show (↑j2 : Int).toNat = j2 from Int.toNat_natCast j2]
            refine ⟨(by omega), (by omega), congrArg AV.agg (row_at encXc hlt2), fun h3 => ⟨(by unfold In64; omega), ⟨(g, j2 + 1), ⟨by omega, by omega⟩, rfl, (by (try dsimp only); omega), ?_⟩⟩, fun h3 => ?_⟩
            · dsimp only
              rw [wd_skip (x := x) (m := l.getD g default) (j := j2) (nor_t h3)]
              rfl
            · have hf : (x.getD j2 default).fl = (l.getD g default).fl := by have h4 := h3; simp only [Bool.not_eq_false', beq_iff_eq] at h4; exact h4
              refine ⟨(c21 r hS.t hS.s), ((c32 l hS.k).un), (c56x hS hk (ex_one he0 (getD_mem hlt2)) (hX.2 _ (getD_mem hlt2)).1 (hX.2 _ (getD_mem hlt2)).2), fun h => h, fun h => h, fun h => h, fun h => h, fun h => h, fun h => h, fun h => h, fun h => h, fun h => h, fun h => h, fun h => h, ?_, fun h => h, fun h => h, fun h => h, fun h => h, fun h => h, fun h => h, fun _ => by unfold In64; omega, fun h => h, fun h => h, fun h => h, ?_, fun h => h, impB_iff.2 fun hb => (c72a _ _ hS.s), congrArg AV.bool (lit25 (wx_hit hdis hlt hf)), (by unfold In64; omega), ⟨(g, j2 + 1), ⟨by omega, by omega⟩, rfl, (by (try dsimp only); omega), ?_⟩⟩
              · intro a b
                rw [a, b]
                rfl
              · intro a b
                rw [a, b]
                rfl
              · dsimp only
                rw [wd_hit he0 hlt2 hf, wx_hit hdis hlt hf]
                rfl
          · have hge2 : j2 = x.length := by have h9 := of_decide_eq_false hd2; have h8 := hg2; (try simp only [List.length_map] at h8); (try simp only [List.length_map] at h9); omega
            subst hge2
            refine ⟨fun h => h, fun h => by first | exact h | (rw [h]; rfl) | simp_all, fun h3 => ?_, fun h3 => ?_⟩
            · have ho := one_out (r := r) (x := x) (m := l.getD g default) h3
              have hkk := k_no hlt ho
              refine ⟨(by unfold In64; omega), ⟨g + 1, by omega, by omega, ?_⟩⟩
              · rw [hkk.1, hkk.2]
                rfl
            · have ho := one_in (r := r) (x := x) (m := l.getD g default) h3
              have hkk := k_one hlt ho
              have hca := ca_at hlt ho
              refine ⟨(by omega), (by omega), congrArg AV.bool (decide_eq_false (by omega)), congrArg AV.agg (row_at encCs (by rw [Int.toNat_natCast]; exact hca.1)), ?_, (by unfold In64; omega), (by unfold In64; omega), (by unfold In64; omega), ⟨g + 1, by omega, by omega, ?_⟩⟩
              · rw [Int.toNat_natCast, hca.2]
                simp
              · rw [hkk.1, hkk.2]
                rfl
      · have hge : g = l.length := by have h9 := of_decide_eq_false hd; have h8 := hg; (try simp only [List.length_map] at h8); (try simp only [List.length_map] at h9); omega
        subst hge
        refine ⟨?_, ⟨⟨0, by omega, (by rw [show sN r l x l.length - smF (bill r l x) 0 (airN l l.length) 0 = sN r l x l.length from Int.sub_zero _]; rfl)⟩, fun g hg2 => ⟨fun hd2 => ?_, fun hd2 => ?_⟩⟩⟩
        · rw [kN_all, List.length_map]
          exact congrArg AV.bool (by simp)
        · have hlt2 : g < (airN l l.length).length := by have h9 := of_decide_eq_true hd2; have h8 := hg2; (try simp only [List.length_map] at h8); (try simp only [List.length_map] at h9); omega
          try rw [show (↑g : Int).toNat = g from Int.toNat_natCast g]
          refine ⟨(by omega), (by omega), congrArg (fun r => nth r 0) (row_at encS hlt2), (c21 r hS.t hS.s), ((c32 l hS.k).un), ((c48 x hX.1).un), (c49v hO (nm_air hM0 (getD_mem hlt2))), (by have q1 := bl_bd x hM0 hlk g (by omega); have q2 := bill_bd x hM0 hlk ((airN l l.length).getD g []); have q3 := sN_bd x hV hfi (i := l.length) (by omega); have q4 := (air_ok l l.length).2.2.1; unfold In64; omega), (by unfold In64; omega), ⟨g + 1, by omega, by omega, ?_⟩⟩
          · rw [Int.sub_sub]
            rfl
        · have hge2 : g = (airN l l.length).length := by have h9 := of_decide_eq_false hd2; have h8 := hg2; (try simp only [List.length_map] at h8); (try simp only [List.length_map] at h9); omega
          subst hge2
          refine ⟨?_, fun h => h, fun h => h, fun h => h, fun h => by first | exact h | (rw [h]; rfl) | simp_all, fun h2 => rfl, fun h2 => ?_⟩
          · have hb := bills_all (r := r) (x := x) hdis
            have e : sN r l x l.length - smF (bill r l x) 0 (airN l l.length) (airN l l.length).length = 0 := by
              unfold sN
              rw [kN_all]
              have hb2 : smF (bill r l x) 0 (airN l l.length) (airN l l.length).length = smF (rFe r) 0 l l.length + r.fi * ((caL r l x).length : Int) := hb
              rw [hb2]
              omega
            rw [e]
            rfl
          · obtain ⟨hq1, hq2⟩ := or_f h2
            have hq1 : ¬ ((List.map encMv l).length : Int) = 0 := by simpa only [beq_eq_false_iff_ne, ne_eq] using hq1
            have hq2 : ¬ ((List.map encS r.rs).length : Int) = 0 := by simpa only [beq_eq_false_iff_ne, ne_eq] using hq2
            have hrm : (List.map encS r.rs).length = r.rs.length := List.length_map _
            have ht0 : 0 ≤ n0.tmod ((List.map encMv l).length : Int) ∧ n0.tmod ((List.map encMv l).length : Int) < ((List.map encMv l).length : Int) := ⟨Int.tmod_nonneg _ hn0.1, Int.tmod_lt_of_pos _ (by omega)⟩
            have ht1 : 0 ≤ n1.tmod ((List.map encS r.rs).length : Int) ∧ n1.tmod ((List.map encS r.rs).length : Int) < ((List.map encS r.rs).length : Int) := ⟨Int.tmod_nonneg _ hn1.1, Int.tmod_lt_of_pos _ (by omega)⟩
            have ht2 : 0 ≤ n2.tmod 8 ∧ n2.tmod 8 < 8 := ⟨Int.tmod_nonneg _ hn2.1, Int.tmod_lt_of_pos _ (by omega)⟩
            have t1 : (n0.tmod (l.length : Int)).toNat < l.length := by have h := ht0; rw [List.length_map] at h; omega
            have t2 : (n1.tmod (r.rs.length : Int)).toNat < r.rs.length := by have h := ht1; rw [List.length_map] at h; omega
            have hm0 : M0 l n0 ∈ l := getD_mem t1
            have hr1 : R0 r n1 ∈ r.rs := getD_mem t2
            have hk8 : (n2.tmod 8).toNat < 8 := by omega
            have hf0 : fiN (pM l (M0 l n0).fl) l.length < l.length := fi_ex (p := pM l (M0 l n0).fl) t1 (by unfold pM; exact beq_self_eq_true _)
            have hna := (al_name hM0 hm0).2
            have hnr := re_name hR0 hr1
            have hmd0 := (hV.2 _ hm0).d
            have hnl := nm_len hna
            have hrl := nm_len hnr
            have hex0 : exR r l [gdX r (M0 l n0) (R0 r n1)] = 0 := ex_mk hM0 hf0 hnr (by show 0 ≤ (M0 l n0).day ∧ (M0 l n0).day ≤ 100000; omega)
            have hex1 : exR r l [bdX r (M0 l n0) (R0 r n1) (n2.tmod 8).toNat] = 0 := ex_mk hM0 hf0 hnr (by show 0 ≤ (M0 l n0).day ∧ (M0 l n0).day ≤ 100000; omega)
            have hg24 : (gdX r (M0 l n0) (R0 r n1)).fl.length ≤ 400 ∧ (gdX r (M0 l n0) (R0 r n1)).re.length ≤ 400 := ⟨by show (M0 l n0).fl.length ≤ 400; omega, by show (R0 r n1).length ≤ 400; omega⟩
            have hb24 : (bdX r (M0 l n0) (R0 r n1) (n2.tmod 8).toNat).fl.length ≤ 400 ∧ (bdX r (M0 l n0) (R0 r n1) (n2.tmod 8).toNat).re.length ≤ 400 := ⟨by show (M0 l n0).fl.length ≤ 400; omega, by show (R0 r n1).length ≤ 400; omega⟩
            refine ⟨(by omega), (by omega), (by omega), (by omega), (by omega), (by omega), (by omega), (by omega), (by omega), (by omega), congrArg AV.i (wrap_in (by unfold In64; omega)), ?_, congrArg AV.i (wrap_in (by unfold In64; omega)), ?_, (c21 r hS.t hS.s), (c57v hS hk hR0 hna hnr), (c21 r hS.t hS.s), ((c32 l hS.k).un), (c56x (y := gdX r (M0 l n0) (R0 r n1)) hS hk hex0 hg24.1 hg24.2), ?_, (by omega), (by omega), (by omega), (by omega), (by omega), (by omega), (by omega), (by omega), (by omega), (by omega), (by omega), (by omega), nth_gd _ _ _ hk8, (c21 r hS.t hS.s), ((c32 l hS.k).un), (c56x (y := bdX r (M0 l n0) (R0 r n1) (n2.tmod 8).toNat) hS hk hex1 hb24.1 hb24.2), ?_, ⟨⟨0, by omega, rfl⟩, fun g hg3 => ⟨fun hd3 => ?_, fun hd3 => ?_⟩⟩⟩
            · rw [List.length_map, row_at encMv t1]
              rfl
            · rw [List.length_map, row_at encS t2]
              rfl
            · exact congrArg (fun b => AV.bool (!(b == []))) (word_good hdis hdl.1 t1 hr1)
            · exact (congrArg (fun b => AV.bool (!(b == W3))) (word_bad hk hdis hdl.1 t1 hr1 hk8)).trans (by rw [beq_self_eq_true]; rfl)
            · have hlt3 : g < l.length := by have h9 := of_decide_eq_true hd3; have h8 := hg3; (try simp only [List.length_map] at h8); (try simp only [List.length_map] at h9); omega
              try rw [show (↑g : Int).toNat = g from Int.toNat_natCast g]
              exact ⟨(by omega), (by omega), congrArg AV.agg (row_at encMv hlt3), (c21 r hS.t hS.s), (c57v hS hk hR0 (al_name hM0 (getD_mem hlt3)).2 hnr), fun h => h, fun h => h, fun h => h, fun h => h, fun h => h, fun h => h, fun h => h, fun h => h, fun h => h, impB_iff.2 fun hb => (c73 _ _ (by have h9 := hb; simp only [beq_iff_eq] at h9; omega) (by have := nm_len (al_name hM0 (getD_mem hlt3)).2; omega)), impB_iff.2 fun hb => rfl, congrArg AV.bool (evQ_ap hk (a := (l.getD g default).fl) (b := (M0 l n0).fl) (c := R0 r n1)), (by unfold In64; omega), ⟨g + 1, by omega, by omega, rfl⟩⟩
            · have hge3 : g = l.length := by have h9 := of_decide_eq_false hd3; have h8 := hg3; (try simp only [List.length_map] at h8); (try simp only [List.length_map] at h9); omega
              subst hge3
              exact rfl
  exact c_of Tryz.f10 (B10 r l x n0 n1 n2 (M0 l n0) (R0 r n1)) (by kernel_rfl) (by kernel_rfl) (by kernel_rfl) (by kernel_rfl) key (by kernel_rfl)
end Go.Proofs.YtimgfogakgakhaaGreatDoor
namespace Go.Proofs.YtimgfogakgakhaaGreatDoor
open Go Go.Av Go.RowKit Go.ChangeShapes Go.WideShapes
theorem jp0_10 : (Rows.nightEscapesRow.inPlace == Tryz.prog.inPlace 10) = true := by kernel_rfl
theorem jp1_10 : (Rows.nightEscapesRow.unfollowed == Tryz.prog.unfollowed 10) = true := by kernel_rfl
theorem jp2_10 : (Rows.nightEscapesRow.recurses == Tryz.prog.recurses 10) = true := by kernel_rfl
theorem jp3_10 : (Rows.nightEscapesRow.named == Tryz.prog.varsNamed 10) = true := by kernel_rfl
theorem jfacts_10 : joinedFacts Tryz.prog 10 Tryz.f10 Rows.nightEscapesSpec Rows.nightEscapesRow = true := by
  unfold joinedFacts
  rw [jp0_10, jp1_10, jp2_10, jp3_10]
  kernel_rfl
end Go.Proofs.YtimgfogakgakhaaGreatDoor
