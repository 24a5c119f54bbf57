/-
  What the small functions of chapter 7 return. The balance of a fund: contracts. The arguments of chapter 8's statements, and the way from a contract of a statement to its row. HomeFunds returns true. No condition but the theorems' own.
-/
import Derived.Test.YtfoeefaamjknpaaGreatDoorPA
import Derived.Test.YtfoeefaamjknpaaGreatDoorAvD
import Derived.Test.YtfoeefaamjknpaaGreatDoorCards
import Derived.Test.YtfoeefaamjknpaaGreatDoorTie
import Derived.LaidMore
import Derived.LaidOnce
import Derived.Lay
import Derived.Stop.Joined
import Derived.SevenTiedAt
namespace Go.Proofs.YtfoeefaamjknpaaGreatDoor
open Go Go.Av Go.RowKit
def sWhen (b : Bool) (e : Int) : Int := if b then e else 0
def sFirst : List Int → Int
  | [] => 0
  | x :: l => if x ≠ 0 then x else sFirst l
def sWithin (x lo hi : Int) : Int := sWhen (if decide (x < lo) then true else decide (x > hi)) 3
def hdI (l : List AV) : Int := match l with
  | [.int _ n] => n
  | _ => 0
def rInt (l : List Int) : List (List AV) := l.map fun x => [.i x]
def spI : Nat → List AV → Option AV := fun _ _ => none
def spA : Nat → List AV → Option AV
  | 116, [.bool b, .int _ e] => some (.i (sWhen b e))
  | 109, [.bool b, .int _ e] => some (.i (sWhen b e))
  | 104, [.sl _ rows] => some (.i (sFirst (rows.map hdI)))
  | 107, [.sl _ rows] => some (.i (sFirst (rows.map hdI)))
  | 118, [.int _ x, .int _ lo, .int _ hi] => some (.i (sWithin x lo hi))
  | 81, [.int _ x, .int _ lo, .int _ hi] => some (.i (sWithin x lo hi))
  | n, x => spI n x
theorem rInt_len (es : List Int) : (rInt es).length = es.length := by simp [rInt]
theorem rInt_at {es : List Int} {i : Nat} (h : i < es.length) : nthR (rInt es) i = [.i (es.getD i 0)] := by
  simp [nthR, rInt, List.getD_eq_getElem?_getD, h]
theorem first_drop (es : List Int) : ∀ (i : Nat), (∀ k, k < i → es.getD k 0 = 0) → i ≤ es.length → sFirst es = sFirst (es.drop i) := by
  intro i
  induction i with
  | zero => intros; rfl
  | succ i ih =>
    intro h hl
    rw [ih (fun k hk => h k (by omega)) (by omega)]
    have := h i (by omega)
    rw [List.drop_eq_getElem_cons (show i < es.length by omega)]
    rw [List.getD_eq_getElem?_getD, List.getElem?_eq_getElem (show i < es.length by omega)] at this
    simp at this
    simp [sFirst, this]
theorem first_hit {es : List Int} {i : Nat} (h : i < es.length) (h0 : ∀ k, k < i → es.getD k 0 = 0) (hne : es.getD i 0 ≠ 0) : sFirst es = es.getD i 0 := by
  rw [first_drop es i h0 (by omega), List.drop_eq_getElem_cons h]
  simp [List.getD_eq_getElem?_getD, h] at hne
  simp [sFirst, hne, List.getD_eq_getElem?_getD, h]
theorem first_end {es : List Int} (h0 : ∀ k, k < es.length → es.getD k 0 = 0) : sFirst es = 0 := by
  rw [first_drop es es.length h0 (Nat.le_refl _)]
  simp [sFirst]
theorem c116 (b : Bool) (e : Int)  : PCall Tryz.prog G0 116 [.bool b, .i e] (.i (sWhen b e)) := by
  have key :
   (b = true → AV.i e = AV.i (sWhen b e)) ∧ (b = false → AV.i 0 = AV.i (sWhen b e)) := by
    exact ⟨fun h => by simp [sWhen, h], fun h => by simp [sWhen, h]⟩
  exact c_of Tryz.f116 (mkB spA 116 [] noLa) (by kernel_rfl) (by kernel_rfl) (by kernel_rfl) (by kernel_rfl) key (by kernel_rfl)
theorem c109 (b : Bool) (e : Int)  : PCall Tryz.prog G0 109 [.bool b, .i e] (.i (sWhen b e)) := by
  have key :
   (b = true → AV.i e = AV.i (sWhen b e)) ∧ (b = false → AV.i 0 = AV.i (sWhen b e)) := by
    exact ⟨fun h => by simp [sWhen, h], fun h => by simp [sWhen, h]⟩
  exact c_of Tryz.f109 (mkB spA 109 [] noLa) (by kernel_rfl) (by kernel_rfl) (by kernel_rfl) (by kernel_rfl) key (by kernel_rfl)
theorem c118 (x lo hi : Int)  : PCall Tryz.prog G0 118 [.i x, .i lo, .i hi] (.i (sWithin x lo hi)) := by
  have key :
   ((!decide (x < lo)) = true → (!decide (x < lo)) = true) ∧ ((!decide (x < lo)) = true → (!decide (x < lo)) = true) ∧ (decide (x < lo) = false → (!decide (x < lo)) = true) ∧ PCall Tryz.prog G0 116 [AV.bool (if decide (x < lo) = true
   then true else decide (x > hi)), AV.i 3] (AV.i (sWhen (if decide (x < lo) = true then true else decide (x > hi)) (3 : Int))) ∧ AV.i (sWhen (if decide (x < lo) = true then true else decide (x > hi)) (3 : Int)) = AV.i (sWithin x lo
   hi) := by
    exact ⟨fun h => h, fun h => h, fun h => by simp [h], c116 _ _, rfl⟩
  exact c_of Tryz.f118 (mkB spA 118 [] noLa) (by kernel_rfl) (by kernel_rfl) (by kernel_rfl) (by kernel_rfl) key (by kernel_rfl)
theorem c81 (x lo hi : Int)  : PCall Tryz.prog G0 81 [.i x, .i lo, .i hi] (.i (sWithin x lo hi)) := by
  have key :
   ((!decide (x < lo)) = true → (!decide (x < lo)) = true) ∧ ((!decide (x < lo)) = true → (!decide (x < lo)) = true) ∧ (decide (x < lo) = false → (!decide (x < lo)) = true) ∧ PCall Tryz.prog G0 109 [AV.bool (if decide (x < lo) = true
   then true else decide (x > hi)), AV.i 3] (AV.i (sWhen (if decide (x < lo) = true then true else decide (x > hi)) (3 : Int))) ∧ AV.i (sWhen (if decide (x < lo) = true then true else decide (x > hi)) (3 : Int)) = AV.i (sWithin x lo
   hi) := by
    exact ⟨fun h => h, fun h => h, fun h => by simp [h], c109 _ _, rfl⟩
  exact c_of Tryz.f81 (mkB spA 81 [] noLa) (by kernel_rfl) (by kernel_rfl) (by kernel_rfl) (by kernel_rfl) key (by kernel_rfl)
def la104 (es : List Int) : LA := {
  pre := [.keep [0, 5, 6, 7] [], .bound 1], post := [.keep [0, 5, 6, 7] [], .bound 1]
  Gh := Nat
  st := fun i => ⟨[(0, .sl 1 (rInt es)), (5, .sl 1 (rInt es)), (6, .i es.length), (7, .i i)], [], 1⟩
  ok := fun i => i ≤ es.length ∧ ∀ k, k < i → es.getD k 0 = 0
  ms := fun i => es.length - i }
def la107 (es : List Int) : LA := {
  pre := [.keep [0, 3] [], .bound 1], post := [.keep [0, 3] [], .bound 1]
  Gh := Nat
  st := fun i => ⟨[(0, .sl 1 (rInt es)), (3, .i i)], [], 1⟩
  ok := fun i => i ≤ es.length ∧ ∀ k, k < i → es.getD k 0 = 0
  ms := fun i => es.length - i }
def rdI (es : List Int) : List AV → Option AV
  | [.elt _ _ i _] => some (.i (es.getD i 0))
  | _ => none
theorem c104 (es : List Int) (hl : es.length ≤ 1000000) : PCall Tryz.prog G0 104 [.sl 1 (rInt es)] (.i (sFirst es)) := by
  have key :
   (∃ (g : Nat), (g ≤ es.length ∧ ∀ (k : Nat), k < g → es.getD k (0 : Int) = (0 : Int)) ∧ AS.mk [(0, AV.sl 1 (rInt es)), (5, AV.sl 1 (rInt es)), (6, AV.i (↑(rInt es).length : Int)), (7, AV.i 0)] [] 1 = AS.mk [(0, AV.sl 1 (rInt es)),
   (5, AV.sl 1 (rInt es)), (6, AV.i (↑es.length : Int)), (7, AV.i (↑g : Int))] [] 1) ∧ ∀ (g : Nat), (g ≤ es.length ∧ ∀ (k : Nat), k < g → es.getD k (0 : Int) = (0 : Int)) → (decide ((↑g : Int) < (↑es.length : Int)) = true → (0 : Int)
   ≤ (↑g : Int) ∧ (↑g : Int) < (↑(rInt es).length : Int) ∧ nth (nthR (rInt es) (↑g : Int).toNat) 0 = AV.i (es.getD (↑g : Int).toNat (0 : Int)) ∧ ((es.getD (↑g : Int).toNat (0 : Int) != 0) = true → AV.i (es.getD (↑g : Int).toNat (0 :
   Int)) = AV.i (sFirst es)) ∧ ((es.getD (↑g : Int).toNat (0 : Int) != 0) = false → In64 ((↑g : Int) + 1) ∧ ∃ (g' : Nat), (g' ≤ es.length ∧ ∀ (k : Nat), k < g' → es.getD k (0 : Int) = (0 : Int)) ∧ es.length - g' < es.length - g ∧
   AS.mk [(0, AV.sl 1 (rInt es)), (5, AV.sl 1 (rInt es)), (6, AV.i (↑es.length : Int)), (7, AV.i ((↑g : Int) + 1))] [] 1 = AS.mk [(0, AV.sl 1 (rInt es)), (5, AV.sl 1 (rInt es)), (6, AV.i (↑es.length : Int)), (7, AV.i (↑g' : Int))] []
   1)) ∧ (decide ((↑g : Int) < (↑es.length : Int)) = false → AV.i 0 = AV.i (sFirst es)) := by
    refine ⟨⟨0, ⟨by omega, by intros; omega⟩, by simp [rInt_len]⟩, fun g ⟨h1, h2⟩ => ⟨fun hd => ?_, fun hd => ?_⟩⟩
    · have hlt : g < es.length := by simpa using hd
      refine ⟨by omega, by rw [rInt_len]; omega, by simp [rInt_at hlt, nth], fun hne => ?_, fun hz => ⟨?_, g + 1, ⟨hlt, fun k hk => ?_⟩, by omega, rfl⟩⟩
      · rw [first_hit hlt h2 (by simpa using hne)]; rfl
      · unfold In64; omega
      · by_cases e : k = g
        · subst e; simpa using hz
        · exact h2 k (by omega)
    · have hge : g = es.length := by simp at hd; omega
      rw [first_end (hge ▸ h2)]
  exact c_of Tryz.f104 (mkB spA 104 [(3, 1, rdI es)] (fun i => if i.beq 0 then some (la104 es) else none)) (by kernel_rfl) (by kernel_rfl) (by kernel_rfl) (by kernel_rfl) key (by kernel_rfl)
theorem c107 (es : List Int) (hl : es.length ≤ 1000000) : PCall Tryz.prog G0 107 [.sl 1 (rInt es)] (.i (sFirst es)) := by
  have key :
   (∃ (g : Nat), (g ≤ es.length ∧ ∀ (k : Nat), k < g → es.getD k (0 : Int) = (0 : Int)) ∧ AS.mk [(0, AV.sl 1 (rInt es)), (3, AV.i 0)] [] 1 = AS.mk [(0, AV.sl 1 (rInt es)), (3, AV.i (↑g : Int))] [] 1) ∧ ∀ (g : Nat), (g ≤ es.length ∧ ∀
   (k : Nat), k < g → es.getD k (0 : Int) = (0 : Int)) → (decide ((↑g : Int) < (↑(rInt es).length : Int)) = true → (0 : Int) ≤ (↑g : Int) ∧ (↑g : Int) < (↑(rInt es).length : Int) ∧ nth (nthR (rInt es) (↑g : Int).toNat) 0 = AV.i
   (es.getD (↑g : Int).toNat (0 : Int)) ∧ ((es.getD (↑g : Int).toNat (0 : Int) != 0) = true → (0 : Int) ≤ (↑g : Int) ∧ (↑g : Int) < (↑(rInt es).length : Int) ∧ nth (nthR (rInt es) (↑g : Int).toNat) 0 = AV.i (es.getD (↑g : Int).toNat
   (0 : Int)) ∧ AV.i (es.getD (↑g : Int).toNat (0 : Int)) = AV.i (sFirst es)) ∧ ((es.getD (↑g : Int).toNat (0 : Int) != 0) = false → In64 ((↑g : Int) + 1) ∧ ∃ (g' : Nat), (g' ≤ es.length ∧ ∀ (k : Nat), k < g' → es.getD k (0 : Int) =
   (0 : Int)) ∧ es.length - g' < es.length - g ∧ AS.mk [(0, AV.sl 1 (rInt es)), (3, AV.i ((↑g : Int) + 1))] [] 1 = AS.mk [(0, AV.sl 1 (rInt es)), (3, AV.i (↑g' : Int))] [] 1)) ∧ (decide ((↑g : Int) < (↑(rInt es).length : Int)) = false
   → AV.i 0 = AV.i (sFirst es)) := by
    refine ⟨⟨0, ⟨by omega, by intros; omega⟩, by simp⟩, fun g ⟨h1, h2⟩ => ⟨fun hd => ?_, fun hd => ?_⟩⟩
    · have hlt : g < es.length := by simpa [rInt_len] using hd
      refine ⟨by omega, by rw [rInt_len]; omega, by simp [rInt_at hlt, nth], fun hne => ?_, fun hz => ⟨?_, g + 1, ⟨hlt, fun k hk => ?_⟩, by omega, rfl⟩⟩
      · refine ⟨by omega, by rw [rInt_len]; omega, by simp [rInt_at hlt, nth], ?_⟩
        rw [first_hit hlt h2 (by simpa using hne)]; rfl
      · unfold In64; omega
      · by_cases e : k = g
        · subst e; simpa using hz
        · exact h2 k (by omega)
    · have hge : g = es.length := by simp [rInt_len] at hd; omega
      rw [first_end (hge ▸ h2)]
  exact c_of Tryz.f107 (mkB spA 107 [(4, 3, rdI es), (5, 3, rdI es)] (fun i => if i.beq 0 then some (la107 es) else none)) (by kernel_rfl) (by kernel_rfl) (by kernel_rfl) (by kernel_rfl) key (by kernel_rfl)
def rdL {α : Type} [Inhabited α] (k : Nat) (enc : α → List AV) (l : List α) (size : Nat) (agg : Bool) : List AV → Option AV
  | [.elt k' _ i j] => if k'.beq k then some (if agg then .agg (((enc (l.getD i default)).drop j).take size) else nth (enc (l.getD i default)) j) else none
  | _ => none
theorem row_at {α : Type} [Inhabited α] (enc : α → List AV) {l : List α} {i : Nat} (h : i < l.length) : nthR (l.map enc) i = enc (l.getD i default) := by
  simp [nthR, List.getD_eq_getElem?_getD, h]
def sScan (f : Nat → Int) (n : Nat) (fin : Int) : Int := sFirst ((List.range n).map f ++ [fin])
theorem scan_hit {f : Nat → Int} {n i : Nat} {fin : Int} (h : i < n) (h0 : ∀ k, k < i → f k = 0) (hne : f i ≠ 0) : sScan f n fin = f i := by
  have e : ∀ k, k < n → ((List.range n).map f ++ [fin]).getD k 0 = f k := fun k hk => by
    simp [List.getD_eq_getElem?_getD, List.getElem?_append, hk]
  rw [sScan, first_hit (i := i) (by simp; omega) (fun k hk => by rw [e k (by omega)]; exact h0 k hk) (by rw [e i h]; exact hne), e i h]
theorem scan_end {f : Nat → Int} {n : Nat} {fin : Int} (h0 : ∀ k, k < n → f k = 0) : sScan f n fin = fin := by
  have e : ∀ k, k < n → ((List.range n).map f ++ [fin]).getD k 0 = f k := fun k hk => by
    simp [List.getD_eq_getElem?_getD, List.getElem?_append, hk]
  rw [sScan, first_drop _ n (fun k hk => by rw [e k hk]; exact h0 k hk) (by simp), List.drop_left' (by simp)]
  simp [sFirst]
  intro h; exact h.symm
theorem bne_t {a : Int} (h : (a != 0) = true) : a ≠ 0 := by simpa using h
theorem bne_f {a : Int} (h : (a != 0) = false) : a = 0 := by simpa using h
theorem ge_of_dec {i n : Nat} (hi : decide ((i : Int) < (n : Int)) = false) (hle : i ≤ n) : i = n := by simp at hi; omega
theorem lt_of_dec {i n : Nat} (hi : decide ((i : Int) < (n : Int)) = true) : i < n := by simpa using hi
theorem within_zero {x lo hi : Int} : sWithin x lo hi = 0 ↔ lo ≤ x ∧ x ≤ hi := by
  unfold sWithin sWhen
  by_cases h1 : x < lo
  · simp [h1]; omega
  · by_cases h2 : x > hi
    · simp [h1, h2] <;> omega
    · simp [h1, h2] <;> omega
theorem first_zero {x : Int} {l : List Int} : sFirst (x :: l) = 0 ↔ x = 0 ∧ sFirst l = 0 := by
  by_cases h : x = 0
  · simp [sFirst, h]
  · simp [sFirst, h]
theorem take_succ {α : Type} [Inhabited α] (enc : α → List AV) {l : List α} {g : Nat} (h : g < l.length) : (l.take g).map enc ++ [enc (l.getD g default)] = (l.take (g + 1)).map enc := by
  rw [List.take_add_one, List.map_append]
  simp [List.getD_eq_getElem?_getD, h]
theorem scan_zero {f : Nat → Int} {n : Nat} {fin : Int} (h : sScan f n fin = 0) : (∀ k, k < n → f k = 0) ∧ fin = 0 := by
  have h1 : ∀ l : List Int, sFirst (l ++ [fin]) = 0 → (∀ x, x ∈ l → x = 0) ∧ fin = 0 := by
    intro l
    induction l with
    | nil => intro h; rw [List.nil_append, first_zero] at h; exact ⟨by simp, h.1⟩
    | cons x l ih =>
      intro h
      rw [List.cons_append, first_zero] at h
      obtain ⟨h2, h3⟩ := h
      have := ih h3
      exact ⟨fun y hy => by rcases List.mem_cons.1 hy with e | e; (· rw [e]; exact h2); (· exact this.1 y e), this.2⟩
  have := h1 _ h
  exact ⟨fun k hk => this.1 _ (List.mem_map.2 ⟨k, List.mem_range.2 hk, rfl⟩), this.2⟩
theorem when_z {b : Bool} {e : Int} (he : e ≠ 0) (h : sWhen b e = 0) : b = false := by
  cases b
  · rfl
  · exact absurd h (by simpa [sWhen] using he)
def setA (f : An → An) : Nat → List An → List An
  | 0, [] => [f {}]
  | 0, a :: l => f a :: l
  | n + 1, [] => {} :: setA f n []
  | n + 1, a :: l => a :: setA f n l
theorem take_succ_map {α β : Type} [Inhabited α] (enc : β → List AV) (f : α → β) {l : List α} {g : Nat} (h : g < l.length) : ((l.take g).map f).map enc ++ [enc (f (l.getD g default))] = ((l.take (g + 1)).map f).map enc := by
  rw [List.take_add_one, List.map_append, List.map_append]
  simp [List.getD_eq_getElem?_getD, h]
theorem dec_ascii {c : UInt8} (r : List UInt8) (h : c.toNat < 128) : dec (c :: r) = (c.toNat, 1) := by
  unfold dec Utf8.decode
  have : (({ data := (c :: r).toArray } : ByteArray).get! (0 + 0)).toNat = c.toNat := rfl
  simp only [this]
  rw [if_pos (by simpa using h)]
theorem dec_big {c : UInt8} (r : List UInt8) (h : ¬ c.toNat < 128) : 128 ≤ (dec (c :: r)).1 := by
  unfold dec Utf8.decode
  have : (({ data := (c :: r).toArray } : ByteArray).get! (0 + 0)).toNat = c.toNat := rfl
  simp only [this]
  rw [if_neg (by simpa using h)]
  repeat' split
  all_goals first
    | (simp only [Bool.and_eq_true, decide_eq_true_eq] at *; omega)
    | omega
    | (show 128 ≤ Utf8.runeError; decide)
def isLet (c : Nat) : Bool := decide (97 ≤ c ∧ c ≤ 122) || decide (65 ≤ c ∧ c ≤ 90)
def okB (first : Bool) (c : Nat) : Bool := isLet c || (!first && (decide (c = 95) || decide (48 ≤ c ∧ c ≤ 57)))
def allB (s : List UInt8) (n : Nat) : Bool := (List.range n).all fun i => okB (i == 0) (s.getD i 0).toNat
def sName (s : List UInt8) : Bool := allB s s.length && (!(s == []) && decide (s.length ≤ 24))
def cutA (ts ids : List Nat) (n t : Nat) (f : AS → AV) : AS → AS := fun S => ⟨pickL ((t, f S) :: delL t S.s) ts, pickL S.b ids, n⟩
def onI (x : Option AV) (f : Int → AV) : AV := match x with
  | some (.int _ n) => f n
  | _ => .any
def isLetI (n : Int) : Bool := decide (97 ≤ n ∧ n ≤ 122) || decide (65 ≤ n ∧ n ≤ 90)
def isDigU (n : Int) : Bool := decide (48 ≤ n ∧ n ≤ 57) || decide (n = 95)
theorem all_fail {s : List UInt8} {g : Nat} (h : g < s.length) (hf : okB (g == 0) (s.getD g 0).toNat = false) : sName s = false := by
  have : allB s s.length = false := List.all_eq_false.2 ⟨g, by simpa using h, by rw [hf]; decide⟩
  rw [sName, this]
  rfl
theorem all_next {s : List UInt8} {g : Nat} (ha : allB s g = true) (hf : okB (g == 0) (s.getD g 0).toNat = true) : allB s (g + 1) = true := by
  unfold allB at ha ⊢
  rw [List.range_succ, List.all_append, ha]
  simp only [List.all_cons, List.all_nil, hf, Bool.and_self]
theorem okB_I (b : Bool) (c : Nat) : okB b c = (isLetI (c : Int) || (!b && isDigU (c : Int))) := by
  have e1 : isLet c = isLetI (c : Int) := by
    unfold isLet isLetI
    congr 1 <;> (apply decide_eq_decide.2; omega)
  have e2 : (decide (c = 95) || decide (48 ≤ c ∧ c ≤ 57)) = isDigU (c : Int) := by
    unfold isDigU
    rw [Bool.or_comm]
    congr 1 <;> (apply decide_eq_decide.2; omega)
  rw [okB, e1, e2]
theorem okB_big (b : Bool) {c : Nat} (h : 128 ≤ c) : okB b c = false := by
  rw [okB_I]
  have e1 : isLetI (c : Int) = false := by
    simp only [isLetI, Bool.or_eq_false_iff, decide_eq_false_iff_not]
    omega
  have e2 : isDigU (c : Int) = false := by
    simp only [isDigU, Bool.or_eq_false_iff, decide_eq_false_iff_not]
    omega
  rw [e1, e2]
  simp
theorem dec_ok (b : Bool) (c : UInt8) (r : List UInt8) : okB b (dec (c :: r)).1 = okB b c.toNat ∧ (okB b c.toNat = true → (dec (c :: r)).2 = 1) := by
  by_cases h : c.toNat < 128
  · rw [dec_ascii r h]
    exact ⟨rfl, fun _ => rfl⟩
  · have h1 := okB_big b (dec_big r h)
    have h2 := okB_big b (show 128 ≤ c.toNat by omega)
    rw [h1, h2]
    exact ⟨rfl, fun h => by cases h⟩
def spP : Nat → List AV → Option AV := spA
def la117 (s : List UInt8) : LA := {
  pre := [.keep [0, 7] [3], .bound 4], post := [.keep [0, 7] [3], .bound 4]
  Gh := Nat
  st := fun i => ⟨[(0, .str s), (7, .ref 3)], [(3, .iter (s.drop i) i)], 4⟩
  ok := fun i => i ≤ s.length ∧ allB s i = true
  ms := fun i => s.length - i
  it := some 3 }
def B117 (s : List UInt8) : BA := { mkB spP 117 [] (fun i => if i.beq 0 then some (la117 s) else none) with
  split := fun i => if i.beq 4 then 1 else if i.beq 5 then 1 else 0
  gs := fun i => if i.beq 4 then [.keep [0, 3, 4, 5, 7] [3], .bound 4] else if i.beq 5 then [.keep [0, 3, 4, 5, 7, 43] [3], .bound 4] else []
  cut := fun i => if i.beq 4 then some (cutA [0, 3, 4, 5, 7] [3] 4 5 fun S => onI (slotF S 4) fun n => .bool (isLetI n)) else none }
theorem c117 (s : List UInt8) (hs : s.length ≤ 1000000) : PCall Tryz.prog G0 117 [.str s] (.bool (sName s)) := by
  have key :
   (∃ (g : Nat), (g ≤ s.length ∧ allB s g = true) ∧ AS.mk [(0, AV.str s), (7, AV.ref 3)] [(3, ABlk.iter s 0)] 4 = AS.mk [(0, AV.str s), (7, AV.ref 3)] [(3, ABlk.iter (List.drop g s) g)] 4) ∧ ∀ (g : Nat), g ≤ s.length ∧ allB s g = true
   → (∀ (c : UInt8) (r : List UInt8), List.drop g s = c :: r → (true = true → ((decide ((↑(dec (c :: r)).fst : Int) ≥ 97) = true → (decide ((↑(dec (c :: r)).fst : Int) ≤ 122) = true → (true = false → false = true) ∧ AV.bool (decide
   ((↑(dec (c :: r)).fst : Int) ≥ 97)) = AV.bool true ∧ AV.bool (decide ((↑(dec (c :: r)).fst : Int) ≤ 122)) = AV.bool true ∧ AS.mk [(0, AV.str s), (3, AV.i (↑g : Int)), (4, AV.int IntKind.i32 (↑(dec (c :: r)).fst : Int)), (5, AV.bool
   true), (7, AV.ref 3)] [(3, ABlk.iter (List.drop (dec (c :: r)).snd (c :: r)) (g + (dec (c :: r)).snd))] 4 = AS.mk [(0, AV.str s), (3, AV.i (↑g : Int)), (4, AV.int IntKind.i32 (↑(dec (c :: r)).fst : Int)), (5, AV.bool (isLetI (↑(dec
   (c :: r)).fst : Int))), (7, AV.ref 3)] [(3, ABlk.iter (List.drop (dec (c :: r)).snd (c :: r)) (g + (dec (c :: r)).snd))] 4) ∧ (decide ((↑(dec (c :: r)).fst : Int) ≤ 122) = false → (decide ((↑(dec (c :: r)).fst : Int) ≥ 65) = true →
   AV.bool (decide ((↑(dec (c :: r)).fst : Int) ≥ 97)) = AV.bool true ∧ AV.bool (decide ((↑(dec (c :: r)).fst : Int) ≤ 122)) = AV.bool false ∧ AV.bool (decide ((↑(dec (c :: r)).fst : Int) ≥ 65)) = AV.bool true ∧ AS.mk [(0, AV.str s),
   (3, AV.i (↑g : Int)), (4, AV.int IntKind.i32 (↑(dec (c :: r)).fst : Int)), (5, AV.bool (decide ((↑(dec (c :: r)).fst : Int) ≤ 90))), (7, AV.ref 3)] [(3, ABlk.iter (List.drop (dec (c :: r)).snd (c :: r)) (g + (dec (c :: r)).snd))] 4
   = AS.mk [(0, AV.str s), (3, AV.i (↑g : Int)), (4, AV.int IntKind.i32 (↑(dec (c :: r)).fst : Int)), (5, AV.bool (isLetI (↑(dec (c :: r)).fst : Int))), (7, AV.ref 3)] [(3, ABlk.iter (List.drop (dec (c :: r)).snd (c :: r)) (g + (dec
   (c :: r)).snd))] 4) ∧ (decide ((↑(dec (c :: r)).fst : Int) ≥ 65) = false → (false = true → false = true) ∧ AV.bool (decide ((↑(dec (c :: r)).fst : Int) ≥ 97)) = AV.bool true ∧ AV.bool (decide ((↑(dec (c :: r)).fst : Int) ≤ 122)) =
   AV.bool false ∧ AV.bool (decide ((↑(dec (c :: r)).fst : Int) ≥ 65)) = AV.bool false ∧ AS.mk [(0, AV.str s), (3, AV.i (↑g : Int)), (4, AV.int IntKind.i32 (↑(dec (c :: r)).fst : Int)), (5, AV.bool false), (7, AV.ref 3)] [(3,
   ABlk.iter (List.drop (dec (c :: r)).snd (c :: r)) (g + (dec (c :: r)).snd))] 4 = AS.mk [(0, AV.str s), (3, AV.i (↑g : Int)), (4, AV.int IntKind.i32 (↑(dec (c :: r)).fst : Int)), (5, AV.bool (isLetI (↑(dec (c :: r)).fst : Int))),
   (7, AV.ref 3)] [(3, ABlk.iter (List.drop (dec (c :: r)).snd (c :: r)) (g + (dec (c :: r)).snd))] 4))) ∧ (decide ((↑(dec (c :: r)).fst : Int) ≥ 97) = false → (false = true → (false = true → false = true) ∧ (true = false → false =
   true) ∧ AV.bool (decide ((↑(dec (c :: r)).fst : Int) ≥ 97)) = AV.bool false ∧ AV.bool false = AV.bool true ∧ AS.mk [(0, AV.str s), (3, AV.i (↑g : Int)), (4, AV.int IntKind.i32 (↑(dec (c :: r)).fst : Int)), (5, AV.bool true), (7,
   AV.ref 3)] [(3, ABlk.iter (List.drop (dec (c :: r)).snd (c :: r)) (g + (dec (c :: r)).snd))] 4 = AS.mk [(0, AV.str s), (3, AV.i (↑g : Int)), (4, AV.int IntKind.i32 (↑(dec (c :: r)).fst : Int)), (5, AV.bool (isLetI (↑(dec (c ::
   r)).fst : Int))), (7, AV.ref 3)] [(3, ABlk.iter (List.drop (dec (c :: r)).snd (c :: r)) (g + (dec (c :: r)).snd))] 4) ∧ (false = false → (decide ((↑(dec (c :: r)).fst : Int) ≥ 65) = true → (false = true → false = true) ∧ AV.bool
   (decide ((↑(dec (c :: r)).fst : Int) ≥ 97)) = AV.bool false ∧ AV.bool false = AV.bool false ∧ AV.bool (decide ((↑(dec (c :: r)).fst : Int) ≥ 65)) = AV.bool true ∧ AS.mk [(0, AV.str s), (3, AV.i (↑g : Int)), (4, AV.int IntKind.i32
   (↑(dec (c :: r)).fst : Int)), (5, AV.bool (decide ((↑(dec (c :: r)).fst : Int) ≤ 90))), (7, AV.ref 3)] [(3, ABlk.iter (List.drop (dec (c :: r)).snd (c :: r)) (g + (dec (c :: r)).snd))] 4 = AS.mk [(0, AV.str s), (3, AV.i (↑g :
   Int)), (4, AV.int IntKind.i32 (↑(dec (c :: r)).fst : Int)), (5, AV.bool (isLetI (↑(dec (c :: r)).fst : Int))), (7, AV.ref 3)] [(3, ABlk.iter (List.drop (dec (c :: r)).snd (c :: r)) (g + (dec (c :: r)).snd))] 4) ∧ (decide ((↑(dec (c
   :: r)).fst : Int) ≥ 65) = false → (false = true → false = true) ∧ (false = true → false = true) ∧ AV.bool (decide ((↑(dec (c :: r)).fst : Int) ≥ 97)) = AV.bool false ∧ AV.bool false = AV.bool false ∧ AV.bool (decide ((↑(dec (c ::
   r)).fst : Int) ≥ 65)) = AV.bool false ∧ AS.mk [(0, AV.str s), (3, AV.i (↑g : Int)), (4, AV.int IntKind.i32 (↑(dec (c :: r)).fst : Int)), (5, AV.bool false), (7, AV.ref 3)] [(3, ABlk.iter (List.drop (dec (c :: r)).snd (c :: r)) (g +
   (dec (c :: r)).snd))] 4 = AS.mk [(0, AV.str s), (3, AV.i (↑g : Int)), (4, AV.int IntKind.i32 (↑(dec (c :: r)).fst : Int)), (5, AV.bool (isLetI (↑(dec (c :: r)).fst : Int))), (7, AV.ref 3)] [(3, ABlk.iter (List.drop (dec (c ::
   r)).snd (c :: r)) (g + (dec (c :: r)).snd))] 4)))) ∧ ((!isLetI (↑(dec (c :: r)).fst : Int)) = true → (((↑g : Int) == 0) = true → (true = false → false = true) ∧ (AV.bool !isLetI (↑(dec (c :: r)).fst : Int)) = AV.bool true ∧ AV.bool
   ((↑g : Int) == 0) = AV.bool true ∧ (true = true → AV.bool false = AV.bool (sName s)) ∧ (true = false → ∃ (g' : Nat), (g' ≤ s.length ∧ allB s g' = true) ∧ s.length - g' < s.length - g ∧ AS.mk [(0, AV.str s), (7, AV.ref 3)] [(3,
   ABlk.iter (List.drop (dec (c :: r)).snd (c :: r)) (g + (dec (c :: r)).snd))] 4 = AS.mk [(0, AV.str s), (7, AV.ref 3)] [(3, ABlk.iter (List.drop g' s) g')] 4)) ∧ (((↑g : Int) == 0) = false → (((↑(dec (c :: r)).fst : Int) != 95) =
   true → (decide ((↑(dec (c :: r)).fst : Int) < 48) = true → (true = false → false = true) ∧ (AV.bool !isLetI (↑(dec (c :: r)).fst : Int)) = AV.bool true ∧ AV.bool ((↑g : Int) == 0) = AV.bool false ∧ AV.bool ((↑(dec (c :: r)).fst :
   Int) != 95) = AV.bool true ∧ AV.bool (decide ((↑(dec (c :: r)).fst : Int) < 48)) = AV.bool true ∧ (true = true → AV.bool false = AV.bool (sName s)) ∧ (true = false → ∃ (g' : Nat), (g' ≤ s.length ∧ allB s g' = true) ∧ s.length - g'
   < s.length - g ∧ AS.mk [(0, AV.str s), (7, AV.ref 3)] [(3, ABlk.iter (List.drop (dec (c :: r)).snd (c :: r)) (g + (dec (c :: r)).snd))] 4 = AS.mk [(0, AV.str s), (7, AV.ref 3)] [(3, ABlk.iter (List.drop g' s) g')] 4)) ∧ (decide
   ((↑(dec (c :: r)).fst : Int) < 48) = false → (AV.bool !isLetI (↑(dec (c :: r)).fst : Int)) = AV.bool true ∧ AV.bool ((↑g : Int) == 0) = AV.bool false ∧ AV.bool ((↑(dec (c :: r)).fst : Int) != 95) = AV.bool true ∧ AV.bool (decide
   ((↑(dec (c :: r)).fst : Int) < 48)) = AV.bool false ∧ (decide ((↑(dec (c :: r)).fst : Int) > 57) = true → AV.bool false = AV.bool (sName s)) ∧ (decide ((↑(dec (c :: r)).fst : Int) > 57) = false → ∃ (g' : Nat), (g' ≤ s.length ∧ allB
   s g' = true) ∧ s.length - g' < s.length - g ∧ AS.mk [(0, AV.str s), (7, AV.ref 3)] [(3, ABlk.iter (List.drop (dec (c :: r)).snd (c :: r)) (g + (dec (c :: r)).snd))] 4 = AS.mk [(0, AV.str s), (7, AV.ref 3)] [(3, ABlk.iter (List.drop
   g' s) g')] 4))) ∧ (((↑(dec (c :: r)).fst : Int) != 95) = false → (false = true → false = true) ∧ (AV.bool !isLetI (↑(dec (c :: r)).fst : Int)) = AV.bool true ∧ AV.bool ((↑g : Int) == 0) = AV.bool false ∧ AV.bool ((↑(dec (c ::
   r)).fst : Int) != 95) = AV.bool false ∧ (false = true → AV.bool false = AV.bool (sName s)) ∧ (false = false → ∃ (g' : Nat), (g' ≤ s.length ∧ allB s g' = true) ∧ s.length - g' < s.length - g ∧ AS.mk [(0, AV.str s), (7, AV.ref 3)]
   [(3, ABlk.iter (List.drop (dec (c :: r)).snd (c :: r)) (g + (dec (c :: r)).snd))] 4 = AS.mk [(0, AV.str s), (7, AV.ref 3)] [(3, ABlk.iter (List.drop g' s) g')] 4)))) ∧ ((!isLetI (↑(dec (c :: r)).fst : Int)) = false → (false = true
   → false = true) ∧ (AV.bool !isLetI (↑(dec (c :: r)).fst : Int)) = AV.bool false ∧ (false = true → AV.bool false = AV.bool (sName s)) ∧ (false = false → ∃ (g' : Nat), (g' ≤ s.length ∧ allB s g' = true) ∧ s.length - g' < s.length - g
   ∧ AS.mk [(0, AV.str s), (7, AV.ref 3)] [(3, ABlk.iter (List.drop (dec (c :: r)).snd (c :: r)) (g + (dec (c :: r)).snd))] 4 = AS.mk [(0, AV.str s), (7, AV.ref 3)] [(3, ABlk.iter (List.drop g' s) g')] 4))) ∧ (true = false → ((!s ==
   []) = true → (!s == []) = true) ∧ ((!s == []) = true → (!s == []) = true) ∧ ((!s == []) = true → (!s == []) = true) ∧ AV.bool (if (!s == []) = true then decide ((↑s.length : Int) ≤ 24) else false) = AV.bool (sName s))) ∧ (List.drop
   g s = [] → (false = true → False) ∧ (false = false → ((!s == []) = true → (!s == []) = true) ∧ ((!s == []) = true → (!s == []) = true) ∧ ((!s == []) = true → (!s == []) = true) ∧ AV.bool (if (!s == []) = true then decide
   ((↑s.length : Int) ≤ 24) else false) = AV.bool (sName s))) := by
    refine ⟨⟨0, ⟨by omega, rfl⟩, rfl⟩, fun g ⟨hg, ha⟩ => ⟨fun c r hcr => ?_, fun hnil => ?_⟩⟩
    · have hlt : g < s.length := by
        by_cases h : g < s.length
        · exact h
        · rw [List.drop_eq_nil_of_le (by omega)] at hcr; cases hcr
      have hcg : s.getD g 0 = c := by
        have := congrArg (fun l => l.getD 0 0) hcr
        simpa [List.getD_eq_getElem?_getD] using this
      have hr : r = s.drop (g + 1) := by
        have := congrArg (fun l => l.drop 1) hcr
        simpa using this.symm
      have hz : ((g : Int) == 0) = (g == 0) := by
        by_cases h : g = 0
        · simp [h]
        · rw [beq_eq_false_iff_ne.2 h, beq_eq_false_iff_ne.2 (by omega)]
      obtain ⟨hk1, hk2⟩ := dec_ok (g == 0) c r
      have hF : okB (g == 0) (dec (c :: r)).1 = false → AV.bool false = AV.bool (sName s) := fun h => by
        rw [all_fail hlt (by rw [hcg, ← hk1]; exact h)]
      have hN : okB (g == 0) (dec (c :: r)).1 = true → ∃ (g' : Nat), (g' ≤ s.length ∧ allB s g' = true) ∧ s.length - g' < s.length - g ∧
          AS.mk [(0, AV.str s), (7, AV.ref 3)] [(3, ABlk.iter (List.drop (dec (c :: r)).snd (c :: r)) (g + (dec (c :: r)).snd))] 4 = AS.mk [(0, AV.str s), (7, AV.ref 3)] [(3, ABlk.iter (List.drop g' s) g')] 4 := fun h => by
        refine ⟨g + 1, ⟨hlt, all_next ha (by rw [hcg, ← hk1]; exact h)⟩, by omega, ?_⟩
        rw [hk2 (by rw [← hk1]; exact h), hr]
        rfl
      rw [okB_I] at hF hN
      clear hk1 hk2
      generalize (dec (c :: r)).1 = n at hF hN ⊢
      generalize (dec (c :: r)).2 = w at hN ⊢
      rw [hz]
      repeat' (first | apply And.intro | intro _)
      all_goals try first
        | contradiction
        | rfl
        | assumption
        | exact congrArg AV.bool (by assumption)
        | (rw [show isLetI (n : Int) = true by (simp only [decide_eq_true_eq, decide_eq_false_iff_not] at *; simp only [isLetI, Bool.or_eq_true, decide_eq_true_eq]; omega)]; done)
        | (rw [show isLetI (n : Int) = false by (simp only [decide_eq_true_eq, decide_eq_false_iff_not] at *; simp only [isLetI, Bool.or_eq_false_iff, decide_eq_false_iff_not]; omega)]; done)
        | (rw [show isLetI (n : Int) = decide ((n : Int) ≤ 90) by (simp only [decide_eq_true_eq, decide_eq_false_iff_not] at *; simp only [isLetI]; by_cases h90 : (n : Int) ≤ 90 <;> simp [h90] <;> omega)]; done)
        | (refine hF ?_; simp_all [isDigU]; done)
        | (refine hN ?_; simp_all [isDigU]; done)
        | (refine hF ?_; simp_all [isDigU]; omega)
        | (refine hN ?_; simp_all [isDigU]; omega)
    · have hge : g = s.length := by
        have := congrArg List.length hnil
        rw [List.length_drop] at this
        simp only [List.length_nil] at this
        omega
      subst hge
      refine ⟨fun h => by (cases h), fun _ => ⟨fun h => h, fun h => h, fun h => h, ?_⟩⟩
      rw [sName, ha, Bool.true_and, show decide ((s.length : Int) ≤ 24) = decide (s.length ≤ 24) from decide_eq_decide.2 (by omega)]
      cases (!s == []) <;> rfl
  exact c_of Tryz.f117 (B117 s) (by kernel_rfl) (by kernel_rfl) (by kernel_rfl) (by kernel_rfl) key (by kernel_rfl)
def la143 (s : List UInt8) : LA := {
  pre := [.keep [0, 3] [], .bound 1], post := [.keep [0, 3] [], .bound 1]
  Gh := Nat
  st := fun i => ⟨[(0, .str s), (3, .i i)], [], 1⟩
  ok := fun i => i ≤ s.length ∧ allB s i = true
  ms := fun i => s.length - i }
def B143 (s : List UInt8) : BA := { mkB spP 143 [] (fun i => if i.beq 0 then some (la143 s) else none) with
  split := fun i => if i.beq 1 then 0 else if i.beq 6 then 1 else if i.beq 7 then 1 else if i.beq 8 then 1 else 0
  gs := fun i => if i.beq 6 then [.keep [0, 3, 4] [], .bound 1] else if i.beq 7 then [.keep [0, 3, 4, 5] [], .bound 1] else []
  cut := fun i => if i.beq 6 then some (cutA [0, 3, 4] [] 1 4 fun S => onI (slotF S 3) fun n => .bool (isLetI ((s.getD n.toNat 0).toNat : Int)))
    else if i.beq 7 then some (cutA [0, 3, 4, 5] [] 1 5 fun S => onI (slotF S 3) fun n => .bool (isDigU ((s.getD n.toNat 0).toNat : Int))) else none }
def spN : Nat → List AV → Option AV
  | 117, [.str s] => some (.bool (sName s))
  | 143, [.str s] => some (.bool (sName s))
  | 108, [.str s] => some (.i (sWhen (!sName s) 8))
  | n, x => spA n x
def modA (r k : Nat) (f : An → An) (B : BA) : BA := { B with ra := fun i => if i.beq r then { B.ra i with ans := setA f k (B.ra i).ans } else B.ra i }
def fzB (B : BA) : BA := { B with gs := fun i => (B.ra i).fz.map GS.frzo ++ B.gs i }
def gsB (g : Nat → List GS) (B : BA) : BA := { B with gs := fun i => B.gs i ++ g i }
theorem getD_mem {α : Type} [Inhabited α] {l : List α} {i : Nat} (h : i < l.length) : l.getD i default ∈ l := by
  rw [List.getD_eq_getElem?_getD, List.getElem?_eq_getElem h]
  exact List.getElem_mem h
def fiN (p : Nat → Bool) : Nat → Nat
  | 0 => 0
  | n + 1 => if fiN p n < n then fiN p n else if p n then n else n + 1
theorem fi_none {p : Nat → Bool} : ∀ {i : Nat}, (∀ j, j < i → p j = false) → fiN p i = i
  | 0, _ => rfl
  | i + 1, h => by
    have h1 : fiN p i = i := fi_none fun j hj => h j (by omega)
    simp only [fiN]
    rw [h1, if_neg (by omega), if_neg (by rw [h i (by omega)]; exact Bool.false_ne_true)]
theorem fi_some {p : Nat → Bool} {i : Nat} (h : ∀ j, j < i → p j = false) (hp : p i = true) : ∀ {m : Nat}, i < m → fiN p m = i
  | 0, h0 => absurd h0 (by omega)
  | m + 1, h0 => by
    simp only [fiN]
    by_cases e : i = m
    · subst e
      rw [fi_none h, if_neg (by omega), if_pos hp]
    · rw [fi_some h hp (m := m) (by omega), if_pos (by omega)]
def fiI (p : Nat → Bool) (n : Nat) : Int := if fiN p n = n then -1 else fiN p n
theorem fi_le {p : Nat → Bool} : ∀ n, fiN p n ≤ n
  | 0 => Nat.le_refl _
  | n + 1 => by
    have := fi_le (p := p) n
    simp only [fiN]
    split
    · omega
    · split <;> omega
theorem fi_hit {p : Nat → Bool} : ∀ {n : Nat}, fiN p n < n → p (fiN p n) = true
  | n + 1, h => by
    simp only [fiN] at h ⊢
    split
    · rename_i h1
      exact fi_hit h1
    · rename_i h1
      rw [if_neg h1] at h
      split
      · assumption
      · rename_i h2
        rw [if_neg h2] at h
        omega
theorem fi_all {p : Nat → Bool} : ∀ {n : Nat}, ¬ fiN p n < n → ∀ j, j < n → p j = false
  | n + 1, h, j, hj => by
    simp only [fiN] at h
    split at h
    · omega
    · rename_i h1
      split at h
      · omega
      · rename_i h2
        by_cases e : j = n
        · rw [e]; simpa using h2
        · exact fi_all h1 j (by omega)
theorem fi_ex {p : Nat → Bool} {n j : Nat} (hj : j < n) (hp : p j = true) : fiN p n < n := by
  refine Classical.byContradiction fun h => ?_
  rw [fi_all h j hj] at hp
  cases hp
theorem fiI_dec {p : Nat → Bool} {n : Nat} : decide (fiI p n ≥ 0) = decide (fiN p n < n) := by
  have := fi_le (p := p) n
  unfold fiI
  refine decide_eq_decide.2 ?_
  split <;> omega
theorem any_take {α : Type} [Inhabited α] {l : List α} {q : α → Bool} {i : Nat} (hi : i ≤ l.length) : (l.take i).any q = decide (fiN (fun j => q (l.getD j default)) i < i) := by
  rw [Bool.eq_iff_iff, decide_eq_true_eq]
  constructor
  · intro h
    obtain ⟨x, hx, hq⟩ := List.any_eq_true.1 h
    obtain ⟨j, hj, rfl⟩ := List.mem_iff_getElem.1 hx
    rw [List.length_take] at hj
    refine fi_ex (j := j) (by omega) ?_
    rw [List.getElem_take] at hq
    rw [List.getD_eq_getElem?_getD, List.getElem?_eq_getElem (by omega)]
    exact hq
  · intro h
    have hq := fi_hit h
    refine List.any_eq_true.2 ⟨_, ?_, hq⟩
    generalize fiN (fun j => q (l.getD j default)) i = j at h
    rw [List.getD_eq_getElem?_getD, List.getElem?_eq_getElem (show j < l.length by omega)]
    refine List.mem_iff_getElem.2 ⟨j, by rw [List.length_take]; omega, by rw [List.getElem_take]; rfl⟩
def hasK (es : List (AV × AV)) : AV → Bool
  | .str s => es.any fun p => match p.1 with
    | .str x => x == s
    | _ => false
  | _ => false
def rdK : BL → List AV → Option AV := fun bs ins => match ins with
  | [.ref id, k] => match blkOf bs id with
    | .map es => some (.bool (hasK es k))
    | _ => none
  | _ => none
theorem beqL_comm (a b : List UInt8) : (a == b) = (b == a) := by
  rw [Bool.eq_iff_iff, beq_iff_eq, beq_iff_eq]
  exact eq_comm
def keyE (s : List UInt8) : AV × AV := (.str s, .bool true)
theorem has_map {α : Type} (f : α → List UInt8) (s : List UInt8) (l : List α) : hasK (l.map fun a => keyE (f a)) (.str s) = l.any fun a => f a == s := by
  show ((l.map fun a => keyE (f a)).any fun p => match p.1 with
    | .str x => x == s
    | _ => false) = _
  rw [List.any_map]
  rfl
theorem look_map {α : Type} (f : α → List UInt8) (s : List UInt8) : ∀ l : List α, mlook (.str s) (l.map fun a => keyE (f a)) = some (if (l.any fun a => f a == s) = true then some (.bool true) else none)
  | [] => rfl
  | a :: l => by
    have ih := look_map f s l
    simp only [List.map_cons, keyE, mlook, eqCell, List.any_cons] at ih ⊢
    rw [beqL_comm s (f a)]
    by_cases h : (f a == s) = true
    · simp only [h, Bool.true_or, if_true]
    · have h := Bool.eq_false_iff.2 h
      simp only [h, Bool.false_or]
      exact ih
theorem put_map {α : Type} (f : α → List UInt8) (s : List UInt8) : ∀ l : List α, (l.any fun a => f a == s) = false → mput (.str s) (.bool true) (l.map fun a => keyE (f a)) = some ((l.map fun a => keyE (f a)) ++ [keyE s])
  | [], _ => rfl
  | a :: l, h => by
    rw [List.any_cons, Bool.or_eq_false_iff] at h
    have ih := put_map f s l h.2
    simp only [List.map_cons, keyE, mput, eqCell] at ih ⊢
    rw [beqL_comm s (f a), h.1]
    simp only [ih, List.cons_append]
theorem look_key {α : Type} (f : α → List UInt8) (s : List UInt8) (l : List α) : lookV false (.bool false) (mlook (.str s) (l.map fun a => keyE (f a))) = .bool (hasK (l.map fun a => keyE (f a)) (.str s)) := by
  rw [look_map, has_map]
  cases l.any fun a => f a == s <;> rfl
theorem look_some {α : Type} (f : α → List UInt8) (s : List UInt8) (l : List α) : (mlook (.str s) (l.map fun a => keyE (f a))).isSome = true := by
  rw [look_map]
  rfl
end Go.Proofs.YtfoeefaamjknpaaGreatDoor
namespace Go.Proofs.YtfoeefaamjknpaaGreatDoor
open Go Go.Av Go.RowKit
structure En where
  inn : Bool
  hm : List UInt8
  am : Int
  deriving Inhabited
def encEn (x : En) : List AV := [.bool x.inn, .str x.hm, .i x.am]
def paidL (l : List En) (k : Nat) : List (List UInt8) := ((l.take k).filter fun x => !x.inn).map En.hm
def balL (l : List En) : Nat → Int
  | 0 => 0
  | k + 1 => if (l.getD k default).inn = true then balL l k + (l.getD k default).am else balL l k - (l.getD k default).am
def knS (l : List (List UInt8)) : List (AV × AV) := l.map fun s => keyE s
def frB (x : En) : Bool := if x.inn = true then !(x.inn == true && true && (x.hm == [] && true && (x.am == x.am && true && true))) else false
def fBa (l : List En) (i : Nat) : Int := sFirst [sWithin (l.getD i default).am 1 100000000, sWhen (frB (l.getD i default)) 1, sWhen (if (!(l.getD i default).inn) = true then !sName (l.getD i default).hm else false) 8, sWhen (if (!(l.getD i default).inn) = true then hasK (knS (paidL l i)) (.str (l.getD i default).hm) else false) 9, sWhen (if (!(l.getD i default).inn) = true then decide ((l.getD i default).am > balL l i) else false) 23]
def baE (l : List En) : Int := if decide ((l.length : Int) > 64) = true then 5 else sScan (fBa l) l.length 0
def baV (l : List En) : Int := if baE l != 0 then 0 else balL l l.length
theorem all_ext {p : Nat → Prop} {g : Nat} (h : ∀ j, j < g → p j) (hg : p g) : ∀ j, j < g + 1 → p j := fun j hj => by
  by_cases e : j = g
  · rw [e]; exact hg
  · exact h j (by omega)
theorem paid_step {l : List En} {g : Nat} (h : g < l.length) : paidL l (g + 1) = if (l.getD g default).inn = true then paidL l g else paidL l g ++ [(l.getD g default).hm] := by
  unfold paidL
  have e : l.take (g + 1) = l.take g ++ [l.getD g default] := by
    rw [List.getD_eq_getElem?_getD, List.getElem?_eq_getElem h]
    exact (List.take_append_getElem h).symm
  rw [e, List.filter_append, List.map_append]
  generalize l.getD g default = x
  cases q : x.inn with
  | true => simp [q]
  | false => simp [q]
theorem ba_z {l : List En} {i : Nat} (h : fBa l i = 0) : (1 ≤ (l.getD i default).am ∧ (l.getD i default).am ≤ 100000000) ∧ ((l.getD i default).inn = false → hasK (knS (paidL l i)) (.str (l.getD i default).hm) = false) := by
  unfold fBa at h
  rw [first_zero, first_zero, first_zero, first_zero, within_zero] at h
  refine ⟨h.1, fun hi => ?_⟩
  have h4 := when_z (by decide) h.2.2.2.1
  rw [hi] at h4
  exact h4
theorem bal_bd {l : List En} : ∀ {k : Nat}, k ≤ 64 → (∀ j, j < k → fBa l j = 0) → -(100000000 * (k : Int)) ≤ balL l k ∧ balL l k ≤ 100000000 * (k : Int)
  | 0, _, _ => by simp [balL]
  | k + 1, hk, h => by
    have ih := bal_bd (l := l) (k := k) (by omega) (fun j hj => h j (by omega))
    have h1 := (ba_z (h k (by omega))).1
    rw [balL]
    split <;> omega
theorem put_pd {l : List En} {g : Nat} (hi : (l.getD g default).inn = false) (hg : g < l.length) (h : hasK (knS (paidL l g)) (.str (l.getD g default).hm) = false) : mput (.str (l.getD g default).hm) (.bool true) (knS (paidL l g)) = some (knS (paidL l (g + 1))) := by
  rw [paid_step hg, if_neg (by rw [hi]; decide)]
  unfold knS at h ⊢
  rw [has_map (fun s => s)] at h
  rw [put_map (fun s => s) _ _ h, List.map_append]
  rfl
def la68 (l : List En) : LA := {
  pre := [.ren 7 1, .keep [4, 5, 13, 14, 15] [1], .bound 2], post := [.keep [4, 5, 13, 14, 15] [1], .bound 2]
  Gh := Nat
  st := fun i => ⟨[(4, .i (balL l i)), (5, .ref 1), (13, .sl 3 (l.map encEn)), (14, .i (l.map encEn).length), (15, .i i)], [(1, .map (knS (paidL l i)))], 2⟩
  ok := fun i => i ≤ l.length ∧ ∀ j, j < i → fBa l j = 0
  ms := fun i => l.length - i }
theorem c68 (l : List En) (hl : l.length ≤ 1000) (hn : ∀ x, x ∈ l → x.hm.length ≤ 1000) : PCall Tryz.prog G0 68 [.sl 3 (l.map encEn)] (.tup [.i (baV l), .i (baE l)]) := by
  have key :
   (decide ((↑(List.map encEn l).length : Int) > 64) = true → AV.tup [AV.i 0, AV.i 5] = AV.tup [AV.i (baV l), AV.i (baE l)]) ∧ (decide ((↑(List.map encEn l).length : Int) > 64) = false → (∃ (g : Nat), (g ≤ l.length ∧ ∀ (j : Nat), j <
   g → fBa l j = (0 : Int)) ∧ AS.mk [(4, AV.i 0), (5, AV.ref 1), (13, AV.sl 3 (List.map encEn l)), (14, AV.i (↑(List.map encEn l).length : Int)), (15, AV.i 0)] [(1, ABlk.map [])] 2 = AS.mk [(4, AV.i (balL l g)), (5, AV.ref 1), (13,
   AV.sl 3 (List.map encEn l)), (14, AV.i (↑(List.map encEn l).length : Int)), (15, AV.i (↑g : Int))] [(1, ABlk.map (knS (paidL l g)))] 2) ∧ ∀ (g : Nat), (g ≤ l.length ∧ ∀ (j : Nat), j < g → fBa l j = (0 : Int)) → (decide ((↑g : Int)
   < (↑(List.map encEn l).length : Int)) = true → (0 : Int) ≤ (↑g : Int) ∧ (↑g : Int) < (↑(List.map encEn l).length : Int) ∧ AV.agg (nthR (List.map encEn l) (↑g : Int).toNat) = AV.agg (encEn (l.getD (↑g : Int).toNat default)) ∧
   ((l.getD (↑g : Int).toNat default).inn = true → (l.getD (↑g : Int).toNat default).inn = true) ∧ ((l.getD (↑g : Int).toNat default).inn = true → (l.getD (↑g : Int).toNat default).inn = true) ∧ ((l.getD (↑g : Int).toNat default).inn
   = true → (l.getD (↑g : Int).toNat default).inn = true) ∧ ((l.getD (↑g : Int).toNat default).inn = true → (l.getD (↑g : Int).toNat default).inn = true) ∧ ((l.getD (↑g : Int).toNat default).inn = true → (l.getD (↑g : Int).toNat
   default).inn = true) ∧ ((!(l.getD (↑g : Int).toNat default).inn) = true → (!(l.getD (↑g : Int).toNat default).inn) = true) ∧ ((!(l.getD (↑g : Int).toNat default).inn) = true → (!(l.getD (↑g : Int).toNat default).inn) = true) ∧
   ((!(l.getD (↑g : Int).toNat default).inn) = true → (!(l.getD (↑g : Int).toNat default).inn) = true) ∧ ((!(l.getD (↑g : Int).toNat default).inn) = true → (!(l.getD (↑g : Int).toNat default).inn) = true) ∧ ((!(l.getD (↑g : Int).toNat
   default).inn) = true → (!(l.getD (↑g : Int).toNat default).inn) = true) ∧ ((!(l.getD (↑g : Int).toNat default).inn) = true → (!(l.getD (↑g : Int).toNat default).inn) = true) ∧ ((!(l.getD (↑g : Int).toNat default).inn) = true →
   (!(l.getD (↑g : Int).toNat default).inn) = true) ∧ ((!(l.getD (↑g : Int).toNat default).inn) = true → (mlook (AV.str (l.getD (↑g : Int).toNat default).hm) (knS (paidL l g))).isSome = true) ∧ ((!(l.getD (↑g : Int).toNat
   default).inn) = true → (!(l.getD (↑g : Int).toNat default).inn) = true) ∧ ((!(l.getD (↑g : Int).toNat default).inn) = true → (!(l.getD (↑g : Int).toNat default).inn) = true) ∧ ((!(l.getD (↑g : Int).toNat default).inn) = true →
   (!(l.getD (↑g : Int).toNat default).inn) = true) ∧ ((!(l.getD (↑g : Int).toNat default).inn) = true → (!(l.getD (↑g : Int).toNat default).inn) = true) ∧ ((!(l.getD (↑g : Int).toNat default).inn) = true → (!(l.getD (↑g : Int).toNat
   default).inn) = true) ∧ PCall Tryz.prog G0 118 [AV.i (l.getD (↑g : Int).toNat default).am, AV.i 1, AV.i 100000000] (AV.i (sWithin (l.getD (↑g : Int).toNat default).am (1 : Int) (100000000 : Int))) ∧ PCall Tryz.prog G0 116 [AV.bool
   (if (l.getD (↑g : Int).toNat default).inn = true then !((l.getD (↑g : Int).toNat default).inn == true && true && ((l.getD (↑g : Int).toNat default).hm == [] && true && ((l.getD (↑g : Int).toNat default).am == (l.getD (↑g :
   Int).toNat default).am && true && true))) else false), AV.i 1] (AV.i (sWhen (if (l.getD (↑g : Int).toNat default).inn = true then !((l.getD (↑g : Int).toNat default).inn == true && true && ((l.getD (↑g : Int).toNat default).hm ==
   [] && true && ((l.getD (↑g : Int).toNat default).am == (l.getD (↑g : Int).toNat default).am && true && true))) else false) (1 : Int))) ∧ impB (!(l.getD (↑g : Int).toNat default).inn) (PCall Tryz.prog G0 117 [AV.str (l.getD (↑g :
   Int).toNat default).hm] (AV.bool (sName (l.getD (↑g : Int).toNat default).hm))) ∧ PCall Tryz.prog G0 116 [AV.bool (if (!(l.getD (↑g : Int).toNat default).inn) = true then !sName (l.getD (↑g : Int).toNat default).hm else false),
   AV.i 8] (AV.i (sWhen (if (!(l.getD (↑g : Int).toNat default).inn) = true then !sName (l.getD (↑g : Int).toNat default).hm else false) (8 : Int))) ∧ impB (!(l.getD (↑g : Int).toNat default).inn) (lookV false (AV.bool false) (mlook
   (AV.str (l.getD (↑g : Int).toNat default).hm) (knS (paidL l g))) = AV.bool (hasK (knS (paidL l g)) (AV.str (l.getD (↑g : Int).toNat default).hm))) ∧ PCall Tryz.prog G0 116 [AV.bool (if (!(l.getD (↑g : Int).toNat default).inn) =
   true then hasK (knS (paidL l g)) (AV.str (l.getD (↑g : Int).toNat default).hm) else false), AV.i 9] (AV.i (sWhen (if (!(l.getD (↑g : Int).toNat default).inn) = true then hasK (knS (paidL l g)) (AV.str (l.getD (↑g : Int).toNat
   default).hm) else false) (9 : Int))) ∧ PCall Tryz.prog G0 116 [AV.bool (if (!(l.getD (↑g : Int).toNat default).inn) = true then decide ((l.getD (↑g : Int).toNat default).am > balL l g) else false), AV.i 23] (AV.i (sWhen (if
   (!(l.getD (↑g : Int).toNat default).inn) = true then decide ((l.getD (↑g : Int).toNat default).am > balL l g) else false) (23 : Int))) ∧ PCall Tryz.prog G0 104 [AV.sl 1 [[AV.i (sWithin (l.getD (↑g : Int).toNat default).am (1 : Int)
   (100000000 : Int))], [AV.i (sWhen (if (l.getD (↑g : Int).toNat default).inn = true then !((l.getD (↑g : Int).toNat default).inn == true && true && ((l.getD (↑g : Int).toNat default).hm == [] && true && ((l.getD (↑g : Int).toNat
   default).am == (l.getD (↑g : Int).toNat default).am && true && true))) else false) (1 : Int))], [AV.i (sWhen (if (!(l.getD (↑g : Int).toNat default).inn) = true then !sName (l.getD (↑g : Int).toNat default).hm else false) (8 :
   Int))], [AV.i (sWhen (if (!(l.getD (↑g : Int).toNat default).inn) = true then hasK (knS (paidL l g)) (AV.str (l.getD (↑g : Int).toNat default).hm) else false) (9 : Int))], [AV.i (sWhen (if (!(l.getD (↑g : Int).toNat default).inn) =
   true then decide ((l.getD (↑g : Int).toNat default).am > balL l g) else false) (23 : Int))]]] (AV.i (sFirst [hdI [AV.i (sWithin (l.getD (↑g : Int).toNat default).am (1 : Int) (100000000 : Int))], hdI [AV.i (sWhen (if (l.getD (↑g :
   Int).toNat default).inn = true then !((l.getD (↑g : Int).toNat default).inn == true && true && ((l.getD (↑g : Int).toNat default).hm == [] && true && ((l.getD (↑g : Int).toNat default).am == (l.getD (↑g : Int).toNat default).am &&
   true && true))) else false) (1 : Int))], hdI [AV.i (sWhen (if (!(l.getD (↑g : Int).toNat default).inn) = true then !sName (l.getD (↑g : Int).toNat default).hm else false) (8 : Int))], hdI [AV.i (sWhen (if (!(l.getD (↑g : Int).toNat
   default).inn) = true then hasK (knS (paidL l g)) (AV.str (l.getD (↑g : Int).toNat default).hm) else false) (9 : Int))], hdI [AV.i (sWhen (if (!(l.getD (↑g : Int).toNat default).inn) = true then decide ((l.getD (↑g : Int).toNat
   default).am > balL l g) else false) (23 : Int))]])) ∧ ((sFirst [hdI [AV.i (sWithin (l.getD (↑g : Int).toNat default).am (1 : Int) (100000000 : Int))], hdI [AV.i (sWhen (if (l.getD (↑g : Int).toNat default).inn = true then !((l.getD
   (↑g : Int).toNat default).inn == true && true && ((l.getD (↑g : Int).toNat default).hm == [] && true && ((l.getD (↑g : Int).toNat default).am == (l.getD (↑g : Int).toNat default).am && true && true))) else false) (1 : Int))], hdI
   [AV.i (sWhen (if (!(l.getD (↑g : Int).toNat default).inn) = true then !sName (l.getD (↑g : Int).toNat default).hm else false) (8 : Int))], hdI [AV.i (sWhen (if (!(l.getD (↑g : Int).toNat default).inn) = true then hasK (knS (paidL l
   g)) (AV.str (l.getD (↑g : Int).toNat default).hm) else false) (9 : Int))], hdI [AV.i (sWhen (if (!(l.getD (↑g : Int).toNat default).inn) = true then decide ((l.getD (↑g : Int).toNat default).am > balL l g) else false) (23 : Int))]]
   != 0) = true → AV.tup [AV.i 0, AV.i (sFirst [hdI [AV.i (sWithin (l.getD (↑g : Int).toNat default).am (1 : Int) (100000000 : Int))], hdI [AV.i (sWhen (if (l.getD (↑g : Int).toNat default).inn = true then !((l.getD (↑g : Int).toNat
   default).inn == true && true && ((l.getD (↑g : Int).toNat default).hm == [] && true && ((l.getD (↑g : Int).toNat default).am == (l.getD (↑g : Int).toNat default).am && true && true))) else false) (1 : Int))], hdI [AV.i (sWhen (if
   (!(l.getD (↑g : Int).toNat default).inn) = true then !sName (l.getD (↑g : Int).toNat default).hm else false) (8 : Int))], hdI [AV.i (sWhen (if (!(l.getD (↑g : Int).toNat default).inn) = true then hasK (knS (paidL l g)) (AV.str
   (l.getD (↑g : Int).toNat default).hm) else false) (9 : Int))], hdI [AV.i (sWhen (if (!(l.getD (↑g : Int).toNat default).inn) = true then decide ((l.getD (↑g : Int).toNat default).am > balL l g) else false) (23 : Int))]])] = AV.tup
   [AV.i (baV l), AV.i (baE l)]) ∧ ((sFirst [hdI [AV.i (sWithin (l.getD (↑g : Int).toNat default).am (1 : Int) (100000000 : Int))], hdI [AV.i (sWhen (if (l.getD (↑g : Int).toNat default).inn = true then !((l.getD (↑g : Int).toNat
   default).inn == true && true && ((l.getD (↑g : Int).toNat default).hm == [] && true && ((l.getD (↑g : Int).toNat default).am == (l.getD (↑g : Int).toNat default).am && true && true))) else false) (1 : Int))], hdI [AV.i (sWhen (if
   (!(l.getD (↑g : Int).toNat default).inn) = true then !sName (l.getD (↑g : Int).toNat default).hm else false) (8 : Int))], hdI [AV.i (sWhen (if (!(l.getD (↑g : Int).toNat default).inn) = true then hasK (knS (paidL l g)) (AV.str
   (l.getD (↑g : Int).toNat default).hm) else false) (9 : Int))], hdI [AV.i (sWhen (if (!(l.getD (↑g : Int).toNat default).inn) = true then decide ((l.getD (↑g : Int).toNat default).am > balL l g) else false) (23 : Int))]] != 0) =
   false → ((l.getD (↑g : Int).toNat default).inn = true → In64 (balL l g + (l.getD (↑g : Int).toNat default).am) ∧ In64 ((↑g : Int) + 1) ∧ ∃ (g' : Nat), (g' ≤ l.length ∧ ∀ (j : Nat), j < g' → fBa l j = (0 : Int)) ∧ l.length - g' <
   l.length - g ∧ AS.mk [(4, AV.i (balL l g + (l.getD (↑g : Int).toNat default).am)), (5, AV.ref 1), (13, AV.sl 3 (List.map encEn l)), (14, AV.i (↑(List.map encEn l).length : Int)), (15, AV.i ((↑g : Int) + 1))] [(1, ABlk.map (knS
   (paidL l g)))] 2 = AS.mk [(4, AV.i (balL l g')), (5, AV.ref 1), (13, AV.sl 3 (List.map encEn l)), (14, AV.i (↑(List.map encEn l).length : Int)), (15, AV.i (↑g' : Int))] [(1, ABlk.map (knS (paidL l g')))] 2) ∧ ((l.getD (↑g :
   Int).toNat default).inn = false → In64 (balL l g - (l.getD (↑g : Int).toNat default).am) ∧ (mput (AV.str (l.getD (↑g : Int).toNat default).hm) (AV.bool true) (knS (paidL l g))).isSome = true ∧ In64 ((↑g : Int) + 1) ∧ ∃ (g' : Nat),
   (g' ≤ l.length ∧ ∀ (j : Nat), j < g' → fBa l j = (0 : Int)) ∧ l.length - g' < l.length - g ∧ AS.mk [(4, AV.i (balL l g - (l.getD (↑g : Int).toNat default).am)), (5, AV.ref 1), (13, AV.sl 3 (List.map encEn l)), (14, AV.i (↑(List.map
   encEn l).length : Int)), (15, AV.i ((↑g : Int) + 1))] [(1, ABlk.map ((mput (AV.str (l.getD (↑g : Int).toNat default).hm) (AV.bool true) (knS (paidL l g))).getD []))] 2 = AS.mk [(4, AV.i (balL l g')), (5, AV.ref 1), (13, AV.sl 3
   (List.map encEn l)), (14, AV.i (↑(List.map encEn l).length : Int)), (15, AV.i (↑g' : Int))] [(1, ABlk.map (knS (paidL l g')))] 2))) ∧ (decide ((↑g : Int) < (↑(List.map encEn l).length : Int)) = false → AV.tup [AV.i (balL l g), AV.i
   0] = AV.tup [AV.i (baV l), AV.i (baE l)])) := by
    have hlm : (List.map encEn l).length = l.length := List.length_map _
    have : (List.map encEn l).length = l.length := by simp only [List.length_map]
    refine ⟨fun h1 => ?_, fun h1 => ?_⟩
    · have e : baE l = 5 := if_pos (by rw [hlm] at h1; exact h1)
      rw [baV, e]
      rfl
    · have h64 : l.length ≤ 64 := by have := of_decide_eq_false h1; omega
      have hb64 : baE l = sScan (fBa l) l.length 0 := if_neg (by rw [decide_eq_true_eq]; omega)
      refine ⟨⟨0, ⟨by omega, by intros; omega⟩, rfl⟩, fun g ⟨hg, ha⟩ => ⟨fun hd => ?_, fun hd => ?_⟩⟩
      · have hlt : g < l.length := by have h9 := of_decide_eq_true hd; have h8 := hg; (try simp only [List.length_map] at h8 h9); omega
        have hx := hn _ (getD_mem hlt)
        have hbb := bal_bd (l := l) (k := g) (by omega) ha
        try rw [show (↑g : Int).toNat = g from Int.toNat_natCast g]
        refine ⟨(by omega), (by omega), congrArg AV.agg (row_at encEn hlt), fun h => h, fun h => h, fun h => h, fun h => h, fun h => h, fun h => h, fun h => h, fun h => h, fun h => h, fun h => h, fun h => h, fun h => h, fun _ => look_some (fun s => s) _ _, fun h => h, fun h => h, fun h => h, fun h => h, fun h => h, (c118 _ _ _), (c116 _ _), impB_iff.2 fun hb => (c117 _ (by omega)), (c116 _ _), impB_iff.2 fun hb => (look_key (fun s => s) _ _), (c116 _ _), (c116 _ _), (c104 [_, _, _, _, _] (by simp)), fun h2 => ?_, fun h2 => ?_⟩
        · have hne : fBa l g ≠ 0 := bne_t h2
          have e : baE l = fBa l g := by rw [hb64, scan_hit hlt ha hne]
          rw [baV, e, if_pos (show (fBa l g != 0) = true from h2)]
          rfl
        · have hz : fBa l g = 0 := bne_f h2
          obtain ⟨ba1, ba2⟩ := ba_z hz
          refine ⟨fun h3 => ⟨(by unfold In64; omega), (by unfold In64; omega), ⟨g + 1, ⟨by omega, all_ext ha hz⟩, by omega, ?_⟩⟩, fun h3 => ⟨(by unfold In64; omega), ?_, (by unfold In64; omega), ⟨g + 1, ⟨by omega, all_ext ha hz⟩, by omega, ?_⟩⟩⟩
          · first
              | (rw [balL, if_pos h3, paid_step hlt, if_pos h3]; rfl)
              | (rw [put_pd h3 hlt (ba2 h3), balL, if_neg (by rw [h3]; decide)]; rfl)
          · rw [put_pd h3 hlt (ba2 h3)]
            rfl
          · first
              | (rw [balL, if_pos h3, paid_step hlt, if_pos h3]; rfl)
              | (rw [put_pd h3 hlt (ba2 h3), balL, if_neg (by rw [h3]; decide)]; rfl)
      · have hge : g = l.length := by have h9 := of_decide_eq_false hd; have h8 := hg; (try simp only [List.length_map] at h8 h9); omega
        subst hge
        have e : baE l = 0 := by rw [hb64, scan_end ha]
        rw [baV, e]
        rfl
  exact c_of Tryz.f68 (fzB (modA 8 30 (fun a => { a with rdb := rdK }) (mkB spN 68 [(7, 1, rdL 3 encEn l 3 true)] (fun i => if i.beq 0 then some (la68 l) else none)))) (by kernel_rfl) (by kernel_rfl) (by kernel_rfl) (by kernel_rfl) key (by kernel_rfl)
end Go.Proofs.YtfoeefaamjknpaaGreatDoor
namespace Go.Proofs.YtfoeefaamjknpaaGreatDoor
open Go Go.Av Go.RowKit Go.ChangeShapes Go.WideShapes
theorem hA : PCall Tryz.prog G0 16 [] (.bool true) := awc40
theorem laidOut : laidOutB Tryz.prog = true := by kernel_rfl
theorem own : ownKnob Tryz.prog.godebug = none := by kernel_rfl
def laid7 : List (String × DataW Unit) := Rows.homeFundsRow.laid
theorem door_met (os : Os) (args : Array Value) : laidMetH Tryz.prog laid7 ((World.laidAll Tryz.prog os laid7).forCall (fun _ _ => 0) ⟨#[], args, []⟩).memory := by
  rw [MakeChecks.laidMetH_plain _ _ _ (by kernel_rfl)]
  exact laidMet_laidAll _ (by kernel_rfl) (by kernel_rfl)
theorem globs {W : World} (h : laidMetH Tryz.prog laid7 W) : ∀ g cells, lk g G0 = some cells → GlobOK NoX W g cells := by
  rw [MakeChecks.laidMetH_plain _ _ _ (by kernel_rfl)] at h
  obtain ⟨ps, hl, _⟩ := h
  have m0 := laid_glob (T := T0) tok (n := 8) (name := "flyover/home.verdicts") (d := Rows.laid_flyover_home_verdicts) (g := 0) (t := 197) (cells := nthR (G0.map (·.2)) 0) (by kernel_rfl) (by kernel_rfl) (by kernel_rfl) (by kernel_rfl) (by kernel_rfl) (by simp [nthR, G0]) (laid := laid7) (ps := ps) (by simp [laid7, Rows.homeFundsRow]) hl
  have m1 := laid_glob (T := T0) tok (n := 8) (name := "flyover/sound.base") (d := Rows.laid_flyover_sound_base) (g := 1) (t := 300) (cells := nthR (G0.map (·.2)) 1) (by kernel_rfl) (by kernel_rfl) (by kernel_rfl) (by kernel_rfl) (by kernel_rfl) (by simp [nthR, G0]) (laid := laid7) (ps := ps) (by simp [laid7, Rows.homeFundsRow]) hl
  have m3 := laid_glob (T := T0) tok (n := 8) (name := "internal/strconv.uint64pow10") (d := Rows.laid_internal_strconv_uint64pow10) (g := 3) (t := 312) (cells := nthR (G0.map (·.2)) 2) (by kernel_rfl) (by kernel_rfl) (by kernel_rfl) (by kernel_rfl) (by kernel_rfl) (by simp [nthR, G0]) (laid := laid7) (ps := ps) (by simp [laid7, Rows.homeFundsRow]) hl
  intro g cells hg
  obtain ⟨u, hu, e1⟩ := lk_mem hg
  subst e1
  simp only [G0, List.mem_cons, List.not_mem_nil, or_false, Prod.mk.injEq] at hu
  rcases hu with ⟨rfl, rfl⟩ | ⟨rfl, rfl⟩ | ⟨rfl, rfl⟩
  · exact m0
  · exact m1
  · exact m3
end Go.Proofs.YtfoeefaamjknpaaGreatDoor
namespace Go.Proofs.YtfoeefaamjknpaaGreatDoor
open Go Go.Av Go.RowKit
end Go.Proofs.YtfoeefaamjknpaaGreatDoor
namespace Go.Proofs.YtfoeefaamjknpaaGreatDoor
open Go Go.Av Go.RowKit
end Go.Proofs.YtfoeefaamjknpaaGreatDoor
namespace Go.Proofs.YtfoeefaamjknpaaGreatDoor
open Go Go.Av Go.RowKit
structure Cp where
  hm : List UInt8
  tk : Int
  deriving Inhabited
def encCp (x : Cp) : List AV := [.str x.hm, .i x.tk]
def keyT (p : List UInt8 × Int) : AV × AV := (.str p.1, .i p.2)
def lkT (s : List UInt8) : List (List UInt8 × Int) → Option Int
  | [] => none
  | p :: m => if (s == p.1) = true then some p.2 else lkT s m
def puT (s : List UInt8) (t : Int) : List (List UInt8 × Int) → List (List UInt8 × Int)
  | [] => [(s, t)]
  | p :: m => if (s == p.1) = true then (s, t) :: m else p :: puT s t m
theorem look_T (s : List UInt8) : ∀ m : List (List UInt8 × Int), mlook (.str s) (m.map keyT) = some ((lkT s m).map fun t => .i t)
  | [] => rfl
  | p :: m => by
    have ih := look_T s m
    simp only [List.map_cons, keyT, mlook, eqCell, lkT] at ih ⊢
    cases h : s == p.1 with
    | true => simp
    | false => simpa using ih
theorem put_T (s : List UInt8) (t : Int) : ∀ m : List (List UInt8 × Int), mput (.str s) (.i t) (m.map keyT) = some ((puT s t m).map keyT)
  | [] => rfl
  | p :: m => by
    have ih := put_T s t m
    simp only [List.map_cons, keyT, mput, eqCell, puT] at ih ⊢
    cases h : s == p.1 with
    | true => simp [keyT]
    | false => simp [ih, keyT]
theorem lk_pu (s u : List UInt8) (t : Int) : ∀ m, lkT s (puT u t m) = if s = u then some t else lkT s m
  | [] => by
    simp only [puT, lkT, beq_iff_eq]
  | p :: m => by
    have ih := lk_pu s u t m
    simp only [puT, beq_iff_eq]
    by_cases h : u = p.1
    · rw [if_pos h]
      simp only [lkT, beq_iff_eq]
      by_cases h2 : s = u
      · rw [if_pos h2, if_pos h2]
      · rw [if_neg h2, if_neg h2, if_neg (by rw [← h]; exact h2)]
    · rw [if_neg h]
      simp only [lkT, beq_iff_eq]
      by_cases h2 : s = u
      · rw [if_neg (by rw [h2]; exact h), ih, if_pos h2, if_pos h2]
      · by_cases h3 : s = p.1
        · rw [if_pos h3, if_neg h2, if_pos h3]
        · rw [if_neg h3, if_neg h2, if_neg h3, ih, if_neg h2]
def nearT (m : List (List UInt8 × Int)) (w : Int) (c : Cp) : Bool := match lkT c.hm m with
  | some t => decide (c.tk - t ≤ w)
  | none => false
def cnS (l : List Cp) (w : Int) : Nat → List (List UInt8 × Int) × List Int
  | 0 => ([], [])
  | k + 1 => if nearT (cnS l w k).1 w (l.getD k default) = true then cnS l w k else (puT (l.getD k default).hm (l.getD k default).tk (cnS l w k).1, (cnS l w k).2 ++ [(k : Int)])
def nearR (l : List Cp) (w : Int) (c : Cp) (o : List Int) : Bool := o.any fun k => (l.getD k.toNat default).hm == c.hm && decide (c.tk - (l.getD k.toNat default).tk ≤ w)
def cnR (l : List Cp) (w : Int) : Nat → List Int
  | 0 => []
  | k + 1 => if nearR l w (l.getD k default) (cnR l w k) = true then cnR l w k else cnR l w k ++ [(k : Int)]
theorem cnR_mem {l : List Cp} {w : Int} : ∀ {k : Nat} {a : Int}, a ∈ cnR l w k → 0 ≤ a ∧ a < k
  | 0, a, h => by cases h
  | k + 1, a, h => by
    rw [cnR] at h
    split at h
    · have := cnR_mem h; omega
    · rcases List.mem_append.1 h with h | h
      · have := cnR_mem h; omega
      · rw [List.mem_singleton] at h; omega
theorem cnR_len (l : List Cp) (w : Int) : ∀ k, (cnR l w k).length ≤ k
  | 0 => Nat.le_refl _
  | k + 1 => by
    have := cnR_len l w k
    rw [cnR]
    split
    · omega
    · rw [List.length_append, List.length_singleton]; omega
def mapI (l : List Cp) (o : List Int) (m : List (List UInt8 × Int)) : Prop := ∀ s, match lkT s m with
  | none => ∀ a, a ∈ o → (l.getD a.toNat default).hm ≠ s
  | some t => (∃ a, a ∈ o ∧ (l.getD a.toNat default).hm = s ∧ (l.getD a.toNat default).tk = t) ∧ ∀ a, a ∈ o → (l.getD a.toNat default).hm = s → (l.getD a.toNat default).tk ≤ t
theorem near_eq {l : List Cp} {o : List Int} {m : List (List UInt8 × Int)} (h : mapI l o m) (w : Int) (c : Cp) : nearT m w c = nearR l w c o := by
  have hs := h c.hm
  unfold nearT nearR
  split at hs
  · rename_i e
    rw [e]
    refine (List.any_eq_false.2 fun a ha => ?_).symm
    rw [beq_eq_false_iff_ne.2 (hs a ha), Bool.false_and]
    decide
  · rename_i t e
    rw [e]
    obtain ⟨⟨a, ha, h1, h2⟩, h3⟩ := hs
    rw [Bool.eq_iff_iff]
    simp only [decide_eq_true_eq, List.any_eq_true, Bool.and_eq_true, beq_iff_eq]
    exact ⟨fun h => ⟨a, ha, h1, by rw [h2]; exact h⟩, fun ⟨b, hb, h4, h5⟩ => by have := h3 b hb h4; omega⟩
theorem cn_eq {l : List Cp} {w : Int} (hm : ∀ i j, i ≤ j → j < l.length → (l.getD i default).tk ≤ (l.getD j default).tk) : ∀ k, k ≤ l.length → (cnS l w k).2 = cnR l w k ∧ mapI l (cnR l w k) (cnS l w k).1
  | 0, _ => ⟨rfl, fun s a ha => by cases ha⟩
  | k + 1, hk => by
    obtain ⟨h1, h2⟩ := cn_eq hm (w := w) k (by omega)
    have hn := near_eq h2 w (l.getD k default)
    rw [cnS, cnR, hn]
    split
    · exact ⟨h1, h2⟩
    · refine ⟨by rw [h1], fun s => ?_⟩
      dsimp only
      rw [lk_pu]
      have hkk : ((k : Nat) : Int).toNat = k := Int.toNat_natCast k
      by_cases hs : s = (l.getD k default).hm
      · rw [if_pos hs]
        refine ⟨⟨(k : Int), List.mem_append_right _ (List.mem_singleton.2 rfl), by rw [hkk, hs], by rw [hkk]⟩, fun a ha _ => ?_⟩
        rcases List.mem_append.1 ha with ha | ha
        · have := cnR_mem ha
          exact hm a.toNat k (by omega) (by omega)
        · rw [List.mem_singleton] at ha
          rw [ha, hkk]
          exact Int.le_refl _
      · rw [if_neg hs]
        have hs2 := h2 s
        split
        · rename_i e
          rw [e] at hs2
          intro a ha
          rcases List.mem_append.1 ha with ha | ha
          · exact hs2 a ha
          · rw [List.mem_singleton] at ha
            rw [ha, hkk]
            exact fun e => hs e.symm
        · rename_i t e
          rw [e] at hs2
          obtain ⟨⟨a, ha, h3, h4⟩, h5⟩ := hs2
          refine ⟨⟨a, List.mem_append_left _ ha, h3, h4⟩, fun b hb h6 => ?_⟩
          rcases List.mem_append.1 hb with hb | hb
          · exact h5 b hb h6
          · rw [List.mem_singleton] at hb
            rw [hb, hkk] at h6
            exact absurd h6.symm hs
end Go.Proofs.YtfoeefaamjknpaaGreatDoor
namespace Go.Proofs.YtfoeefaamjknpaaGreatDoor
open Go Go.Av Go.RowKit
def la1 (l : LA) : Nat → Option LA := fun i => if i.beq 0 then some l else none
structure Sp where
  a : Int
  b : Int
  deriving Inhabited
def fCp (x : Cp) : Int := sFirst [sWhen (!sName x.hm) 8, sWithin x.tk 0 100000000]
def lastC (l : List Cp) : Nat → Int
  | 0 => 0
  | k + 1 => (l.getD k default).tk
def fCl (l : List Cp) (i : Nat) : Int := sFirst [fCp (l.getD i default), sWhen (decide ((l.getD i default).tk < lastC l i)) 11]
def cpE (l : List Cp) : Int := if decide ((l.length : Int) > 64) = true then 5 else sScan (fCl l) l.length 0
def fSp (x : Sp) : Int := sWhen (if (if decide (x.a < 0) = true then true else decide (x.a ≥ x.b)) = true then true else decide (x.b > 100000000)) 14
theorem hd_enc : ∀ l : List Int, (l.map encI).map hdI = l
  | [] => rfl
  | x :: l => by rw [List.map_cons, List.map_cons, hd_enc l]; rfl
def spC : Nat → List AV → Option AV
  | 145, [.int _ x] => some (.i (sWithin x 0 100000))
  | 77, [.int _ x] => some (.i (sWithin x 0 100000))
  | 147, [.agg [.str s, .int _ t]] => some (.i (fCp ⟨s, t⟩))
  | 78, [.agg [.str s, .int _ t]] => some (.i (fCp ⟨s, t⟩))
  | 149, [.agg [.int _ a, .int _ b]] => some (.i (fSp ⟨a, b⟩))
  | n, x => spN n x
theorem c145 (x : Int)  : PCall Tryz.prog G0 145 [.i x] (.i (sWithin x 0 100000)) := by
  have key :
   PCall Tryz.prog G0 118 [AV.i x, AV.i 0, AV.i 100000] (AV.i (sWithin x (0 : Int) (100000 : Int))) ∧ AV.i (sWithin x (0 : Int) (100000 : Int)) = AV.i (sWithin x (0 : Int) (100000 : Int)) := by
    exact ⟨(c118 _ _ _), rfl⟩
  exact c_of Tryz.f145 (mkB spC 145 [] noLa) (by kernel_rfl) (by kernel_rfl) (by kernel_rfl) (by kernel_rfl) key (by kernel_rfl)
theorem c147 (x : Cp) (hx : x.hm.length ≤ 1000000) : PCall Tryz.prog G0 147 [.agg (encCp x)] (.i (fCp x)) := by
  have key :
   PCall Tryz.prog G0 117 [AV.str x.hm] (AV.bool (sName x.hm)) ∧ PCall Tryz.prog G0 116 [AV.bool !sName x.hm, AV.i 8] (AV.i (sWhen (!sName x.hm) (8 : Int))) ∧ PCall Tryz.prog G0 118 [AV.i x.tk, AV.i 0, AV.i 100000000] (AV.i (sWithin
   x.tk (0 : Int) (100000000 : Int))) ∧ PCall Tryz.prog G0 104 [AV.sl 1 [[AV.i (sWhen (!sName x.hm) (8 : Int))], [AV.i (sWithin x.tk (0 : Int) (100000000 : Int))]]] (AV.i (sFirst [hdI [AV.i (sWhen (!sName x.hm) (8 : Int))], hdI [AV.i
   (sWithin x.tk (0 : Int) (100000000 : Int))]])) ∧ AV.i (sFirst [hdI [AV.i (sWhen (!sName x.hm) (8 : Int))], hdI [AV.i (sWithin x.tk (0 : Int) (100000000 : Int))]]) = AV.i (fCp x) := by
    refine ⟨(c117 _ hx), (c116 _ _), (c118 _ _ _), (c104 [_, _] (by simp)), ?_⟩
    · first | rfl | trivial
  exact c_of Tryz.f147 (mkB spC 147 [] noLa) (by kernel_rfl) (by kernel_rfl) (by kernel_rfl) (by kernel_rfl) key (by kernel_rfl)
def la144 (l : List Cp) : LA := {
  pre := [.keep [3, 10, 11, 12] [], .bound 1], post := [.keep [3, 10, 11, 12] [], .bound 1]
  Gh := Nat
  st := fun i => ⟨[(3, .i (lastC l i)), (10, .sl 2 (l.map encCp)), (11, .i (l.map encCp).length), (12, .i i)], [], 1⟩
  ok := fun i => i ≤ l.length ∧ ∀ j, j < i → fCl l j = 0
  ms := fun i => l.length - i }
theorem c144 (l : List Cp) (hl : l.length ≤ 1000) (hn : ∀ x, x ∈ l → x.hm.length ≤ 1000) : PCall Tryz.prog G0 144 [.sl 2 (l.map encCp)] (.i (cpE l)) := by
  have key :
   (decide ((↑(List.map encCp l).length : Int) > 64) = true → AV.i 5 = AV.i (cpE l)) ∧ (decide ((↑(List.map encCp l).length : Int) > 64) = false → (∃ (g : Nat), (g ≤ l.length ∧ ∀ (j : Nat), j < g → fCl l j = (0 : Int)) ∧ AS.mk [(3,
   AV.i 0), (10, AV.sl 2 (List.map encCp l)), (11, AV.i (↑(List.map encCp l).length : Int)), (12, AV.i 0)] [] 1 = AS.mk [(3, AV.i (lastC l g)), (10, AV.sl 2 (List.map encCp l)), (11, AV.i (↑(List.map encCp l).length : Int)), (12, AV.i
   (↑g : Int))] [] 1) ∧ ∀ (g : Nat), (g ≤ l.length ∧ ∀ (j : Nat), j < g → fCl l j = (0 : Int)) → (decide ((↑g : Int) < (↑(List.map encCp l).length : Int)) = true → (0 : Int) ≤ (↑g : Int) ∧ (↑g : Int) < (↑(List.map encCp l).length :
   Int) ∧ AV.agg (nthR (List.map encCp l) (↑g : Int).toNat) = AV.agg (encCp (l.getD (↑g : Int).toNat default)) ∧ PCall Tryz.prog G0 147 [AV.agg (encCp (l.getD (↑g : Int).toNat default))] (AV.i (fCp (Cp.mk (l.getD (↑g : Int).toNat
   default).hm (l.getD (↑g : Int).toNat default).tk))) ∧ PCall Tryz.prog G0 116 [AV.bool (decide ((l.getD (↑g : Int).toNat default).tk < lastC l g)), AV.i 11] (AV.i (sWhen (decide ((l.getD (↑g : Int).toNat default).tk < lastC l g))
   (11 : Int))) ∧ PCall Tryz.prog G0 104 [AV.sl 1 [[AV.i (fCp (Cp.mk (l.getD (↑g : Int).toNat default).hm (l.getD (↑g : Int).toNat default).tk))], [AV.i (sWhen (decide ((l.getD (↑g : Int).toNat default).tk < lastC l g)) (11 : Int))]]]
   (AV.i (sFirst [hdI [AV.i (fCp (Cp.mk (l.getD (↑g : Int).toNat default).hm (l.getD (↑g : Int).toNat default).tk))], hdI [AV.i (sWhen (decide ((l.getD (↑g : Int).toNat default).tk < lastC l g)) (11 : Int))]])) ∧ ((sFirst [hdI [AV.i
   (fCp (Cp.mk (l.getD (↑g : Int).toNat default).hm (l.getD (↑g : Int).toNat default).tk))], hdI [AV.i (sWhen (decide ((l.getD (↑g : Int).toNat default).tk < lastC l g)) (11 : Int))]] != 0) = true → AV.i (sFirst [hdI [AV.i (fCp (Cp.mk
   (l.getD (↑g : Int).toNat default).hm (l.getD (↑g : Int).toNat default).tk))], hdI [AV.i (sWhen (decide ((l.getD (↑g : Int).toNat default).tk < lastC l g)) (11 : Int))]]) = AV.i (cpE l)) ∧ ((sFirst [hdI [AV.i (fCp (Cp.mk (l.getD (↑g
   : Int).toNat default).hm (l.getD (↑g : Int).toNat default).tk))], hdI [AV.i (sWhen (decide ((l.getD (↑g : Int).toNat default).tk < lastC l g)) (11 : Int))]] != 0) = false → In64 ((↑g : Int) + 1) ∧ ∃ (g' : Nat), (g' ≤ l.length ∧ ∀
   (j : Nat), j < g' → fCl l j = (0 : Int)) ∧ l.length - g' < l.length - g ∧ AS.mk [(3, AV.i (l.getD (↑g : Int).toNat default).tk), (10, AV.sl 2 (List.map encCp l)), (11, AV.i (↑(List.map encCp l).length : Int)), (12, AV.i ((↑g : Int)
   + 1))] [] 1 = AS.mk [(3, AV.i (lastC l g')), (10, AV.sl 2 (List.map encCp l)), (11, AV.i (↑(List.map encCp l).length : Int)), (12, AV.i (↑g' : Int))] [] 1)) ∧ (decide ((↑g : Int) < (↑(List.map encCp l).length : Int)) = false → AV.i
   0 = AV.i (cpE l))) := by
    have hlm : (List.map encCp l).length = l.length := List.length_map _
    have : (List.map encCp l).length = l.length := by simp only [List.length_map]
    refine ⟨fun h1 => ?_, fun h1 => ?_⟩
    · have e : cpE l = 5 := if_pos (by rw [hlm] at h1; exact h1)
      rw [e]
    · have h64 : l.length ≤ 64 := by have := of_decide_eq_false h1; omega
      have hb64 : cpE l = sScan (fCl l) l.length 0 := if_neg (by rw [decide_eq_true_eq]; omega)
      refine ⟨⟨0, ⟨by omega, by intros; omega⟩, rfl⟩, fun g ⟨hg, ha⟩ => ⟨fun hd => ?_, fun hd => ?_⟩⟩
      · have hlt : g < l.length := by have h9 := of_decide_eq_true hd; have h8 := hg; (try simp only [List.length_map] at h8 h9); omega
        have hx := hn _ (getD_mem hlt)
        try rw [show (↑g : Int).toNat = g from Int.toNat_natCast g]
        refine ⟨(by omega), (by omega), congrArg AV.agg (row_at encCp hlt), (c147 _ (by omega)), (c116 _ _), (c104 [_, _] (by simp)), fun h2 => ?_, fun h2 => ⟨(by unfold In64; omega), ⟨g + 1, ⟨by omega, all_ext ha (bne_f h2)⟩, by omega, rfl⟩⟩⟩
        · have hne : fCl l g ≠ 0 := bne_t h2
          rw [hb64, scan_hit hlt ha hne]
          rfl
      · have hge : g = l.length := by have h9 := of_decide_eq_false hd; have h8 := hg; (try simp only [List.length_map] at h8 h9); omega
        subst hge
        rw [hb64, scan_end ha]
  exact c_of Tryz.f144 (fzB (mkB spC 144 [(6, 1, rdL 2 encCp l 2 true)] (la1 (la144 l)))) (by kernel_rfl) (by kernel_rfl) (by kernel_rfl) (by kernel_rfl) key (by kernel_rfl)
def dT (es : List (AV × AV)) : List (List UInt8 × Int) := es.filterMap fun p => match p with
  | (.str s, .int _ t) => some (s, t)
  | _ => none
theorem dT_e : ∀ m : List (List UInt8 × Int), dT (m.map keyT) = m
  | [] => rfl
  | (s, t) :: m => congrArg ((s, t) :: ·) (dT_e m)
def rdT2 : BL → List AV → Option AV := fun bs ins => match ins with
  | [.ref id, .str s] => match blkOf bs id with
    | .map es => some (.tup [.i ((lkT s (dT es)).getD 0), .bool (lkT s (dT es)).isSome])
    | _ => none
  | _ => none
def la146 (l : List Cp) (w : Int) : LA := {
  pre := [.ren 3 1, .own 5 3 1, .reno 5 2, .keep [1, 5, 6, 12, 13, 14] [1, 2], .bound 3], post := [.reno 5 2, .keep [1, 5, 6, 12, 13, 14] [1, 2], .bound 3]
  Gh := Nat
  st := fun i => ⟨[(1, .i w), (5, .own 2 ((cnS l w i).2.map encI).length), (6, .ref 1), (12, .sl 2 (l.map encCp)), (13, .i (l.map encCp).length), (14, .i i)], [(1, .map ((cnS l w i).1.map keyT)), (2, .buf 3 1 ((cnS l w i).2.map encI))], 3⟩
  ok := fun i => i ≤ l.length
  ms := fun i => l.length - i }
theorem cnS_len (l : List Cp) (w : Int) : ∀ k, (cnS l w k).2.length ≤ k
  | 0 => Nat.le_refl _
  | k + 1 => by
    have := cnS_len l w k
    rw [cnS]
    split
    · omega
    · rw [List.length_append, List.length_singleton]; omega
theorem lk_in {l : List Cp} {o : List Int} {m : List (List UInt8 × Int)} (h : mapI l o m) (s : List UInt8) : ∀ t, lkT s m = some t → ∃ a, a ∈ o ∧ (l.getD a.toNat default).tk = t := fun t ht => by
  have := h s
  rw [ht] at this
  obtain ⟨⟨a, h1, _, h2⟩, _⟩ := this
  exact ⟨a, h1, h2⟩
structure CpOK (l : List Cp) : Prop where
  tk : ∀ i, i < l.length → 0 ≤ (l.getD i default).tk ∧ (l.getD i default).tk ≤ 100000000
  up : ∀ i j, i ≤ j → j < l.length → (l.getD i default).tk ≤ (l.getD j default).tk
theorem cp_z {l : List Cp} (h : cpE l = 0) : l.length ≤ 64 ∧ CpOK l := by
  unfold cpE at h
  split at h
  · cases h
  · rename_i h1
    have h2 := (scan_zero h).1
    have h3 : ∀ i, i < l.length → (0 ≤ (l.getD i default).tk ∧ (l.getD i default).tk ≤ 100000000) ∧ lastC l i ≤ (l.getD i default).tk := fun i hi => by
      have := h2 i hi
      unfold fCl fCp at this
      rw [first_zero, first_zero, first_zero, first_zero, within_zero] at this
      have h4 := of_decide_eq_false (when_z (by decide) this.2.1)
      exact ⟨this.1.2.1, by omega⟩
    refine ⟨by rw [decide_eq_true_eq] at h1; omega, fun i hi => (h3 i hi).1, fun i j => ?_⟩
    induction j with
    | zero => intro h4 _; have e : i = 0 := by omega
              rw [e]; exact Int.le_refl _
    | succ j ih =>
      intro h4 h5
      by_cases e : i = j + 1
      · rw [e]; exact Int.le_refl _
      · have h6 := (h3 (j + 1) h5).2
        simp only [lastC] at h6
        exact Int.le_trans (ih (by omega) (by omega)) h6
theorem near_e (m : List (List UInt8 × Int)) (w : Int) (c : Cp) : nearT m w c = if (lkT c.hm m).isSome = true then decide (c.tk - (lkT c.hm m).getD 0 ≤ w) else false := by
  unfold nearT
  cases lkT c.hm m <;> rfl
theorem look_two (s : List UInt8) (m : List (List UInt8 × Int)) : lookV true (.i 0) (mlook (.str s) (m.map keyT)) = .tup [.i ((lkT s m).getD 0), .bool (lkT s m).isSome] := by
  rw [look_T]
  cases lkT s m <;> rfl
theorem c146 (l : List Cp) (w : Int) (hl : l.length ≤ 64) (hc : CpOK l) : PCall Tryz.prog G0 146 [.sl 2 (l.map encCp), .i w] (.fresh 3 1 ((cnS l w l.length).2.map encI)) := by
  have key :
   (∃ (g : Nat), g ≤ l.length ∧ AS.mk [(1, AV.i w), (5, AV.own 2 0), (6, AV.ref 1), (12, AV.sl 2 (List.map encCp l)), (13, AV.i (↑(List.map encCp l).length : Int)), (14, AV.i 0)] [(1, ABlk.map []), (2, ABlk.buf 3 1 [])] 3 = AS.mk [(1,
   AV.i w), (5, AV.own 2 (List.map encI (cnS l w g).snd).length), (6, AV.ref 1), (12, AV.sl 2 (List.map encCp l)), (13, AV.i (↑(List.map encCp l).length : Int)), (14, AV.i (↑g : Int))] [(1, ABlk.map (List.map keyT (cnS l w g).fst)),
   (2, ABlk.buf 3 1 (List.map encI (cnS l w g).snd))] 3) ∧ ∀ (g : Nat), g ≤ l.length → (decide ((↑g : Int) < (↑(List.map encCp l).length : Int)) = true → (0 : Int) ≤ (↑g : Int) ∧ (↑g : Int) < (↑(List.map encCp l).length : Int) ∧
   AV.agg (nthR (List.map encCp l) (↑g : Int).toNat) = AV.agg (encCp (l.getD (↑g : Int).toNat default)) ∧ (mlook (AV.str (l.getD (↑g : Int).toNat default).hm) (List.map keyT (cnS l w g).fst)).isSome = true ∧ lookV true (AV.i 0) (mlook
   (AV.str (l.getD (↑g : Int).toNat default).hm) (List.map keyT (cnS l w g).fst)) = AV.tup [AV.i ((lkT (l.getD (↑g : Int).toNat default).hm (dT (List.map keyT (cnS l w g).fst))).getD (0 : Int)), AV.bool (lkT (l.getD (↑g : Int).toNat
   default).hm (dT (List.map keyT (cnS l w g).fst))).isSome] ∧ ((lkT (l.getD (↑g : Int).toNat default).hm (dT (List.map keyT (cnS l w g).fst))).isSome = true → (lkT (l.getD (↑g : Int).toNat default).hm (dT (List.map keyT (cnS l w
   g).fst))).isSome = true) ∧ ((lkT (l.getD (↑g : Int).toNat default).hm (dT (List.map keyT (cnS l w g).fst))).isSome = true → (lkT (l.getD (↑g : Int).toNat default).hm (dT (List.map keyT (cnS l w g).fst))).isSome = true) ∧ ((lkT
   (l.getD (↑g : Int).toNat default).hm (dT (List.map keyT (cnS l w g).fst))).isSome = true → (lkT (l.getD (↑g : Int).toNat default).hm (dT (List.map keyT (cnS l w g).fst))).isSome = true) ∧ ((lkT (l.getD (↑g : Int).toNat default).hm
   (dT (List.map keyT (cnS l w g).fst))).isSome = true → In64 ((l.getD (↑g : Int).toNat default).tk - (lkT (l.getD (↑g : Int).toNat default).hm (dT (List.map keyT (cnS l w g).fst))).getD (0 : Int))) ∧ ((lkT (l.getD (↑g : Int).toNat
   default).hm (dT (List.map keyT (cnS l w g).fst))).isSome = true → (lkT (l.getD (↑g : Int).toNat default).hm (dT (List.map keyT (cnS l w g).fst))).isSome = true) ∧ ((lkT (l.getD (↑g : Int).toNat default).hm (dT (List.map keyT (cnS l
   w g).fst))).isSome = true → (lkT (l.getD (↑g : Int).toNat default).hm (dT (List.map keyT (cnS l w g).fst))).isSome = true) ∧ ((lkT (l.getD (↑g : Int).toNat default).hm (dT (List.map keyT (cnS l w g).fst))).isSome = true → (lkT
   (l.getD (↑g : Int).toNat default).hm (dT (List.map keyT (cnS l w g).fst))).isSome = true) ∧ ((if (lkT (l.getD (↑g : Int).toNat default).hm (dT (List.map keyT (cnS l w g).fst))).isSome = true then decide ((l.getD (↑g : Int).toNat
   default).tk - (lkT (l.getD (↑g : Int).toNat default).hm (dT (List.map keyT (cnS l w g).fst))).getD (0 : Int) ≤ w) else false) = true → In64 ((↑g : Int) + 1) ∧ ∃ (g' : Nat), g' ≤ l.length ∧ l.length - g' < l.length - g ∧ AS.mk [(1,
   AV.i w), (5, AV.own 2 (List.map encI (cnS l w g).snd).length), (6, AV.ref 1), (12, AV.sl 2 (List.map encCp l)), (13, AV.i (↑(List.map encCp l).length : Int)), (14, AV.i ((↑g : Int) + 1))] [(1, ABlk.map (List.map keyT (cnS l w
   g).fst)), (2, ABlk.buf 3 1 (List.map encI (cnS l w g).snd))] 3 = AS.mk [(1, AV.i w), (5, AV.own 2 (List.map encI (cnS l w g').snd).length), (6, AV.ref 1), (12, AV.sl 2 (List.map encCp l)), (13, AV.i (↑(List.map encCp l).length :
   Int)), (14, AV.i (↑g' : Int))] [(1, ABlk.map (List.map keyT (cnS l w g').fst)), (2, ABlk.buf 3 1 (List.map encI (cnS l w g').snd))] 3) ∧ ((if (lkT (l.getD (↑g : Int).toNat default).hm (dT (List.map keyT (cnS l w g).fst))).isSome =
   true then decide ((l.getD (↑g : Int).toNat default).tk - (lkT (l.getD (↑g : Int).toNat default).hm (dT (List.map keyT (cnS l w g).fst))).getD (0 : Int) ≤ w) else false) = false → (mput (AV.str (l.getD (↑g : Int).toNat default).hm)
   (AV.i (l.getD (↑g : Int).toNat default).tk) (List.map keyT (cnS l w g).fst)).isSome = true ∧ (List.map encI (cnS l w g).snd).length + 1 ≤ 9223372036854775807 ∧ ((List.map encI (cnS l w g).snd).length + 1) * 8 ≤ 140737488355328 ∧
   In64 ((↑g : Int) + 1) ∧ ∃ (g' : Nat), g' ≤ l.length ∧ l.length - g' < l.length - g ∧ AS.mk [(1, AV.i w), (5, AV.own 2 ((List.map encI (cnS l w g).snd).length + 1)), (6, AV.ref 1), (12, AV.sl 2 (List.map encCp l)), (13, AV.i
   (↑(List.map encCp l).length : Int)), (14, AV.i ((↑g : Int) + 1))] [(1, ABlk.map ((mput (AV.str (l.getD (↑g : Int).toNat default).hm) (AV.i (l.getD (↑g : Int).toNat default).tk) (List.map keyT (cnS l w g).fst)).getD [])), (2,
   ABlk.buf 3 1 (List.map encI (cnS l w g).snd ++ [[AV.i (↑g : Int)]]))] 3 = AS.mk [(1, AV.i w), (5, AV.own 2 (List.map encI (cnS l w g').snd).length), (6, AV.ref 1), (12, AV.sl 2 (List.map encCp l)), (13, AV.i (↑(List.map encCp
   l).length : Int)), (14, AV.i (↑g' : Int))] [(1, ABlk.map (List.map keyT (cnS l w g').fst)), (2, ABlk.buf 3 1 (List.map encI (cnS l w g').snd))] 3)) ∧ (decide ((↑g : Int) < (↑(List.map encCp l).length : Int)) = false → AV.fresh 3 1
   (List.map encI (cnS l w g).snd) = AV.fresh 3 1 (List.map encI (cnS l w l.length).snd)) := by
    have hlm : (List.map encCp l).length = l.length := List.length_map _
    have : (List.map encCp l).length = l.length := by simp only [List.length_map]
    refine ⟨⟨0, by omega, rfl⟩, fun g hg => ⟨fun hd => ?_, fun hd => ?_⟩⟩
    · have hlt : g < l.length := by have h9 := of_decide_eq_true hd; have h8 := hg; (try simp only [List.length_map] at h8 h9); omega
      have htk := hc.tk g hlt
      have hmi := (cn_eq hc.up (w := w) g (by omega)).2
      have hle := cnS_len l w g
      have hem : (List.map encI (cnS l w g).2).length = (cnS l w g).2.length := List.length_map _
      have hlk : ∀ t, lkT (l.getD g default).hm (cnS l w g).1 = some t → 0 ≤ t ∧ t ≤ 100000000 := fun t ht => by
        obtain ⟨a, h1, h2⟩ := lk_in hmi _ t ht
        have := cnR_mem h1
        have := hc.tk a.toNat (by omega)
        omega
      rw [dT_e]
      have hgd : 0 ≤ (lkT (l.getD g default).hm (cnS l w g).1).getD 0 ∧ (lkT (l.getD g default).hm (cnS l w g).1).getD 0 ≤ 100000000 := by
        cases e : lkT (l.getD g default).hm (cnS l w g).1 with
        | none => exact ⟨by decide, by decide⟩
        | some t => exact hlk t e
      try rw [show (↑g : Int).toNat = g from Int.toNat_natCast g]
      refine ⟨(by omega), (by omega), congrArg AV.agg (row_at encCp hlt), (by rw [look_T]; rfl), look_two _ _, fun h => h, fun h => h, fun h => h, fun _ => by unfold In64; omega, fun h => h, fun h => h, fun h => h, fun h1 => ⟨(by unfold In64; omega), ⟨g + 1, by omega, by omega, ?_⟩⟩, fun h1 => ⟨(by rw [put_T]; rfl), (by omega), (by omega), (by unfold In64; omega), ⟨g + 1, by omega, by omega, ?_⟩⟩⟩
      · first
          | (rw [show cnS l w (g + 1) = cnS l w g from if_pos ((near_e _ _ _).trans h1)]; rfl)
          | (rw [put_T, show cnS l w (g + 1) = (puT (l.getD g default).hm (l.getD g default).tk (cnS l w g).1, (cnS l w g).2 ++ [(g : Int)]) from if_neg (by rw [near_e, h1]; decide), List.map_append, List.length_append]; rfl)
      · first
          | (rw [show cnS l w (g + 1) = cnS l w g from if_pos ((near_e _ _ _).trans h1)]; rfl)
          | (rw [put_T, show cnS l w (g + 1) = (puT (l.getD g default).hm (l.getD g default).tk (cnS l w g).1, (cnS l w g).2 ++ [(g : Int)]) from if_neg (by rw [near_e, h1]; decide), List.map_append, List.length_append]; rfl)
    · have hge : g = l.length := by have h9 := of_decide_eq_false hd; have h8 := hg; (try simp only [List.length_map] at h8 h9); omega
      subst hge
      first | rfl | trivial
  exact c_of Tryz.f146 (modA 6 3 (fun a => { a with rdb := rdT2 }) (fzB (mkB spC 146 [(5, 2, rdL 2 encCp l 2 true)] (la1 (la146 l w))))) (by kernel_rfl) (by kernel_rfl) (by kernel_rfl) (by kernel_rfl) key (by kernel_rfl)
end Go.Proofs.YtfoeefaamjknpaaGreatDoor
namespace Go.Proofs.YtfoeefaamjknpaaGreatDoor
open Go Go.Av Go.RowKit
def cnE (l : List Cp) (w : Int) : Int := sFirst [cpE l, sWithin w 0 100000]
def cnV (l : List Cp) (w : Int) : List Int := if (cnE l w != 0) = true then [] else (cnS l w l.length).2
def sp71 (l : List Cp) (w : Int) : Nat → List AV → Option AV
  | 144, _ => some (.i (cpE l))
  | 146, _ => some (.fresh 3 1 ((cnS l w l.length).2.map encI))
  | n, x => spC n x
theorem c71 (l : List Cp) (w : Int) (hl : l.length ≤ 1000) (hn : ∀ x, x ∈ l → x.hm.length ≤ 1000) : PCall Tryz.prog G0 71 [.sl 2 (l.map encCp), .i w] (.tup [.sl 1 ((cnV l w).map encI), .i (cnE l w)]) := by
  have key :
   PCall Tryz.prog G0 144 [AV.sl 2 (List.map encCp l)] (AV.i (cpE l)) ∧ PCall Tryz.prog G0 145 [AV.i w] (AV.i (sWithin w (0 : Int) (100000 : Int))) ∧ PCall Tryz.prog G0 104 [AV.sl 1 [[AV.i (cpE l)], [AV.i (sWithin w (0 : Int) (100000
   : Int))]]] (AV.i (sFirst [hdI [AV.i (cpE l)], hdI [AV.i (sWithin w (0 : Int) (100000 : Int))]])) ∧ ((sFirst [hdI [AV.i (cpE l)], hdI [AV.i (sWithin w (0 : Int) (100000 : Int))]] != 0) = true → AV.tup [AV.sl 1 [], AV.i (sFirst [hdI
   [AV.i (cpE l)], hdI [AV.i (sWithin w (0 : Int) (100000 : Int))]])] = AV.tup [AV.sl 1 (List.map encI (cnV l w)), AV.i (cnE l w)]) ∧ ((sFirst [hdI [AV.i (cpE l)], hdI [AV.i (sWithin w (0 : Int) (100000 : Int))]] != 0) = false → PCall
   Tryz.prog G0 146 [AV.sl 2 (List.map encCp l), AV.i w] (AV.fresh 3 1 (List.map encI (cnS l w l.length).snd)) ∧ AV.tup [AV.sl 1 (List.map encI (cnS l w l.length).snd), AV.i 0] = AV.tup [AV.sl 1 (List.map encI (cnV l w)), AV.i (cnE l
   w)]) := by
    refine ⟨(c144 l hl hn), (c145 _), (c104 [_, _] (by simp)), fun h1 => ?_, fun h1 => ?_⟩
    · have hv : cnV l w = [] := if_pos (by first | exact h1 | exact h2 | exact h3)
      rw [hv]
      rfl
    · have hz : cnE l w = 0 := bne_f h1
      have hcp : cpE l = 0 := by unfold cnE at hz; rw [first_zero] at hz; exact hz.1
      obtain ⟨h64, hok⟩ := cp_z hcp
      have hv : cnV l w = (cnS l w l.length).2 := if_neg (by rw [hz]; decide)
      refine ⟨(c146 l w h64 hok), ?_⟩
      · rw [hv, hz]
  exact c_of Tryz.f71 (gsB (fun i => if i.beq 3 then [.nil 4 1] else []) (fzB (mkB (sp71 l w) 71 [] noLa))) (by kernel_rfl) (by kernel_rfl) (by kernel_rfl) (by kernel_rfl) key (by kernel_rfl)
structure SpOK (x : Sp) : Prop where
  p : 0 ≤ x.a ∧ x.a < x.b ∧ x.b ≤ 100000000
def hasI (l : List Int) (x : Int) : Bool := l.any fun y => x == y
def la181 (l : List Int) (x : Int) : LA := {
  pre := [.keep [0, 1, 6, 7, 8] [], .bound 1], post := [.keep [0, 1, 6, 7, 8] [], .bound 1]
  Gh := Nat
  st := fun i => ⟨[(0, .sl 1 (l.map encI)), (1, .i x), (6, .sl 1 (l.map encI)), (7, .i (l.map encI).length), (8, .i i)], [], 1⟩
  ok := fun i => i ≤ l.length ∧ ∀ j, j < i → (x == l.getD j default) = false
  ms := fun i => l.length - i }
theorem c181 (l : List Int) (x : Int) (hl : l.length ≤ 1000) : PCall Tryz.prog G0 181 [.sl 1 (l.map encI), .i x] (.i (fiI (fun j => x == l.getD j default) l.length)) := by
  have key :
   (∃ (g : Nat), (g ≤ l.length ∧ ∀ (j : Nat), j < g → (x == l.getD j default) = false) ∧ AS.mk [(0, AV.sl 1 (List.map encI l)), (1, AV.i x), (6, AV.sl 1 (List.map encI l)), (7, AV.i (↑(List.map encI l).length : Int)), (8, AV.i 0)] []
   1 = AS.mk [(0, AV.sl 1 (List.map encI l)), (1, AV.i x), (6, AV.sl 1 (List.map encI l)), (7, AV.i (↑(List.map encI l).length : Int)), (8, AV.i (↑g : Int))] [] 1) ∧ ∀ (g : Nat), (g ≤ l.length ∧ ∀ (j : Nat), j < g → (x == l.getD j
   default) = false) → (decide ((↑g : Int) < (↑(List.map encI l).length : Int)) = true → (0 : Int) ≤ (↑g : Int) ∧ (↑g : Int) < (↑(List.map encI l).length : Int) ∧ nth (nthR (List.map encI l) (↑g : Int).toNat) 0 = AV.i (l.getD (↑g :
   Int).toNat default) ∧ ((x == l.getD (↑g : Int).toNat default) = true → AV.i (↑g : Int) = AV.i (fiI (fun (j : Nat) => x == l.getD j default) l.length)) ∧ ((x == l.getD (↑g : Int).toNat default) = false → In64 ((↑g : Int) + 1) ∧ ∃
   (g' : Nat), (g' ≤ l.length ∧ ∀ (j : Nat), j < g' → (x == l.getD j default) = false) ∧ l.length - g' < l.length - g ∧ AS.mk [(0, AV.sl 1 (List.map encI l)), (1, AV.i x), (6, AV.sl 1 (List.map encI l)), (7, AV.i (↑(List.map encI
   l).length : Int)), (8, AV.i ((↑g : Int) + 1))] [] 1 = AS.mk [(0, AV.sl 1 (List.map encI l)), (1, AV.i x), (6, AV.sl 1 (List.map encI l)), (7, AV.i (↑(List.map encI l).length : Int)), (8, AV.i (↑g' : Int))] [] 1)) ∧ (decide ((↑g :
   Int) < (↑(List.map encI l).length : Int)) = false → AV.i (-1) = AV.i (fiI (fun (j : Nat) => x == l.getD j default) l.length)) := by
    have hlm : (List.map encI l).length = l.length := List.length_map _
    have : (List.map encI l).length = l.length := by simp only [List.length_map]
    refine ⟨⟨0, ⟨by omega, by intros; omega⟩, rfl⟩, fun g ⟨hg, ha⟩ => ⟨fun hd => ?_, fun hd => ?_⟩⟩
    · have hlt : g < l.length := by have h9 := of_decide_eq_true hd; have h8 := hg; (try simp only [List.length_map] at h8 h9); omega
      try rw [show (↑g : Int).toNat = g from Int.toNat_natCast g]
      refine ⟨(by omega), (by omega), congrArg (fun r => nth r 0) (row_at encI hlt), fun h1 => ?_, fun h1 => ⟨(by unfold In64; omega), ⟨g + 1, ⟨by omega, all_ext ha h1⟩, by omega, rfl⟩⟩⟩
      · rw [fiI, fi_some ha (show (x == l.getD g default) = true from h1) hlt, if_neg (by omega)]
    · have hge : g = l.length := by have h9 := of_decide_eq_false hd; have h8 := hg; (try simp only [List.length_map] at h8 h9); omega
      subst hge
      rw [fiI, fi_none ha, if_pos rfl]
  exact c_of Tryz.f181 (mkB spC 181 [(4, 4, rdL 1 encI l 1 false)] (la1 (la181 l x))) (by kernel_rfl) (by kernel_rfl) (by kernel_rfl) (by kernel_rfl) key (by kernel_rfl)
theorem has_fi (l : List Int) (x : Int) : decide (fiI (fun j => x == l.getD j default) l.length ≥ 0) = hasI l x := by
  rw [fiI_dec, ← any_take (q := fun y => x == y) (Nat.le_refl _), List.take_length]
  rfl
def sp153 : Nat → List AV → Option AV
  | 181, [.sl _ rows, .int _ x] => some (.i (fiI (fun j => x == (rows.map hdI).getD j default) rows.length))
  | n, x => spC n x
theorem c153 (l : List Int) (x : Int) (hl : l.length ≤ 1000) : PCall Tryz.prog G0 153 [.sl 1 (l.map encI), .i x] (.bool (hasI l x)) := by
  have key :
   PCall Tryz.prog G0 181 [AV.sl 1 (List.map encI l), AV.i x] (AV.i (fiI (fun (j : Nat) => x == (List.map hdI (List.map encI l)).getD j default) (List.map encI l).length)) ∧ AV.bool (decide (fiI (fun (j : Nat) => x == (List.map hdI
   (List.map encI l)).getD j default) (List.map encI l).length ≥ 0)) = AV.bool (hasI l x) := by
    have hlm : (List.map encI l).length = l.length := List.length_map _
    rw [hd_enc, hlm]
    have : (List.map encI l).length = l.length := by simp only [List.length_map]
    exact ⟨(c181 l x hl), congrArg AV.bool (has_fi l x)⟩
  exact c_of Tryz.f153 (mkB sp153 153 [] noLa) (by kernel_rfl) (by kernel_rfl) (by kernel_rfl) (by kernel_rfl) key (by kernel_rfl)
end Go.Proofs.YtfoeefaamjknpaaGreatDoor
namespace Go.Proofs.YtfoeefaamjknpaaGreatDoor
open Go Go.Av Go.RowKit
def p10 : Nat → Int
  | 0 => 1
  | k + 1 => 10 * p10 k
structure Wn where
  (o0 o1 o2 o3 o4 o5 o6 o7 : Int)
  ar : Int
  (p0 p1 p2 p3 p4 p5 p6 p7 p8 p9 p10 p11 p12 p13 p14 p15 : Int)
  deriving Inhabited
def Wn.o (x : Wn) : Nat → Int
  | 0 => x.o0
  | 1 => x.o1
  | 2 => x.o2
  | 3 => x.o3
  | 4 => x.o4
  | 5 => x.o5
  | 6 => x.o6
  | 7 => x.o7
  | _ => 0
def Wn.lo (x : Wn) : Nat → Int
  | 0 => x.p0
  | 1 => x.p2
  | 2 => x.p4
  | 3 => x.p6
  | 4 => x.p8
  | 5 => x.p10
  | 6 => x.p12
  | 7 => x.p14
  | _ => 0
def Wn.hi (x : Wn) : Nat → Int
  | 0 => x.p1
  | 1 => x.p3
  | 2 => x.p5
  | 3 => x.p7
  | 4 => x.p9
  | 5 => x.p11
  | 6 => x.p13
  | 7 => x.p15
  | _ => 0
structure Hm where
  nm : List UInt8
  pe : Int
  ws : List Wn
  deriving Inhabited
structure Ms where
  nm : List UInt8
  w : Int
  c : Int
  (p0 p1 p2 p3 p4 p5 p6 p7 p8 p9 p10 p11 p12 p13 p14 p15 : Int)
  deriving Inhabited
def Ms.lo (x : Ms) : Nat → Int
  | 0 => x.p0
  | 1 => x.p2
  | 2 => x.p4
  | 3 => x.p6
  | 4 => x.p8
  | 5 => x.p10
  | 6 => x.p12
  | 7 => x.p14
  | _ => 0
def Ms.hi (x : Ms) : Nat → Int
  | 0 => x.p1
  | 1 => x.p3
  | 2 => x.p5
  | 3 => x.p7
  | 4 => x.p9
  | 5 => x.p11
  | 6 => x.p13
  | 7 => x.p15
  | _ => 0
structure Iv where
  a : Int
  b : Int
  deriving Inhabited
def clL (l : List Nat) : Operand → Bool
  | .tmp t => l.any fun x => x.beq t
  | _ => false
theorem hd_encI : ∀ l : List Int, (l.map encI).map hdI = l
  | [] => rfl
  | x :: l => by rw [List.map_cons, List.map_cons, hd_encI l]; rfl
structure WnOK (w : Wn) : Prop where
  o0 : ∀ b, b < 8 → 0 ≤ w.o b ∧ w.o b ≤ 100000000
  a0 : 1 ≤ w.ar ∧ w.ar ≤ 100
  l0 : ∀ b, b < 8 → 0 ≤ w.lo b ∧ w.lo b ≤ w.hi b ∧ w.hi b ≤ 1000
theorem WnOK.lo {w : Wn} (h : WnOK w) : ∀ b, b < 8 → 0 ≤ w.lo b ∧ w.lo b ≤ 1000 := fun b hb => by have := h.l0 b hb; omega
theorem WnOK.hi {w : Wn} (h : WnOK w) : ∀ b, b < 8 → 0 ≤ w.hi b ∧ w.hi b ≤ 1000 := fun b hb => by have := h.l0 b hb; omega
end Go.Proofs.YtfoeefaamjknpaaGreatDoor
namespace Go.Proofs.YtfoeefaamjknpaaGreatDoor
open Go Go.Av Go.RowKit
structure Zn where
  nm : List UInt8
  fr : Int
  sh : Int
  tg : Int
  deriving Inhabited
def lastZ (l : List Zn) : Nat → Int
  | 0 => -1
  | k + 1 => (l.getD k default).fr
structure ZnOK (l : List Zn) (i : Nat) : Prop where
  fr : 0 ≤ (l.getD i default).fr ∧ (l.getD i default).fr ≤ 120
  sh : 0 ≤ (l.getD i default).sh ∧ (l.getD i default).sh ≤ 100
  tg : 0 ≤ (l.getD i default).tg ∧ (l.getD i default).tg ≤ 10000000000000
  up : lastZ l i < (l.getD i default).fr
def badI (n : Int) (i : Int) : Bool := if decide (i < 0) = true then true else decide (i ≥ n)
def ordI (l : List Int) (j : Nat) : Bool := if j = 0 then false else decide (l.getD j default ≤ l.getD (j - 1) default)
def fIx (l : List Int) (n : Int) : Int := if decide (fiN (fun j => badI n (l.getD j default)) l.length < l.length) = true then 10 else if decide (fiN (ordI l) l.length < l.length) = true then 11 else 0
structure MsOK (n : Nat) (m : Ms) : Prop where
  w0 : 0 ≤ m.w ∧ m.w < n
  c0 : 0 ≤ m.c ∧ m.c ≤ 1000000
  l0 : ∀ b, b < 8 → 0 ≤ m.lo b ∧ m.lo b ≤ m.hi b ∧ m.hi b ≤ 1000
end Go.Proofs.YtfoeefaamjknpaaGreatDoor
namespace Go.Proofs.YtfoeefaamjknpaaGreatDoor
open Go Go.Av Go.RowKit
theorem w_of {f : Nat} {args : List AV} {bs : List ABlk} {r : AV} {fin : List ABlk} (fn : Func) (B : BA) (hf : Tryz.prog.funcs[f]? = some fn) (hb : fn.body = some (bodyOf fn)) (hn : (fn.name == "runtime.NumGoroutine") = false) (hlen : Nat.ble args.length fn.ntmps = true) (hwf : wfB (bs.length + 1) (startW args bs) = true)
    {q : Prop} (hq : q) (h : VC (bodyE Tryz.prog T0 G0 fn.ntmps []) B 10000 0 (bodyOf fn) (startW args bs) (retQW T0 fn bs.length r fin) = q) : WCall Tryz.prog G0 f args bs r fin :=
  callW_of_VC tok mix hf hb hn (Nat.le_of_ble_eq_true hlen) hwf B (vc_of hq h)
def FI (n : Int) : AV := .fn (.func 179) [] [.elt 1 [[.i n]] 0 0]
theorem c179 (i n : Int)  : PCall Tryz.prog G0 179 [.i i, .elt 1 [[.i n]] 0 0] (.bool (badI n i)) := by
  have key :
   ((!decide (i < 0)) = true → (!decide (i < 0)) = true) ∧ ((!decide (i < 0)) = true → (!decide (i < 0)) = true) ∧ (decide (i < 0) = false → (!decide (i < 0)) = true) ∧ AV.bool (if decide (i < 0) = true then true else decide (i ≥ n))
   = AV.bool (badI n i) := by
    refine ⟨fun h => h, fun h => h, fun h => by first | exact h | (rw [h]; rfl) | simp_all, ?_⟩
    · first | rfl | trivial
  exact c_of Tryz.f179 (mkB spC 179 [] noLa) (by kernel_rfl) (by kernel_rfl) (by kernel_rfl) (by kernel_rfl) key (by kernel_rfl)
def la180 (F : AV) (p : Int → Bool) (l : List Int) : LA := {
  pre := [.keep [0, 1, 6, 7, 8] [], .bound 1], post := [.keep [0, 1, 6, 7, 8] [], .bound 1]
  Gh := Nat
  st := fun i => ⟨[(0, .sl 1 (l.map encI)), (1, F), (6, .sl 1 (l.map encI)), (7, .i (l.map encI).length), (8, .i i)], [], 1⟩
  ok := fun i => i ≤ l.length ∧ ∀ j, j < i → p (l.getD j default) = false
  ms := fun i => l.length - i }
def sp180 (n : Int) : Nat → List AV → Option AV
  | 179, .int _ i :: _ => some (.bool (badI n i))
  | m, x => spC m x
theorem c180a (n : Int) (l : List Int) (hl : l.length ≤ 1000) : PCall Tryz.prog G0 180 [.sl 1 (l.map encI), FI n] (.i (fiI (fun j => badI n (l.getD j default)) l.length)) := by
  have key :
   (∃ (g : Nat), (g ≤ l.length ∧ ∀ (j : Nat), j < g → badI n (l.getD j default) = false) ∧ AS.mk [(0, AV.sl 1 (List.map encI l)), (1, AV.fn (Fn.func 179) [] [AV.elt 1 [[AV.i n]] 0 0]), (6, AV.sl 1 (List.map encI l)), (7, AV.i
   (↑(List.map encI l).length : Int)), (8, AV.i 0)] [] 1 = AS.mk [(0, AV.sl 1 (List.map encI l)), (1, AV.fn (Fn.func 179) [] [AV.elt 1 [[AV.i n]] 0 0]), (6, AV.sl 1 (List.map encI l)), (7, AV.i (↑(List.map encI l).length : Int)), (8,
   AV.i (↑g : Int))] [] 1) ∧ ∀ (g : Nat), (g ≤ l.length ∧ ∀ (j : Nat), j < g → badI n (l.getD j default) = false) → (decide ((↑g : Int) < (↑(List.map encI l).length : Int)) = true → (0 : Int) ≤ (↑g : Int) ∧ (↑g : Int) < (↑(List.map
   encI l).length : Int) ∧ nth (nthR (List.map encI l) (↑g : Int).toNat) 0 = AV.i (l.getD (↑g : Int).toNat default) ∧ PCall Tryz.prog G0 179 [AV.i (l.getD (↑g : Int).toNat default), AV.elt 1 [[AV.i n]] 0 0] (AV.bool (badI n (l.getD
   (↑g : Int).toNat default))) ∧ (badI n (l.getD (↑g : Int).toNat default) = true → AV.i (↑g : Int) = AV.i (fiI (fun (j : Nat) => badI n (l.getD j default)) l.length)) ∧ (badI n (l.getD (↑g : Int).toNat default) = false → In64 ((↑g :
   Int) + 1) ∧ ∃ (g' : Nat), (g' ≤ l.length ∧ ∀ (j : Nat), j < g' → badI n (l.getD j default) = false) ∧ l.length - g' < l.length - g ∧ AS.mk [(0, AV.sl 1 (List.map encI l)), (1, AV.fn (Fn.func 179) [] [AV.elt 1 [[AV.i n]] 0 0]), (6,
   AV.sl 1 (List.map encI l)), (7, AV.i (↑(List.map encI l).length : Int)), (8, AV.i ((↑g : Int) + 1))] [] 1 = AS.mk [(0, AV.sl 1 (List.map encI l)), (1, AV.fn (Fn.func 179) [] [AV.elt 1 [[AV.i n]] 0 0]), (6, AV.sl 1 (List.map encI
   l)), (7, AV.i (↑(List.map encI l).length : Int)), (8, AV.i (↑g' : Int))] [] 1)) ∧ (decide ((↑g : Int) < (↑(List.map encI l).length : Int)) = false → AV.i (-1) = AV.i (fiI (fun (j : Nat) => badI n (l.getD j default)) l.length)) :=
   by
    have hlm : (List.map encI l).length = l.length := List.length_map _
    have : (List.map encI l).length = l.length := by simp only [List.length_map]
    refine ⟨⟨0, ⟨by omega, by intros; omega⟩, rfl⟩, fun g ⟨hg, ha⟩ => ⟨fun hd => ?_, fun hd => ?_⟩⟩
    · have hlt : g < l.length := by have h9 := of_decide_eq_true hd; have h8 := hg; (try simp only [List.length_map] at h8 h9); omega
      try rw [show (↑g : Int).toNat = g from Int.toNat_natCast g]
      refine ⟨(by omega), (by omega), congrArg (fun r => nth r 0) (row_at encI hlt), (c179 _ _), fun h1 => ?_, fun h1 => ⟨(by unfold In64; omega), ⟨g + 1, ⟨by omega, all_ext ha h1⟩, by omega, rfl⟩⟩⟩
      · rw [fiI, fi_some (p := fun j => badI n (l.getD j default)) ha (show badI n (l.getD g default) = true from h1) hlt, if_neg (by omega)]
    · have hge : g = l.length := by have h9 := of_decide_eq_false hd; have h8 := hg; (try simp only [List.length_map] at h8 h9); omega
      subst hge
      rw [fiI, fi_none (p := fun j => badI n (l.getD j default)) ha, if_pos rfl]
  exact c_of Tryz.f180 (mkB (sp180 n) 180 [(4, 4, rdL 1 encI l 1 false)] (la1 (la180 (FI n) (badI n) l))) (by kernel_rfl) (by kernel_rfl) (by kernel_rfl) (by kernel_rfl) key (by kernel_rfl)
def sp178 (p : Int → Bool) (l : List Int) : Nat → List AV → Option AV
  | 180, _ => some (.i (fiI (fun j => p (l.getD j default)) l.length))
  | m, x => spC m x
theorem c178a (n : Int) (l : List Int) (hl : l.length ≤ 1000) : PCall Tryz.prog G0 178 [.sl 1 (l.map encI), FI n] (.bool (decide (fiN (fun j => badI n (l.getD j default)) l.length < l.length))) := by
  have key :
   PCall Tryz.prog G0 180 [AV.sl 1 (List.map encI l), AV.fn (Fn.func 179) [] [AV.elt 1 [[AV.i n]] 0 0]] (AV.i (fiI (fun (j : Nat) => badI n (l.getD j default)) l.length)) ∧ AV.bool (decide (fiI (fun (j : Nat) => badI n (l.getD j
   default)) l.length ≥ 0)) = AV.bool (decide (fiN (fun (j : Nat) => badI n (l.getD j default)) l.length < l.length)) := by
    exact ⟨(c180a n l hl), congrArg AV.bool fiI_dec⟩
  exact c_of Tryz.f178 (mkB (sp178 (badI n) l) 178 [] noLa) (by kernel_rfl) (by kernel_rfl) (by kernel_rfl) (by kernel_rfl) key (by kernel_rfl)
def la150 (l : List Int) : LA := {
  pre := [.keep [0, 5] [], .bound 1], post := [.keep [0, 5] [], .bound 1]
  Gh := Nat
  st := fun i => ⟨[(0, .sl 1 (l.map encI)), (5, .i ((i : Nat) + 1 : Int))], [], 1⟩
  ok := fun i => i ≤ l.length ∧ ∀ j, j < i + 1 → ordI l j = false
  ms := fun i => l.length - i }
def sp150 (n : Int) (l : List Int) : Nat → List AV → Option AV
  | 178, _ => some (.bool (decide (fiN (fun j => badI n (l.getD j default)) l.length < l.length)))
  | m, x => spC m x
theorem c150 (n : Int) (l : List Int) (hl : l.length ≤ 1000) : PCall Tryz.prog G0 150 [.sl 1 (l.map encI), .i n] (.i (fIx l n)) := by
  have key :
   PCall Tryz.prog G0 178 [AV.sl 1 (List.map encI l), AV.fn (Fn.func 179) [] [AV.elt 1 [[AV.i n]] 0 0]] (AV.bool (decide (fiN (fun (j : Nat) => badI n (l.getD j default)) l.length < l.length))) ∧ (decide (fiN (fun (j : Nat) => badI n
   (l.getD j default)) l.length < l.length) = true → AV.i 10 = AV.i (fIx l n)) ∧ (decide (fiN (fun (j : Nat) => badI n (l.getD j default)) l.length < l.length) = false → (∃ (g : Nat), (g ≤ l.length ∧ ∀ (j : Nat), j < g + 1 → ordI l j
   = false) ∧ AS.mk [(0, AV.sl 1 (List.map encI l)), (5, AV.i 1)] [] 1 = AS.mk [(0, AV.sl 1 (List.map encI l)), (5, AV.i ((↑g : Int) + 1))] [] 1) ∧ ∀ (g : Nat), (g ≤ l.length ∧ ∀ (j : Nat), j < g + 1 → ordI l j = false) → (decide ((↑g
   : Int) + 1 < (↑(List.map encI l).length : Int)) = true → (0 : Int) ≤ (↑g : Int) + 1 ∧ (↑g : Int) + 1 < (↑(List.map encI l).length : Int) ∧ In64 ((↑g : Int) + 1 - 1) ∧ (0 : Int) ≤ (↑g : Int) + 1 - 1 ∧ (↑g : Int) + 1 - 1 <
   (↑(List.map encI l).length : Int) ∧ nth (nthR (List.map encI l) ((↑g : Int) + 1).toNat) 0 = AV.i (l.getD ((↑g : Int) + 1).toNat default) ∧ nth (nthR (List.map encI l) ((↑g : Int) + 1 - 1).toNat) 0 = AV.i (l.getD ((↑g : Int) + 1 -
   1).toNat default) ∧ (decide (l.getD ((↑g : Int) + 1).toNat default ≤ l.getD ((↑g : Int) + 1 - 1).toNat default) = true → AV.i 11 = AV.i (fIx l n)) ∧ (decide (l.getD ((↑g : Int) + 1).toNat default ≤ l.getD ((↑g : Int) + 1 - 1).toNat
   default) = false → In64 ((↑g : Int) + 1 + 1) ∧ ∃ (g' : Nat), (g' ≤ l.length ∧ ∀ (j : Nat), j < g' + 1 → ordI l j = false) ∧ l.length - g' < l.length - g ∧ AS.mk [(0, AV.sl 1 (List.map encI l)), (5, AV.i ((↑g : Int) + 1 + 1))] [] 1
   = AS.mk [(0, AV.sl 1 (List.map encI l)), (5, AV.i ((↑g' : Int) + 1))] [] 1)) ∧ (decide ((↑g : Int) + 1 < (↑(List.map encI l).length : Int)) = false → AV.i 0 = AV.i (fIx l n))) := by
    have hlm : (List.map encI l).length = l.length := List.length_map _
    rw [hlm]
    refine ⟨c178a n l hl, fun h1 => ?_, fun h1 => ⟨⟨0, ⟨by omega, fun j hj => ?_⟩, rfl⟩, fun g ⟨hg, ha⟩ => ⟨fun hd => ?_, fun hd => ?_⟩⟩⟩
    · rw [fIx, if_pos h1]
    · have e : j = 0 := by omega
      rw [e]; rfl
    · have hlt := of_decide_eq_true hd
      rw [show ((g : Int) + 1).toNat = g + 1 by omega, show ((g : Int) + 1 - 1).toNat = g by omega]
      have hor : ordI l (g + 1) = decide (l.getD (g + 1) default ≤ l.getD g default) := by unfold ordI; rw [if_neg (by omega), Nat.add_sub_cancel]
      refine ⟨by omega, by omega, by unfold In64; omega, by omega, by omega, congrArg (fun r => nth r 0) (row_at encI (by omega)), congrArg (fun r => nth r 0) (row_at encI (by omega)), fun h2 => ?_, fun h2 => ⟨by unfold In64; omega, g + 1, ⟨by omega, fun j hj => ?_⟩, by omega, rfl⟩⟩
      · rw [fIx, if_neg (by rw [h1]; decide), if_pos (decide_eq_true (fi_ex (p := ordI l) (j := g + 1) (by omega) (hor.trans h2)))]
      · by_cases e : j = g + 1
        · rw [e, hor]; exact h2
        · exact ha j (by omega)
    · have hge := of_decide_eq_false hd
      rw [fIx, if_neg (by rw [h1]; decide), if_neg (by
        rw [decide_eq_true_eq]
        intro h
        have h2 := fi_hit h
        have h3 := ha _ (show fiN (ordI l) l.length < g + 1 by omega)
        rw [h3] at h2
        cases h2)]
  exact c_of Tryz.f150 (fzB (mkB (sp150 n l) 150 [(6, 3, rdL 1 encI l 1 false), (6, 8, rdL 1 encI l 1 false)] (la1 (la150 l)))) (by kernel_rfl) (by kernel_rfl) (by kernel_rfl) (by kernel_rfl) key (by kernel_rfl)
def dueX (ans : List Int) (l : List Cp) (t d i : Int) : Bool := if hasI ans i = true then true else decide ((l.getD i.toNat default).tk + d ≥ t)
def capD (ans : List Int) (l : List Cp) (t d : Int) : List AV := [.elt 1 [[.sl 1 (ans.map encI)]] 0 0, .elt 1 [[.sl 2 (l.map encCp)]] 0 0, .elt 1 [[.i d]] 0 0, .elt 1 [[.i t]] 0 0]
def FD (ans : List Int) (l : List Cp) (t d : Int) : AV := .fn (.func 152) [] (capD ans l t d)
def sp152 : Nat → List AV → Option AV
  | 153, [.sl _ rows, .int _ v] => some (.bool (hasI (rows.map hdI) v))
  | n, x => spC n x
theorem c152 (ans : List Int) (l : List Cp) (t d i : Int) (hl : ans.length ≤ 1000) (hi : 0 ≤ i ∧ i < l.length) (hb : In64 ((l.getD i.toNat default).tk + d)) : PCall Tryz.prog G0 152 [.i i, .elt 1 [[.sl 1 (ans.map encI)]] 0 0, .elt 1 [[.sl 2 (l.map encCp)]] 0 0, .elt 1 [[.i d]] 0 0, .elt 1 [[.i t]] 0 0] (.bool (dueX ans l t d i)) := by
  have key :
   ((!hasI (List.map hdI (List.map encI ans)) i) = true → (!hasI (List.map hdI (List.map encI ans)) i) = true) ∧ ((!hasI (List.map hdI (List.map encI ans)) i) = true → (!hasI (List.map hdI (List.map encI ans)) i) = true) ∧ ((!hasI
   (List.map hdI (List.map encI ans)) i) = true → (0 : Int) ≤ i) ∧ ((!hasI (List.map hdI (List.map encI ans)) i) = true → i < (↑(List.map encCp l).length : Int)) ∧ ((!hasI (List.map hdI (List.map encI ans)) i) = true → (!hasI
   (List.map hdI (List.map encI ans)) i) = true) ∧ ((!hasI (List.map hdI (List.map encI ans)) i) = true → (!hasI (List.map hdI (List.map encI ans)) i) = true) ∧ ((!hasI (List.map hdI (List.map encI ans)) i) = true → (!hasI (List.map
   hdI (List.map encI ans)) i) = true) ∧ ((!hasI (List.map hdI (List.map encI ans)) i) = true → (!hasI (List.map hdI (List.map encI ans)) i) = true) ∧ ((!hasI (List.map hdI (List.map encI ans)) i) = true → In64 ((l.getD i.toNat
   default).tk + d)) ∧ ((!hasI (List.map hdI (List.map encI ans)) i) = true → (!hasI (List.map hdI (List.map encI ans)) i) = true) ∧ ((!hasI (List.map hdI (List.map encI ans)) i) = true → (!hasI (List.map hdI (List.map encI ans)) i) =
   true) ∧ (hasI (List.map hdI (List.map encI ans)) i = false → (!hasI (List.map hdI (List.map encI ans)) i) = true) ∧ PCall Tryz.prog G0 153 [AV.sl 1 (List.map encI ans), AV.i i] (AV.bool (hasI (List.map hdI (List.map encI ans)) i))
   ∧ impB (!hasI (List.map hdI (List.map encI ans)) i) (nth (nthR (List.map encCp l) i.toNat) 1 = AV.i (l.getD i.toNat default).tk) ∧ AV.bool (if hasI (List.map hdI (List.map encI ans)) i = true then true else decide ((l.getD i.toNat
   default).tk + d ≥ t)) = AV.bool (dueX ans l t d i) := by
    unfold In64 at hb
    rw [hd_enc]
    have : (List.map encCp l).length = l.length := by simp only [List.length_map]
    refine ⟨fun h => h, fun h => h, fun _ => by omega, fun _ => by omega, fun h => h, fun h => h, fun h => h, fun h => h, fun _ => by unfold In64; omega, fun h => h, fun h => h, fun h => by first | exact h | (rw [h]; rfl) | simp_all, (c153 ans _ hl), impB_iff.2 fun hb => (congrArg (fun r => nth r 1) (row_at encCp (by omega))), ?_⟩
    · first | rfl | trivial
  exact c_of Tryz.f152 (mkB sp152 152 [(1, 8, rdL 2 encCp l 1 false)] noLa) (by kernel_rfl) (by kernel_rfl) (by kernel_rfl) (by kernel_rfl) key (by kernel_rfl)
def sp180b (ans : List Int) (l : List Cp) (t d : Int) : Nat → List AV → Option AV
  | 152, .int _ i :: _ => some (.bool (dueX ans l t d i))
  | m, x => spC m x
def dueH (l : List Cp) (d : Int) (g : List Int) : Prop := ∀ j, j < g.length → (0 ≤ g.getD j default ∧ g.getD j default < l.length) ∧ In64 ((l.getD (g.getD j default).toNat default).tk + d)
theorem c180b (ans : List Int) (l : List Cp) (t d : Int) (g : List Int) (ha0 : ans.length ≤ 1000) (hg0 : g.length ≤ 1000) (hd0 : dueH l d g) : PCall Tryz.prog G0 180 [.sl 1 (g.map encI), FD ans l t d] (.i (fiI (fun j => dueX ans l t d (g.getD j default)) g.length)) := by
  have key :
   (∃ (g_1 : Nat), (g_1 ≤ g.length ∧ ∀ (j : Nat), j < g_1 → dueX ans l t d (g.getD j default) = false) ∧ AS.mk [(0, AV.sl 1 (List.map encI g)), (1, AV.fn (Fn.func 152) [] [AV.elt 1 [[AV.sl 1 (List.map encI ans)]] 0 0, AV.elt 1 [[AV.sl
   2 (List.map encCp l)]] 0 0, AV.elt 1 [[AV.i d]] 0 0, AV.elt 1 [[AV.i t]] 0 0]), (6, AV.sl 1 (List.map encI g)), (7, AV.i (↑(List.map encI g).length : Int)), (8, AV.i 0)] [] 1 = AS.mk [(0, AV.sl 1 (List.map encI g)), (1, AV.fn
   (Fn.func 152) [] [AV.elt 1 [[AV.sl 1 (List.map encI ans)]] 0 0, AV.elt 1 [[AV.sl 2 (List.map encCp l)]] 0 0, AV.elt 1 [[AV.i d]] 0 0, AV.elt 1 [[AV.i t]] 0 0]), (6, AV.sl 1 (List.map encI g)), (7, AV.i (↑(List.map encI g).length :
   Int)), (8, AV.i (↑g_1 : Int))] [] 1) ∧ ∀ (g_1 : Nat), (g_1 ≤ g.length ∧ ∀ (j : Nat), j < g_1 → dueX ans l t d (g.getD j default) = false) → (decide ((↑g_1 : Int) < (↑(List.map encI g).length : Int)) = true → (0 : Int) ≤ (↑g_1 :
   Int) ∧ (↑g_1 : Int) < (↑(List.map encI g).length : Int) ∧ nth (nthR (List.map encI g) (↑g_1 : Int).toNat) 0 = AV.i (g.getD (↑g_1 : Int).toNat default) ∧ PCall Tryz.prog G0 152 [AV.i (g.getD (↑g_1 : Int).toNat default), AV.elt 1
   [[AV.sl 1 (List.map encI ans)]] 0 0, AV.elt 1 [[AV.sl 2 (List.map encCp l)]] 0 0, AV.elt 1 [[AV.i d]] 0 0, AV.elt 1 [[AV.i t]] 0 0] (AV.bool (dueX ans l t d (g.getD (↑g_1 : Int).toNat default))) ∧ (dueX ans l t d (g.getD (↑g_1 :
   Int).toNat default) = true → AV.i (↑g_1 : Int) = AV.i (fiI (fun (j : Nat) => dueX ans l t d (g.getD j default)) g.length)) ∧ (dueX ans l t d (g.getD (↑g_1 : Int).toNat default) = false → In64 ((↑g_1 : Int) + 1) ∧ ∃ (g' : Nat), (g'
   ≤ g.length ∧ ∀ (j : Nat), j < g' → dueX ans l t d (g.getD j default) = false) ∧ g.length - g' < g.length - g_1 ∧ AS.mk [(0, AV.sl 1 (List.map encI g)), (1, AV.fn (Fn.func 152) [] [AV.elt 1 [[AV.sl 1 (List.map encI ans)]] 0 0,
   AV.elt 1 [[AV.sl 2 (List.map encCp l)]] 0 0, AV.elt 1 [[AV.i d]] 0 0, AV.elt 1 [[AV.i t]] 0 0]), (6, AV.sl 1 (List.map encI g)), (7, AV.i (↑(List.map encI g).length : Int)), (8, AV.i ((↑g_1 : Int) + 1))] [] 1 = AS.mk [(0, AV.sl 1
   (List.map encI g)), (1, AV.fn (Fn.func 152) [] [AV.elt 1 [[AV.sl 1 (List.map encI ans)]] 0 0, AV.elt 1 [[AV.sl 2 (List.map encCp l)]] 0 0, AV.elt 1 [[AV.i d]] 0 0, AV.elt 1 [[AV.i t]] 0 0]), (6, AV.sl 1 (List.map encI g)), (7, AV.i
   (↑(List.map encI g).length : Int)), (8, AV.i (↑g' : Int))] [] 1)) ∧ (decide ((↑g_1 : Int) < (↑(List.map encI g).length : Int)) = false → AV.i (-1) = AV.i (fiI (fun (j : Nat) => dueX ans l t d (g.getD j default)) g.length)) := by
    have hlm : (List.map encI g).length = g.length := List.length_map _
    have : (List.map encI g).length = g.length := by simp only [List.length_map]
    refine ⟨⟨0, ⟨by omega, by intros; omega⟩, rfl⟩, fun g_1 ⟨hg, ha⟩ => ⟨fun hd => ?_, fun hd => ?_⟩⟩
    · have hlt : g_1 < g.length := by have h9 := of_decide_eq_true hd; have h8 := hg; (try simp only [List.length_map] at h8 h9); omega
      try rw [show (↑g_1 : Int).toNat = g_1 from Int.toNat_natCast g_1]
      refine ⟨(by omega), (by omega), congrArg (fun r => nth r 0) (row_at encI hlt), (c152 ans l t d _ ha0 (hd0 _ hlt).1 (hd0 _ hlt).2), fun h1 => ?_, fun h1 => ⟨(by unfold In64; omega), ⟨g_1 + 1, ⟨by omega, all_ext ha h1⟩, by omega, rfl⟩⟩⟩
      · rw [fiI, fi_some (p := fun j => dueX ans l t d (g.getD j default)) ha (show dueX ans l t d (g.getD g_1 default) = true from h1) hlt, if_neg (by omega)]
    · have hge : g_1 = g.length := by have h9 := of_decide_eq_false hd; have h8 := hg; (try simp only [List.length_map] at h8 h9); omega
      subst hge
      rw [fiI, fi_none (p := fun j => dueX ans l t d (g.getD j default)) ha, if_pos rfl]
  exact c_of Tryz.f180 (mkB (sp180b ans l t d) 180 [(4, 4, rdL 1 encI g 1 false)] (la1 (la180 (FD ans l t d) (dueX ans l t d) g))) (by kernel_rfl) (by kernel_rfl) (by kernel_rfl) (by kernel_rfl) key (by kernel_rfl)
def dlF (p : Int → Bool) (g : List Int) (j : Nat) : List Int := (g.take j).filter fun x => !p x
def dlG (p : Int → Bool) (g : List Int) : List Int := g.filter fun x => !p x
def dlN (p : Int → Bool) (g : List Int) (j : Nat) : List Int := dlF p g j ++ g.drop (dlF p g j).length
theorem fi_first {p : Nat → Bool} {j : Nat} (hp : p j = true) : ∀ {n : Nat}, j < n → fiN p n ≤ j
  | n + 1, h => by
    simp only [fiN]
    by_cases e : j = n
    · subst e
      split
      · omega
      · first
          | omega
          | (rw [if_pos hp]; omega)
    · have := fi_first (p := p) hp (n := n) (by omega)
      rw [if_pos (by omega)]
      exact this
theorem dl_step {p : Int → Bool} {g : List Int} {j : Nat} (h : j < g.length) : dlF p g (j + 1) = if (!p (g.getD j default)) = true then dlF p g j ++ [g.getD j default] else dlF p g j := by
  unfold dlF
  have e : g.take (j + 1) = g.take j ++ [g.getD j default] := by
    rw [List.getD_eq_getElem?_getD, List.getElem?_eq_getElem h]
    exact (List.take_append_getElem h).symm
  rw [e, List.filter_append, List.filter_cons, List.filter_nil]
  cases p (g.getD j default) <;> simp
theorem dl_none {p : Int → Bool} {g : List Int} : ∀ {i : Nat}, i ≤ g.length → (∀ j, j < i → p (g.getD j default) = false) → dlF p g i = g.take i
  | 0, _, _ => rfl
  | i + 1, hi, h => by
    rw [dl_step (by omega), if_pos (by rw [h i (by omega)]; rfl), dl_none (by omega) fun j hj => h j (by omega)]
    rw [List.getD_eq_getElem?_getD, List.getElem?_eq_getElem (show i < g.length by omega)]
    exact List.take_append_getElem (by omega)
theorem dl_le (p : Int → Bool) (g : List Int) (j : Nat) : (dlF p g j).length ≤ j := by
  unfold dlF
  exact Nat.le_trans (List.length_filter_le _ _) (by rw [List.length_take]; omega)
theorem dlN_len {p : Int → Bool} {g : List Int} {j : Nat} (h : j ≤ g.length) : (dlN p g j).length = g.length := by
  have := dl_le p g j
  unfold dlN
  rw [List.length_append, List.length_drop]
  omega
theorem dlN_at {p : Int → Bool} {g : List Int} {j : Nat} (h : (dlF p g j).length < j) : (dlN p g j).getD j default = g.getD j default := by
  unfold dlN
  rw [List.getD_eq_getElem?_getD, List.getElem?_append_right (by omega), List.getElem?_drop, show (dlF p g j).length + (j - (dlF p g j).length) = j by omega, List.getD_eq_getElem?_getD]
theorem put_mid (a b : List Int) (x y : Int) : putRow (List.map encI (a ++ x :: b)) a.length 0 [.i y] = List.map encI (a ++ y :: b) := by
  unfold putRow
  rw [List.map_append, List.set_append_right _ _ (by rw [List.length_map]; omega), List.length_map, Nat.sub_self]
  have e2 : nthR (List.map encI a ++ List.map encI (x :: b)) a.length = [AV.i x] := by
    unfold nthR
    rw [List.getD_eq_getElem?_getD, List.getElem?_append_right (by rw [List.length_map]; omega), List.length_map, Nat.sub_self]
    rfl
  rw [e2, List.map_append]
  rfl
theorem dl_put {p : Int → Bool} {g : List Int} {j : Nat} (h : (dlF p g j).length < j) (hj : j < g.length) (hp : (!p (g.getD j default)) = true) : putRow (List.map encI (dlN p g j)) (dlF p g j).length 0 [.i (g.getD j default)] = List.map encI (dlN p g (j + 1)) := by
  unfold dlN
  rw [dl_step hj, if_pos hp, List.drop_eq_getElem_cons (show (dlF p g j).length < g.length by omega), put_mid, List.length_append, List.length_singleton, List.append_assoc]
  rfl
theorem dl_all (p : Int → Bool) (g : List Int) : dlF p g g.length = dlG p g := by
  unfold dlF dlG
  rw [List.take_length]
theorem dl_end {p : Int → Bool} {g : List Int} (r : List (List AV)) : List.take (dlG p g).length (List.take (dlG p g).length (List.map encI (dlG p g ++ g.drop (dlG p g).length)) ++ r) = List.map encI (dlG p g) := by
  have e : List.take (dlG p g).length (List.map encI (dlG p g ++ g.drop (dlG p g).length)) = List.map encI (dlG p g) := by
    rw [List.map_append]
    exact List.take_left' (List.length_map _)
  rw [e]
  exact List.take_left' (List.length_map _)
def la151 (ans : List Int) (l : List Cp) (t d : Int) (g : List Int) : LA := {
  pre := [.keep [0, 1, 5, 6] [0, 1], .bound 2], post := [.keep [0, 1, 5, 6] [0, 1], .bound 2]
  Gh := Nat
  st := fun i => ⟨[(0, .own 1 (g.map encI).length), (1, FD ans l t d), (5, .i (dlF (dueX ans l t d) g i).length), (6, .i i)], [(0, .pins 2), (1, .buf 3 1 ((dlN (dueX ans l t d) g i).map encI))], 2⟩
  ok := fun i => i ≤ g.length ∧ (dlF (dueX ans l t d) g i).length < i
  ms := fun i => g.length - i }
def rdO1 (g : List Int) : BL → List AV → Option AV := fun _ ins => match ins with
  | [.optr _ i _] => some (.i (g.getD i default))
  | _ => none
def sp151 (ans : List Int) (l : List Cp) (t d : Int) (g : List Int) : Nat → List AV → Option AV
  | 180, _ => some (.i (fiI (fun j => dueX ans l t d (g.getD j default)) g.length))
  | 152, .int _ i :: _ => some (.bool (dueX ans l t d i))
  | m, x => spC m x
theorem w151 (ans : List Int) (l : List Cp) (t d : Int) (g : List Int) (ha0 : ans.length ≤ 1000) (hg0 : g.length ≤ 1000) (hd0 : dueH l d g) : WCall Tryz.prog G0 151 [.own 1 (g.map encI).length, FD ans l t d] [ABlk.buf 3 1 (g.map encI)] (.sl 1 ((dlG (dueX ans l t d) g).map encI)) [ABlk.dead] := by
  have key :
   PCall Tryz.prog G0 180 [AV.sl 1 (List.map encI g), AV.fn (Fn.func 152) [] [AV.elt 1 [[AV.sl 1 (List.map encI ans)]] 0 0, AV.elt 1 [[AV.sl 2 (List.map encCp l)]] 0 0, AV.elt 1 [[AV.i d]] 0 0, AV.elt 1 [[AV.i t]] 0 0]] (AV.i (fiI
   (fun (j : Nat) => dueX ans l t d (g.getD j default)) g.length)) ∧ ((fiI (fun (j : Nat) => dueX ans l t d (g.getD j default)) g.length == (-1 : Int)) = true → AV.sl 1 (List.map encI g) = AV.sl 1 (List.map encI (dlG (dueX ans l t d)
   g)) ∧ [ABlk.dead] = [ABlk.dead]) ∧ ((fiI (fun (j : Nat) => dueX ans l t d (g.getD j default)) g.length == (-1 : Int)) = false → In64 (fiI (fun (j : Nat) => dueX ans l t d (g.getD j default)) g.length + 1) ∧ (∃ (g_1 : Nat), (g_1 ≤
   g.length ∧ (dlF (dueX ans l t d) g g_1).length < g_1) ∧ AS.mk [(0, AV.own 1 (List.map encI g).length), (1, AV.fn (Fn.func 152) [] [AV.elt 1 [[AV.sl 1 (List.map encI ans)]] 0 0, AV.elt 1 [[AV.sl 2 (List.map encCp l)]] 0 0, AV.elt 1
   [[AV.i d]] 0 0, AV.elt 1 [[AV.i t]] 0 0]), (5, AV.i (fiI (fun (j : Nat) => dueX ans l t d (g.getD j default)) g.length)), (6, AV.i (fiI (fun (j : Nat) => dueX ans l t d (g.getD j default)) g.length + 1))] [(0, ABlk.pins 2), (1,
   ABlk.buf 3 1 (List.map encI g))] 2 = AS.mk [(0, AV.own 1 (List.map encI g).length), (1, AV.fn (Fn.func 152) [] [AV.elt 1 [[AV.sl 1 (List.map encI ans)]] 0 0, AV.elt 1 [[AV.sl 2 (List.map encCp l)]] 0 0, AV.elt 1 [[AV.i d]] 0 0,
   AV.elt 1 [[AV.i t]] 0 0]), (5, AV.i (↑(dlF (dueX ans l t d) g g_1).length : Int)), (6, AV.i (↑g_1 : Int))] [(0, ABlk.pins 2), (1, ABlk.buf 3 1 (List.map encI (dlN (dueX ans l t d) g g_1)))] 2) ∧ ∀ (g_1 : Nat), g_1 ≤ g.length ∧ (dlF
   (dueX ans l t d) g g_1).length < g_1 → (decide ((↑g_1 : Int) < (↑(List.map encI g).length : Int)) = true → (0 : Int) ≤ (↑g_1 : Int) ∧ (↑g_1 : Int) < (↑(List.map encI g).length : Int) ∧ (↑g_1 : Int).toNat < (List.map encI (dlN (dueX
   ans l t d) g g_1)).length ∧ nth (nthR (List.map encI (dlN (dueX ans l t d) g g_1)) (↑g_1 : Int).toNat) 0 = AV.i (g.getD (↑g_1 : Int).toNat default) ∧ PCall Tryz.prog G0 152 [AV.i (g.getD (↑g_1 : Int).toNat default), AV.elt 1
   [[AV.sl 1 (List.map encI ans)]] 0 0, AV.elt 1 [[AV.sl 2 (List.map encCp l)]] 0 0, AV.elt 1 [[AV.i d]] 0 0, AV.elt 1 [[AV.i t]] 0 0] (AV.bool (dueX ans l t d (g.getD (↑g_1 : Int).toNat default))) ∧ ((!dueX ans l t d (g.getD (↑g_1 :
   Int).toNat default)) = true → (0 : Int) ≤ (↑(dlF (dueX ans l t d) g g_1).length : Int) ∧ (↑(dlF (dueX ans l t d) g g_1).length : Int) < (↑(List.map encI g).length : Int) ∧ (↑(dlF (dueX ans l t d) g g_1).length : Int).toNat <
   (List.map encI (dlN (dueX ans l t d) g g_1)).length ∧ In64 ((↑(dlF (dueX ans l t d) g g_1).length : Int) + 1) ∧ In64 ((↑g_1 : Int) + 1) ∧ ∃ (g' : Nat), (g' ≤ g.length ∧ (dlF (dueX ans l t d) g g').length < g') ∧ g.length - g' <
   g.length - g_1 ∧ AS.mk [(0, AV.own 1 (List.map encI g).length), (1, AV.fn (Fn.func 152) [] [AV.elt 1 [[AV.sl 1 (List.map encI ans)]] 0 0, AV.elt 1 [[AV.sl 2 (List.map encCp l)]] 0 0, AV.elt 1 [[AV.i d]] 0 0, AV.elt 1 [[AV.i t]] 0
   0]), (5, AV.i ((↑(dlF (dueX ans l t d) g g_1).length : Int) + 1)), (6, AV.i ((↑g_1 : Int) + 1))] [(0, ABlk.pins 2), (1, ABlk.buf 3 1 (putRow (List.map encI (dlN (dueX ans l t d) g g_1)) (↑(dlF (dueX ans l t d) g g_1).length :
   Int).toNat 0 [AV.i (g.getD (↑g_1 : Int).toNat default)]))] 2 = AS.mk [(0, AV.own 1 (List.map encI g).length), (1, AV.fn (Fn.func 152) [] [AV.elt 1 [[AV.sl 1 (List.map encI ans)]] 0 0, AV.elt 1 [[AV.sl 2 (List.map encCp l)]] 0 0,
   AV.elt 1 [[AV.i d]] 0 0, AV.elt 1 [[AV.i t]] 0 0]), (5, AV.i (↑(dlF (dueX ans l t d) g g').length : Int)), (6, AV.i (↑g' : Int))] [(0, ABlk.pins 2), (1, ABlk.buf 3 1 (List.map encI (dlN (dueX ans l t d) g g')))] 2) ∧ ((!dueX ans l
   t d (g.getD (↑g_1 : Int).toNat default)) = false → In64 ((↑g_1 : Int) + 1) ∧ ∃ (g' : Nat), (g' ≤ g.length ∧ (dlF (dueX ans l t d) g g').length < g') ∧ g.length - g' < g.length - g_1 ∧ AS.mk [(0, AV.own 1 (List.map encI g).length),
   (1, AV.fn (Fn.func 152) [] [AV.elt 1 [[AV.sl 1 (List.map encI ans)]] 0 0, AV.elt 1 [[AV.sl 2 (List.map encCp l)]] 0 0, AV.elt 1 [[AV.i d]] 0 0, AV.elt 1 [[AV.i t]] 0 0]), (5, AV.i (↑(dlF (dueX ans l t d) g g_1).length : Int)), (6,
   AV.i ((↑g_1 : Int) + 1))] [(0, ABlk.pins 2), (1, ABlk.buf 3 1 (List.map encI (dlN (dueX ans l t d) g g_1)))] 2 = AS.mk [(0, AV.own 1 (List.map encI g).length), (1, AV.fn (Fn.func 152) [] [AV.elt 1 [[AV.sl 1 (List.map encI ans)]] 0
   0, AV.elt 1 [[AV.sl 2 (List.map encCp l)]] 0 0, AV.elt 1 [[AV.i d]] 0 0, AV.elt 1 [[AV.i t]] 0 0]), (5, AV.i (↑(dlF (dueX ans l t d) g g').length : Int)), (6, AV.i (↑g' : Int))] [(0, ABlk.pins 2), (1, ABlk.buf 3 1 (List.map encI
   (dlN (dueX ans l t d) g g')))] 2)) ∧ (decide ((↑g_1 : Int) < (↑(List.map encI g).length : Int)) = false → (0 : Int) ≤ (↑(dlF (dueX ans l t d) g g_1).length : Int) ∧ (↑(dlF (dueX ans l t d) g g_1).length : Int) ≤ (↑(List.map encI
   g).length : Int) ∧ (0 : Int) ≤ (↑(dlF (dueX ans l t d) g g_1).length : Int) ∧ (↑(dlF (dueX ans l t d) g g_1).length : Int) ≤ (↑(List.map encI g).length : Int) ∧ AV.sl 1 (List.take (↑(dlF (dueX ans l t d) g g_1).length : Int).toNat
   (List.take (↑(dlF (dueX ans l t d) g g_1).length : Int).toNat (List.map encI (dlN (dueX ans l t d) g g_1)) ++ List.replicate ((List.map encI g).length - (↑(dlF (dueX ans l t d) g g_1).length : Int).toNat) [AV.i 0])) = AV.sl 1
   (List.map encI (dlG (dueX ans l t d) g)) ∧ [ABlk.dead] = [ABlk.dead])) := by
    have hlm : (List.map encI g).length = g.length := List.length_map _
    have hc : ∀ j, j < g.length → PCall Tryz.prog G0 152 [AV.i (g.getD j default), AV.elt 1 [[AV.sl 1 (List.map encI ans)]] 0 0, AV.elt 1 [[AV.sl 2 (List.map encCp l)]] 0 0, AV.elt 1 [[AV.i d]] 0 0, AV.elt 1 [[AV.i t]] 0 0] (AV.bool (dueX ans l t d (g.getD j default))) := fun j hj => c152 ans l t d _ ha0 (hd0 _ hj).1 (hd0 _ hj).2
    have hi := c180b ans l t d g ha0 hg0 hd0
    obtain ⟨p, hp⟩ : ∃ p, dueX ans l t d = p := ⟨_, rfl⟩
    rw [hp] at hc hi ⊢
    have hle := fi_le (p := fun j => p (g.getD j default)) g.length
    refine ⟨hi, fun h1 => ?_, fun h1 => ?_⟩
    · have h2 : ∀ j, j < g.length → p (g.getD j default) = false := fi_all fun h3 => by
        rw [fiI, if_neg (by omega)] at h1
        exact absurd h1 (by simp <;> omega)
      have e : dlG p g = g := by rw [← dl_all, dl_none (Nat.le_refl _) h2, List.take_length]
      rw [e]
      exact ⟨rfl, rfl⟩
    · have h3 : fiN (fun j => p (g.getD j default)) g.length < g.length := by
        refine Classical.byContradiction fun h4 => ?_
        rw [fiI, if_pos (by omega)] at h1
        cases h1
      have h4 := fi_hit h3
      have h5 : ∀ j, j < fiN (fun j => p (g.getD j default)) g.length → p (g.getD j default) = false := fun j hj => by
        cases h6 : p (g.getD j default) with
        | false => rfl
        | true =>
          have h8 : fiN (fun j => p (g.getD j default)) g.length = fiN (fun j => p (g.getD j default)) g.length := rfl
          exact absurd (fi_first (p := fun j => p (g.getD j default)) h6 (show j < g.length by omega)) (by omega)
      rw [fiI, if_neg (by omega)]
      obtain ⟨i, hie⟩ : ∃ i, fiN (fun j => p (g.getD j default)) g.length = i := ⟨_, rfl⟩
      rw [hie] at h3 h4 h5 ⊢
      have h6 : dlF p g (i + 1) = g.take i := by
        rw [dl_step h3, if_neg (by rw [h4]; decide), dl_none (by omega) h5]
      have h7 : (dlF p g (i + 1)).length = i := by rw [h6, List.length_take]; omega
      refine ⟨by unfold In64; omega, ⟨i + 1, ⟨by omega, by omega⟩, ?_⟩, fun j ⟨hj, hf⟩ => ⟨fun hd => ?_, fun hd => ?_⟩⟩
      · rw [h7, show dlN p g (i + 1) = g by unfold dlN; rw [h7, h6, List.take_append_drop]]
        rfl
      · have hlt : j < g.length := by have := of_decide_eq_true hd; omega
        have hnl := dlN_len (p := p) (g := g) (j := j) (by omega)
        have hnm : (List.map encI (dlN p g j)).length = (dlN p g j).length := List.length_map _
        simp only [Int.toNat_natCast]
        refine ⟨by omega, by omega, by omega, ?_, hc j hlt, fun hx => ⟨by omega, by omega, by omega, by unfold In64; omega, by unfold In64; omega, j + 1, ⟨by omega, ?_⟩, by omega, ?_⟩, fun hx => ⟨by unfold In64; omega, j + 1, ⟨by omega, ?_⟩, by omega, ?_⟩⟩
        · rw [row_at encI (by omega), dlN_at hf]
          rfl
        · rw [dl_step hlt, if_pos hx, List.length_append, List.length_singleton]
          omega
        · rw [dl_put hf hlt hx, dl_step hlt, if_pos hx, List.length_append]
          rfl
        · rw [dl_step hlt, if_neg (by rw [hx]; decide)]
          omega
        · rw [show dlN p g (j + 1) = dlN p g j by unfold dlN; rw [dl_step hlt, if_neg (by rw [hx]; decide)], dl_step hlt, if_neg (by rw [hx]; decide)]
          rfl
      · have e : j = g.length := by have := of_decide_eq_false hd; omega
        subst e
        simp only [Int.toNat_natCast]
        have hfl := dl_le p g g.length
        refine ⟨by omega, by omega, by omega, by omega, ?_, trivial⟩
        unfold dlN
        rw [dl_all, dl_end]
  exact w_of Tryz.f151 (gsB (fun i => if i.beq 3 then [.frzo 4] else if i.beq 12 then [.frzo 4] else []) (modA 7 3 (fun a => { a with rdb := rdO1 g }) (mkB (sp151 ans l t d g) 151 [] (la1 (la151 ans l t d g))))) (by kernel_rfl) (by kernel_rfl) (by kernel_rfl) (by kernel_rfl) (by kernel_rfl) key (by kernel_rfl)
end Go.Proofs.YtfoeefaamjknpaaGreatDoor
