/-
  What the small functions of chapter 7 return. No condition but the theorems' own. The balance of a fund: contracts. No condition but the theorems' own. The arguments of chapter 8's statements, and the way from a contract of a statement to its row. No condition but the theorems' own. The reference's balance of a fund, and entries of the program's own: contracts. No condition but the theorems' own. HomeFunds returns true. No condition but the theorems' own. What HomeFunds' row says of the program's text. No condition.
-/
import Derived.Test.YtfoeefaamjknpaaGreatDoorPA
import Derived.Test.YtfoeefaamjknpaaGreatDoorAvD
import Derived.Test.YtfoeefaamjknpaaGreatDoorCards
import Derived.Test.YtfoeefaamjknpaaGreatDoorTie
import Derived.LaidMore
import Derived.LaidOnce
import Derived.Lay
import Derived.Stop.Joined
import Derived.SevenTiedAt
namespace Go.Proofs.YtfoeefaamjknpaaGreatDoor
open Go Go.Av Go.RowKit
def sWhen (b : Bool) (e : Int) : Int := if b then e else 0
def sFirst : List Int → Int
  | [] => 0
  | x :: l => if x ≠ 0 then x else sFirst l
def sWithin (x lo hi : Int) : Int := sWhen (if decide (x < lo) then true else decide (x > hi)) 3
def hdI (l : List AV) : Int := match l with
  | [.int _ n] => n
  | _ => 0
def rInt (l : List Int) : List (List AV) := l.map fun x => [.i x]
def spI : Nat → List AV → Option AV := fun _ _ => none
def spA : Nat → List AV → Option AV
  | 116, [.bool b, .int _ e] => some (.i (sWhen b e))
  | 109, [.bool b, .int _ e] => some (.i (sWhen b e))
  | 104, [.sl _ rows] => some (.i (sFirst (rows.map hdI)))
  | 107, [.sl _ rows] => some (.i (sFirst (rows.map hdI)))
  | 118, [.int _ x, .int _ lo, .int _ hi] => some (.i (sWithin x lo hi))
  | 81, [.int _ x, .int _ lo, .int _ hi] => some (.i (sWithin x lo hi))
  | n, x => spI n x
theorem rInt_len (es : List Int) : (rInt es).length = es.length := by simp [rInt]
theorem rInt_at {es : List Int} {i : Nat} (h : i < es.length) : nthR (rInt es) i = [.i (es.getD i 0)] := by
  simp [nthR, rInt, List.getD_eq_getElem?_getD, h]
theorem first_drop (es : List Int) : ∀ (i : Nat), (∀ k, k < i → es.getD k 0 = 0) → i ≤ es.length → sFirst es = sFirst (es.drop i) := by
  intro i
  induction i with
  | zero => intros; rfl
  | succ i ih =>
    intro h hl
    rw [ih (fun k hk => h k (by omega)) (by omega)]
    have := h i (by omega)
    rw [List.drop_eq_getElem_cons (show i < es.length by omega)]
    rw [List.getD_eq_getElem?_getD, List.getElem?_eq_getElem (show i < es.length by omega)] at this
    simp at this
    simp [sFirst, this]
theorem first_hit {es : List Int} {i : Nat} (h : i < es.length) (h0 : ∀ k, k < i → es.getD k 0 = 0) (hne : es.getD i 0 ≠ 0) : sFirst es = es.getD i 0 := by
  rw [first_drop es i h0 (by omega), List.drop_eq_getElem_cons h]
  simp [List.getD_eq_getElem?_getD, h] at hne
  simp [sFirst, hne, List.getD_eq_getElem?_getD, h]
theorem first_end {es : List Int} (h0 : ∀ k, k < es.length → es.getD k 0 = 0) : sFirst es = 0 := by
  rw [first_drop es es.length h0 (Nat.le_refl _)]
  simp [sFirst]
theorem c116 (b : Bool) (e : Int)  : PCall Tryz.prog G0 116 [.bool b, .i e] (.i (sWhen b e)) := by
  have key :
   (b = true → AV.i e = AV.i (sWhen b e)) ∧ (b = false → AV.i 0 = AV.i (sWhen b e)) := by
    exact ⟨fun h => by simp [sWhen, h], fun h => by simp [sWhen, h]⟩
  exact c_of Tryz.f116 (mkB spA 116 [] noLa) (by kernel_rfl) (by kernel_rfl) (by kernel_rfl) (by kernel_rfl) key (by kernel_rfl)
theorem c109 (b : Bool) (e : Int)  : PCall Tryz.prog G0 109 [.bool b, .i e] (.i (sWhen b e)) := by
  have key :
   (b = true → AV.i e = AV.i (sWhen b e)) ∧ (b = false → AV.i 0 = AV.i (sWhen b e)) := by
    exact ⟨fun h => by simp [sWhen, h], fun h => by simp [sWhen, h]⟩
  exact c_of Tryz.f109 (mkB spA 109 [] noLa) (by kernel_rfl) (by kernel_rfl) (by kernel_rfl) (by kernel_rfl) key (by kernel_rfl)
theorem c118 (x lo hi : Int)  : PCall Tryz.prog G0 118 [.i x, .i lo, .i hi] (.i (sWithin x lo hi)) := by
  have key :
   ((!decide (x < lo)) = true → (!decide (x < lo)) = true) ∧ ((!decide (x < lo)) = true → (!decide (x < lo)) = true) ∧ (decide (x < lo) = false → (!decide (x < lo)) = true) ∧ PCall Tryz.prog G0 116 [AV.bool (if decide (x < lo) = true
   then true else decide (x > hi)), AV.i 3] (AV.i (sWhen (if decide (x < lo) = true then true else decide (x > hi)) (3 : Int))) ∧ AV.i (sWhen (if decide (x < lo) = true then true else decide (x > hi)) (3 : Int)) = AV.i (sWithin x lo
   hi) := by
    exact ⟨fun h => h, fun h => h, fun h => by simp [h], c116 _ _, rfl⟩
  exact c_of Tryz.f118 (mkB spA 118 [] noLa) (by kernel_rfl) (by kernel_rfl) (by kernel_rfl) (by kernel_rfl) key (by kernel_rfl)
theorem c81 (x lo hi : Int)  : PCall Tryz.prog G0 81 [.i x, .i lo, .i hi] (.i (sWithin x lo hi)) := by
  have key :
   ((!decide (x < lo)) = true → (!decide (x < lo)) = true) ∧ ((!decide (x < lo)) = true → (!decide (x < lo)) = true) ∧ (decide (x < lo) = false → (!decide (x < lo)) = true) ∧ PCall Tryz.prog G0 109 [AV.bool (if decide (x < lo) = true
   then true else decide (x > hi)), AV.i 3] (AV.i (sWhen (if decide (x < lo) = true then true else decide (x > hi)) (3 : Int))) ∧ AV.i (sWhen (if decide (x < lo) = true then true else decide (x > hi)) (3 : Int)) = AV.i (sWithin x lo
   hi) := by
    exact ⟨fun h => h, fun h => h, fun h => by simp [h], c109 _ _, rfl⟩
  exact c_of Tryz.f81 (mkB spA 81 [] noLa) (by kernel_rfl) (by kernel_rfl) (by kernel_rfl) (by kernel_rfl) key (by kernel_rfl)
def la104 (es : List Int) : LA := {
  pre := [.keep [0, 5, 6, 7] [], .bound 1], post := [.keep [0, 5, 6, 7] [], .bound 1]
  Gh := Nat
  st := fun i => ⟨[(0, .sl 1 (rInt es)), (5, .sl 1 (rInt es)), (6, .i es.length), (7, .i i)], [], 1⟩
  ok := fun i => i ≤ es.length ∧ ∀ k, k < i → es.getD k 0 = 0
  ms := fun i => es.length - i }
def la107 (es : List Int) : LA := {
  pre := [.keep [0, 3] [], .bound 1], post := [.keep [0, 3] [], .bound 1]
  Gh := Nat
  st := fun i => ⟨[(0, .sl 1 (rInt es)), (3, .i i)], [], 1⟩
  ok := fun i => i ≤ es.length ∧ ∀ k, k < i → es.getD k 0 = 0
  ms := fun i => es.length - i }
def rdI (es : List Int) : List AV → Option AV
  | [.elt _ _ i _] => some (.i (es.getD i 0))
  | _ => none
theorem c104 (es : List Int) (hl : es.length ≤ 1000000) : PCall Tryz.prog G0 104 [.sl 1 (rInt es)] (.i (sFirst es)) := by
  have key :
   (∃ (g : Nat), (g ≤ es.length ∧ ∀ (k : Nat), k < g → es.getD k (0 : Int) = (0 : Int)) ∧ AS.mk [(0, AV.sl 1 (rInt es)), (5, AV.sl 1 (rInt es)), (6, AV.i (↑(rInt es).length : Int)), (7, AV.i 0)] [] 1 = AS.mk [(0, AV.sl 1 (rInt es)),
   (5, AV.sl 1 (rInt es)), (6, AV.i (↑es.length : Int)), (7, AV.i (↑g : Int))] [] 1) ∧ ∀ (g : Nat), (g ≤ es.length ∧ ∀ (k : Nat), k < g → es.getD k (0 : Int) = (0 : Int)) → (decide ((↑g : Int) < (↑es.length : Int)) = true → (0 : Int)
   ≤ (↑g : Int) ∧ (↑g : Int) < (↑(rInt es).length : Int) ∧ nth (nthR (rInt es) (↑g : Int).toNat) 0 = AV.i (es.getD (↑g : Int).toNat (0 : Int)) ∧ ((es.getD (↑g : Int).toNat (0 : Int) != 0) = true → AV.i (es.getD (↑g : Int).toNat (0 :
   Int)) = AV.i (sFirst es)) ∧ ((es.getD (↑g : Int).toNat (0 : Int) != 0) = false → In64 ((↑g : Int) + 1) ∧ ∃ (g' : Nat), (g' ≤ es.length ∧ ∀ (k : Nat), k < g' → es.getD k (0 : Int) = (0 : Int)) ∧ es.length - g' < es.length - g ∧
   AS.mk [(0, AV.sl 1 (rInt es)), (5, AV.sl 1 (rInt es)), (6, AV.i (↑es.length : Int)), (7, AV.i ((↑g : Int) + 1))] [] 1 = AS.mk [(0, AV.sl 1 (rInt es)), (5, AV.sl 1 (rInt es)), (6, AV.i (↑es.length : Int)), (7, AV.i (↑g' : Int))] []
   1)) ∧ (decide ((↑g : Int) < (↑es.length : Int)) = false → AV.i 0 = AV.i (sFirst es)) := by
    refine ⟨⟨0, ⟨by omega, by intros; omega⟩, by simp [rInt_len]⟩, fun g ⟨h1, h2⟩ => ⟨fun hd => ?_, fun hd => ?_⟩⟩
    · have hlt : g < es.length := by simpa using hd
      refine ⟨by omega, by rw [rInt_len]; omega, by simp [rInt_at hlt, nth], fun hne => ?_, fun hz => ⟨?_, g + 1, ⟨hlt, fun k hk => ?_⟩, by omega, rfl⟩⟩
      · rw [first_hit hlt h2 (by simpa using hne)]; rfl
      · unfold In64; omega
      · by_cases e : k = g
        · subst e; simpa using hz
        · exact h2 k (by omega)
    · have hge : g = es.length := by simp at hd; omega
      rw [first_end (hge ▸ h2)]
  exact c_of Tryz.f104 (mkB spA 104 [(3, 1, rdI es)] (fun i => if i.beq 0 then some (la104 es) else none)) (by kernel_rfl) (by kernel_rfl) (by kernel_rfl) (by kernel_rfl) key (by kernel_rfl)
theorem c107 (es : List Int) (hl : es.length ≤ 1000000) : PCall Tryz.prog G0 107 [.sl 1 (rInt es)] (.i (sFirst es)) := by
  have key :
   (∃ (g : Nat), (g ≤ es.length ∧ ∀ (k : Nat), k < g → es.getD k (0 : Int) = (0 : Int)) ∧ AS.mk [(0, AV.sl 1 (rInt es)), (3, AV.i 0)] [] 1 = AS.mk [(0, AV.sl 1 (rInt es)), (3, AV.i (↑g : Int))] [] 1) ∧ ∀ (g : Nat), (g ≤ es.length ∧ ∀
   (k : Nat), k < g → es.getD k (0 : Int) = (0 : Int)) → (decide ((↑g : Int) < (↑(rInt es).length : Int)) = true → (0 : Int) ≤ (↑g : Int) ∧ (↑g : Int) < (↑(rInt es).length : Int) ∧ nth (nthR (rInt es) (↑g : Int).toNat) 0 = AV.i
   (es.getD (↑g : Int).toNat (0 : Int)) ∧ ((es.getD (↑g : Int).toNat (0 : Int) != 0) = true → (0 : Int) ≤ (↑g : Int) ∧ (↑g : Int) < (↑(rInt es).length : Int) ∧ nth (nthR (rInt es) (↑g : Int).toNat) 0 = AV.i (es.getD (↑g : Int).toNat
   (0 : Int)) ∧ AV.i (es.getD (↑g : Int).toNat (0 : Int)) = AV.i (sFirst es)) ∧ ((es.getD (↑g : Int).toNat (0 : Int) != 0) = false → In64 ((↑g : Int) + 1) ∧ ∃ (g' : Nat), (g' ≤ es.length ∧ ∀ (k : Nat), k < g' → es.getD k (0 : Int) =
   (0 : Int)) ∧ es.length - g' < es.length - g ∧ AS.mk [(0, AV.sl 1 (rInt es)), (3, AV.i ((↑g : Int) + 1))] [] 1 = AS.mk [(0, AV.sl 1 (rInt es)), (3, AV.i (↑g' : Int))] [] 1)) ∧ (decide ((↑g : Int) < (↑(rInt es).length : Int)) = false
   → AV.i 0 = AV.i (sFirst es)) := by
    refine ⟨⟨0, ⟨by omega, by intros; omega⟩, by simp⟩, fun g ⟨h1, h2⟩ => ⟨fun hd => ?_, fun hd => ?_⟩⟩
    · have hlt : g < es.length := by simpa [rInt_len] using hd
      refine ⟨by omega, by rw [rInt_len]; omega, by simp [rInt_at hlt, nth], fun hne => ?_, fun hz => ⟨?_, g + 1, ⟨hlt, fun k hk => ?_⟩, by omega, rfl⟩⟩
      · refine ⟨by omega, by rw [rInt_len]; omega, by simp [rInt_at hlt, nth], ?_⟩
        rw [first_hit hlt h2 (by simpa using hne)]; rfl
      · unfold In64; omega
      · by_cases e : k = g
        · subst e; simpa using hz
        · exact h2 k (by omega)
    · have hge : g = es.length := by simp [rInt_len] at hd; omega
      rw [first_end (hge ▸ h2)]
  exact c_of Tryz.f107 (mkB spA 107 [(4, 3, rdI es), (5, 3, rdI es)] (fun i => if i.beq 0 then some (la107 es) else none)) (by kernel_rfl) (by kernel_rfl) (by kernel_rfl) (by kernel_rfl) key (by kernel_rfl)
def rdL {α : Type} [Inhabited α] (k : Nat) (enc : α → List AV) (l : List α) (size : Nat) (agg : Bool) : List AV → Option AV
  | [.elt k' _ i j] => if k'.beq k then some (if agg then .agg (((enc (l.getD i default)).drop j).take size) else nth (enc (l.getD i default)) j) else none
  | _ => none
theorem row_at {α : Type} [Inhabited α] (enc : α → List AV) {l : List α} {i : Nat} (h : i < l.length) : nthR (l.map enc) i = enc (l.getD i default) := by
  simp [nthR, List.getD_eq_getElem?_getD, h]
def sScan (f : Nat → Int) (n : Nat) (fin : Int) : Int := sFirst ((List.range n).map f ++ [fin])
theorem scan_hit {f : Nat → Int} {n i : Nat} {fin : Int} (h : i < n) (h0 : ∀ k, k < i → f k = 0) (hne : f i ≠ 0) : sScan f n fin = f i := by
  have e : ∀ k, k < n → ((List.range n).map f ++ [fin]).getD k 0 = f k := fun k hk => by
    simp [List.getD_eq_getElem?_getD, List.getElem?_append, hk]
  rw [sScan, first_hit (i := i) (by simp; omega) (fun k hk => by rw [e k (by omega)]; exact h0 k hk) (by rw [e i h]; exact hne), e i h]
theorem scan_end {f : Nat → Int} {n : Nat} {fin : Int} (h0 : ∀ k, k < n → f k = 0) : sScan f n fin = fin := by
  have e : ∀ k, k < n → ((List.range n).map f ++ [fin]).getD k 0 = f k := fun k hk => by
    simp [List.getD_eq_getElem?_getD, List.getElem?_append, hk]
  rw [sScan, first_drop _ n (fun k hk => by rw [e k hk]; exact h0 k hk) (by simp), List.drop_left' (by simp)]
  simp [sFirst]
  intro h; exact h.symm
theorem bne_t {a : Int} (h : (a != 0) = true) : a ≠ 0 := by simpa using h
theorem bne_f {a : Int} (h : (a != 0) = false) : a = 0 := by simpa using h
theorem ge_of_dec {i n : Nat} (hi : decide ((i : Int) < (n : Int)) = false) (hle : i ≤ n) : i = n := by simp at hi; omega
theorem lt_of_dec {i n : Nat} (hi : decide ((i : Int) < (n : Int)) = true) : i < n := by simpa using hi
theorem within_zero {x lo hi : Int} : sWithin x lo hi = 0 ↔ lo ≤ x ∧ x ≤ hi := by
  unfold sWithin sWhen
  by_cases h1 : x < lo
  · simp [h1]; omega
  · by_cases h2 : x > hi
    · simp [h1, h2] <;> omega
    · simp [h1, h2] <;> omega
theorem first_zero {x : Int} {l : List Int} : sFirst (x :: l) = 0 ↔ x = 0 ∧ sFirst l = 0 := by
  by_cases h : x = 0
  · simp [sFirst, h]
  · simp [sFirst, h]
theorem take_succ {α : Type} [Inhabited α] (enc : α → List AV) {l : List α} {g : Nat} (h : g < l.length) : (l.take g).map enc ++ [enc (l.getD g default)] = (l.take (g + 1)).map enc := by
  rw [List.take_add_one, List.map_append]
  simp [List.getD_eq_getElem?_getD, h]
theorem when_z {b : Bool} {e : Int} (he : e ≠ 0) (h : sWhen b e = 0) : b = false := by
  cases b
  · rfl
  · exact absurd h (by simpa [sWhen] using he)
def setA (f : An → An) : Nat → List An → List An
  | 0, [] => [f {}]
  | 0, a :: l => f a :: l
  | n + 1, [] => {} :: setA f n []
  | n + 1, a :: l => a :: setA f n l
theorem take_succ_map {α β : Type} [Inhabited α] (enc : β → List AV) (f : α → β) {l : List α} {g : Nat} (h : g < l.length) : ((l.take g).map f).map enc ++ [enc (f (l.getD g default))] = ((l.take (g + 1)).map f).map enc := by
  rw [List.take_add_one, List.map_append, List.map_append]
  simp [List.getD_eq_getElem?_getD, h]
theorem dec_ascii {c : UInt8} (r : List UInt8) (h : c.toNat < 128) : dec (c :: r) = (c.toNat, 1) := by
  unfold dec Utf8.decode
  have : (({ data := (c :: r).toArray } : ByteArray).get! (0 + 0)).toNat = c.toNat := rfl
  simp only [this]
  rw [if_pos (by simpa using h)]
theorem dec_big {c : UInt8} (r : List UInt8) (h : ¬ c.toNat < 128) : 128 ≤ (dec (c :: r)).1 := by
  unfold dec Utf8.decode
  have : (({ data := (c :: r).toArray } : ByteArray).get! (0 + 0)).toNat = c.toNat := rfl
  simp only [this]
  rw [if_neg (by simpa using h)]
  repeat' split
  all_goals first
    | (simp only [Bool.and_eq_true, decide_eq_true_eq] at *; omega)
    | omega
    | (show 128 ≤ Utf8.runeError; decide)
def isLet (c : Nat) : Bool := decide (97 ≤ c ∧ c ≤ 122) || decide (65 ≤ c ∧ c ≤ 90)
def okB (first : Bool) (c : Nat) : Bool := isLet c || (!first && (decide (c = 95) || decide (48 ≤ c ∧ c ≤ 57)))
def allB (s : List UInt8) (n : Nat) : Bool := (List.range n).all fun i => okB (i == 0) (s.getD i 0).toNat
def sName (s : List UInt8) : Bool := allB s s.length && (!(s == []) && decide (s.length ≤ 24))
def cutA (ts ids : List Nat) (n t : Nat) (f : AS → AV) : AS → AS := fun S => ⟨pickL ((t, f S) :: delL t S.s) ts, pickL S.b ids, n⟩
def onI (x : Option AV) (f : Int → AV) : AV := match x with
  | some (.int _ n) => f n
  | _ => .any
def isLetI (n : Int) : Bool := decide (97 ≤ n ∧ n ≤ 122) || decide (65 ≤ n ∧ n ≤ 90)
def isDigU (n : Int) : Bool := decide (48 ≤ n ∧ n ≤ 57) || decide (n = 95)
theorem all_fail {s : List UInt8} {g : Nat} (h : g < s.length) (hf : okB (g == 0) (s.getD g 0).toNat = false) : sName s = false := by
  have : allB s s.length = false := List.all_eq_false.2 ⟨g, by simpa using h, by rw [hf]; decide⟩
  rw [sName, this]
  rfl
theorem all_next {s : List UInt8} {g : Nat} (ha : allB s g = true) (hf : okB (g == 0) (s.getD g 0).toNat = true) : allB s (g + 1) = true := by
  unfold allB at ha ⊢
  rw [List.range_succ, List.all_append, ha]
  simp only [List.all_cons, List.all_nil, hf, Bool.and_self]
theorem okB_I (b : Bool) (c : Nat) : okB b c = (isLetI (c : Int) || (!b && isDigU (c : Int))) := by
  have e1 : isLet c = isLetI (c : Int) := by
    unfold isLet isLetI
    congr 1 <;> (apply decide_eq_decide.2; omega)
  have e2 : (decide (c = 95) || decide (48 ≤ c ∧ c ≤ 57)) = isDigU (c : Int) := by
    unfold isDigU
    rw [Bool.or_comm]
    congr 1 <;> (apply decide_eq_decide.2; omega)
  rw [okB, e1, e2]
theorem okB_big (b : Bool) {c : Nat} (h : 128 ≤ c) : okB b c = false := by
  rw [okB_I]
  have e1 : isLetI (c : Int) = false := by
    simp only [isLetI, Bool.or_eq_false_iff, decide_eq_false_iff_not]
    omega
  have e2 : isDigU (c : Int) = false := by
    simp only [isDigU, Bool.or_eq_false_iff, decide_eq_false_iff_not]
    omega
  rw [e1, e2]
  simp
theorem dec_ok (b : Bool) (c : UInt8) (r : List UInt8) : okB b (dec (c :: r)).1 = okB b c.toNat ∧ (okB b c.toNat = true → (dec (c :: r)).2 = 1) := by
  by_cases h : c.toNat < 128
  · rw [dec_ascii r h]
    exact ⟨rfl, fun _ => rfl⟩
  · have h1 := okB_big b (dec_big r h)
    have h2 := okB_big b (show 128 ≤ c.toNat by omega)
    rw [h1, h2]
    exact ⟨rfl, fun h => by cases h⟩
def spP : Nat → List AV → Option AV := spA
def la117 (s : List UInt8) : LA := {
  pre := [.keep [0, 7] [3], .bound 4], post := [.keep [0, 7] [3], .bound 4]
  Gh := Nat
  st := fun i => ⟨[(0, .str s), (7, .ref 3)], [(3, .iter (s.drop i) i)], 4⟩
  ok := fun i => i ≤ s.length ∧ allB s i = true
  ms := fun i => s.length - i
  it := some 3 }
def B117 (s : List UInt8) : BA := { mkB spP 117 [] (fun i => if i.beq 0 then some (la117 s) else none) with
  split := fun i => if i.beq 4 then 1 else if i.beq 5 then 1 else 0
  gs := fun i => if i.beq 4 then [.keep [0, 3, 4, 5, 7] [3], .bound 4] else if i.beq 5 then [.keep [0, 3, 4, 5, 7, 43] [3], .bound 4] else []
  cut := fun i => if i.beq 4 then some (cutA [0, 3, 4, 5, 7] [3] 4 5 fun S => onI (slotF S 4) fun n => .bool (isLetI n)) else none }
theorem c117 (s : List UInt8) (hs : s.length ≤ 1000000) : PCall Tryz.prog G0 117 [.str s] (.bool (sName s)) := by
  have key :
   (∃ (g : Nat), (g ≤ s.length ∧ allB s g = true) ∧ AS.mk [(0, AV.str s), (7, AV.ref 3)] [(3, ABlk.iter s 0)] 4 = AS.mk [(0, AV.str s), (7, AV.ref 3)] [(3, ABlk.iter (List.drop g s) g)] 4) ∧ ∀ (g : Nat), g ≤ s.length ∧ allB s g = true
   → (∀ (c : UInt8) (r : List UInt8), List.drop g s = c :: r → (true = true → ((decide ((↑(dec (c :: r)).fst : Int) ≥ 97) = true → (decide ((↑(dec (c :: r)).fst : Int) ≤ 122) = true → (true = false → false = true) ∧ AV.bool (decide
   ((↑(dec (c :: r)).fst : Int) ≥ 97)) = AV.bool true ∧ AV.bool (decide ((↑(dec (c :: r)).fst : Int) ≤ 122)) = AV.bool true ∧ AS.mk [(0, AV.str s), (3, AV.i (↑g : Int)), (4, AV.int IntKind.i32 (↑(dec (c :: r)).fst : Int)), (5, AV.bool
   true), (7, AV.ref 3)] [(3, ABlk.iter (List.drop (dec (c :: r)).snd (c :: r)) (g + (dec (c :: r)).snd))] 4 = AS.mk [(0, AV.str s), (3, AV.i (↑g : Int)), (4, AV.int IntKind.i32 (↑(dec (c :: r)).fst : Int)), (5, AV.bool (isLetI (↑(dec
   (c :: r)).fst : Int))), (7, AV.ref 3)] [(3, ABlk.iter (List.drop (dec (c :: r)).snd (c :: r)) (g + (dec (c :: r)).snd))] 4) ∧ (decide ((↑(dec (c :: r)).fst : Int) ≤ 122) = false → (decide ((↑(dec (c :: r)).fst : Int) ≥ 65) = true →
   AV.bool (decide ((↑(dec (c :: r)).fst : Int) ≥ 97)) = AV.bool true ∧ AV.bool (decide ((↑(dec (c :: r)).fst : Int) ≤ 122)) = AV.bool false ∧ AV.bool (decide ((↑(dec (c :: r)).fst : Int) ≥ 65)) = AV.bool true ∧ AS.mk [(0, AV.str s),
   (3, AV.i (↑g : Int)), (4, AV.int IntKind.i32 (↑(dec (c :: r)).fst : Int)), (5, AV.bool (decide ((↑(dec (c :: r)).fst : Int) ≤ 90))), (7, AV.ref 3)] [(3, ABlk.iter (List.drop (dec (c :: r)).snd (c :: r)) (g + (dec (c :: r)).snd))] 4
   = AS.mk [(0, AV.str s), (3, AV.i (↑g : Int)), (4, AV.int IntKind.i32 (↑(dec (c :: r)).fst : Int)), (5, AV.bool (isLetI (↑(dec (c :: r)).fst : Int))), (7, AV.ref 3)] [(3, ABlk.iter (List.drop (dec (c :: r)).snd (c :: r)) (g + (dec
   (c :: r)).snd))] 4) ∧ (decide ((↑(dec (c :: r)).fst : Int) ≥ 65) = false → (false = true → false = true) ∧ AV.bool (decide ((↑(dec (c :: r)).fst : Int) ≥ 97)) = AV.bool true ∧ AV.bool (decide ((↑(dec (c :: r)).fst : Int) ≤ 122)) =
   AV.bool false ∧ AV.bool (decide ((↑(dec (c :: r)).fst : Int) ≥ 65)) = AV.bool false ∧ AS.mk [(0, AV.str s), (3, AV.i (↑g : Int)), (4, AV.int IntKind.i32 (↑(dec (c :: r)).fst : Int)), (5, AV.bool false), (7, AV.ref 3)] [(3,
   ABlk.iter (List.drop (dec (c :: r)).snd (c :: r)) (g + (dec (c :: r)).snd))] 4 = AS.mk [(0, AV.str s), (3, AV.i (↑g : Int)), (4, AV.int IntKind.i32 (↑(dec (c :: r)).fst : Int)), (5, AV.bool (isLetI (↑(dec (c :: r)).fst : Int))),
   (7, AV.ref 3)] [(3, ABlk.iter (List.drop (dec (c :: r)).snd (c :: r)) (g + (dec (c :: r)).snd))] 4))) ∧ (decide ((↑(dec (c :: r)).fst : Int) ≥ 97) = false → (false = true → (false = true → false = true) ∧ (true = false → false =
   true) ∧ AV.bool (decide ((↑(dec (c :: r)).fst : Int) ≥ 97)) = AV.bool false ∧ AV.bool false = AV.bool true ∧ AS.mk [(0, AV.str s), (3, AV.i (↑g : Int)), (4, AV.int IntKind.i32 (↑(dec (c :: r)).fst : Int)), (5, AV.bool true), (7,
   AV.ref 3)] [(3, ABlk.iter (List.drop (dec (c :: r)).snd (c :: r)) (g + (dec (c :: r)).snd))] 4 = AS.mk [(0, AV.str s), (3, AV.i (↑g : Int)), (4, AV.int IntKind.i32 (↑(dec (c :: r)).fst : Int)), (5, AV.bool (isLetI (↑(dec (c ::
   r)).fst : Int))), (7, AV.ref 3)] [(3, ABlk.iter (List.drop (dec (c :: r)).snd (c :: r)) (g + (dec (c :: r)).snd))] 4) ∧ (false = false → (decide ((↑(dec (c :: r)).fst : Int) ≥ 65) = true → (false = true → false = true) ∧ AV.bool
   (decide ((↑(dec (c :: r)).fst : Int) ≥ 97)) = AV.bool false ∧ AV.bool false = AV.bool false ∧ AV.bool (decide ((↑(dec (c :: r)).fst : Int) ≥ 65)) = AV.bool true ∧ AS.mk [(0, AV.str s), (3, AV.i (↑g : Int)), (4, AV.int IntKind.i32
   (↑(dec (c :: r)).fst : Int)), (5, AV.bool (decide ((↑(dec (c :: r)).fst : Int) ≤ 90))), (7, AV.ref 3)] [(3, ABlk.iter (List.drop (dec (c :: r)).snd (c :: r)) (g + (dec (c :: r)).snd))] 4 = AS.mk [(0, AV.str s), (3, AV.i (↑g :
   Int)), (4, AV.int IntKind.i32 (↑(dec (c :: r)).fst : Int)), (5, AV.bool (isLetI (↑(dec (c :: r)).fst : Int))), (7, AV.ref 3)] [(3, ABlk.iter (List.drop (dec (c :: r)).snd (c :: r)) (g + (dec (c :: r)).snd))] 4) ∧ (decide ((↑(dec (c
   :: r)).fst : Int) ≥ 65) = false → (false = true → false = true) ∧ (false = true → false = true) ∧ AV.bool (decide ((↑(dec (c :: r)).fst : Int) ≥ 97)) = AV.bool false ∧ AV.bool false = AV.bool false ∧ AV.bool (decide ((↑(dec (c ::
   r)).fst : Int) ≥ 65)) = AV.bool false ∧ AS.mk [(0, AV.str s), (3, AV.i (↑g : Int)), (4, AV.int IntKind.i32 (↑(dec (c :: r)).fst : Int)), (5, AV.bool false), (7, AV.ref 3)] [(3, ABlk.iter (List.drop (dec (c :: r)).snd (c :: r)) (g +
   (dec (c :: r)).snd))] 4 = AS.mk [(0, AV.str s), (3, AV.i (↑g : Int)), (4, AV.int IntKind.i32 (↑(dec (c :: r)).fst : Int)), (5, AV.bool (isLetI (↑(dec (c :: r)).fst : Int))), (7, AV.ref 3)] [(3, ABlk.iter (List.drop (dec (c ::
   r)).snd (c :: r)) (g + (dec (c :: r)).snd))] 4)))) ∧ ((!isLetI (↑(dec (c :: r)).fst : Int)) = true → (((↑g : Int) == 0) = true → (true = false → false = true) ∧ (AV.bool !isLetI (↑(dec (c :: r)).fst : Int)) = AV.bool true ∧ AV.bool
   ((↑g : Int) == 0) = AV.bool true ∧ (true = true → AV.bool false = AV.bool (sName s)) ∧ (true = false → ∃ (g' : Nat), (g' ≤ s.length ∧ allB s g' = true) ∧ s.length - g' < s.length - g ∧ AS.mk [(0, AV.str s), (7, AV.ref 3)] [(3,
   ABlk.iter (List.drop (dec (c :: r)).snd (c :: r)) (g + (dec (c :: r)).snd))] 4 = AS.mk [(0, AV.str s), (7, AV.ref 3)] [(3, ABlk.iter (List.drop g' s) g')] 4)) ∧ (((↑g : Int) == 0) = false → (((↑(dec (c :: r)).fst : Int) != 95) =
   true → (decide ((↑(dec (c :: r)).fst : Int) < 48) = true → (true = false → false = true) ∧ (AV.bool !isLetI (↑(dec (c :: r)).fst : Int)) = AV.bool true ∧ AV.bool ((↑g : Int) == 0) = AV.bool false ∧ AV.bool ((↑(dec (c :: r)).fst :
   Int) != 95) = AV.bool true ∧ AV.bool (decide ((↑(dec (c :: r)).fst : Int) < 48)) = AV.bool true ∧ (true = true → AV.bool false = AV.bool (sName s)) ∧ (true = false → ∃ (g' : Nat), (g' ≤ s.length ∧ allB s g' = true) ∧ s.length - g'
   < s.length - g ∧ AS.mk [(0, AV.str s), (7, AV.ref 3)] [(3, ABlk.iter (List.drop (dec (c :: r)).snd (c :: r)) (g + (dec (c :: r)).snd))] 4 = AS.mk [(0, AV.str s), (7, AV.ref 3)] [(3, ABlk.iter (List.drop g' s) g')] 4)) ∧ (decide
   ((↑(dec (c :: r)).fst : Int) < 48) = false → (AV.bool !isLetI (↑(dec (c :: r)).fst : Int)) = AV.bool true ∧ AV.bool ((↑g : Int) == 0) = AV.bool false ∧ AV.bool ((↑(dec (c :: r)).fst : Int) != 95) = AV.bool true ∧ AV.bool (decide
   ((↑(dec (c :: r)).fst : Int) < 48)) = AV.bool false ∧ (decide ((↑(dec (c :: r)).fst : Int) > 57) = true → AV.bool false = AV.bool (sName s)) ∧ (decide ((↑(dec (c :: r)).fst : Int) > 57) = false → ∃ (g' : Nat), (g' ≤ s.length ∧ allB
   s g' = true) ∧ s.length - g' < s.length - g ∧ AS.mk [(0, AV.str s), (7, AV.ref 3)] [(3, ABlk.iter (List.drop (dec (c :: r)).snd (c :: r)) (g + (dec (c :: r)).snd))] 4 = AS.mk [(0, AV.str s), (7, AV.ref 3)] [(3, ABlk.iter (List.drop
   g' s) g')] 4))) ∧ (((↑(dec (c :: r)).fst : Int) != 95) = false → (false = true → false = true) ∧ (AV.bool !isLetI (↑(dec (c :: r)).fst : Int)) = AV.bool true ∧ AV.bool ((↑g : Int) == 0) = AV.bool false ∧ AV.bool ((↑(dec (c ::
   r)).fst : Int) != 95) = AV.bool false ∧ (false = true → AV.bool false = AV.bool (sName s)) ∧ (false = false → ∃ (g' : Nat), (g' ≤ s.length ∧ allB s g' = true) ∧ s.length - g' < s.length - g ∧ AS.mk [(0, AV.str s), (7, AV.ref 3)]
   [(3, ABlk.iter (List.drop (dec (c :: r)).snd (c :: r)) (g + (dec (c :: r)).snd))] 4 = AS.mk [(0, AV.str s), (7, AV.ref 3)] [(3, ABlk.iter (List.drop g' s) g')] 4)))) ∧ ((!isLetI (↑(dec (c :: r)).fst : Int)) = false → (false = true
   → false = true) ∧ (AV.bool !isLetI (↑(dec (c :: r)).fst : Int)) = AV.bool false ∧ (false = true → AV.bool false = AV.bool (sName s)) ∧ (false = false → ∃ (g' : Nat), (g' ≤ s.length ∧ allB s g' = true) ∧ s.length - g' < s.length - g
   ∧ AS.mk [(0, AV.str s), (7, AV.ref 3)] [(3, ABlk.iter (List.drop (dec (c :: r)).snd (c :: r)) (g + (dec (c :: r)).snd))] 4 = AS.mk [(0, AV.str s), (7, AV.ref 3)] [(3, ABlk.iter (List.drop g' s) g')] 4))) ∧ (true = false → ((!s ==
   []) = true → (!s == []) = true) ∧ ((!s == []) = true → (!s == []) = true) ∧ ((!s == []) = true → (!s == []) = true) ∧ AV.bool (if (!s == []) = true then decide ((↑s.length : Int) ≤ 24) else false) = AV.bool (sName s))) ∧ (List.drop
   g s = [] → (false = true → False) ∧ (false = false → ((!s == []) = true → (!s == []) = true) ∧ ((!s == []) = true → (!s == []) = true) ∧ ((!s == []) = true → (!s == []) = true) ∧ AV.bool (if (!s == []) = true then decide
   ((↑s.length : Int) ≤ 24) else false) = AV.bool (sName s))) := by
    refine ⟨⟨0, ⟨by omega, rfl⟩, rfl⟩, fun g ⟨hg, ha⟩ => ⟨fun c r hcr => ?_, fun hnil => ?_⟩⟩
    · have hlt : g < s.length := by
        by_cases h : g < s.length
        · exact h
        · rw [List.drop_eq_nil_of_le (by omega)] at hcr; cases hcr
      have hcg : s.getD g 0 = c := by
        have := congrArg (fun l => l.getD 0 0) hcr
        simpa [List.getD_eq_getElem?_getD] using this
      have hr : r = s.drop (g + 1) := by
        have := congrArg (fun l => l.drop 1) hcr
        simpa using this.symm
      have hz : ((g : Int) == 0) = (g == 0) := by
        by_cases h : g = 0
        · simp [h]
        · rw [beq_eq_false_iff_ne.2 h, beq_eq_false_iff_ne.2 (by omega)]
      obtain ⟨hk1, hk2⟩ := dec_ok (g == 0) c r
      have hF : okB (g == 0) (dec (c :: r)).1 = false → AV.bool false = AV.bool (sName s) := fun h => by
        rw [all_fail hlt (by rw [hcg, ← hk1]; exact h)]
      have hN : okB (g == 0) (dec (c :: r)).1 = true → ∃ (g' : Nat), (g' ≤ s.length ∧ allB s g' = true) ∧ s.length - g' < s.length - g ∧
          AS.mk [(0, AV.str s), (7, AV.ref 3)] [(3, ABlk.iter (List.drop (dec (c :: r)).snd (c :: r)) (g + (dec (c :: r)).snd))] 4 = AS.mk [(0, AV.str s), (7, AV.ref 3)] [(3, ABlk.iter (List.drop g' s) g')] 4 := fun h => by
        refine ⟨g + 1, ⟨hlt, all_next ha (by rw [hcg, ← hk1]; exact h)⟩, by omega, ?_⟩
        rw [hk2 (by rw [← hk1]; exact h), hr]
        rfl
      rw [okB_I] at hF hN
      clear hk1 hk2
      generalize (dec (c :: r)).1 = n at hF hN ⊢
      generalize (dec (c :: r)).2 = w at hN ⊢
      rw [hz]
      repeat' (first | apply And.intro | intro _)
      all_goals try first
        | contradiction
        | rfl
        | assumption
        | exact congrArg AV.bool (by assumption)
        | (rw [show isLetI (n : Int) = true by (simp only [decide_eq_true_eq, decide_eq_false_iff_not] at *; simp only [isLetI, Bool.or_eq_true, decide_eq_true_eq]; omega)]; done)
        | (rw [show isLetI (n : Int) = false by (simp only [decide_eq_true_eq, decide_eq_false_iff_not] at *; simp only [isLetI, Bool.or_eq_false_iff, decide_eq_false_iff_not]; omega)]; done)
        | (rw [show isLetI (n : Int) = decide ((n : Int) ≤ 90) by (simp only [decide_eq_true_eq, decide_eq_false_iff_not] at *; simp only [isLetI]; by_cases h90 : (n : Int) ≤ 90 <;> simp [h90] <;> omega)]; done)
        | (refine hF ?_; simp_all [isDigU]; done)
        | (refine hN ?_; simp_all [isDigU]; done)
        | (refine hF ?_; simp_all [isDigU]; omega)
        | (refine hN ?_; simp_all [isDigU]; omega)
    · have hge : g = s.length := by
        have := congrArg List.length hnil
        rw [List.length_drop] at this
        simp only [List.length_nil] at this
        omega
      subst hge
      refine ⟨fun h => by (cases h), fun _ => ⟨fun h => h, fun h => h, fun h => h, ?_⟩⟩
      rw [sName, ha, Bool.true_and, show decide ((s.length : Int) ≤ 24) = decide (s.length ≤ 24) from decide_eq_decide.2 (by omega)]
      cases (!s == []) <;> rfl
  exact c_of Tryz.f117 (B117 s) (by kernel_rfl) (by kernel_rfl) (by kernel_rfl) (by kernel_rfl) key (by kernel_rfl)
def la143 (s : List UInt8) : LA := {
  pre := [.keep [0, 3] [], .bound 1], post := [.keep [0, 3] [], .bound 1]
  Gh := Nat
  st := fun i => ⟨[(0, .str s), (3, .i i)], [], 1⟩
  ok := fun i => i ≤ s.length ∧ allB s i = true
  ms := fun i => s.length - i }
def B143 (s : List UInt8) : BA := { mkB spP 143 [] (fun i => if i.beq 0 then some (la143 s) else none) with
  split := fun i => if i.beq 1 then 0 else if i.beq 6 then 1 else if i.beq 7 then 1 else if i.beq 8 then 1 else 0
  gs := fun i => if i.beq 6 then [.keep [0, 3, 4] [], .bound 1] else if i.beq 7 then [.keep [0, 3, 4, 5] [], .bound 1] else []
  cut := fun i => if i.beq 6 then some (cutA [0, 3, 4] [] 1 4 fun S => onI (slotF S 3) fun n => .bool (isLetI ((s.getD n.toNat 0).toNat : Int)))
    else if i.beq 7 then some (cutA [0, 3, 4, 5] [] 1 5 fun S => onI (slotF S 3) fun n => .bool (isDigU ((s.getD n.toNat 0).toNat : Int))) else none }
theorem c143 (s : List UInt8) (hs : s.length ≤ 1000000) : PCall Tryz.prog G0 143 [.str s] (.bool (sName s)) := by
  have key :
   ((!(↑s.length : Int) == 0) = true → (!(↑s.length : Int) == 0) = true) ∧ ((!(↑s.length : Int) == 0) = true → (!(↑s.length : Int) == 0) = true) ∧ (((↑s.length : Int) == 0) = false → (!(↑s.length : Int) == 0) = true) ∧ ((if
   ((↑s.length : Int) == 0) = true then true else decide ((↑s.length : Int) > 24)) = true → AV.bool false = AV.bool (sName s)) ∧ ((if ((↑s.length : Int) == 0) = true then true else decide ((↑s.length : Int) > 24)) = false → (∃ (g :
   Nat), (g ≤ s.length ∧ allB s g = true) ∧ AS.mk [(0, AV.str s), (3, AV.i 0)] [] 1 = AS.mk [(0, AV.str s), (3, AV.i (↑g : Int))] [] 1) ∧ ∀ (g : Nat), g ≤ s.length ∧ allB s g = true → (decide ((↑g : Int) < (↑s.length : Int)) = true →
   ((decide ((↑(s.getD (↑g : Int).toNat (0 : UInt8)).toNat : Int) ≥ 65) = true → (decide ((↑(s.getD (↑g : Int).toNat (0 : UInt8)).toNat : Int) ≤ 90) = true → (0 : Int) ≤ (↑g : Int) ∧ (↑g : Int) < (↑s.length : Int) ∧ (0 : Int) ≤ (↑g :
   Int) ∧ (↑g : Int) < (↑s.length : Int) ∧ (true = false → false = true) ∧ AV.bool (decide ((↑(s.getD (↑g : Int).toNat (0 : UInt8)).toNat : Int) ≥ 65)) = AV.bool true ∧ AV.bool (decide ((↑(s.getD (↑g : Int).toNat (0 : UInt8)).toNat :
   Int) ≤ 90)) = AV.bool true ∧ AS.mk [(0, AV.str s), (3, AV.i (↑g : Int)), (4, AV.bool true)] [] 1 = AS.mk [(0, AV.str s), (3, AV.i (↑g : Int)), (4, AV.bool (isLetI (↑(s.getD (↑g : Int).toNat (0 : UInt8)).toNat : Int)))] [] 1) ∧
   (decide ((↑(s.getD (↑g : Int).toNat (0 : UInt8)).toNat : Int) ≤ 90) = false → (decide ((↑(s.getD (↑g : Int).toNat (0 : UInt8)).toNat : Int) ≥ 97) = true → (0 : Int) ≤ (↑g : Int) ∧ (↑g : Int) < (↑s.length : Int) ∧ (0 : Int) ≤ (↑g :
   Int) ∧ (↑g : Int) < (↑s.length : Int) ∧ (0 : Int) ≤ (↑g : Int) ∧ (↑g : Int) < (↑s.length : Int) ∧ (0 : Int) ≤ (↑g : Int) ∧ (↑g : Int) < (↑s.length : Int) ∧ AV.bool (decide ((↑(s.getD (↑g : Int).toNat (0 : UInt8)).toNat : Int) ≥
   65)) = AV.bool true ∧ AV.bool (decide ((↑(s.getD (↑g : Int).toNat (0 : UInt8)).toNat : Int) ≤ 90)) = AV.bool false ∧ AV.bool (decide ((↑(s.getD (↑g : Int).toNat (0 : UInt8)).toNat : Int) ≥ 97)) = AV.bool true ∧ AS.mk [(0, AV.str
   s), (3, AV.i (↑g : Int)), (4, AV.bool (decide ((↑(s.getD (↑g : Int).toNat (0 : UInt8)).toNat : Int) ≤ 122)))] [] 1 = AS.mk [(0, AV.str s), (3, AV.i (↑g : Int)), (4, AV.bool (isLetI (↑(s.getD (↑g : Int).toNat (0 : UInt8)).toNat :
   Int)))] [] 1) ∧ (decide ((↑(s.getD (↑g : Int).toNat (0 : UInt8)).toNat : Int) ≥ 97) = false → (0 : Int) ≤ (↑g : Int) ∧ (↑g : Int) < (↑s.length : Int) ∧ (0 : Int) ≤ (↑g : Int) ∧ (↑g : Int) < (↑s.length : Int) ∧ (0 : Int) ≤ (↑g :
   Int) ∧ (↑g : Int) < (↑s.length : Int) ∧ (false = true → false = true) ∧ AV.bool (decide ((↑(s.getD (↑g : Int).toNat (0 : UInt8)).toNat : Int) ≥ 65)) = AV.bool true ∧ AV.bool (decide ((↑(s.getD (↑g : Int).toNat (0 : UInt8)).toNat :
   Int) ≤ 90)) = AV.bool false ∧ AV.bool (decide ((↑(s.getD (↑g : Int).toNat (0 : UInt8)).toNat : Int) ≥ 97)) = AV.bool false ∧ AS.mk [(0, AV.str s), (3, AV.i (↑g : Int)), (4, AV.bool false)] [] 1 = AS.mk [(0, AV.str s), (3, AV.i (↑g
   : Int)), (4, AV.bool (isLetI (↑(s.getD (↑g : Int).toNat (0 : UInt8)).toNat : Int)))] [] 1))) ∧ (decide ((↑(s.getD (↑g : Int).toNat (0 : UInt8)).toNat : Int) ≥ 65) = false → (false = true → (0 : Int) ≤ (↑g : Int) ∧ (↑g : Int) <
   (↑s.length : Int) ∧ (false = true → false = true) ∧ (true = false → false = true) ∧ AV.bool (decide ((↑(s.getD (↑g : Int).toNat (0 : UInt8)).toNat : Int) ≥ 65)) = AV.bool false ∧ AV.bool false = AV.bool true ∧ AS.mk [(0, AV.str s),
   (3, AV.i (↑g : Int)), (4, AV.bool true)] [] 1 = AS.mk [(0, AV.str s), (3, AV.i (↑g : Int)), (4, AV.bool (isLetI (↑(s.getD (↑g : Int).toNat (0 : UInt8)).toNat : Int)))] [] 1) ∧ (false = false → (decide ((↑(s.getD (↑g : Int).toNat (0
   : UInt8)).toNat : Int) ≥ 97) = true → (0 : Int) ≤ (↑g : Int) ∧ (↑g : Int) < (↑s.length : Int) ∧ (false = true → false = true) ∧ (0 : Int) ≤ (↑g : Int) ∧ (↑g : Int) < (↑s.length : Int) ∧ (0 : Int) ≤ (↑g : Int) ∧ (↑g : Int) <
   (↑s.length : Int) ∧ AV.bool (decide ((↑(s.getD (↑g : Int).toNat (0 : UInt8)).toNat : Int) ≥ 65)) = AV.bool false ∧ AV.bool false = AV.bool false ∧ AV.bool (decide ((↑(s.getD (↑g : Int).toNat (0 : UInt8)).toNat : Int) ≥ 97)) =
   AV.bool true ∧ AS.mk [(0, AV.str s), (3, AV.i (↑g : Int)), (4, AV.bool (decide ((↑(s.getD (↑g : Int).toNat (0 : UInt8)).toNat : Int) ≤ 122)))] [] 1 = AS.mk [(0, AV.str s), (3, AV.i (↑g : Int)), (4, AV.bool (isLetI (↑(s.getD (↑g :
   Int).toNat (0 : UInt8)).toNat : Int)))] [] 1) ∧ (decide ((↑(s.getD (↑g : Int).toNat (0 : UInt8)).toNat : Int) ≥ 97) = false → (0 : Int) ≤ (↑g : Int) ∧ (↑g : Int) < (↑s.length : Int) ∧ (false = true → false = true) ∧ (0 : Int) ≤ (↑g
   : Int) ∧ (↑g : Int) < (↑s.length : Int) ∧ (false = true → false = true) ∧ AV.bool (decide ((↑(s.getD (↑g : Int).toNat (0 : UInt8)).toNat : Int) ≥ 65)) = AV.bool false ∧ AV.bool false = AV.bool false ∧ AV.bool (decide ((↑(s.getD (↑g
   : Int).toNat (0 : UInt8)).toNat : Int) ≥ 97)) = AV.bool false ∧ AS.mk [(0, AV.str s), (3, AV.i (↑g : Int)), (4, AV.bool false)] [] 1 = AS.mk [(0, AV.str s), (3, AV.i (↑g : Int)), (4, AV.bool (isLetI (↑(s.getD (↑g : Int).toNat (0 :
   UInt8)).toNat : Int)))] [] 1)))) ∧ ((decide ((↑(s.getD (↑g : Int).toNat (0 : UInt8)).toNat : Int) ≥ 48) = true → (decide ((↑(s.getD (↑g : Int).toNat (0 : UInt8)).toNat : Int) ≤ 57) = true → (0 : Int) ≤ (↑g : Int) ∧ (↑g : Int) <
   (↑s.length : Int) ∧ (0 : Int) ≤ (↑g : Int) ∧ (↑g : Int) < (↑s.length : Int) ∧ (true = false → false = true) ∧ AV.bool (decide ((↑(s.getD (↑g : Int).toNat (0 : UInt8)).toNat : Int) ≥ 48)) = AV.bool true ∧ AV.bool (decide ((↑(s.getD
   (↑g : Int).toNat (0 : UInt8)).toNat : Int) ≤ 57)) = AV.bool true ∧ AS.mk [(0, AV.str s), (3, AV.i (↑g : Int)), (4, AV.bool (isLetI (↑(s.getD (↑g : Int).toNat (0 : UInt8)).toNat : Int))), (5, AV.bool true)] [] 1 = AS.mk [(0, AV.str
   s), (3, AV.i (↑g : Int)), (4, AV.bool (isLetI (↑(s.getD (↑g : Int).toNat (0 : UInt8)).toNat : Int))), (5, AV.bool (isDigU (↑(s.getD (↑g : Int).toNat (0 : UInt8)).toNat : Int)))] [] 1) ∧ (decide ((↑(s.getD (↑g : Int).toNat (0 :
   UInt8)).toNat : Int) ≤ 57) = false → (0 : Int) ≤ (↑g : Int) ∧ (↑g : Int) < (↑s.length : Int) ∧ (0 : Int) ≤ (↑g : Int) ∧ (↑g : Int) < (↑s.length : Int) ∧ (0 : Int) ≤ (↑g : Int) ∧ (↑g : Int) < (↑s.length : Int) ∧ AV.bool (decide
   ((↑(s.getD (↑g : Int).toNat (0 : UInt8)).toNat : Int) ≥ 48)) = AV.bool true ∧ AV.bool (decide ((↑(s.getD (↑g : Int).toNat (0 : UInt8)).toNat : Int) ≤ 57)) = AV.bool false ∧ AS.mk [(0, AV.str s), (3, AV.i (↑g : Int)), (4, AV.bool
   (isLetI (↑(s.getD (↑g : Int).toNat (0 : UInt8)).toNat : Int))), (5, AV.bool ((↑(s.getD (↑g : Int).toNat (0 : UInt8)).toNat : Int) == 95))] [] 1 = AS.mk [(0, AV.str s), (3, AV.i (↑g : Int)), (4, AV.bool (isLetI (↑(s.getD (↑g :
   Int).toNat (0 : UInt8)).toNat : Int))), (5, AV.bool (isDigU (↑(s.getD (↑g : Int).toNat (0 : UInt8)).toNat : Int)))] [] 1)) ∧ (decide ((↑(s.getD (↑g : Int).toNat (0 : UInt8)).toNat : Int) ≥ 48) = false → (false = true → (0 : Int) ≤
   (↑g : Int) ∧ (↑g : Int) < (↑s.length : Int) ∧ (false = true → false = true) ∧ (true = false → false = true) ∧ AV.bool (decide ((↑(s.getD (↑g : Int).toNat (0 : UInt8)).toNat : Int) ≥ 48)) = AV.bool false ∧ AV.bool false = AV.bool
   true ∧ AS.mk [(0, AV.str s), (3, AV.i (↑g : Int)), (4, AV.bool (isLetI (↑(s.getD (↑g : Int).toNat (0 : UInt8)).toNat : Int))), (5, AV.bool true)] [] 1 = AS.mk [(0, AV.str s), (3, AV.i (↑g : Int)), (4, AV.bool (isLetI (↑(s.getD (↑g
   : Int).toNat (0 : UInt8)).toNat : Int))), (5, AV.bool (isDigU (↑(s.getD (↑g : Int).toNat (0 : UInt8)).toNat : Int)))] [] 1) ∧ (false = false → (0 : Int) ≤ (↑g : Int) ∧ (↑g : Int) < (↑s.length : Int) ∧ (false = true → false = true)
   ∧ (0 : Int) ≤ (↑g : Int) ∧ (↑g : Int) < (↑s.length : Int) ∧ AV.bool (decide ((↑(s.getD (↑g : Int).toNat (0 : UInt8)).toNat : Int) ≥ 48)) = AV.bool false ∧ AV.bool false = AV.bool false ∧ AS.mk [(0, AV.str s), (3, AV.i (↑g : Int)),
   (4, AV.bool (isLetI (↑(s.getD (↑g : Int).toNat (0 : UInt8)).toNat : Int))), (5, AV.bool ((↑(s.getD (↑g : Int).toNat (0 : UInt8)).toNat : Int) == 95))] [] 1 = AS.mk [(0, AV.str s), (3, AV.i (↑g : Int)), (4, AV.bool (isLetI (↑(s.getD
   (↑g : Int).toNat (0 : UInt8)).toNat : Int))), (5, AV.bool (isDigU (↑(s.getD (↑g : Int).toNat (0 : UInt8)).toNat : Int)))] [] 1))) ∧ ((!isLetI (↑(s.getD (↑g : Int).toNat (0 : UInt8)).toNat : Int)) = true → (((↑g : Int) == 0) = true
   → (true = false → false = true) ∧ (AV.bool !isLetI (↑(s.getD (↑g : Int).toNat (0 : UInt8)).toNat : Int)) = AV.bool true ∧ AV.bool ((↑g : Int) == 0) = AV.bool true ∧ (true = true → AV.bool false = AV.bool (sName s)) ∧ (true = false
   → In64 ((↑g : Int) + 1) ∧ ∃ (g' : Nat), (g' ≤ s.length ∧ allB s g' = true) ∧ s.length - g' < s.length - g ∧ AS.mk [(0, AV.str s), (3, AV.i ((↑g : Int) + 1))] [] 1 = AS.mk [(0, AV.str s), (3, AV.i (↑g' : Int))] [] 1)) ∧ (((↑g : Int)
   == 0) = false → (AV.bool !isLetI (↑(s.getD (↑g : Int).toNat (0 : UInt8)).toNat : Int)) = AV.bool true ∧ AV.bool ((↑g : Int) == 0) = AV.bool false ∧ ((!isDigU (↑(s.getD (↑g : Int).toNat (0 : UInt8)).toNat : Int)) = true → AV.bool
   false = AV.bool (sName s)) ∧ ((!isDigU (↑(s.getD (↑g : Int).toNat (0 : UInt8)).toNat : Int)) = false → In64 ((↑g : Int) + 1) ∧ ∃ (g' : Nat), (g' ≤ s.length ∧ allB s g' = true) ∧ s.length - g' < s.length - g ∧ AS.mk [(0, AV.str s),
   (3, AV.i ((↑g : Int) + 1))] [] 1 = AS.mk [(0, AV.str s), (3, AV.i (↑g' : Int))] [] 1))) ∧ ((!isLetI (↑(s.getD (↑g : Int).toNat (0 : UInt8)).toNat : Int)) = false → (false = true → false = true) ∧ (AV.bool !isLetI (↑(s.getD (↑g :
   Int).toNat (0 : UInt8)).toNat : Int)) = AV.bool false ∧ (false = true → AV.bool false = AV.bool (sName s)) ∧ (false = false → In64 ((↑g : Int) + 1) ∧ ∃ (g' : Nat), (g' ≤ s.length ∧ allB s g' = true) ∧ s.length - g' < s.length - g ∧
   AS.mk [(0, AV.str s), (3, AV.i ((↑g : Int) + 1))] [] 1 = AS.mk [(0, AV.str s), (3, AV.i (↑g' : Int))] [] 1))) ∧ (decide ((↑g : Int) < (↑s.length : Int)) = false → AV.bool true = AV.bool (sName s))) := by
    have hs0 : (s.length == 0) = (s == []) := by cases s <;> rfl
    refine ⟨fun h => h, fun h => h, fun h => by rw [h]; rfl, fun h => ?_, fun h => ⟨⟨0, ⟨by omega, rfl⟩, rfl⟩, fun g ⟨hg, ha⟩ => ⟨fun hd => ?_, fun hd => ?_⟩⟩⟩
    · have : (!(s == []) && decide (s.length ≤ 24)) = false := by
        rw [← hs0]
        by_cases h0 : s.length = 0
        · simp [h0]
        · rw [beq_eq_false_iff_ne.2 (show (s.length : Int) ≠ 0 by omega)] at h
          simp at h
          simp only [Bool.and_eq_false_iff, decide_eq_false_iff_not]
          omega
      rw [sName, this, Bool.and_false]
    · have hlt := lt_of_dec hd
      have hz : ((g : Int) == 0) = (g == 0) := by
        by_cases h : g = 0
        · simp [h]
        · rw [beq_eq_false_iff_ne.2 h, beq_eq_false_iff_ne.2 (by omega)]
      obtain ⟨n, hx⟩ : ∃ n, (s.getD g 0).toNat = n := ⟨_, rfl⟩
      rw [show (s.getD ((g : Int)).toNat 0).toNat = n from hx]
      have hF : okB (g == 0) (s.getD g 0).toNat = false → AV.bool false = AV.bool (sName s) := fun h => by
        rw [all_fail hlt h]
      have hN : okB (g == 0) (s.getD g 0).toNat = true → In64 ((g : Int) + 1) ∧ ∃ (g' : Nat), (g' ≤ s.length ∧ allB s g' = true) ∧ s.length - g' < s.length - g ∧
          AS.mk [(0, AV.str s), (3, AV.i ((g : Int) + 1))] [] 1 = AS.mk [(0, AV.str s), (3, AV.i g')] [] 1 := fun h =>
        ⟨by unfold In64; omega, g + 1, ⟨hlt, all_next ha h⟩, by omega, rfl⟩
      rw [okB_I] at hF hN
      have h1 : (0 : Int) ≤ g := by omega
      have h2 : (g : Int) < s.length := by omega
      rw [hx] at hF hN
      rw [hz]
      generalize sName s = sn at hF ⊢
      clear hx ha
      repeat' (first | apply And.intro | intro _)
      all_goals try first
        | omega
        | contradiction
        | rfl
        | assumption
        | exact congrArg AV.bool (by assumption)
        | (rw [show isLetI (n : Int) = true by (simp only [decide_eq_true_eq, decide_eq_false_iff_not] at *; simp only [isLetI, Bool.or_eq_true, decide_eq_true_eq]; omega)]; done)
        | (rw [show isLetI (n : Int) = false by (simp only [decide_eq_true_eq, decide_eq_false_iff_not] at *; simp only [isLetI, Bool.or_eq_false_iff, decide_eq_false_iff_not]; omega)]; done)
        | (rw [show isLetI (n : Int) = decide ((n : Int) ≤ 122) by (simp only [decide_eq_true_eq, decide_eq_false_iff_not] at *; simp only [isLetI]; by_cases h90 : (n : Int) ≤ 122 <;> simp [h90] <;> omega)]; done)
        | (rw [show isDigU (n : Int) = true by (simp only [decide_eq_true_eq, decide_eq_false_iff_not] at *; simp only [isDigU, Bool.or_eq_true, decide_eq_true_eq]; omega)]; done)
        | (rw [show isDigU (n : Int) = ((n : Int) == 95) by (simp only [decide_eq_true_eq, decide_eq_false_iff_not] at *; unfold isDigU; rw [decide_eq_false (show ¬ (48 ≤ (n : Int) ∧ (n : Int) ≤ 57) by omega), Bool.false_or]; rfl)]; done)
        | (refine hF ?_; (clear hF hN; generalize isLetI (n : Int) = p at *; generalize isDigU (n : Int) = q at *; generalize (g == 0) = z at *; cases p <;> cases q <;> cases z <;> first | rfl | (exfalso; simp at *; done)); done)
        | (refine (hN ?_).1; (clear hF hN; generalize isLetI (n : Int) = p at *; generalize isDigU (n : Int) = q at *; generalize (g == 0) = z at *; cases p <;> cases q <;> cases z <;> first | rfl | (exfalso; simp at *; done)); done)
        | (refine (hN ?_).2; (clear hF hN; generalize isLetI (n : Int) = p at *; generalize isDigU (n : Int) = q at *; generalize (g == 0) = z at *; cases p <;> cases q <;> cases z <;> first | rfl | (exfalso; simp at *; done)); done)
    · have hge := ge_of_dec hd hg
      subst hge
      have h2 : (!(s == []) && decide (s.length ≤ 24)) = true := by
        rw [← hs0]
        by_cases h0 : s.length = 0
        · simp [h0] at h
        · rw [beq_eq_false_iff_ne.2 (show (s.length : Int) ≠ 0 by omega)] at h
          simp at h
          simp only [Bool.and_eq_true, decide_eq_true_eq, Bool.not_eq_true', beq_eq_false_iff_ne]
          omega
      rw [sName, ha, h2]
      rfl
  exact c_of Tryz.f143 (B143 s) (by kernel_rfl) (by kernel_rfl) (by kernel_rfl) (by kernel_rfl) key (by kernel_rfl)
def spN : Nat → List AV → Option AV
  | 117, [.str s] => some (.bool (sName s))
  | 143, [.str s] => some (.bool (sName s))
  | 108, [.str s] => some (.i (sWhen (!sName s) 8))
  | n, x => spA n x
def modA (r k : Nat) (f : An → An) (B : BA) : BA := { B with ra := fun i => if i.beq r then { B.ra i with ans := setA f k (B.ra i).ans } else B.ra i }
def fzB (B : BA) : BA := { B with gs := fun i => (B.ra i).fz.map GS.frzo ++ B.gs i }
def noSym (r : Nat) (B : BA) : BA := { B with ra := fun i => if i.beq r then { B.ra i with ans := (B.ra i).ans.map fun a => { a with sym := false } } else B.ra i }
theorem getD_mem {α : Type} [Inhabited α] {l : List α} {i : Nat} (h : i < l.length) : l.getD i default ∈ l := by
  rw [List.getD_eq_getElem?_getD, List.getElem?_eq_getElem h]
  exact List.getElem_mem h
def fiN (p : Nat → Bool) : Nat → Nat
  | 0 => 0
  | n + 1 => if fiN p n < n then fiN p n else if p n then n else n + 1
theorem fi_none {p : Nat → Bool} : ∀ {i : Nat}, (∀ j, j < i → p j = false) → fiN p i = i
  | 0, _ => rfl
  | i + 1, h => by
    have h1 : fiN p i = i := fi_none fun j hj => h j (by omega)
    simp only [fiN]
    rw [h1, if_neg (by omega), if_neg (by rw [h i (by omega)]; exact Bool.false_ne_true)]
theorem fi_all {p : Nat → Bool} : ∀ {n : Nat}, ¬ fiN p n < n → ∀ j, j < n → p j = false
  | n + 1, h, j, hj => by
    simp only [fiN] at h
    split at h
    · omega
    · rename_i h1
      split at h
      · omega
      · rename_i h2
        by_cases e : j = n
        · rw [e]; simpa using h2
        · exact fi_all h1 j (by omega)
theorem fi_ex {p : Nat → Bool} {n j : Nat} (hj : j < n) (hp : p j = true) : fiN p n < n := by
  refine Classical.byContradiction fun h => ?_
  rw [fi_all h j hj] at hp
  cases hp
def hasK (es : List (AV × AV)) : AV → Bool
  | .str s => es.any fun p => match p.1 with
    | .str x => x == s
    | _ => false
  | _ => false
def rdK : BL → List AV → Option AV := fun bs ins => match ins with
  | [.ref id, k] => match blkOf bs id with
    | .map es => some (.bool (hasK es k))
    | _ => none
  | _ => none
theorem beqL_comm (a b : List UInt8) : (a == b) = (b == a) := by
  rw [Bool.eq_iff_iff, beq_iff_eq, beq_iff_eq]
  exact eq_comm
def keyE (s : List UInt8) : AV × AV := (.str s, .bool true)
theorem has_map {α : Type} (f : α → List UInt8) (s : List UInt8) (l : List α) : hasK (l.map fun a => keyE (f a)) (.str s) = l.any fun a => f a == s := by
  show ((l.map fun a => keyE (f a)).any fun p => match p.1 with
    | .str x => x == s
    | _ => false) = _
  rw [List.any_map]
  rfl
theorem look_map {α : Type} (f : α → List UInt8) (s : List UInt8) : ∀ l : List α, mlook (.str s) (l.map fun a => keyE (f a)) = some (if (l.any fun a => f a == s) = true then some (.bool true) else none)
  | [] => rfl
  | a :: l => by
    have ih := look_map f s l
    simp only [List.map_cons, keyE, mlook, eqCell, List.any_cons] at ih ⊢
    rw [beqL_comm s (f a)]
    by_cases h : (f a == s) = true
    · simp only [h, Bool.true_or, if_true]
    · have h := Bool.eq_false_iff.2 h
      simp only [h, Bool.false_or]
      exact ih
theorem put_map {α : Type} (f : α → List UInt8) (s : List UInt8) : ∀ l : List α, (l.any fun a => f a == s) = false → mput (.str s) (.bool true) (l.map fun a => keyE (f a)) = some ((l.map fun a => keyE (f a)) ++ [keyE s])
  | [], _ => rfl
  | a :: l, h => by
    rw [List.any_cons, Bool.or_eq_false_iff] at h
    have ih := put_map f s l h.2
    simp only [List.map_cons, keyE, mput, eqCell] at ih ⊢
    rw [beqL_comm s (f a), h.1]
    simp only [ih, List.cons_append]
theorem look_key {α : Type} (f : α → List UInt8) (s : List UInt8) (l : List α) : lookV false (.bool false) (mlook (.str s) (l.map fun a => keyE (f a))) = .bool (hasK (l.map fun a => keyE (f a)) (.str s)) := by
  rw [look_map, has_map]
  cases l.any fun a => f a == s <;> rfl
theorem look_some {α : Type} (f : α → List UInt8) (s : List UInt8) (l : List α) : (mlook (.str s) (l.map fun a => keyE (f a))).isSome = true := by
  rw [look_map]
  rfl
end Go.Proofs.YtfoeefaamjknpaaGreatDoor
namespace Go.Proofs.YtfoeefaamjknpaaGreatDoor
open Go Go.Av Go.RowKit
structure En where
  inn : Bool
  hm : List UInt8
  am : Int
  deriving Inhabited
def encEn (x : En) : List AV := [.bool x.inn, .str x.hm, .i x.am]
def paidL (l : List En) (k : Nat) : List (List UInt8) := ((l.take k).filter fun x => !x.inn).map En.hm
def balL (l : List En) : Nat → Int
  | 0 => 0
  | k + 1 => if (l.getD k default).inn = true then balL l k + (l.getD k default).am else balL l k - (l.getD k default).am
def knS (l : List (List UInt8)) : List (AV × AV) := l.map fun s => keyE s
def frB (x : En) : Bool := if x.inn = true then !(x.inn == true && true && (x.hm == [] && true && (x.am == x.am && true && true))) else false
def fBa (l : List En) (i : Nat) : Int := sFirst [sWithin (l.getD i default).am 1 100000000, sWhen (frB (l.getD i default)) 1, sWhen (if (!(l.getD i default).inn) = true then !sName (l.getD i default).hm else false) 8, sWhen (if (!(l.getD i default).inn) = true then hasK (knS (paidL l i)) (.str (l.getD i default).hm) else false) 9, sWhen (if (!(l.getD i default).inn) = true then decide ((l.getD i default).am > balL l i) else false) 23]
def baE (l : List En) : Int := if decide ((l.length : Int) > 64) = true then 5 else sScan (fBa l) l.length 0
def baV (l : List En) : Int := if baE l != 0 then 0 else balL l l.length
theorem all_ext {p : Nat → Prop} {g : Nat} (h : ∀ j, j < g → p j) (hg : p g) : ∀ j, j < g + 1 → p j := fun j hj => by
  by_cases e : j = g
  · rw [e]; exact hg
  · exact h j (by omega)
theorem paid_step {l : List En} {g : Nat} (h : g < l.length) : paidL l (g + 1) = if (l.getD g default).inn = true then paidL l g else paidL l g ++ [(l.getD g default).hm] := by
  unfold paidL
  have e : l.take (g + 1) = l.take g ++ [l.getD g default] := by
    rw [List.getD_eq_getElem?_getD, List.getElem?_eq_getElem h]
    exact (List.take_append_getElem h).symm
  rw [e, List.filter_append, List.map_append]
  generalize l.getD g default = x
  cases q : x.inn with
  | true => simp [q]
  | false => simp [q]
theorem ba_z {l : List En} {i : Nat} (h : fBa l i = 0) : (1 ≤ (l.getD i default).am ∧ (l.getD i default).am ≤ 100000000) ∧ ((l.getD i default).inn = false → hasK (knS (paidL l i)) (.str (l.getD i default).hm) = false) := by
  unfold fBa at h
  rw [first_zero, first_zero, first_zero, first_zero, within_zero] at h
  refine ⟨h.1, fun hi => ?_⟩
  have h4 := when_z (by decide) h.2.2.2.1
  rw [hi] at h4
  exact h4
theorem bal_bd {l : List En} : ∀ {k : Nat}, k ≤ 64 → (∀ j, j < k → fBa l j = 0) → -(100000000 * (k : Int)) ≤ balL l k ∧ balL l k ≤ 100000000 * (k : Int)
  | 0, _, _ => by simp [balL]
  | k + 1, hk, h => by
    have ih := bal_bd (l := l) (k := k) (by omega) (fun j hj => h j (by omega))
    have h1 := (ba_z (h k (by omega))).1
    rw [balL]
    split <;> omega
theorem put_pd {l : List En} {g : Nat} (hi : (l.getD g default).inn = false) (hg : g < l.length) (h : hasK (knS (paidL l g)) (.str (l.getD g default).hm) = false) : mput (.str (l.getD g default).hm) (.bool true) (knS (paidL l g)) = some (knS (paidL l (g + 1))) := by
  rw [paid_step hg, if_neg (by rw [hi]; decide)]
  unfold knS at h ⊢
  rw [has_map (fun s => s)] at h
  rw [put_map (fun s => s) _ _ h, List.map_append]
  rfl
def la68 (l : List En) : LA := {
  pre := [.ren 7 1, .keep [4, 5, 13, 14, 15] [1], .bound 2], post := [.keep [4, 5, 13, 14, 15] [1], .bound 2]
  Gh := Nat
  st := fun i => ⟨[(4, .i (balL l i)), (5, .ref 1), (13, .sl 3 (l.map encEn)), (14, .i (l.map encEn).length), (15, .i i)], [(1, .map (knS (paidL l i)))], 2⟩
  ok := fun i => i ≤ l.length ∧ ∀ j, j < i → fBa l j = 0
  ms := fun i => l.length - i }
theorem c68 (l : List En) (hl : l.length ≤ 1000) (hn : ∀ x, x ∈ l → x.hm.length ≤ 1000) : PCall Tryz.prog G0 68 [.sl 3 (l.map encEn)] (.tup [.i (baV l), .i (baE l)]) := by
  have key :
   (decide ((↑(List.map encEn l).length : Int) > 64) = true → AV.tup [AV.i 0, AV.i 5] = AV.tup [AV.i (baV l), AV.i (baE l)]) ∧ (decide ((↑(List.map encEn l).length : Int) > 64) = false → (∃ (g : Nat), (g ≤ l.length ∧ ∀ (j : Nat), j <
   g → fBa l j = (0 : Int)) ∧ AS.mk [(4, AV.i 0), (5, AV.ref 1), (13, AV.sl 3 (List.map encEn l)), (14, AV.i (↑(List.map encEn l).length : Int)), (15, AV.i 0)] [(1, ABlk.map [])] 2 = AS.mk [(4, AV.i (balL l g)), (5, AV.ref 1), (13,
   AV.sl 3 (List.map encEn l)), (14, AV.i (↑(List.map encEn l).length : Int)), (15, AV.i (↑g : Int))] [(1, ABlk.map (knS (paidL l g)))] 2) ∧ ∀ (g : Nat), (g ≤ l.length ∧ ∀ (j : Nat), j < g → fBa l j = (0 : Int)) → (decide ((↑g : Int)
   < (↑(List.map encEn l).length : Int)) = true → (0 : Int) ≤ (↑g : Int) ∧ (↑g : Int) < (↑(List.map encEn l).length : Int) ∧ AV.agg (nthR (List.map encEn l) (↑g : Int).toNat) = AV.agg (encEn (l.getD (↑g : Int).toNat default)) ∧
   ((l.getD (↑g : Int).toNat default).inn = true → (l.getD (↑g : Int).toNat default).inn = true) ∧ ((l.getD (↑g : Int).toNat default).inn = true → (l.getD (↑g : Int).toNat default).inn = true) ∧ ((l.getD (↑g : Int).toNat default).inn
   = true → (l.getD (↑g : Int).toNat default).inn = true) ∧ ((l.getD (↑g : Int).toNat default).inn = true → (l.getD (↑g : Int).toNat default).inn = true) ∧ ((l.getD (↑g : Int).toNat default).inn = true → (l.getD (↑g : Int).toNat
   default).inn = true) ∧ ((!(l.getD (↑g : Int).toNat default).inn) = true → (!(l.getD (↑g : Int).toNat default).inn) = true) ∧ ((!(l.getD (↑g : Int).toNat default).inn) = true → (!(l.getD (↑g : Int).toNat default).inn) = true) ∧
   ((!(l.getD (↑g : Int).toNat default).inn) = true → (!(l.getD (↑g : Int).toNat default).inn) = true) ∧ ((!(l.getD (↑g : Int).toNat default).inn) = true → (!(l.getD (↑g : Int).toNat default).inn) = true) ∧ ((!(l.getD (↑g : Int).toNat
   default).inn) = true → (!(l.getD (↑g : Int).toNat default).inn) = true) ∧ ((!(l.getD (↑g : Int).toNat default).inn) = true → (!(l.getD (↑g : Int).toNat default).inn) = true) ∧ ((!(l.getD (↑g : Int).toNat default).inn) = true →
   (!(l.getD (↑g : Int).toNat default).inn) = true) ∧ ((!(l.getD (↑g : Int).toNat default).inn) = true → (mlook (AV.str (l.getD (↑g : Int).toNat default).hm) (knS (paidL l g))).isSome = true) ∧ ((!(l.getD (↑g : Int).toNat
   default).inn) = true → (!(l.getD (↑g : Int).toNat default).inn) = true) ∧ ((!(l.getD (↑g : Int).toNat default).inn) = true → (!(l.getD (↑g : Int).toNat default).inn) = true) ∧ ((!(l.getD (↑g : Int).toNat default).inn) = true →
   (!(l.getD (↑g : Int).toNat default).inn) = true) ∧ ((!(l.getD (↑g : Int).toNat default).inn) = true → (!(l.getD (↑g : Int).toNat default).inn) = true) ∧ ((!(l.getD (↑g : Int).toNat default).inn) = true → (!(l.getD (↑g : Int).toNat
   default).inn) = true) ∧ PCall Tryz.prog G0 118 [AV.i (l.getD (↑g : Int).toNat default).am, AV.i 1, AV.i 100000000] (AV.i (sWithin (l.getD (↑g : Int).toNat default).am (1 : Int) (100000000 : Int))) ∧ PCall Tryz.prog G0 116 [AV.bool
   (if (l.getD (↑g : Int).toNat default).inn = true then !((l.getD (↑g : Int).toNat default).inn == true && true && ((l.getD (↑g : Int).toNat default).hm == [] && true && ((l.getD (↑g : Int).toNat default).am == (l.getD (↑g :
   Int).toNat default).am && true && true))) else false), AV.i 1] (AV.i (sWhen (if (l.getD (↑g : Int).toNat default).inn = true then !((l.getD (↑g : Int).toNat default).inn == true && true && ((l.getD (↑g : Int).toNat default).hm ==
   [] && true && ((l.getD (↑g : Int).toNat default).am == (l.getD (↑g : Int).toNat default).am && true && true))) else false) (1 : Int))) ∧ impB (!(l.getD (↑g : Int).toNat default).inn) (PCall Tryz.prog G0 117 [AV.str (l.getD (↑g :
   Int).toNat default).hm] (AV.bool (sName (l.getD (↑g : Int).toNat default).hm))) ∧ PCall Tryz.prog G0 116 [AV.bool (if (!(l.getD (↑g : Int).toNat default).inn) = true then !sName (l.getD (↑g : Int).toNat default).hm else false),
   AV.i 8] (AV.i (sWhen (if (!(l.getD (↑g : Int).toNat default).inn) = true then !sName (l.getD (↑g : Int).toNat default).hm else false) (8 : Int))) ∧ impB (!(l.getD (↑g : Int).toNat default).inn) (lookV false (AV.bool false) (mlook
   (AV.str (l.getD (↑g : Int).toNat default).hm) (knS (paidL l g))) = AV.bool (hasK (knS (paidL l g)) (AV.str (l.getD (↑g : Int).toNat default).hm))) ∧ PCall Tryz.prog G0 116 [AV.bool (if (!(l.getD (↑g : Int).toNat default).inn) =
   true then hasK (knS (paidL l g)) (AV.str (l.getD (↑g : Int).toNat default).hm) else false), AV.i 9] (AV.i (sWhen (if (!(l.getD (↑g : Int).toNat default).inn) = true then hasK (knS (paidL l g)) (AV.str (l.getD (↑g : Int).toNat
   default).hm) else false) (9 : Int))) ∧ PCall Tryz.prog G0 116 [AV.bool (if (!(l.getD (↑g : Int).toNat default).inn) = true then decide ((l.getD (↑g : Int).toNat default).am > balL l g) else false), AV.i 23] (AV.i (sWhen (if
   (!(l.getD (↑g : Int).toNat default).inn) = true then decide ((l.getD (↑g : Int).toNat default).am > balL l g) else false) (23 : Int))) ∧ PCall Tryz.prog G0 104 [AV.sl 1 [[AV.i (sWithin (l.getD (↑g : Int).toNat default).am (1 : Int)
   (100000000 : Int))], [AV.i (sWhen (if (l.getD (↑g : Int).toNat default).inn = true then !((l.getD (↑g : Int).toNat default).inn == true && true && ((l.getD (↑g : Int).toNat default).hm == [] && true && ((l.getD (↑g : Int).toNat
   default).am == (l.getD (↑g : Int).toNat default).am && true && true))) else false) (1 : Int))], [AV.i (sWhen (if (!(l.getD (↑g : Int).toNat default).inn) = true then !sName (l.getD (↑g : Int).toNat default).hm else false) (8 :
   Int))], [AV.i (sWhen (if (!(l.getD (↑g : Int).toNat default).inn) = true then hasK (knS (paidL l g)) (AV.str (l.getD (↑g : Int).toNat default).hm) else false) (9 : Int))], [AV.i (sWhen (if (!(l.getD (↑g : Int).toNat default).inn) =
   true then decide ((l.getD (↑g : Int).toNat default).am > balL l g) else false) (23 : Int))]]] (AV.i (sFirst [hdI [AV.i (sWithin (l.getD (↑g : Int).toNat default).am (1 : Int) (100000000 : Int))], hdI [AV.i (sWhen (if (l.getD (↑g :
   Int).toNat default).inn = true then !((l.getD (↑g : Int).toNat default).inn == true && true && ((l.getD (↑g : Int).toNat default).hm == [] && true && ((l.getD (↑g : Int).toNat default).am == (l.getD (↑g : Int).toNat default).am &&
   true && true))) else false) (1 : Int))], hdI [AV.i (sWhen (if (!(l.getD (↑g : Int).toNat default).inn) = true then !sName (l.getD (↑g : Int).toNat default).hm else false) (8 : Int))], hdI [AV.i (sWhen (if (!(l.getD (↑g : Int).toNat
   default).inn) = true then hasK (knS (paidL l g)) (AV.str (l.getD (↑g : Int).toNat default).hm) else false) (9 : Int))], hdI [AV.i (sWhen (if (!(l.getD (↑g : Int).toNat default).inn) = true then decide ((l.getD (↑g : Int).toNat
   default).am > balL l g) else false) (23 : Int))]])) ∧ ((sFirst [hdI [AV.i (sWithin (l.getD (↑g : Int).toNat default).am (1 : Int) (100000000 : Int))], hdI [AV.i (sWhen (if (l.getD (↑g : Int).toNat default).inn = true then !((l.getD
   (↑g : Int).toNat default).inn == true && true && ((l.getD (↑g : Int).toNat default).hm == [] && true && ((l.getD (↑g : Int).toNat default).am == (l.getD (↑g : Int).toNat default).am && true && true))) else false) (1 : Int))], hdI
   [AV.i (sWhen (if (!(l.getD (↑g : Int).toNat default).inn) = true then !sName (l.getD (↑g : Int).toNat default).hm else false) (8 : Int))], hdI [AV.i (sWhen (if (!(l.getD (↑g : Int).toNat default).inn) = true then hasK (knS (paidL l
   g)) (AV.str (l.getD (↑g : Int).toNat default).hm) else false) (9 : Int))], hdI [AV.i (sWhen (if (!(l.getD (↑g : Int).toNat default).inn) = true then decide ((l.getD (↑g : Int).toNat default).am > balL l g) else false) (23 : Int))]]
   != 0) = true → AV.tup [AV.i 0, AV.i (sFirst [hdI [AV.i (sWithin (l.getD (↑g : Int).toNat default).am (1 : Int) (100000000 : Int))], hdI [AV.i (sWhen (if (l.getD (↑g : Int).toNat default).inn = true then !((l.getD (↑g : Int).toNat
   default).inn == true && true && ((l.getD (↑g : Int).toNat default).hm == [] && true && ((l.getD (↑g : Int).toNat default).am == (l.getD (↑g : Int).toNat default).am && true && true))) else false) (1 : Int))], hdI [AV.i (sWhen (if
   (!(l.getD (↑g : Int).toNat default).inn) = true then !sName (l.getD (↑g : Int).toNat default).hm else false) (8 : Int))], hdI [AV.i (sWhen (if (!(l.getD (↑g : Int).toNat default).inn) = true then hasK (knS (paidL l g)) (AV.str
   (l.getD (↑g : Int).toNat default).hm) else false) (9 : Int))], hdI [AV.i (sWhen (if (!(l.getD (↑g : Int).toNat default).inn) = true then decide ((l.getD (↑g : Int).toNat default).am > balL l g) else false) (23 : Int))]])] = AV.tup
   [AV.i (baV l), AV.i (baE l)]) ∧ ((sFirst [hdI [AV.i (sWithin (l.getD (↑g : Int).toNat default).am (1 : Int) (100000000 : Int))], hdI [AV.i (sWhen (if (l.getD (↑g : Int).toNat default).inn = true then !((l.getD (↑g : Int).toNat
   default).inn == true && true && ((l.getD (↑g : Int).toNat default).hm == [] && true && ((l.getD (↑g : Int).toNat default).am == (l.getD (↑g : Int).toNat default).am && true && true))) else false) (1 : Int))], hdI [AV.i (sWhen (if
   (!(l.getD (↑g : Int).toNat default).inn) = true then !sName (l.getD (↑g : Int).toNat default).hm else false) (8 : Int))], hdI [AV.i (sWhen (if (!(l.getD (↑g : Int).toNat default).inn) = true then hasK (knS (paidL l g)) (AV.str
   (l.getD (↑g : Int).toNat default).hm) else false) (9 : Int))], hdI [AV.i (sWhen (if (!(l.getD (↑g : Int).toNat default).inn) = true then decide ((l.getD (↑g : Int).toNat default).am > balL l g) else false) (23 : Int))]] != 0) =
   false → ((l.getD (↑g : Int).toNat default).inn = true → In64 (balL l g + (l.getD (↑g : Int).toNat default).am) ∧ In64 ((↑g : Int) + 1) ∧ ∃ (g' : Nat), (g' ≤ l.length ∧ ∀ (j : Nat), j < g' → fBa l j = (0 : Int)) ∧ l.length - g' <
   l.length - g ∧ AS.mk [(4, AV.i (balL l g + (l.getD (↑g : Int).toNat default).am)), (5, AV.ref 1), (13, AV.sl 3 (List.map encEn l)), (14, AV.i (↑(List.map encEn l).length : Int)), (15, AV.i ((↑g : Int) + 1))] [(1, ABlk.map (knS
   (paidL l g)))] 2 = AS.mk [(4, AV.i (balL l g')), (5, AV.ref 1), (13, AV.sl 3 (List.map encEn l)), (14, AV.i (↑(List.map encEn l).length : Int)), (15, AV.i (↑g' : Int))] [(1, ABlk.map (knS (paidL l g')))] 2) ∧ ((l.getD (↑g :
   Int).toNat default).inn = false → In64 (balL l g - (l.getD (↑g : Int).toNat default).am) ∧ (mput (AV.str (l.getD (↑g : Int).toNat default).hm) (AV.bool true) (knS (paidL l g))).isSome = true ∧ In64 ((↑g : Int) + 1) ∧ ∃ (g' : Nat),
   (g' ≤ l.length ∧ ∀ (j : Nat), j < g' → fBa l j = (0 : Int)) ∧ l.length - g' < l.length - g ∧ AS.mk [(4, AV.i (balL l g - (l.getD (↑g : Int).toNat default).am)), (5, AV.ref 1), (13, AV.sl 3 (List.map encEn l)), (14, AV.i (↑(List.map
   encEn l).length : Int)), (15, AV.i ((↑g : Int) + 1))] [(1, ABlk.map ((mput (AV.str (l.getD (↑g : Int).toNat default).hm) (AV.bool true) (knS (paidL l g))).getD []))] 2 = AS.mk [(4, AV.i (balL l g')), (5, AV.ref 1), (13, AV.sl 3
   (List.map encEn l)), (14, AV.i (↑(List.map encEn l).length : Int)), (15, AV.i (↑g' : Int))] [(1, ABlk.map (knS (paidL l g')))] 2))) ∧ (decide ((↑g : Int) < (↑(List.map encEn l).length : Int)) = false → AV.tup [AV.i (balL l g), AV.i
   0] = AV.tup [AV.i (baV l), AV.i (baE l)])) := by
    have hlm : (List.map encEn l).length = l.length := List.length_map _
    have : (List.map encEn l).length = l.length := by simp only [List.length_map]
    refine ⟨fun h1 => ?_, fun h1 => ?_⟩
    · have e : baE l = 5 := if_pos (by rw [hlm] at h1; exact h1)
      rw [baV, e]
      rfl
    · have h64 : l.length ≤ 64 := by have := of_decide_eq_false h1; omega
      have hb64 : baE l = sScan (fBa l) l.length 0 := if_neg (by rw [decide_eq_true_eq]; omega)
      refine ⟨⟨0, ⟨by omega, by intros; omega⟩, rfl⟩, fun g ⟨hg, ha⟩ => ⟨fun hd => ?_, fun hd => ?_⟩⟩
      · have hlt : g < l.length := by have h9 := of_decide_eq_true hd; have h8 := hg; (try simp only [List.length_map] at h8); (try simp only [List.length_map] at h9); omega
        have hx := hn _ (getD_mem hlt)
        have hbb := bal_bd (l := l) (k := g) (by omega) ha
        try rw [show (↑g : Int).toNat = g from Int.toNat_natCast g]
        refine ⟨(by omega), (by omega), congrArg AV.agg (row_at encEn hlt), fun h => h, fun h => h, fun h => h, fun h => h, fun h => h, fun h => h, fun h => h, fun h => h, fun h => h, fun h => h, fun h => h, fun h => h, fun _ => look_some (fun s => s) _ _, fun h => h, fun h => h, fun h => h, fun h => h, fun h => h, (c118 _ _ _), (c116 _ _), impB_iff.2 fun hb => (c117 _ (by omega)), (c116 _ _), impB_iff.2 fun hb => (look_key (fun s => s) _ _), (c116 _ _), (c116 _ _), (c104 [_, _, _, _, _] (by simp)), fun h2 => ?_, fun h2 => ?_⟩
        · have hne : fBa l g ≠ 0 := bne_t h2
          have e : baE l = fBa l g := by rw [hb64, scan_hit hlt ha hne]
          rw [baV, e, if_pos (show (fBa l g != 0) = true from h2)]
          rfl
        · have hz : fBa l g = 0 := bne_f h2
          obtain ⟨ba1, ba2⟩ := ba_z hz
          refine ⟨fun h3 => ⟨(by unfold In64; omega), (by unfold In64; omega), ⟨g + 1, ⟨by omega, all_ext ha hz⟩, by omega, ?_⟩⟩, fun h3 => ⟨(by unfold In64; omega), ?_, (by unfold In64; omega), ⟨g + 1, ⟨by omega, all_ext ha hz⟩, by omega, ?_⟩⟩⟩
          · first
              | (rw [balL, if_pos h3, paid_step hlt, if_pos h3]; rfl)
              | (rw [put_pd h3 hlt (ba2 h3), balL, if_neg (by rw [h3]; decide)]; rfl)
          · rw [put_pd h3 hlt (ba2 h3)]
            rfl
          · first
              | (rw [balL, if_pos h3, paid_step hlt, if_pos h3]; rfl)
              | (rw [put_pd h3 hlt (ba2 h3), balL, if_neg (by rw [h3]; decide)]; rfl)
      · have hge : g = l.length := by have h9 := of_decide_eq_false hd; have h8 := hg; (try simp only [List.length_map] at h8); (try simp only [List.length_map] at h9); omega
        subst hge
        have e : baE l = 0 := by rw [hb64, scan_end ha]
        rw [baV, e]
        rfl
  exact c_of Tryz.f68 (fzB (modA 8 30 (fun a => { a with rdb := rdK }) (mkB spN 68 [(7, 1, rdL 3 encEn l 3 true)] (fun i => if i.beq 0 then some (la68 l) else none)))) (by kernel_rfl) (by kernel_rfl) (by kernel_rfl) (by kernel_rfl) key (by kernel_rfl)
end Go.Proofs.YtfoeefaamjknpaaGreatDoor
namespace Go.Proofs.YtfoeefaamjknpaaGreatDoor
open Go Go.Av Go.RowKit Go.ChangeShapes Go.WideShapes
theorem hA : PCall Tryz.prog G0 16 [] (.bool true) := awc40
theorem laidOut : laidOutB Tryz.prog = true := by kernel_rfl
theorem own : ownKnob Tryz.prog.godebug = none := by kernel_rfl
def laid7 : List (String × DataW Unit) := Rows.homeFundsRow.laid
theorem door_met (os : Os) (args : Array Value) : laidMetH Tryz.prog laid7 ((World.laidAll Tryz.prog os laid7).forCall (fun _ _ => 0) ⟨#[], args, []⟩).memory := by
  rw [MakeChecks.laidMetH_plain _ _ _ (by kernel_rfl)]
  exact laidMet_laidAll _ (by kernel_rfl) (by kernel_rfl)
theorem globs {W : World} (h : laidMetH Tryz.prog laid7 W) : ∀ g cells, lk g G0 = some cells → GlobOK NoX W g cells := by
  rw [MakeChecks.laidMetH_plain _ _ _ (by kernel_rfl)] at h
  obtain ⟨ps, hl, _⟩ := h
  have m0 := laid_glob (T := T0) tok (n := 8) (name := "flyover/home.verdicts") (d := Rows.laid_flyover_home_verdicts) (g := 0) (t := 197) (cells := nthR (G0.map (·.2)) 0) (by kernel_rfl) (by kernel_rfl) (by kernel_rfl) (by kernel_rfl) (by kernel_rfl) (by simp [nthR, G0]) (laid := laid7) (ps := ps) (by simp [laid7, Rows.homeFundsRow]) hl
  have m1 := laid_glob (T := T0) tok (n := 8) (name := "flyover/sound.base") (d := Rows.laid_flyover_sound_base) (g := 1) (t := 300) (cells := nthR (G0.map (·.2)) 1) (by kernel_rfl) (by kernel_rfl) (by kernel_rfl) (by kernel_rfl) (by kernel_rfl) (by simp [nthR, G0]) (laid := laid7) (ps := ps) (by simp [laid7, Rows.homeFundsRow]) hl
  have m3 := laid_glob (T := T0) tok (n := 8) (name := "internal/strconv.uint64pow10") (d := Rows.laid_internal_strconv_uint64pow10) (g := 3) (t := 312) (cells := nthR (G0.map (·.2)) 2) (by kernel_rfl) (by kernel_rfl) (by kernel_rfl) (by kernel_rfl) (by kernel_rfl) (by simp [nthR, G0]) (laid := laid7) (ps := ps) (by simp [laid7, Rows.homeFundsRow]) hl
  intro g cells hg
  obtain ⟨u, hu, e1⟩ := lk_mem hg
  subst e1
  simp only [G0, List.mem_cons, List.not_mem_nil, or_false, Prod.mk.injEq] at hu
  rcases hu with ⟨rfl, rfl⟩ | ⟨rfl, rfl⟩ | ⟨rfl, rfl⟩
  · exact m0
  · exact m1
  · exact m3
theorem en_of {n : Nat} {r : List AV} (hn : shapeT T0 n 115 = [.bool, .str, .int .i64]) (hp : plainT T0 n 115 = true) (h : ASh T0 n 115 r) : ∃ x : En, r = encEn x ∧ True := by
  have := ash_shape n 115 r hp h
  rw [hn] at this
  obtain ⟨_, _, rfl, ⟨a, rfl⟩, _, _, rfl, ⟨b, rfl, _⟩, _, _, rfl, ⟨c, rfl, _⟩, rfl⟩ := this
  exact ⟨⟨a, b, c⟩, rfl, trivial⟩
theorem ens_arg {a : AV} (h : ASh1 T0 8 113 a) : ∃ l : List En, a = .sl 3 (l.map encEn) ∧ l.length ≤ maxLen := by
  obtain ⟨rows, rfl, hl, hr⟩ := ash1_one (c := .sl 7 115 3) (ti := ⟨(.slice 115 3 32), 1, 24, false, [.ex (.slice none 0 0)], false⟩) (by kernel_rfl) rfl (by kernel_rfl) (by kernel_rfl) h
  obtain ⟨l, rfl, _⟩ := rows_enc (enc := encEn) (Q := fun _ => True) (fun r hm => en_of (by kernel_rfl) (by kernel_rfl) (hr r hm))
  exact ⟨l, rfl, by simpa using hl⟩
end Go.Proofs.YtfoeefaamjknpaaGreatDoor
namespace Go.Proofs.YtfoeefaamjknpaaGreatDoor
open Go Go.Av Go.RowKit
def pS (rs : List (List UInt8)) (s : List UInt8) (i : Nat) : Bool := rs.getD i default == s
def rdN (f : Nat → List UInt8) : List AV → Option AV
  | [.elt _ _ i _] => some (.str (f i))
  | _ => none
def dS (rows : List (List AV)) : List (List UInt8) := rows.map fun r => match r with
  | [.str x] => x
  | _ => []
theorem dS_e (ws : List (List UInt8)) : dS (ws.map encS) = ws := by
  unfold dS
  rw [List.map_map]
  exact (List.map_congr_left fun x _ => rfl).trans (List.map_id ws)
def hwR (rows : List (List AV)) (s : List UInt8) : Bool := hasK (knS (dS rows)) (.str s)
theorem fi_any (rs : List (List UInt8)) (s : List UInt8) : decide (fiN (pS rs s) rs.length < rs.length) = hasK (knS rs) (.str s) := by
  unfold knS
  rw [has_map (fun s => s)]
  cases h : rs.any fun a => a == s with
  | true =>
    obtain ⟨x, hx, e⟩ := List.any_eq_true.1 h
    obtain ⟨i, hi, ex⟩ := List.mem_iff_getElem.1 hx
    refine decide_eq_true (fi_ex (p := pS rs s) hi ?_)
    unfold pS
    rw [List.getD_eq_getElem?_getD, List.getElem?_eq_getElem hi, ex]
    exact e
  | false =>
    refine decide_eq_false ?_
    rw [fi_none fun j hj => ?_]
    · exact Nat.lt_irrefl _
    · have := List.any_eq_false.1 h (rs.getD j default) (getD_mem hj)
      unfold pS
      simpa using this
def la111 (rs : List (List UInt8)) (s : List UInt8) : LA := {
  pre := [.keep [0, 1, 5] [], .bound 1], post := [.keep [0, 1, 5] [], .bound 1]
  Gh := Nat
  st := fun i => ⟨[(0, .sl 1 (rs.map encS)), (1, .str s), (5, .i i)], [], 1⟩
  ok := fun i => i ≤ rs.length ∧ ∀ j, j < i → pS rs s j = false
  ms := fun i => rs.length - i }
theorem c111 (rs : List (List UInt8)) (s : List UInt8) (hl : rs.length ≤ 1000) : PCall Tryz.prog G0 111 [.sl 1 (rs.map encS), .str s] (.bool (decide (fiN (pS rs s) rs.length < rs.length))) := by
  have key :
   (∃ (g : Nat), (g ≤ rs.length ∧ ∀ (j : Nat), j < g → pS rs s j = false) ∧ AS.mk [(0, AV.sl 1 (List.map encS rs)), (1, AV.str s), (5, AV.i 0)] [] 1 = AS.mk [(0, AV.sl 1 (List.map encS rs)), (1, AV.str s), (5, AV.i (↑g : Int))] [] 1)
   ∧ ∀ (g : Nat), (g ≤ rs.length ∧ ∀ (j : Nat), j < g → pS rs s j = false) → (decide ((↑g : Int) < (↑(List.map encS rs).length : Int)) = true → (0 : Int) ≤ (↑g : Int) ∧ (↑g : Int) < (↑(List.map encS rs).length : Int) ∧ nth (nthR
   (List.map encS rs) (↑g : Int).toNat) 0 = AV.str (rs.getD (↑g : Int).toNat []) ∧ ((rs.getD (↑g : Int).toNat [] == s) = true → AV.bool true = AV.bool (decide (fiN (pS rs s) rs.length < rs.length))) ∧ ((rs.getD (↑g : Int).toNat [] ==
   s) = false → In64 ((↑g : Int) + 1) ∧ ∃ (g' : Nat), (g' ≤ rs.length ∧ ∀ (j : Nat), j < g' → pS rs s j = false) ∧ rs.length - g' < rs.length - g ∧ AS.mk [(0, AV.sl 1 (List.map encS rs)), (1, AV.str s), (5, AV.i ((↑g : Int) + 1))] []
   1 = AS.mk [(0, AV.sl 1 (List.map encS rs)), (1, AV.str s), (5, AV.i (↑g' : Int))] [] 1)) ∧ (decide ((↑g : Int) < (↑(List.map encS rs).length : Int)) = false → AV.bool false = AV.bool (decide (fiN (pS rs s) rs.length < rs.length)))
   := by
    have hlm : (List.map encS rs).length = rs.length := List.length_map _
    refine ⟨⟨0, ⟨by omega, by intros; omega⟩, rfl⟩, fun g ⟨hg, ha⟩ => ⟨fun hd => ?_, fun hd => ?_⟩⟩
    · rw [hlm] at hd
      have hlt := lt_of_dec hd
      refine ⟨by omega, by omega, by rw [show nthR (List.map encS rs) ((g : Int)).toNat = encS (rs.getD g default) from row_at encS hlt]; rfl, fun hx => ?_, fun hx => ⟨by unfold In64; omega, g + 1, ⟨hlt, fun j hj => ?_⟩, by omega, rfl⟩⟩
      · rw [decide_eq_true (fi_ex (p := pS rs s) hlt hx)]
      · by_cases e : j = g
        · rw [e]; exact hx
        · exact ha j (by omega)
    · rw [hlm] at hd
      have e := ge_of_dec hd hg
      subst e
      rw [fi_none ha, decide_eq_false (Nat.lt_irrefl _)]
  exact c_of Tryz.f111 (mkB spN 111 [(4, 3, rdN fun i => rs.getD i default)] (fun j => if j.beq 0 then some (la111 rs s) else none)) (by kernel_rfl) (by kernel_rfl) (by kernel_rfl) (by kernel_rfl) key (by kernel_rfl)
theorem c111h (rs : List (List UInt8)) (s : List UInt8) (hl : rs.length ≤ 1000) : PCall Tryz.prog G0 111 [.sl 1 (rs.map encS), .str s] (.bool (hwR (rs.map encS) s)) := by
  rw [hwR, dS_e, ← fi_any]
  exact c111 rs s hl
def la69 (l : List En) : LA := {
  pre := [.own 3 185 3, .reno 3 1, .keep [3, 6, 7, 8] [1], .bound 2], post := [.reno 3 1, .keep [3, 6, 7, 8] [1], .bound 2]
  Gh := Nat
  st := fun i => ⟨[(3, .own 1 ((l.take i).map encEn).length), (6, .sl 3 (l.map encEn)), (7, .i (l.map encEn).length), (8, .i i)], [(1, .buf 185 3 ((l.take i).map encEn))], 2⟩
  ok := fun i => i ≤ l.length
  ms := fun i => l.length - i }
theorem c69 (l : List En) (hl : l.length ≤ 1000) : PCall Tryz.prog G0 69 [.sl 3 (l.map encEn)] (.fresh 185 3 (l.map encEn)) := by
  have key :
   (∃ (g : Nat), g ≤ l.length ∧ AS.mk [(3, AV.own 1 0), (6, AV.sl 3 (List.map encEn l)), (7, AV.i (↑(List.map encEn l).length : Int)), (8, AV.i 0)] [(1, ABlk.buf 185 3 [])] 2 = AS.mk [(3, AV.own 1 (List.map encEn (List.take g
   l)).length), (6, AV.sl 3 (List.map encEn l)), (7, AV.i (↑(List.map encEn l).length : Int)), (8, AV.i (↑g : Int))] [(1, ABlk.buf 185 3 (List.map encEn (List.take g l)))] 2) ∧ ∀ (g : Nat), g ≤ l.length → (decide ((↑g : Int) <
   (↑(List.map encEn l).length : Int)) = true → (0 : Int) ≤ (↑g : Int) ∧ (↑g : Int) < (↑(List.map encEn l).length : Int) ∧ AV.agg (nthR (List.map encEn l) (↑g : Int).toNat) = AV.agg (encEn (l.getD (↑g : Int).toNat default)) ∧
   (List.map encEn (List.take g l)).length + 1 ≤ 9223372036854775807 ∧ ((List.map encEn (List.take g l)).length + 1) * 32 ≤ 140737488355328 ∧ In64 ((↑g : Int) + 1) ∧ ∃ (g' : Nat), g' ≤ l.length ∧ l.length - g' < l.length - g ∧ AS.mk
   [(3, AV.own 1 ((List.map encEn (List.take g l)).length + 1)), (6, AV.sl 3 (List.map encEn l)), (7, AV.i (↑(List.map encEn l).length : Int)), (8, AV.i ((↑g : Int) + 1))] [(1, ABlk.buf 185 3 (List.map encEn (List.take g l) ++ [(encEn
   (l.getD (↑g : Int).toNat default))]))] 2 = AS.mk [(3, AV.own 1 (List.map encEn (List.take g' l)).length), (6, AV.sl 3 (List.map encEn l)), (7, AV.i (↑(List.map encEn l).length : Int)), (8, AV.i (↑g' : Int))] [(1, ABlk.buf 185 3
   (List.map encEn (List.take g' l)))] 2) ∧ (decide ((↑g : Int) < (↑(List.map encEn l).length : Int)) = false → AV.fresh 185 3 (List.map encEn (List.take g l)) = AV.fresh 185 3 (List.map encEn l)) := by
    have hlm : (List.map encEn l).length = l.length := List.length_map _
    have : (List.map encEn l).length = l.length := by simp only [List.length_map]
    refine ⟨⟨0, by omega, rfl⟩, fun g hg => ⟨fun hd => ?_, fun hd => ?_⟩⟩
    · have hlt : g < l.length := by have h9 := of_decide_eq_true hd; have h8 := hg; (try simp only [List.length_map] at h8); (try simp only [List.length_map] at h9); omega
      have : (List.map encEn (List.take g l)).length = g := by simp only [List.length_map, List.length_take]; omega
      try rw [show (↑g : Int).toNat = g from Int.toNat_natCast g]
      refine ⟨(by omega), (by omega), congrArg AV.agg (row_at encEn hlt), (by omega), (by omega), (by unfold In64; omega), ⟨g + 1, by omega, by omega, ?_⟩⟩
      · first | (rw [← take_succ_map _ _ hlt, List.length_append]; rfl) | (rw [← take_succ _ hlt, List.length_append]; rfl)
    · have hge : g = l.length := by have h9 := of_decide_eq_false hd; have h8 := hg; (try simp only [List.length_map] at h8); (try simp only [List.length_map] at h9); omega
      subst hge
      exact (by rw [List.take_length])
  exact c_of Tryz.f69 (fzB (mkB spN 69 [(4, 1, rdL 3 encEn l 3 true)] (fun i => if i.beq 0 then some (la69 l) else none))) (by kernel_rfl) (by kernel_rfl) (by kernel_rfl) (by kernel_rfl) key (by kernel_rfl)
def sp70 : Nat → List AV → Option AV
  | 111, [.sl _ rows, .str s] => some (.bool (hwR rows s))
  | n, x => spN n x
def la70 (l : List En) : LA := {
  pre := [.own 4 9 1, .reno 4 1, .keep [0, 4, 5, 6] [1], .bound 2], post := [.reno 4 1, .keep [0, 4, 5, 6] [1], .bound 2]
  Gh := Nat
  st := fun i => ⟨[(0, .sl 3 (l.map encEn)), (4, .own 1 ((paidL l i).map encS).length), (5, .i (balL l i)), (6, .i i)], [(1, .buf 9 1 ((paidL l i).map encS))], 2⟩
  ok := fun i => i ≤ l.length ∧ ∀ j, j < i → fBa l j = 0
  ms := fun i => l.length - i }
def f4R (l : List En) (i : Nat) : Int := sFirst [sWithin (l.getD i default).am 1 100000000, sWhen (if (l.getD i default).inn = true then !((l.getD i default).hm == []) else false) 1, sWhen (if (!(l.getD i default).inn) = true then !sName (l.getD i default).hm else false) 8, sWhen (if (!(l.getD i default).inn) = true then hwR ((paidL l i).map encS) (l.getD i default).hm else false) 9]
theorem frB_e (x : En) : frB x = if x.inn = true then !(x.hm == []) else false := by
  unfold frB
  cases h : x.inn with
  | true =>
    rw [if_pos rfl, if_pos rfl, beq_self_eq_true, beq_self_eq_true]
    cases x.hm == [] <;> rfl
  | false => rfl
theorem f4_e (l : List En) (i : Nat) : fBa l i = if f4R l i != 0 then f4R l i else sWhen (if (!(l.getD i default).inn) = true then decide ((l.getD i default).am > balL l i) else false) 23 := by
  have e : hwR ((paidL l i).map encS) (l.getD i default).hm = hasK (knS (paidL l i)) (.str (l.getD i default).hm) := by rw [hwR, dS_e]
  unfold fBa f4R
  rw [frB_e, e]
  generalize sWithin (l.getD i default).am 1 100000000 = a
  generalize sWhen (if (l.getD i default).inn = true then !((l.getD i default).hm == []) else false) 1 = b
  generalize sWhen (if (!(l.getD i default).inn) = true then !sName (l.getD i default).hm else false) 8 = c
  generalize sWhen (if (!(l.getD i default).inn) = true then hasK (knS (paidL l i)) (.str (l.getD i default).hm) else false) 9 = d
  generalize sWhen (if (!(l.getD i default).inn) = true then decide ((l.getD i default).am > balL l i) else false) 23 = f
  simp only [sFirst]
  by_cases h1 : a = 0 <;> by_cases h2 : b = 0 <;> by_cases h3 : c = 0 <;> by_cases h4 : d = 0 <;> by_cases h5 : f = 0 <;> simp [h1, h2, h3, h4, h5]
theorem f4_bd {l : List En} {i : Nat} (h : f4R l i = 0) : 1 ≤ (l.getD i default).am ∧ (l.getD i default).am ≤ 100000000 := by
  unfold f4R at h
  rw [first_zero, within_zero] at h
  exact h.1
theorem fz_in {l : List En} {i : Nat} (h : f4R l i = 0) (h3 : (l.getD i default).inn = true) : fBa l i = 0 := by
  rw [f4_e, h, h3]
  rfl
theorem fz_out {l : List En} {i : Nat} (h : f4R l i = 0) (h3 : (l.getD i default).inn = false) : fBa l i = sWhen (decide ((l.getD i default).am > balL l i)) 23 := by
  rw [f4_e, h, h3]
  rfl
theorem paid_len (l : List En) (k : Nat) : (paidL l k).length ≤ k := by
  unfold paidL
  rw [List.length_map]
  exact Nat.le_trans (List.length_filter_le _ _) (by rw [List.length_take]; omega)
theorem c70 (l : List En) (hl : l.length ≤ 1000) (hn : ∀ x, x ∈ l → x.hm.length ≤ 1000) : PCall Tryz.prog G0 70 [.sl 3 (l.map encEn)] (.tup [.i (baV l), .i (baE l)]) := by
  have key :
   (decide ((↑(List.map encEn l).length : Int) > 64) = true → AV.tup [AV.i 0, AV.i 5] = AV.tup [AV.i (baV l), AV.i (baE l)]) ∧ (decide ((↑(List.map encEn l).length : Int) > 64) = false → (∃ (g : Nat), (g ≤ l.length ∧ ∀ (j : Nat), j <
   g → fBa l j = (0 : Int)) ∧ AS.mk [(0, AV.sl 3 (List.map encEn l)), (4, AV.own 1 0), (5, AV.i 0), (6, AV.i 0)] [(1, ABlk.buf 9 1 [])] 2 = AS.mk [(0, AV.sl 3 (List.map encEn l)), (4, AV.own 1 (List.map encS (paidL l g)).length), (5,
   AV.i (balL l g)), (6, AV.i (↑g : Int))] [(1, ABlk.buf 9 1 (List.map encS (paidL l g)))] 2) ∧ ∀ (g : Nat), (g ≤ l.length ∧ ∀ (j : Nat), j < g → fBa l j = (0 : Int)) → (decide ((↑g : Int) < (↑(List.map encEn l).length : Int)) = true
   → (0 : Int) ≤ (↑g : Int) ∧ (↑g : Int) < (↑(List.map encEn l).length : Int) ∧ AV.agg (nthR (List.map encEn l) (↑g : Int).toNat) = AV.agg (encEn (l.getD (↑g : Int).toNat default)) ∧ ((l.getD (↑g : Int).toNat default).inn = true →
   (l.getD (↑g : Int).toNat default).inn = true) ∧ ((l.getD (↑g : Int).toNat default).inn = true → (l.getD (↑g : Int).toNat default).inn = true) ∧ ((l.getD (↑g : Int).toNat default).inn = true → (l.getD (↑g : Int).toNat default).inn =
   true) ∧ ((!(l.getD (↑g : Int).toNat default).inn) = true → (!(l.getD (↑g : Int).toNat default).inn) = true) ∧ ((!(l.getD (↑g : Int).toNat default).inn) = true → (!(l.getD (↑g : Int).toNat default).inn) = true) ∧ ((!(l.getD (↑g :
   Int).toNat default).inn) = true → (!(l.getD (↑g : Int).toNat default).inn) = true) ∧ ((!(l.getD (↑g : Int).toNat default).inn) = true → (!(l.getD (↑g : Int).toNat default).inn) = true) ∧ ((!(l.getD (↑g : Int).toNat default).inn) =
   true → (!(l.getD (↑g : Int).toNat default).inn) = true) ∧ ((!(l.getD (↑g : Int).toNat default).inn) = true → (!(l.getD (↑g : Int).toNat default).inn) = true) ∧ ((!(l.getD (↑g : Int).toNat default).inn) = true → (!(l.getD (↑g :
   Int).toNat default).inn) = true) ∧ ((!(l.getD (↑g : Int).toNat default).inn) = true → (!(l.getD (↑g : Int).toNat default).inn) = true) ∧ PCall Tryz.prog G0 81 [AV.i (l.getD (↑g : Int).toNat default).am, AV.i 1, AV.i 100000000]
   (AV.i (sWithin (l.getD (↑g : Int).toNat default).am (1 : Int) (100000000 : Int))) ∧ PCall Tryz.prog G0 109 [AV.bool (if (l.getD (↑g : Int).toNat default).inn = true then !(l.getD (↑g : Int).toNat default).hm == [] else false), AV.i
   1] (AV.i (sWhen (if (l.getD (↑g : Int).toNat default).inn = true then !(l.getD (↑g : Int).toNat default).hm == [] else false) (1 : Int))) ∧ impB (!(l.getD (↑g : Int).toNat default).inn) (PCall Tryz.prog G0 143 [AV.str (l.getD (↑g :
   Int).toNat default).hm] (AV.bool (sName (l.getD (↑g : Int).toNat default).hm))) ∧ PCall Tryz.prog G0 109 [AV.bool (if (!(l.getD (↑g : Int).toNat default).inn) = true then !sName (l.getD (↑g : Int).toNat default).hm else false),
   AV.i 8] (AV.i (sWhen (if (!(l.getD (↑g : Int).toNat default).inn) = true then !sName (l.getD (↑g : Int).toNat default).hm else false) (8 : Int))) ∧ impB (!(l.getD (↑g : Int).toNat default).inn) (PCall Tryz.prog G0 111 [AV.sl 1
   (List.map encS (paidL l g)), AV.str (l.getD (↑g : Int).toNat default).hm] (AV.bool (hwR (List.map encS (paidL l g)) (l.getD (↑g : Int).toNat default).hm))) ∧ PCall Tryz.prog G0 109 [AV.bool (if (!(l.getD (↑g : Int).toNat
   default).inn) = true then hwR (List.map encS (paidL l g)) (l.getD (↑g : Int).toNat default).hm else false), AV.i 9] (AV.i (sWhen (if (!(l.getD (↑g : Int).toNat default).inn) = true then hwR (List.map encS (paidL l g)) (l.getD (↑g :
   Int).toNat default).hm else false) (9 : Int))) ∧ PCall Tryz.prog G0 107 [AV.sl 1 [[AV.i (sWithin (l.getD (↑g : Int).toNat default).am (1 : Int) (100000000 : Int))], [AV.i (sWhen (if (l.getD (↑g : Int).toNat default).inn = true then
   !(l.getD (↑g : Int).toNat default).hm == [] else false) (1 : Int))], [AV.i (sWhen (if (!(l.getD (↑g : Int).toNat default).inn) = true then !sName (l.getD (↑g : Int).toNat default).hm else false) (8 : Int))], [AV.i (sWhen (if
   (!(l.getD (↑g : Int).toNat default).inn) = true then hwR (List.map encS (paidL l g)) (l.getD (↑g : Int).toNat default).hm else false) (9 : Int))]]] (AV.i (sFirst [hdI [AV.i (sWithin (l.getD (↑g : Int).toNat default).am (1 : Int)
   (100000000 : Int))], hdI [AV.i (sWhen (if (l.getD (↑g : Int).toNat default).inn = true then !(l.getD (↑g : Int).toNat default).hm == [] else false) (1 : Int))], hdI [AV.i (sWhen (if (!(l.getD (↑g : Int).toNat default).inn) = true
   then !sName (l.getD (↑g : Int).toNat default).hm else false) (8 : Int))], hdI [AV.i (sWhen (if (!(l.getD (↑g : Int).toNat default).inn) = true then hwR (List.map encS (paidL l g)) (l.getD (↑g : Int).toNat default).hm else false) (9
   : Int))]])) ∧ ((sFirst [hdI [AV.i (sWithin (l.getD (↑g : Int).toNat default).am (1 : Int) (100000000 : Int))], hdI [AV.i (sWhen (if (l.getD (↑g : Int).toNat default).inn = true then !(l.getD (↑g : Int).toNat default).hm == [] else
   false) (1 : Int))], hdI [AV.i (sWhen (if (!(l.getD (↑g : Int).toNat default).inn) = true then !sName (l.getD (↑g : Int).toNat default).hm else false) (8 : Int))], hdI [AV.i (sWhen (if (!(l.getD (↑g : Int).toNat default).inn) = true
   then hwR (List.map encS (paidL l g)) (l.getD (↑g : Int).toNat default).hm else false) (9 : Int))]] != 0) = true → AV.tup [AV.i 0, AV.i (sFirst [hdI [AV.i (sWithin (l.getD (↑g : Int).toNat default).am (1 : Int) (100000000 : Int))],
   hdI [AV.i (sWhen (if (l.getD (↑g : Int).toNat default).inn = true then !(l.getD (↑g : Int).toNat default).hm == [] else false) (1 : Int))], hdI [AV.i (sWhen (if (!(l.getD (↑g : Int).toNat default).inn) = true then !sName (l.getD
   (↑g : Int).toNat default).hm else false) (8 : Int))], hdI [AV.i (sWhen (if (!(l.getD (↑g : Int).toNat default).inn) = true then hwR (List.map encS (paidL l g)) (l.getD (↑g : Int).toNat default).hm else false) (9 : Int))]])] =
   AV.tup [AV.i (baV l), AV.i (baE l)]) ∧ ((sFirst [hdI [AV.i (sWithin (l.getD (↑g : Int).toNat default).am (1 : Int) (100000000 : Int))], hdI [AV.i (sWhen (if (l.getD (↑g : Int).toNat default).inn = true then !(l.getD (↑g :
   Int).toNat default).hm == [] else false) (1 : Int))], hdI [AV.i (sWhen (if (!(l.getD (↑g : Int).toNat default).inn) = true then !sName (l.getD (↑g : Int).toNat default).hm else false) (8 : Int))], hdI [AV.i (sWhen (if (!(l.getD (↑g
   : Int).toNat default).inn) = true then hwR (List.map encS (paidL l g)) (l.getD (↑g : Int).toNat default).hm else false) (9 : Int))]] != 0) = false → ((l.getD (↑g : Int).toNat default).inn = true → In64 (balL l g + (l.getD (↑g :
   Int).toNat default).am) ∧ In64 ((↑g : Int) + 1) ∧ ∃ (g' : Nat), (g' ≤ l.length ∧ ∀ (j : Nat), j < g' → fBa l j = (0 : Int)) ∧ l.length - g' < l.length - g ∧ AS.mk [(0, AV.sl 3 (List.map encEn l)), (4, AV.own 1 (List.map encS (paidL
   l g)).length), (5, AV.i (balL l g + (l.getD (↑g : Int).toNat default).am)), (6, AV.i ((↑g : Int) + 1))] [(1, ABlk.buf 9 1 (List.map encS (paidL l g)))] 2 = AS.mk [(0, AV.sl 3 (List.map encEn l)), (4, AV.own 1 (List.map encS (paidL
   l g')).length), (5, AV.i (balL l g')), (6, AV.i (↑g' : Int))] [(1, ABlk.buf 9 1 (List.map encS (paidL l g')))] 2) ∧ ((l.getD (↑g : Int).toNat default).inn = false → (decide ((l.getD (↑g : Int).toNat default).am > balL l g) = true →
   AV.tup [AV.i 0, AV.i 23] = AV.tup [AV.i (baV l), AV.i (baE l)]) ∧ (decide ((l.getD (↑g : Int).toNat default).am > balL l g) = false → In64 (balL l g - (l.getD (↑g : Int).toNat default).am) ∧ (List.map encS (paidL l g)).length + 1 ≤
   9223372036854775807 ∧ ((List.map encS (paidL l g)).length + 1) * 16 ≤ 140737488355328 ∧ In64 ((↑g : Int) + 1) ∧ ∃ (g' : Nat), (g' ≤ l.length ∧ ∀ (j : Nat), j < g' → fBa l j = (0 : Int)) ∧ l.length - g' < l.length - g ∧ AS.mk [(0,
   AV.sl 3 (List.map encEn l)), (4, AV.own 1 ((List.map encS (paidL l g)).length + 1)), (5, AV.i (balL l g - (l.getD (↑g : Int).toNat default).am)), (6, AV.i ((↑g : Int) + 1))] [(1, ABlk.buf 9 1 (List.map encS (paidL l g) ++ [[AV.str
   (l.getD (↑g : Int).toNat default).hm]]))] 2 = AS.mk [(0, AV.sl 3 (List.map encEn l)), (4, AV.own 1 (List.map encS (paidL l g')).length), (5, AV.i (balL l g')), (6, AV.i (↑g' : Int))] [(1, ABlk.buf 9 1 (List.map encS (paidL l g')))]
   2)))) ∧ (decide ((↑g : Int) < (↑(List.map encEn l).length : Int)) = false → AV.tup [AV.i (balL l g), AV.i 0] = AV.tup [AV.i (baV l), AV.i (baE l)])) := by
    have hlm : (List.map encEn l).length = l.length := List.length_map _
    have : (List.map encEn l).length = l.length := by simp only [List.length_map]
    refine ⟨fun h1 => ?_, fun h1 => ?_⟩
    · have e : baE l = 5 := if_pos (by rw [hlm] at h1; exact h1)
      rw [baV, e]
      rfl
    · have h64 : l.length ≤ 64 := by have := of_decide_eq_false h1; omega
      have hb64 : baE l = sScan (fBa l) l.length 0 := if_neg (by rw [decide_eq_true_eq]; omega)
      refine ⟨⟨0, ⟨by omega, by intros; omega⟩, rfl⟩, fun g ⟨hg, ha⟩ => ⟨fun hd => ?_, fun hd => ?_⟩⟩
      · have hlt : g < l.length := by have h9 := of_decide_eq_true hd; have h8 := hg; (try simp only [List.length_map] at h8); (try simp only [List.length_map] at h9); omega
        have hx := hn _ (getD_mem hlt)
        have hbb := bal_bd (l := l) (k := g) (by omega) ha
        have hpl := paid_len l g
        have hpm : (List.map encS (paidL l g)).length = (paidL l g).length := List.length_map _
        have hfe := f4_e l g
        try rw [show (↑g : Int).toNat = g from Int.toNat_natCast g]
        refine ⟨(by omega), (by omega), congrArg AV.agg (row_at encEn hlt), fun h => h, fun h => h, fun h => h, fun h => h, fun h => h, fun h => h, fun h => h, fun h => h, fun h => h, fun h => h, fun h => h, (c81 _ _ _), (c109 _ _), impB_iff.2 fun hb => (c143 _ (by omega)), (c109 _ _), impB_iff.2 fun hb => (c111h _ _ (by omega)), (c109 _ _), (c107 [_, _, _, _] (by simp)), fun h2 => ?_, fun h2 => ?_⟩
        · have hq : (f4R l g != 0) = true := h2
          have hne : fBa l g ≠ 0 := by rw [hfe, if_pos hq]; exact bne_t hq
          have e : baE l = f4R l g := by rw [hb64, scan_hit hlt ha hne, hfe, if_pos hq]
          rw [baV, e, if_pos hq]
          rfl
        · have h40 : f4R l g = 0 := bne_f h2
          have hab := f4_bd h40
          refine ⟨fun h3 => ⟨(by unfold In64; omega), (by unfold In64; omega), ⟨g + 1, ⟨by omega, all_ext ha ?_⟩, by omega, ?_⟩⟩, fun h3 => ⟨fun h4 => ?_, fun h4 => ⟨(by unfold In64; omega), (by omega), (by omega), (by unfold In64; omega), ⟨g + 1, ⟨by omega, all_ext ha ?_⟩, by omega, ?_⟩⟩⟩⟩
          · first
              | exact fz_in h40 h3
              | (rw [fz_out h40 h3, h4]; rfl)
          · first
              | (rw [balL, if_pos h3, paid_step hlt, if_pos h3]; rfl)
              | (rw [balL, if_neg (by rw [h3]; decide), paid_step hlt, if_neg (by rw [h3]; decide), List.map_append, List.length_append]; rfl)
          · have e23 : fBa l g = 23 := by rw [fz_out h40 h3, h4]; rfl
            have e : baE l = 23 := by rw [hb64, scan_hit hlt ha (by rw [e23]; decide), e23]
            rw [baV, e]
            rfl
          · first
              | exact fz_in h40 h3
              | (rw [fz_out h40 h3, h4]; rfl)
          · first
              | (rw [balL, if_pos h3, paid_step hlt, if_pos h3]; rfl)
              | (rw [balL, if_neg (by rw [h3]; decide), paid_step hlt, if_neg (by rw [h3]; decide), List.map_append, List.length_append]; rfl)
      · have hge : g = l.length := by have h9 := of_decide_eq_false hd; have h8 := hg; (try simp only [List.length_map] at h8); (try simp only [List.length_map] at h9); omega
        subst hge
        have e : baE l = 0 := by rw [hb64, scan_end ha]
        rw [baV, e]
        rfl
  exact c_of Tryz.f70 (fzB (mkB sp70 70 [(8, 3, rdL 3 encEn l 3 true)] (fun i => if i.beq 0 then some (la70 l) else none))) (by kernel_rfl) (by kernel_rfl) (by kernel_rfl) (by kernel_rfl) key (by kernel_rfl)
end Go.Proofs.YtfoeefaamjknpaaGreatDoor
namespace Go.Proofs.YtfoeefaamjknpaaGreatDoor
open Go Go.Av Go.RowKit
def lits (b : Bool) (l : List (Nat × Nat)) : List (Nat × Nat × (List AV → Option AV)) := l.map fun p => (p.1, p.2, fun _ => some (.bool b))
def noSyms (l : List Nat) (B : BA) : BA := l.foldl (fun B r => noSym r B) B
theorem len8 {n : Nat} (h : (if decide ((n : Int) > 8) = true then (n : Int) != 65 else false) = false) : n ≤ 65 := by
  by_cases q : n ≤ 8
  · omega
  · rw [decide_eq_true (show (n : Int) > 8 by omega), if_pos rfl] at h
    by_cases q2 : n = 65
    · omega
    · rw [show ((n : Int) != 65) = true by rw [bne_iff_ne]; omega] at h
      cases h
theorem all_get {l : List En} {p : En → Prop} (h : ∀ j, j < l.length → p (l.getD j default)) : ∀ x, x ∈ l → p x := fun x hx => by
  obtain ⟨i, hi, e⟩ := List.mem_iff_getElem.1 hx
  have := h i hi
  rw [List.getD_eq_getElem?_getD, List.getElem?_eq_getElem hi, e] at this
  exact this
def sp7 (l : List En) : Nat → List AV → Option AV
  | 16, _ => some (.bool true)
  | 69, [.sl _ rows] => some (.sl 3 rows)
  | 68, _ => some (.tup [.i (baV l), .i (baE l)])
  | 70, _ => some (.tup [.i (baV l), .i (baE l)])
  | _, _ => none
def la7 (l : List En) : LA := {
  pre := [.keep [0, 18, 19, 20] [], .bound 1], post := [.keep [0, 18, 19, 20] [], .bound 1]
  Gh := Nat
  st := fun i => ⟨[(0, .sl 3 (l.map encEn)), (18, .sl 3 (l.map encEn)), (19, .i (l.map encEn).length), (20, .i i)], [], 1⟩
  ok := fun i => i ≤ l.length ∧ ∀ j, j < i → (l.getD j default).hm.length ≤ 40
  ms := fun i => l.length - i }
theorem c7 (l : List En) (hA : PCall Tryz.prog G0 16 [] (.bool true)) (hn : l.length ≤ maxLen) : PCall Tryz.prog G0 7 [.sl 3 (l.map encEn)] (.bool true) := by
  have key :
   (decide ((↑(List.map encEn l).length : Int) > 8) = true → decide ((↑(List.map encEn l).length : Int) > 8) = true) ∧ (decide ((↑(List.map encEn l).length : Int) > 8) = true → decide ((↑(List.map encEn l).length : Int) > 8) = true) ∧
   (decide ((↑(List.map encEn l).length : Int) > 8) = true → decide ((↑(List.map encEn l).length : Int) > 8) = true) ∧ ((if decide ((↑(List.map encEn l).length : Int) > 8) = true then (↑(List.map encEn l).length : Int) != 65 else
   false) = true → PCall Tryz.prog G0 16 [] (AV.bool true) ∧ AV.bool true = AV.bool true) ∧ ((if decide ((↑(List.map encEn l).length : Int) > 8) = true then (↑(List.map encEn l).length : Int) != 65 else false) = false → (∃ (g : Nat),
   (g ≤ l.length ∧ ∀ (j : Nat), j < g → (l.getD j default).hm.length ≤ 40) ∧ AS.mk [(0, AV.sl 3 (List.map encEn l)), (18, AV.sl 3 (List.map encEn l)), (19, AV.i (↑(List.map encEn l).length : Int)), (20, AV.i 0)] [] 1 = AS.mk [(0,
   AV.sl 3 (List.map encEn l)), (18, AV.sl 3 (List.map encEn l)), (19, AV.i (↑(List.map encEn l).length : Int)), (20, AV.i (↑g : Int))] [] 1) ∧ ∀ (g : Nat), (g ≤ l.length ∧ ∀ (j : Nat), j < g → (l.getD j default).hm.length ≤ 40) →
   (decide ((↑g : Int) < (↑(List.map encEn l).length : Int)) = true → (0 : Int) ≤ (↑g : Int) ∧ (↑g : Int) < (↑(List.map encEn l).length : Int) ∧ AV.agg (nthR (List.map encEn l) (↑g : Int).toNat) = AV.agg (encEn (l.getD (↑g :
   Int).toNat default)) ∧ (decide ((↑(l.getD (↑g : Int).toNat default).hm.length : Int) > 40) = true → PCall Tryz.prog G0 16 [] (AV.bool true) ∧ AV.bool true = AV.bool true) ∧ (decide ((↑(l.getD (↑g : Int).toNat default).hm.length :
   Int) > 40) = false → In64 ((↑g : Int) + 1) ∧ ∃ (g' : Nat), (g' ≤ l.length ∧ ∀ (j : Nat), j < g' → (l.getD j default).hm.length ≤ 40) ∧ l.length - g' < l.length - g ∧ AS.mk [(0, AV.sl 3 (List.map encEn l)), (18, AV.sl 3 (List.map
   encEn l)), (19, AV.i (↑(List.map encEn l).length : Int)), (20, AV.i ((↑g : Int) + 1))] [] 1 = AS.mk [(0, AV.sl 3 (List.map encEn l)), (18, AV.sl 3 (List.map encEn l)), (19, AV.i (↑(List.map encEn l).length : Int)), (20, AV.i (↑g' :
   Int))] [] 1)) ∧ (decide ((↑g : Int) < (↑(List.map encEn l).length : Int)) = false → PCall Tryz.prog G0 69 [AV.sl 3 (List.map encEn l)] (AV.sl 3 (List.map encEn l)) ∧ PCall Tryz.prog G0 68 [AV.sl 3 (List.map encEn l)] (AV.tup [AV.i
   (baV l), AV.i (baE l)]) ∧ PCall Tryz.prog G0 70 [AV.sl 3 (List.map encEn l)] (AV.tup [AV.i (baV l), AV.i (baE l)]) ∧ AV.bool (baV l == baV l) = AV.bool true ∧ AV.bool (baE l == baE l) = AV.bool true ∧ PCall Tryz.prog G0 16 []
   (AV.bool true) ∧ AV.bool true = AV.bool true)) := by
    have hlm : (List.map encEn l).length = l.length := List.length_map _
    have : (List.map encEn l).length = l.length := by simp only [List.length_map]
    refine ⟨fun h => h, fun h => h, fun h => h, fun h1 => ⟨hA, rfl⟩, fun h1 => ?_⟩
    · have h65 := len8 h1
      rw [hlm] at h65
      refine ⟨⟨0, ⟨by omega, by intros; omega⟩, rfl⟩, fun g ⟨hg, ha⟩ => ⟨fun hd => ?_, fun hd => ?_⟩⟩
      · have hlt : g < l.length := by have h9 := of_decide_eq_true hd; have h8 := hg; (try simp only [List.length_map] at h8); (try simp only [List.length_map] at h9); omega
        try rw [show (↑g : Int).toNat = g from Int.toNat_natCast g]
        refine ⟨(by omega), (by omega), congrArg AV.agg (row_at encEn hlt), fun h2 => ⟨hA, rfl⟩, fun h2 => ⟨(by unfold In64; omega), ⟨g + 1, ⟨by omega, all_ext ha ?_⟩, by omega, rfl⟩⟩⟩
        · have := of_decide_eq_false h2
          omega
      · have hge : g = l.length := by have h9 := of_decide_eq_false hd; have h8 := hg; (try simp only [List.length_map] at h8); (try simp only [List.length_map] at h9); omega
        subst hge
        exact ⟨((c69 l (by omega)).un), (c68 l (by omega) (all_get fun j hj => by have := ha j hj; omega)), (c70 l (by omega) (all_get fun j hj => by have := ha j hj; omega)), congrArg AV.bool (beq_self_eq_true _), congrArg AV.bool (beq_self_eq_true _), hA, rfl⟩
  exact c_of Tryz.f7 (noSyms [11] (fzB (mkB (sp7 l) 7 (lits true [(11, 2), (11, 6)] ++ [(5, 1, rdL 3 encEn l 3 true)]) (fun i => if i.beq 0 then some (la7 l) else none)))) (by kernel_rfl) (by kernel_rfl) (by kernel_rfl) (by kernel_rfl) key (by kernel_rfl)
end Go.Proofs.YtfoeefaamjknpaaGreatDoor
namespace Go.Proofs.YtfoeefaamjknpaaGreatDoor
open Go Go.Av Go.RowKit Go.ChangeShapes Go.WideShapes
theorem jp0_7 : (Rows.homeFundsRow.inPlace == Tryz.prog.inPlace 7) = true := by kernel_rfl
theorem jp1_7 : (Rows.homeFundsRow.unfollowed == Tryz.prog.unfollowed 7) = true := by kernel_rfl
theorem jp2_7 : (Rows.homeFundsRow.recurses == Tryz.prog.recurses 7) = true := by kernel_rfl
theorem jp3_7 : (Rows.homeFundsRow.named == Tryz.prog.varsNamed 7) = true := by kernel_rfl
theorem jfacts_7 : joinedFacts Tryz.prog 7 Tryz.f7 Rows.homeFundsSpec Rows.homeFundsRow = true := by
  unfold joinedFacts
  rw [jp0_7, jp1_7, jp2_7, jp3_7]
  kernel_rfl
end Go.Proofs.YtfoeefaamjknpaaGreatDoor
