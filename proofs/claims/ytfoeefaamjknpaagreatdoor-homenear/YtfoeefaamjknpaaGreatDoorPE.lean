/-
  HomeNear returns true. No condition but the theorems' own. Three numbers of 16 bits, and a list of such numbers, as arguments of chapter 8's statements. No condition but the theorems' own. What HomeNear' row says of the program's text. No condition.
-/
import Derived.Test.YtfoeefaamjknpaaGreatDoorPC
import Derived.Test.YtfoeefaamjknpaaGreatDoorPD
import Derived.Test.YtfoeefaamjknpaaGreatDoorAvD
import Derived.Test.YtfoeefaamjknpaaGreatDoorPB
namespace Go.Proofs.YtfoeefaamjknpaaGreatDoor
open Go Go.Av Go.RowKit
def encU (x : Int) : List AV := [.int .u16 x]
def mdB (g : List GS) (p : Prop) (l : List (Nat × AV)) (b : BL) (n : Nat) : Option (List GS × AS × Prop) := some (g ++ [.keep (l.map (·.1)) (b.map (·.1)), .bound n], ⟨l, b, n⟩, p)
def decEn : List AV → En
  | [.bool a, .str b, .int _ c] => ⟨a, b, c⟩
  | _ => default
theorem en_dec : ∀ l : List En, (l.map encEn).map decEn = l
  | [] => rfl
  | x :: l => by rw [List.map_cons, List.map_cons, en_dec l]; rfl
def sp12 (l : List Cp) : Nat → List AV → Option AV
  | 16, _ => some (.bool true)
  | 76, _ => some (.i (cpE l))
  | 72, [.sl _ rows] => some (.sl 2 rows)
  | 71, [_, .int _ w] => some (.tup [.sl 1 ((cnV l w).map encI), .i (cnE l w)])
  | 90, [.sl _ r, .int _ x] => some (.bool (hasI (r.map hdI) x))
  | 23, [.sl _ rows] => some (.sl 1 rows)
  | 75, [_, .int _ w, .sl _ r, .int _ t, .int _ d] => some (.tup [.sl 1 ((duV l w (r.map hdI) t d).map encI), .i (duE l w (r.map hdI) t d)])
  | 68, [.sl _ rows] => some (.tup [.i (baV (rows.map decEn)), .i (baE (rows.map decEn))])
  | 91, [.int _ n] => some (.str (Lib.decDigits n.toNat))
  | n, y => spC n y
def hs12 : Nat → List AV → List ABlk → Option AV
  | 69, _, [.buf e k rows] => some (.gv true (.tup [.sl 3 rows, .fresh e k rows]))
  | _, _, _ => none
structure K12 (l : List Cp) (xs : List Int) : Prop where
  k1 : l.length ≤ 8
  k2 : xs.length ≤ 8
  k3 : cpE l = 0
  k4 : ∀ x, x ∈ l → x.hm.length ≤ 40
def cnL (l : List Cp) (w : Int) : List Int := cnR l w l.length
def ansL (l : List Cp) (p : Nat) : List Int := bitsM p l.length
def dueL (l : List Cp) (n : Int) (p : Nat) (t : Int) : List Int := dlG (dueX (ansL l p) l t ((p : Int).tmod 500)) (cnL l (n.tmod 1001))
def a12 (l : List Cp) (n : Int) (p : Nat) (q : Int) (xs : List Int) : List (Nat × AV) := [(0, .sl 2 (l.map encCp)), (2, .sl 1 (xs.map encU)), (4, .elt 3 [[.int .u16 n, .int .u16 (p : Int), .int .u16 q]] 0 0)]
def b12 (l : List Cp) (n : Int) (p : Nat) (q : Int) (xs : List Int) : List (Nat × AV) := a12 l n p q xs ++ [(9, .i (n.tmod 1001)), (10, .sl 1 ((cnL l (n.tmod 1001)).map encI))]
def c12s (l : List Cp) (n : Int) (p : Nat) (q : Int) (xs : List Int) : List (Nat × AV) := b12 l n p q xs ++ [(12, .sl 1 ((cnL l 0).map encI))]
def d12 (l : List Cp) (n : Int) (p : Nat) (q : Int) (xs : List Int) : List (Nat × AV) := [(0, .sl 2 (l.map encCp)), (2, .sl 1 (xs.map encU)), (10, .sl 1 ((cnL l (n.tmod 1001)).map encI)), (24, .sl 1 ((ansL l p).map encI)), (26, .i q), (27, .i ((p : Int).tmod 500)), (28, .sl 1 ((dueL l n p q).map encI)), (30, .sl 1 ((dueL l n p 100000000).map encI))]
def la12 (l : List Cp) (n : Int) (p : Nat) (q : Int) (xs : List Int) (b : Nat) : Option LA :=
  if b.beq 0 then some {
    pre := [.keep [0, 2, 4, 61, 62, 63] [], .bound 1], post := [.keep [0, 2, 4, 61, 62, 63] [], .bound 1]
    Gh := Nat
    st := fun i => ⟨a12 l n p q xs ++ [(61, .sl 2 (l.map encCp)), (62, .i (l.map encCp).length), (63, .i i)], [], 1⟩
    ok := fun i => i ≤ l.length ∧ ∀ j, j < i → (l.getD j default).hm.length ≤ 40
    ms := fun i => l.length - i }
  else if b.beq 2 then some {
    pre := [.keep [0, 2, 4, 9, 10, 12, 14, 110, 111, 112] [], .bound 1], post := [.keep [0, 2, 4, 9, 10, 12, 14, 110, 111, 112] [], .bound 1]
    Gh := Nat
    st := fun j => ⟨c12s l n p q xs ++ [(14, .i (lastI (cnL l (n.tmod 1001)) j)), (110, .sl 1 ((cnL l (n.tmod 1001)).map encI)), (111, .i ((cnL l (n.tmod 1001)).map encI).length), (112, .i j)], [], 1⟩
    ok := fun j => j ≤ (cnL l (n.tmod 1001)).length
    ms := fun j => (cnL l (n.tmod 1001)).length - j }
  else if b.beq 4 then some {
    pre := [.keep [0, 2, 4, 9, 10, 12, 127, 128, 129] [], .bound 1], post := [.keep [0, 2, 4, 9, 10, 12, 127, 128, 129] [], .bound 1]
    Gh := Nat
    st := fun i => ⟨c12s l n p q xs ++ [(127, .sl 2 (l.map encCp)), (128, .i (l.map encCp).length), (129, .i i)], [], 1⟩
    ok := fun i => i ≤ l.length
    ms := fun i => l.length - i }
  else if b.beq 6 then some {
    pre := [.keep [0, 2, 4, 9, 10, 12, 127, 128, 129, 17, 18, 19, 134, 135, 136] [], .bound 1], post := [.keep [0, 2, 4, 9, 10, 12, 127, 128, 129, 17, 18, 19, 134, 135, 136] [], .bound 1]
    Gh := Nat × Nat
    st := fun z => ⟨c12s l n p q xs ++ [(127, .sl 2 (l.map encCp)), (128, .i (l.map encCp).length), (129, .i z.1), (17, .i z.1), (18, .elt 2 [encCp (l.getD z.1 default)] 0 0), (19, .bool (nrN l (n.tmod 1001) z.1 (cnL l (n.tmod 1001)) z.2)), (134, .sl 1 ((cnL l (n.tmod 1001)).map encI)), (135, .i ((cnL l (n.tmod 1001)).map encI).length), (136, .i z.2)], [], 1⟩
    ok := fun z => z.1 < l.length ∧ z.2 ≤ (cnL l (n.tmod 1001)).length
    rel := some fun z0 z => z.1 = z0.1
    ms := fun z => (cnL l (n.tmod 1001)).length - z.2 }
  else if b.beq 8 then some {
    pre := [.keep [0, 2, 4, 9, 10, 12, 127, 128, 129, 17, 18, 22, 171, 172] [], .bound 1], post := [.keep [0, 2, 4, 9, 10, 12, 127, 128, 129, 17, 18, 22, 171, 172] [], .bound 1]
    Gh := Nat × Nat
    st := fun z => ⟨c12s l n p q xs ++ [(127, .sl 2 (l.map encCp)), (128, .i (l.map encCp).length), (129, .i z.1), (17, .i z.1), (18, .elt 2 [encCp (l.getD z.1 default)] 0 0), (22, .bool (smN l z.1 z.2)), (171, .i z.1), (172, .i z.2)], [], 1⟩
    ok := fun z => z.1 < l.length ∧ z.2 ≤ z.1
    rel := some fun z0 z => z.1 = z0.1
    ms := fun z => z.1 - z.2 }
  else if b.beq 10 then some {
    pre := [.own 24 3 1, .reno 24 1, .keep [0, 2, 4, 9, 10, 24, 192, 193] [1], .bound 2], post := [.reno 24 1, .keep [0, 2, 4, 9, 10, 24, 192, 193] [1], .bound 2]
    Gh := Nat
    st := fun j => ⟨b12 l n p q xs ++ [(24, .own 1 ((bitsM p j).map encI).length), (192, .i (l.map encCp).length), (193, .i j)], [(1, .buf 3 1 ((bitsM p j).map encI))], 2⟩
    ok := fun j => j ≤ l.length
    ms := fun j => l.length - j }
  else if b.beq 12 then some {
    pre := [.keep [0, 2, 10, 24, 26, 27, 28, 30, 248, 249, 250] [], .bound 1], post := [.keep [0, 2, 10, 24, 26, 27, 28, 30, 248, 249, 250] [], .bound 1]
    Gh := Nat
    st := fun j => ⟨d12 l n p q xs ++ [(248, .sl 1 ((cnL l (n.tmod 1001)).map encI)), (249, .i ((cnL l (n.tmod 1001)).map encI).length), (250, .i j)], [], 1⟩
    ok := fun j => j ≤ (cnL l (n.tmod 1001)).length
    ms := fun j => (cnL l (n.tmod 1001)).length - j }
  else if b.beq 14 then some {
    pre := [.keep [0, 2, 10, 24, 26, 27, 28, 30, 294, 295, 296] [], .bound 1], post := [.keep [0, 2, 10, 24, 26, 27, 28, 30, 294, 295, 296] [], .bound 1]
    Gh := Nat
    st := fun j => ⟨d12 l n p q xs ++ [(294, .sl 1 ((dueL l n p q).map encI)), (295, .i ((dueL l n p q).map encI).length), (296, .i j)], [], 1⟩
    ok := fun j => j ≤ (dueL l n p q).length
    ms := fun j => (dueL l n p q).length - j }
  else if b.beq 16 then some {
    pre := [.own 36 115 3, .reno 36 1, .keep [2, 36, 37, 311, 312, 313] [1], .bound 2], post := [.reno 36 1, .keep [2, 36, 37, 311, 312, 313] [1], .bound 2]
    Gh := Nat
    st := fun k => ⟨[(2, .sl 1 (xs.map encU)), (36, .own 1 (((xs.take k).map inE).map encEn).length), (37, .i (sumA xs k)), (311, .sl 1 (xs.map encU)), (312, .i (xs.map encU).length), (313, .i k)], [(1, .buf 115 3 (((xs.take k).map inE).map encEn))], 2⟩
    ok := fun k => k ≤ xs.length
    ms := fun k => xs.length - k }
  else some {
    pre := [.reno 36 1, .keep [2, 36, 37, 343, 344, 345] [1], .bound 2], post := [.reno 36 1, .keep [2, 36, 37, 343, 344, 345] [1], .bound 2]
    Gh := Nat
    st := fun i => ⟨[(2, .sl 1 (xs.map encU)), (36, .own 1 ((fdL xs i).map encEn).length), (37, .i (rmA xs i)), (343, .sl 1 (xs.map encU)), (344, .i (xs.map encU).length), (345, .i i)], [(1, .buf 115 3 ((fdL xs i).map encEn))], 2⟩
    ok := fun i => i ≤ xs.length ∧ ∀ j, j < i → 1 + xs.getD j default * 2 ≤ rmA xs j
    ms := fun i => xs.length - i }
def g12 (xs : List Int) : BL := [(1, .buf 115 3 ((fdL xs 0).map encEn))]
def f12 (xs : List Int) : List (Nat × AV) := [(2, .sl 1 (xs.map encU)), (36, .own 1 ((fdL xs 0).map encEn).length), (37, .i (sumA xs xs.length))]
def m12 (l : List Cp) (n : Int) (p : Nat) (q : Int) (xs : List Int) : List (Option (List GS × AS × Prop)) :=
  [none, none, none, none, mdB [] (K12 l xs) (a12 l n p q xs) [] 1, none, none, none, none,
   mdB [] (K12 l xs) (c12s l n p q xs) [] 1, none, none,
   mdB [] (K12 l xs) (c12s l n p q xs) [] 1, none,
   mdB [] (K12 l xs) (b12 l n p q xs) [] 1, none, none,
   mdB [] (K12 l xs) (b12 l n p q xs ++ [(24, .sl 1 ((ansL l p).map encI))]) [] 1, none, none, none, none,
   mdB [] (K12 l xs) (d12 l n p q xs) [] 1, none,
   mdB [] (K12 l xs) (d12 l n p q xs) [] 1, none,
   mdB [] (K12 l xs) [(2, .sl 1 (xs.map encU))] [] 1, none, none, none,
   mdB [.reno 36 1] (K12 l xs) (f12 xs) (g12 xs) 2, none, none,
   mdB [.reno 36 1] (K12 l xs) (f12 xs) (g12 xs) 2, none, none, none]
def tk12 (i : Nat) : Nat := if i.beq 12 then 109 else if i.beq 18 then 124 else if i.beq 32 then 170 else if i.beq 40 then 189 else if i.beq 53 then 247 else if i.beq 58 then 292 else if i.beq 64 then 309 else if i.beq 75 then 342 else if i.beq 84 then 376 else if i.beq 87 then 386 else 0
def ks12 (i : Nat) : List Nat := if i.beq 12 then [0, 2, 4, 9, 10, 12, 109] else if i.beq 18 then [0, 2, 4, 9, 10, 12, 14, 110, 111, 112, 16, 124] else if i.beq 32 then [0, 2, 4, 9, 10, 12, 127, 128, 129, 17, 18, 170] else if i.beq 40 then [0, 2, 4, 9, 10, 12, 127, 128, 129, 189] else if i.beq 53 then [0, 2, 10, 24, 26, 27, 28, 30, 247] else if i.beq 58 then [0, 2, 10, 24, 26, 27, 28, 30, 248, 249, 250, 292] else if i.beq 64 then [0, 2, 10, 24, 26, 27, 28, 30, 294, 295, 296, 309] else if i.beq 75 then [2, 36, 37, 342] else if i.beq 84 then [376] else if i.beq 87 then [2, 36, 37, 343, 344, 345, 386] else []
def ib12 (i : Nat) : List Nat := if i.beq 75 then [1] else if i.beq 87 then [1] else []
def nb12 (i : Nat) : Nat := if i.beq 75 then 2 else if i.beq 87 then 2 else 1
def gs12 (i : Nat) : List GS := if i.beq 81 then [.reno 36 1, .keep [2, 37, 44, 343, 344, 345, 36] [1], .bound 2] else if (tk12 i).beq 0 then [] else [.keep (ks12 i) (ib12 i), .bound (nb12 i)]
def cut81 (xs : List Int) : AS → AS := fun S => match slotF S 345 with
  | some (.int _ n) => ⟨pickL S.s [2, 37, 44, 343, 344, 345] ++ [(36, .own 1 ((fdL xs (n.toNat + 1)).map encEn).length)], [(1, .buf 115 3 ((fdL xs (n.toNat + 1)).map encEn))], 2⟩
  | _ => S
def cut12 (xs : List Int) (i : Nat) : Option (AS → AS) := if i.beq 81 then some (cut81 xs) else if (tk12 i).beq 0 then none else some (cutA (ks12 i) (ib12 i) (nb12 i) (tk12 i) fun _ => .bool false)
theorem fd_0 (xs : List Int) : fdL xs 0 = xs.map inE := by
  unfold fdL
  rw [List.range_zero, List.map_nil, List.append_nil]
theorem in_next {xs : List Int} {g : Nat} (h : g < xs.length) : ((xs.take (g + 1)).map inE).map encEn = ((xs.take g).map inE).map encEn ++ [encEn (inE (xs.getD g default))] := by
  have e : xs.take (g + 1) = xs.take g ++ [xs.getD g default] := by
    rw [List.getD_eq_getElem?_getD, List.getElem?_eq_getElem h]
    exact (List.take_append_getElem h).symm
  rw [e, List.map_append, List.map_append]
  rfl
theorem fd_next {xs : List Int} {i : Nat} (h : i < 8) : (fdL xs (i + 1)).map encEn = (fdL xs i).map encEn ++ [[.bool false, .str (104 :: Lib.decDigits i), .i (1 + xs.getD i default * 2)]] := by
  unfold fdL
  rw [List.range_succ, List.map_append (l₁ := List.range i), ← List.append_assoc, List.map_append]
  rw [Lib.decDigits, dif_pos (by omega)]
  rfl
theorem fd_nm {xs : List Int} {i : Nat} : ∀ x, x ∈ fdL xs i → x.hm.length ≤ 1000 := fun x hx => by
  unfold fdL at hx
  rcases List.mem_append.1 hx with hx | hx
  · obtain ⟨y, _, rfl⟩ := List.mem_map.1 hx
    exact Nat.zero_le _
  · obtain ⟨y, _, rfl⟩ := List.mem_map.1 hx
    show 2 ≤ 1000
    omega
theorem guard12 {l : List Cp} {xs : List Int} (q : (if (if decide (((l.map encCp).length : Int) > 8) = true then true else cpE l != 0) = true then true else decide (((xs.map encU).length : Int) > 8)) = false) : l.length ≤ 8 ∧ cpE l = 0 ∧ xs.length ≤ 8 := by
  have hi : ∀ a b : Bool, (if a = true then true else b) = false → a = false ∧ b = false := by decide
  obtain ⟨h1, h2⟩ := hi _ _ q
  obtain ⟨h3, h4⟩ := hi _ _ h1
  rw [List.length_map] at h2 h3
  have := of_decide_eq_false h2
  have := of_decide_eq_false h3
  exact ⟨by omega, bne_f h4, by omega⟩
theorem all_cp {l : List Cp} {k : Nat} (h : ∀ j, j < l.length → (l.getD j default).hm.length ≤ k) : ∀ x, x ∈ l → x.hm.length ≤ k := fun x hx => by
  obtain ⟨i, hi, e⟩ := List.mem_iff_getElem.1 hx
  have := h i hi
  rw [List.getD_eq_getElem?_getD, List.getElem?_eq_getElem hi, e] at this
  exact this
theorem c12 (l : List Cp) (n : Int) (p : Nat) (q : Int) (xs : List Int) (hA : PCall Tryz.prog G0 16 [] (.bool true)) (hl : l.length ≤ maxLen) (hnm : ∀ x, x ∈ l → x.hm.length ≤ 9223372036854775807) (hn : 0 ≤ n ∧ n ≤ 65535) (hp : (p : Int) ≤ 65535) (hq : 0 ≤ q ∧ q ≤ 65535) (hxl : xs.length ≤ maxLen) (hx : ∀ x, x ∈ xs → 0 ≤ x ∧ x ≤ 65535) : PCall Tryz.prog G0 12 [.sl 2 (l.map encCp), .agg [.int .u16 n, .int .u16 (p : Int), .int .u16 q], .sl 1 (xs.map encU)] (.bool true) := by
  have key :
   ((!decide ((↑(List.map encCp l).length : Int) > 8)) = true → (!decide ((↑(List.map encCp l).length : Int) > 8)) = true) ∧ ((!decide ((↑(List.map encCp l).length : Int) > 8)) = true → (!decide ((↑(List.map encCp l).length : Int) >
   8)) = true) ∧ (decide ((↑(List.map encCp l).length : Int) > 8) = false → (!decide ((↑(List.map encCp l).length : Int) > 8)) = true) ∧ ((!if decide ((↑(List.map encCp l).length : Int) > 8) = true then true else cpE l != 0) = true →
   (!if decide ((↑(List.map encCp l).length : Int) > 8) = true then true else cpE l != 0) = true) ∧ ((!if decide ((↑(List.map encCp l).length : Int) > 8) = true then true else cpE l != 0) = true → (!if decide ((↑(List.map encCp
   l).length : Int) > 8) = true then true else cpE l != 0) = true) ∧ ((if decide ((↑(List.map encCp l).length : Int) > 8) = true then true else cpE l != 0) = false → (!if decide ((↑(List.map encCp l).length : Int) > 8) = true then
   true else cpE l != 0) = true) ∧ impB (!decide ((↑(List.map encCp l).length : Int) > 8)) (PCall Tryz.prog G0 76 [AV.sl 2 (List.map encCp l)] (AV.i (cpE l))) ∧ ((if (if decide ((↑(List.map encCp l).length : Int) > 8) = true then true
   else cpE l != 0) = true then true else decide ((↑(List.map encU xs).length : Int) > 8)) = true → PCall Tryz.prog G0 16 [] (AV.bool true) ∧ AV.bool true = AV.bool true) ∧ ((if (if decide ((↑(List.map encCp l).length : Int) > 8) =
   true then true else cpE l != 0) = true then true else decide ((↑(List.map encU xs).length : Int) > 8)) = false → ((∃ (g : Nat), (g ≤ l.length ∧ ∀ (j : Nat), j < g → (l.getD j default).hm.length ≤ 40) ∧ AS.mk [(0, AV.sl 2 (List.map
   encCp l)), (2, AV.sl 1 (List.map encU xs)), (4, AV.elt 3 [[AV.int IntKind.u16 n, AV.int IntKind.u16 (↑p : Int), AV.int IntKind.u16 q]] 0 0), (61, AV.sl 2 (List.map encCp l)), (62, AV.i (↑(List.map encCp l).length : Int)), (63, AV.i
   0)] [] 1 = AS.mk [(0, AV.sl 2 (List.map encCp l)), (2, AV.sl 1 (List.map encU xs)), (4, AV.elt 3 [[AV.int IntKind.u16 n, AV.int IntKind.u16 (↑p : Int), AV.int IntKind.u16 q]] 0 0), (61, AV.sl 2 (List.map encCp l)), (62, AV.i
   (↑(List.map encCp l).length : Int)), (63, AV.i (↑g : Int))] [] 1) ∧ ∀ (g : Nat), (g ≤ l.length ∧ ∀ (j : Nat), j < g → (l.getD j default).hm.length ≤ 40) → (decide ((↑g : Int) < (↑(List.map encCp l).length : Int)) = true → (0 : Int)
   ≤ (↑g : Int) ∧ (↑g : Int) < (↑(List.map encCp l).length : Int) ∧ AV.agg (nthR (List.map encCp l) (↑g : Int).toNat) = AV.agg (encCp (l.getD (↑g : Int).toNat default)) ∧ (decide ((↑(l.getD (↑g : Int).toNat default).hm.length : Int) >
   40) = true → PCall Tryz.prog G0 16 [] (AV.bool true) ∧ AV.bool true = AV.bool true) ∧ (decide ((↑(l.getD (↑g : Int).toNat default).hm.length : Int) > 40) = false → In64 ((↑g : Int) + 1) ∧ ∃ (g' : Nat), (g' ≤ l.length ∧ ∀ (j : Nat),
   j < g' → (l.getD j default).hm.length ≤ 40) ∧ l.length - g' < l.length - g ∧ AS.mk [(0, AV.sl 2 (List.map encCp l)), (2, AV.sl 1 (List.map encU xs)), (4, AV.elt 3 [[AV.int IntKind.u16 n, AV.int IntKind.u16 (↑p : Int), AV.int
   IntKind.u16 q]] 0 0), (61, AV.sl 2 (List.map encCp l)), (62, AV.i (↑(List.map encCp l).length : Int)), (63, AV.i ((↑g : Int) + 1))] [] 1 = AS.mk [(0, AV.sl 2 (List.map encCp l)), (2, AV.sl 1 (List.map encU xs)), (4, AV.elt 3
   [[AV.int IntKind.u16 n, AV.int IntKind.u16 (↑p : Int), AV.int IntKind.u16 q]] 0 0), (61, AV.sl 2 (List.map encCp l)), (62, AV.i (↑(List.map encCp l).length : Int)), (63, AV.i (↑g' : Int))] [] 1)) ∧ (decide ((↑g : Int) < (↑(List.map
   encCp l).length : Int)) = false → AS.mk [(0, AV.sl 2 (List.map encCp l)), (2, AV.sl 1 (List.map encU xs)), (4, AV.elt 3 [[AV.int IntKind.u16 n, AV.int IntKind.u16 (↑p : Int), AV.int IntKind.u16 q]] 0 0)] [] 1 = AS.mk [(0, AV.sl 2
   (List.map encCp l)), (2, AV.sl 1 (List.map encU xs)), (4, AV.elt 3 [[AV.int IntKind.u16 n, AV.int IntKind.u16 (↑p : Int), AV.int IntKind.u16 q]] 0 0)] [] 1 ∧ K12 l xs)) ∧ (K12 l xs → (0 : Int) ≤ 0 ∧ (0 : Int) < (↑3 : Int) ∧ ¬(1001
   : Int) = (0 : Int) ∧ PCall Tryz.prog G0 72 [AV.sl 2 (List.map encCp l)] (AV.sl 2 (List.map encCp l)) ∧ PCall Tryz.prog G0 71 [AV.sl 2 (List.map encCp l), AV.i ((IntKind.i64.wrap n).tmod (1001 : Int))] (AV.tup [AV.sl 1 (List.map
   encI (cnV l ((IntKind.i64.wrap n).tmod (1001 : Int)))), AV.i (cnE l ((IntKind.i64.wrap n).tmod (1001 : Int)))]) ∧ PCall Tryz.prog G0 72 [AV.sl 2 (List.map encCp l)] (AV.sl 2 (List.map encCp l)) ∧ PCall Tryz.prog G0 71 [AV.sl 2
   (List.map encCp l), AV.i 0] (AV.tup [AV.sl 1 (List.map encI (cnV l (0 : Int))), AV.i (cnE l (0 : Int))]) ∧ (((!cnE l ((IntKind.i64.wrap n).tmod (1001 : Int)) != 0) = true → (!cnE l ((IntKind.i64.wrap n).tmod (1001 : Int)) != 0) =
   true) ∧ ((cnE l ((IntKind.i64.wrap n).tmod (1001 : Int)) != 0) = false → (!cnE l ((IntKind.i64.wrap n).tmod (1001 : Int)) != 0) = true) ∧ ((!if (cnE l ((IntKind.i64.wrap n).tmod (1001 : Int)) != 0) = true then true else cnE l (0 :
   Int) != 0) = true → (!if (cnE l ((IntKind.i64.wrap n).tmod (1001 : Int)) != 0) = true then true else cnE l (0 : Int) != 0) = true) ∧ ((!if (cnE l ((IntKind.i64.wrap n).tmod (1001 : Int)) != 0) = true then true else cnE l (0 : Int)
   != 0) = true → (!if (cnE l ((IntKind.i64.wrap n).tmod (1001 : Int)) != 0) = true then true else cnE l (0 : Int) != 0) = true) ∧ ((!if (cnE l ((IntKind.i64.wrap n).tmod (1001 : Int)) != 0) = true then true else cnE l (0 : Int) != 0)
   = true → (!if (cnE l ((IntKind.i64.wrap n).tmod (1001 : Int)) != 0) = true then true else cnE l (0 : Int) != 0) = true) ∧ ((!if (cnE l ((IntKind.i64.wrap n).tmod (1001 : Int)) != 0) = true then true else cnE l (0 : Int) != 0) =
   true → (!if (cnE l ((IntKind.i64.wrap n).tmod (1001 : Int)) != 0) = true then true else cnE l (0 : Int) != 0) = true) ∧ ((if (cnE l ((IntKind.i64.wrap n).tmod (1001 : Int)) != 0) = true then true else cnE l (0 : Int) != 0) = false
   → (!if (cnE l ((IntKind.i64.wrap n).tmod (1001 : Int)) != 0) = true then true else cnE l (0 : Int) != 0) = true) ∧ ((!if (if (cnE l ((IntKind.i64.wrap n).tmod (1001 : Int)) != 0) = true then true else cnE l (0 : Int) != 0) = true
   then true else decide ((↑(List.map encI (cnV l ((IntKind.i64.wrap n).tmod (1001 : Int)))).length : Int) > (↑(List.map encI (cnV l (0 : Int))).length : Int))) = true → (!if (if (cnE l ((IntKind.i64.wrap n).tmod (1001 : Int)) != 0) =
   true then true else cnE l (0 : Int) != 0) = true then true else decide ((↑(List.map encI (cnV l ((IntKind.i64.wrap n).tmod (1001 : Int)))).length : Int) > (↑(List.map encI (cnV l (0 : Int))).length : Int))) = true) ∧ ((!if (if (cnE
   l ((IntKind.i64.wrap n).tmod (1001 : Int)) != 0) = true then true else cnE l (0 : Int) != 0) = true then true else decide ((↑(List.map encI (cnV l ((IntKind.i64.wrap n).tmod (1001 : Int)))).length : Int) > (↑(List.map encI (cnV l
   (0 : Int))).length : Int))) = true → (!if (if (cnE l ((IntKind.i64.wrap n).tmod (1001 : Int)) != 0) = true then true else cnE l (0 : Int) != 0) = true then true else decide ((↑(List.map encI (cnV l ((IntKind.i64.wrap n).tmod (1001
   : Int)))).length : Int) > (↑(List.map encI (cnV l (0 : Int))).length : Int))) = true) ∧ ((!if (if (cnE l ((IntKind.i64.wrap n).tmod (1001 : Int)) != 0) = true then true else cnE l (0 : Int) != 0) = true then true else decide
   ((↑(List.map encI (cnV l ((IntKind.i64.wrap n).tmod (1001 : Int)))).length : Int) > (↑(List.map encI (cnV l (0 : Int))).length : Int))) = true → (!if (if (cnE l ((IntKind.i64.wrap n).tmod (1001 : Int)) != 0) = true then true else
   cnE l (0 : Int) != 0) = true then true else decide ((↑(List.map encI (cnV l ((IntKind.i64.wrap n).tmod (1001 : Int)))).length : Int) > (↑(List.map encI (cnV l (0 : Int))).length : Int))) = true) ∧ ((!if (if (cnE l
   ((IntKind.i64.wrap n).tmod (1001 : Int)) != 0) = true then true else cnE l (0 : Int) != 0) = true then true else decide ((↑(List.map encI (cnV l ((IntKind.i64.wrap n).tmod (1001 : Int)))).length : Int) > (↑(List.map encI (cnV l (0
   : Int))).length : Int))) = true → (!if (if (cnE l ((IntKind.i64.wrap n).tmod (1001 : Int)) != 0) = true then true else cnE l (0 : Int) != 0) = true then true else decide ((↑(List.map encI (cnV l ((IntKind.i64.wrap n).tmod (1001 :
   Int)))).length : Int) > (↑(List.map encI (cnV l (0 : Int))).length : Int))) = true) ∧ ((if (if (cnE l ((IntKind.i64.wrap n).tmod (1001 : Int)) != 0) = true then true else cnE l (0 : Int) != 0) = true then true else decide
   ((↑(List.map encI (cnV l ((IntKind.i64.wrap n).tmod (1001 : Int)))).length : Int) > (↑(List.map encI (cnV l (0 : Int))).length : Int))) = false → (!if (if (cnE l ((IntKind.i64.wrap n).tmod (1001 : Int)) != 0) = true then true else
   cnE l (0 : Int) != 0) = true then true else decide ((↑(List.map encI (cnV l ((IntKind.i64.wrap n).tmod (1001 : Int)))).length : Int) > (↑(List.map encI (cnV l (0 : Int))).length : Int))) = true) ∧ AS.mk [(0, AV.sl 2 (List.map encCp
   l)), (2, AV.sl 1 (List.map encU xs)), (4, AV.elt 3 [[AV.int IntKind.u16 n, AV.int IntKind.u16 (↑p : Int), AV.int IntKind.u16 q]] 0 0), (9, AV.i ((IntKind.i64.wrap n).tmod (1001 : Int))), (10, AV.sl 1 (List.map encI (cnV l
   ((IntKind.i64.wrap n).tmod (1001 : Int))))), (12, AV.sl 1 (List.map encI (cnV l (0 : Int)))), (109, AV.bool (if (if (if (cnE l ((IntKind.i64.wrap n).tmod (1001 : Int)) != 0) = true then true else cnE l (0 : Int) != 0) = true then
   true else decide ((↑(List.map encI (cnV l ((IntKind.i64.wrap n).tmod (1001 : Int)))).length : Int) > (↑(List.map encI (cnV l (0 : Int))).length : Int))) = true then true else decide ((↑(List.map encI (cnV l (0 : Int))).length :
   Int) > (↑(List.map encCp l).length : Int))))] [] 1 = AS.mk [(0, AV.sl 2 (List.map encCp l)), (2, AV.sl 1 (List.map encU xs)), (4, AV.elt 3 [[AV.int IntKind.u16 n, AV.int IntKind.u16 (↑p : Int), AV.int IntKind.u16 q]] 0 0), (9, AV.i
   ((IntKind.i64.wrap n).tmod (1001 : Int))), (10, AV.sl 1 (List.map encI (cnV l ((IntKind.i64.wrap n).tmod (1001 : Int))))), (12, AV.sl 1 (List.map encI (cnV l (0 : Int)))), (109, AV.bool false)] [] 1) ∧ (AS.mk [(0, AV.sl 2 (List.map
   encCp l)), (2, AV.sl 1 (List.map encU xs)), (4, AV.elt 3 [[AV.int IntKind.u16 n, AV.int IntKind.u16 (↑p : Int), AV.int IntKind.u16 q]] 0 0), (9, AV.i ((IntKind.i64.wrap n).tmod (1001 : Int))), (10, AV.sl 1 (List.map encI (cnV l
   ((IntKind.i64.wrap n).tmod (1001 : Int))))), (12, AV.sl 1 (List.map encI (cnV l (0 : Int))))] [] 1 = AS.mk [(0, AV.sl 2 (List.map encCp l)), (2, AV.sl 1 (List.map encU xs)), (4, AV.elt 3 [[AV.int IntKind.u16 n, AV.int IntKind.u16
   (↑p : Int), AV.int IntKind.u16 q]] 0 0), (9, AV.i (n.tmod (1001 : Int))), (10, AV.sl 1 (List.map encI (cnL l (n.tmod (1001 : Int))))), (12, AV.sl 1 (List.map encI (cnL l (0 : Int))))] [] 1 ∧ K12 l xs) ∧ (K12 l xs → ((∃ (g : Nat), g
   ≤ (cnL l (n.tmod (1001 : Int))).length ∧ AS.mk [(0, AV.sl 2 (List.map encCp l)), (2, AV.sl 1 (List.map encU xs)), (4, AV.elt 3 [[AV.int IntKind.u16 n, AV.int IntKind.u16 (↑p : Int), AV.int IntKind.u16 q]] 0 0), (9, AV.i (n.tmod
   (1001 : Int))), (10, AV.sl 1 (List.map encI (cnL l (n.tmod (1001 : Int))))), (12, AV.sl 1 (List.map encI (cnL l (0 : Int)))), (14, AV.i (-1)), (110, AV.sl 1 (List.map encI (cnL l (n.tmod (1001 : Int))))), (111, AV.i (↑(List.map
   encI (cnL l (n.tmod (1001 : Int)))).length : Int)), (112, AV.i 0)] [] 1 = AS.mk [(0, AV.sl 2 (List.map encCp l)), (2, AV.sl 1 (List.map encU xs)), (4, AV.elt 3 [[AV.int IntKind.u16 n, AV.int IntKind.u16 (↑p : Int), AV.int
   IntKind.u16 q]] 0 0), (9, AV.i (n.tmod (1001 : Int))), (10, AV.sl 1 (List.map encI (cnL l (n.tmod (1001 : Int))))), (12, AV.sl 1 (List.map encI (cnL l (0 : Int)))), (14, AV.i (lastI (cnL l (n.tmod (1001 : Int))) g)), (110, AV.sl 1
   (List.map encI (cnL l (n.tmod (1001 : Int))))), (111, AV.i (↑(List.map encI (cnL l (n.tmod (1001 : Int)))).length : Int)), (112, AV.i (↑g : Int))] [] 1) ∧ ∀ (g : Nat), g ≤ (cnL l (n.tmod (1001 : Int))).length → (decide ((↑g : Int)
   < (↑(List.map encI (cnL l (n.tmod (1001 : Int)))).length : Int)) = true → (0 : Int) ≤ (↑g : Int) ∧ (↑g : Int) < (↑(List.map encI (cnL l (n.tmod (1001 : Int)))).length : Int) ∧ nth (nthR (List.map encI (cnL l (n.tmod (1001 : Int))))
   (↑g : Int).toNat) 0 = AV.i ((cnL l (n.tmod (1001 : Int))).getD (↑g : Int).toNat default) ∧ (((!decide ((cnL l (n.tmod (1001 : Int))).getD (↑g : Int).toNat default ≤ lastI (cnL l (n.tmod (1001 : Int))) g)) = true → (!decide ((cnL l
   (n.tmod (1001 : Int))).getD (↑g : Int).toNat default ≤ lastI (cnL l (n.tmod (1001 : Int))) g)) = true) ∧ ((!decide ((cnL l (n.tmod (1001 : Int))).getD (↑g : Int).toNat default ≤ lastI (cnL l (n.tmod (1001 : Int))) g)) = true →
   (!decide ((cnL l (n.tmod (1001 : Int))).getD (↑g : Int).toNat default ≤ lastI (cnL l (n.tmod (1001 : Int))) g)) = true) ∧ ((!decide ((cnL l (n.tmod (1001 : Int))).getD (↑g : Int).toNat default ≤ lastI (cnL l (n.tmod (1001 : Int)))
   g)) = true → (!decide ((cnL l (n.tmod (1001 : Int))).getD (↑g : Int).toNat default ≤ lastI (cnL l (n.tmod (1001 : Int))) g)) = true) ∧ (decide ((cnL l (n.tmod (1001 : Int))).getD (↑g : Int).toNat default ≤ lastI (cnL l (n.tmod
   (1001 : Int))) g) = false → (!decide ((cnL l (n.tmod (1001 : Int))).getD (↑g : Int).toNat default ≤ lastI (cnL l (n.tmod (1001 : Int))) g)) = true) ∧ AS.mk [(0, AV.sl 2 (List.map encCp l)), (2, AV.sl 1 (List.map encU xs)), (4,
   AV.elt 3 [[AV.int IntKind.u16 n, AV.int IntKind.u16 (↑p : Int), AV.int IntKind.u16 q]] 0 0), (9, AV.i (n.tmod (1001 : Int))), (10, AV.sl 1 (List.map encI (cnL l (n.tmod (1001 : Int))))), (12, AV.sl 1 (List.map encI (cnL l (0 :
   Int)))), (14, AV.i (lastI (cnL l (n.tmod (1001 : Int))) g)), (110, AV.sl 1 (List.map encI (cnL l (n.tmod (1001 : Int))))), (111, AV.i (↑(List.map encI (cnL l (n.tmod (1001 : Int)))).length : Int)), (112, AV.i (↑g : Int)), (16, AV.i
   ((cnL l (n.tmod (1001 : Int))).getD (↑g : Int).toNat default)), (124, AV.bool (if decide ((cnL l (n.tmod (1001 : Int))).getD (↑g : Int).toNat default ≤ lastI (cnL l (n.tmod (1001 : Int))) g) = true then true else decide ((cnL l
   (n.tmod (1001 : Int))).getD (↑g : Int).toNat default ≥ (↑(List.map encCp l).length : Int))))] [] 1 = AS.mk [(0, AV.sl 2 (List.map encCp l)), (2, AV.sl 1 (List.map encU xs)), (4, AV.elt 3 [[AV.int IntKind.u16 n, AV.int IntKind.u16
   (↑p : Int), AV.int IntKind.u16 q]] 0 0), (9, AV.i (n.tmod (1001 : Int))), (10, AV.sl 1 (List.map encI (cnL l (n.tmod (1001 : Int))))), (12, AV.sl 1 (List.map encI (cnL l (0 : Int)))), (14, AV.i (lastI (cnL l (n.tmod (1001 : Int)))
   g)), (110, AV.sl 1 (List.map encI (cnL l (n.tmod (1001 : Int))))), (111, AV.i (↑(List.map encI (cnL l (n.tmod (1001 : Int)))).length : Int)), (112, AV.i (↑g : Int)), (16, AV.i ((cnL l (n.tmod (1001 : Int))).getD (↑g : Int).toNat
   default)), (124, AV.bool false)] [] 1) ∧ In64 ((↑g : Int) + 1) ∧ ∃ (g' : Nat), g' ≤ (cnL l (n.tmod (1001 : Int))).length ∧ (cnL l (n.tmod (1001 : Int))).length - g' < (cnL l (n.tmod (1001 : Int))).length - g ∧ AS.mk [(0, AV.sl 2
   (List.map encCp l)), (2, AV.sl 1 (List.map encU xs)), (4, AV.elt 3 [[AV.int IntKind.u16 n, AV.int IntKind.u16 (↑p : Int), AV.int IntKind.u16 q]] 0 0), (9, AV.i (n.tmod (1001 : Int))), (10, AV.sl 1 (List.map encI (cnL l (n.tmod
   (1001 : Int))))), (12, AV.sl 1 (List.map encI (cnL l (0 : Int)))), (14, AV.i ((cnL l (n.tmod (1001 : Int))).getD (↑g : Int).toNat default)), (110, AV.sl 1 (List.map encI (cnL l (n.tmod (1001 : Int))))), (111, AV.i (↑(List.map encI
   (cnL l (n.tmod (1001 : Int)))).length : Int)), (112, AV.i ((↑g : Int) + 1))] [] 1 = AS.mk [(0, AV.sl 2 (List.map encCp l)), (2, AV.sl 1 (List.map encU xs)), (4, AV.elt 3 [[AV.int IntKind.u16 n, AV.int IntKind.u16 (↑p : Int), AV.int
   IntKind.u16 q]] 0 0), (9, AV.i (n.tmod (1001 : Int))), (10, AV.sl 1 (List.map encI (cnL l (n.tmod (1001 : Int))))), (12, AV.sl 1 (List.map encI (cnL l (0 : Int)))), (14, AV.i (lastI (cnL l (n.tmod (1001 : Int))) g')), (110, AV.sl 1
   (List.map encI (cnL l (n.tmod (1001 : Int))))), (111, AV.i (↑(List.map encI (cnL l (n.tmod (1001 : Int)))).length : Int)), (112, AV.i (↑g' : Int))] [] 1) ∧ (decide ((↑g : Int) < (↑(List.map encI (cnL l (n.tmod (1001 :
   Int)))).length : Int)) = false → AS.mk [(0, AV.sl 2 (List.map encCp l)), (2, AV.sl 1 (List.map encU xs)), (4, AV.elt 3 [[AV.int IntKind.u16 n, AV.int IntKind.u16 (↑p : Int), AV.int IntKind.u16 q]] 0 0), (9, AV.i (n.tmod (1001 :
   Int))), (10, AV.sl 1 (List.map encI (cnL l (n.tmod (1001 : Int))))), (12, AV.sl 1 (List.map encI (cnL l (0 : Int))))] [] 1 = AS.mk [(0, AV.sl 2 (List.map encCp l)), (2, AV.sl 1 (List.map encU xs)), (4, AV.elt 3 [[AV.int IntKind.u16
   n, AV.int IntKind.u16 (↑p : Int), AV.int IntKind.u16 q]] 0 0), (9, AV.i (n.tmod (1001 : Int))), (10, AV.sl 1 (List.map encI (cnL l (n.tmod (1001 : Int))))), (12, AV.sl 1 (List.map encI (cnL l (0 : Int))))] [] 1 ∧ K12 l xs)) ∧ (K12
   l xs → ((∃ (g : Nat), g ≤ l.length ∧ AS.mk [(0, AV.sl 2 (List.map encCp l)), (2, AV.sl 1 (List.map encU xs)), (4, AV.elt 3 [[AV.int IntKind.u16 n, AV.int IntKind.u16 (↑p : Int), AV.int IntKind.u16 q]] 0 0), (9, AV.i (n.tmod (1001 :
   Int))), (10, AV.sl 1 (List.map encI (cnL l (n.tmod (1001 : Int))))), (12, AV.sl 1 (List.map encI (cnL l (0 : Int)))), (127, AV.sl 2 (List.map encCp l)), (128, AV.i (↑(List.map encCp l).length : Int)), (129, AV.i 0)] [] 1 = AS.mk
   [(0, AV.sl 2 (List.map encCp l)), (2, AV.sl 1 (List.map encU xs)), (4, AV.elt 3 [[AV.int IntKind.u16 n, AV.int IntKind.u16 (↑p : Int), AV.int IntKind.u16 q]] 0 0), (9, AV.i (n.tmod (1001 : Int))), (10, AV.sl 1 (List.map encI (cnL l
   (n.tmod (1001 : Int))))), (12, AV.sl 1 (List.map encI (cnL l (0 : Int)))), (127, AV.sl 2 (List.map encCp l)), (128, AV.i (↑(List.map encCp l).length : Int)), (129, AV.i (↑g : Int))] [] 1) ∧ ∀ (g : Nat), g ≤ l.length → (decide ((↑g
   : Int) < (↑(List.map encCp l).length : Int)) = true → (0 : Int) ≤ (↑g : Int) ∧ (↑g : Int) < (↑(List.map encCp l).length : Int) ∧ AV.agg (nthR (List.map encCp l) (↑g : Int).toNat) = AV.agg (encCp (l.getD (↑g : Int).toNat default)) ∧
   ∃ (g0 : Nat × Nat), (g0.fst < l.length ∧ g0.snd ≤ (cnL l (n.tmod (1001 : Int))).length) ∧ g0.fst = g0.fst ∧ AS.mk [(0, AV.sl 2 (List.map encCp l)), (2, AV.sl 1 (List.map encU xs)), (4, AV.elt 3 [[AV.int IntKind.u16 n, AV.int
   IntKind.u16 (↑p : Int), AV.int IntKind.u16 q]] 0 0), (9, AV.i (n.tmod (1001 : Int))), (10, AV.sl 1 (List.map encI (cnL l (n.tmod (1001 : Int))))), (12, AV.sl 1 (List.map encI (cnL l (0 : Int)))), (127, AV.sl 2 (List.map encCp l)),
   (128, AV.i (↑(List.map encCp l).length : Int)), (129, AV.i (↑g : Int)), (17, AV.i (↑g : Int)), (18, AV.elt 2 [(encCp (l.getD (↑g : Int).toNat default))] 0 0), (19, AV.bool false), (134, AV.sl 1 (List.map encI (cnL l (n.tmod (1001 :
   Int))))), (135, AV.i (↑(List.map encI (cnL l (n.tmod (1001 : Int)))).length : Int)), (136, AV.i 0)] [] 1 = AS.mk [(0, AV.sl 2 (List.map encCp l)), (2, AV.sl 1 (List.map encU xs)), (4, AV.elt 3 [[AV.int IntKind.u16 n, AV.int
   IntKind.u16 (↑p : Int), AV.int IntKind.u16 q]] 0 0), (9, AV.i (n.tmod (1001 : Int))), (10, AV.sl 1 (List.map encI (cnL l (n.tmod (1001 : Int))))), (12, AV.sl 1 (List.map encI (cnL l (0 : Int)))), (127, AV.sl 2 (List.map encCp l)),
   (128, AV.i (↑(List.map encCp l).length : Int)), (129, AV.i (↑g0.fst : Int)), (17, AV.i (↑g0.fst : Int)), (18, AV.elt 2 [(encCp (l.getD g0.fst default))] 0 0), (19, AV.bool (nrN l (n.tmod (1001 : Int)) g0.fst (cnL l (n.tmod (1001 :
   Int))) g0.snd)), (134, AV.sl 1 (List.map encI (cnL l (n.tmod (1001 : Int))))), (135, AV.i (↑(List.map encI (cnL l (n.tmod (1001 : Int)))).length : Int)), (136, AV.i (↑g0.snd : Int))] [] 1 ∧ ∀ (g_1 : Nat × Nat), g_1.fst < l.length ∧
   g_1.snd ≤ (cnL l (n.tmod (1001 : Int))).length → g_1.fst = g0.fst → (decide ((↑g_1.snd : Int) < (↑(List.map encI (cnL l (n.tmod (1001 : Int)))).length : Int)) = true → (0 : Int) ≤ (↑g_1.snd : Int) ∧ (↑g_1.snd : Int) < (↑(List.map
   encI (cnL l (n.tmod (1001 : Int)))).length : Int) ∧ nth (nthR (List.map encI (cnL l (n.tmod (1001 : Int)))) (↑g_1.snd : Int).toNat) 0 = AV.i ((cnL l (n.tmod (1001 : Int))).getD (↑g_1.snd : Int).toNat default) ∧ (decide ((cnL l
   (n.tmod (1001 : Int))).getD (↑g_1.snd : Int).toNat default < (↑g_1.fst : Int)) = true → decide ((cnL l (n.tmod (1001 : Int))).getD (↑g_1.snd : Int).toNat default < (↑g_1.fst : Int)) = true) ∧ (decide ((cnL l (n.tmod (1001 :
   Int))).getD (↑g_1.snd : Int).toNat default < (↑g_1.fst : Int)) = true → decide ((cnL l (n.tmod (1001 : Int))).getD (↑g_1.snd : Int).toNat default < (↑g_1.fst : Int)) = true) ∧ (decide ((cnL l (n.tmod (1001 : Int))).getD (↑g_1.snd :
   Int).toNat default < (↑g_1.fst : Int)) = true → (0 : Int) ≤ (cnL l (n.tmod (1001 : Int))).getD (↑g_1.snd : Int).toNat default) ∧ (decide ((cnL l (n.tmod (1001 : Int))).getD (↑g_1.snd : Int).toNat default < (↑g_1.fst : Int)) = true
   → (cnL l (n.tmod (1001 : Int))).getD (↑g_1.snd : Int).toNat default < (↑(List.map encCp l).length : Int)) ∧ (decide ((cnL l (n.tmod (1001 : Int))).getD (↑g_1.snd : Int).toNat default < (↑g_1.fst : Int)) = true → decide ((cnL l
   (n.tmod (1001 : Int))).getD (↑g_1.snd : Int).toNat default < (↑g_1.fst : Int)) = true) ∧ (decide ((cnL l (n.tmod (1001 : Int))).getD (↑g_1.snd : Int).toNat default < (↑g_1.fst : Int)) = true → decide ((cnL l (n.tmod (1001 :
   Int))).getD (↑g_1.snd : Int).toNat default < (↑g_1.fst : Int)) = true) ∧ (decide ((cnL l (n.tmod (1001 : Int))).getD (↑g_1.snd : Int).toNat default < (↑g_1.fst : Int)) = true → decide ((cnL l (n.tmod (1001 : Int))).getD (↑g_1.snd :
   Int).toNat default < (↑g_1.fst : Int)) = true) ∧ (decide ((cnL l (n.tmod (1001 : Int))).getD (↑g_1.snd : Int).toNat default < (↑g_1.fst : Int)) = true → decide ((cnL l (n.tmod (1001 : Int))).getD (↑g_1.snd : Int).toNat default <
   (↑g_1.fst : Int)) = true) ∧ (decide ((cnL l (n.tmod (1001 : Int))).getD (↑g_1.snd : Int).toNat default < (↑g_1.fst : Int)) = true → decide ((cnL l (n.tmod (1001 : Int))).getD (↑g_1.snd : Int).toNat default < (↑g_1.fst : Int)) =
   true) ∧ (decide ((cnL l (n.tmod (1001 : Int))).getD (↑g_1.snd : Int).toNat default < (↑g_1.fst : Int)) = true → decide ((cnL l (n.tmod (1001 : Int))).getD (↑g_1.snd : Int).toNat default < (↑g_1.fst : Int)) = true) ∧ ((if decide
   ((cnL l (n.tmod (1001 : Int))).getD (↑g_1.snd : Int).toNat default < (↑g_1.fst : Int)) = true then (l.getD ((cnL l (n.tmod (1001 : Int))).getD (↑g_1.snd : Int).toNat default).toNat default).hm == (l.getD g_1.fst default).hm else
   false) = true → (if decide ((cnL l (n.tmod (1001 : Int))).getD (↑g_1.snd : Int).toNat default < (↑g_1.fst : Int)) = true then (l.getD ((cnL l (n.tmod (1001 : Int))).getD (↑g_1.snd : Int).toNat default).toNat default).hm == (l.getD
   g_1.fst default).hm else false) = true) ∧ ((if decide ((cnL l (n.tmod (1001 : Int))).getD (↑g_1.snd : Int).toNat default < (↑g_1.fst : Int)) = true then (l.getD ((cnL l (n.tmod (1001 : Int))).getD (↑g_1.snd : Int).toNat
   default).toNat default).hm == (l.getD g_1.fst default).hm else false) = true → (if decide ((cnL l (n.tmod (1001 : Int))).getD (↑g_1.snd : Int).toNat default < (↑g_1.fst : Int)) = true then (l.getD ((cnL l (n.tmod (1001 :
   Int))).getD (↑g_1.snd : Int).toNat default).toNat default).hm == (l.getD g_1.fst default).hm else false) = true) ∧ ((if decide ((cnL l (n.tmod (1001 : Int))).getD (↑g_1.snd : Int).toNat default < (↑g_1.fst : Int)) = true then
   (l.getD ((cnL l (n.tmod (1001 : Int))).getD (↑g_1.snd : Int).toNat default).toNat default).hm == (l.getD g_1.fst default).hm else false) = true → (if decide ((cnL l (n.tmod (1001 : Int))).getD (↑g_1.snd : Int).toNat default <
   (↑g_1.fst : Int)) = true then (l.getD ((cnL l (n.tmod (1001 : Int))).getD (↑g_1.snd : Int).toNat default).toNat default).hm == (l.getD g_1.fst default).hm else false) = true) ∧ ((if decide ((cnL l (n.tmod (1001 : Int))).getD
   (↑g_1.snd : Int).toNat default < (↑g_1.fst : Int)) = true then (l.getD ((cnL l (n.tmod (1001 : Int))).getD (↑g_1.snd : Int).toNat default).toNat default).hm == (l.getD g_1.fst default).hm else false) = true → (0 : Int) ≤ (cnL l
   (n.tmod (1001 : Int))).getD (↑g_1.snd : Int).toNat default) ∧ ((if decide ((cnL l (n.tmod (1001 : Int))).getD (↑g_1.snd : Int).toNat default < (↑g_1.fst : Int)) = true then (l.getD ((cnL l (n.tmod (1001 : Int))).getD (↑g_1.snd :
   Int).toNat default).toNat default).hm == (l.getD g_1.fst default).hm else false) = true → (cnL l (n.tmod (1001 : Int))).getD (↑g_1.snd : Int).toNat default < (↑(List.map encCp l).length : Int)) ∧ ((if decide ((cnL l (n.tmod (1001 :
   Int))).getD (↑g_1.snd : Int).toNat default < (↑g_1.fst : Int)) = true then (l.getD ((cnL l (n.tmod (1001 : Int))).getD (↑g_1.snd : Int).toNat default).toNat default).hm == (l.getD g_1.fst default).hm else false) = true → (if decide
   ((cnL l (n.tmod (1001 : Int))).getD (↑g_1.snd : Int).toNat default < (↑g_1.fst : Int)) = true then (l.getD ((cnL l (n.tmod (1001 : Int))).getD (↑g_1.snd : Int).toNat default).toNat default).hm == (l.getD g_1.fst default).hm else
   false) = true) ∧ ((if decide ((cnL l (n.tmod (1001 : Int))).getD (↑g_1.snd : Int).toNat default < (↑g_1.fst : Int)) = true then (l.getD ((cnL l (n.tmod (1001 : Int))).getD (↑g_1.snd : Int).toNat default).toNat default).hm ==
   (l.getD g_1.fst default).hm else false) = true → (if decide ((cnL l (n.tmod (1001 : Int))).getD (↑g_1.snd : Int).toNat default < (↑g_1.fst : Int)) = true then (l.getD ((cnL l (n.tmod (1001 : Int))).getD (↑g_1.snd : Int).toNat
   default).toNat default).hm == (l.getD g_1.fst default).hm else false) = true) ∧ ((if decide ((cnL l (n.tmod (1001 : Int))).getD (↑g_1.snd : Int).toNat default < (↑g_1.fst : Int)) = true then (l.getD ((cnL l (n.tmod (1001 :
   Int))).getD (↑g_1.snd : Int).toNat default).toNat default).hm == (l.getD g_1.fst default).hm else false) = true → (if decide ((cnL l (n.tmod (1001 : Int))).getD (↑g_1.snd : Int).toNat default < (↑g_1.fst : Int)) = true then (l.getD
   ((cnL l (n.tmod (1001 : Int))).getD (↑g_1.snd : Int).toNat default).toNat default).hm == (l.getD g_1.fst default).hm else false) = true) ∧ ((if decide ((cnL l (n.tmod (1001 : Int))).getD (↑g_1.snd : Int).toNat default < (↑g_1.fst :
   Int)) = true then (l.getD ((cnL l (n.tmod (1001 : Int))).getD (↑g_1.snd : Int).toNat default).toNat default).hm == (l.getD g_1.fst default).hm else false) = true → (if decide ((cnL l (n.tmod (1001 : Int))).getD (↑g_1.snd :
   Int).toNat default < (↑g_1.fst : Int)) = true then (l.getD ((cnL l (n.tmod (1001 : Int))).getD (↑g_1.snd : Int).toNat default).toNat default).hm == (l.getD g_1.fst default).hm else false) = true) ∧ ((if decide ((cnL l (n.tmod (1001
   : Int))).getD (↑g_1.snd : Int).toNat default < (↑g_1.fst : Int)) = true then (l.getD ((cnL l (n.tmod (1001 : Int))).getD (↑g_1.snd : Int).toNat default).toNat default).hm == (l.getD g_1.fst default).hm else false) = true → In64
   ((l.getD g_1.fst default).tk - (l.getD ((cnL l (n.tmod (1001 : Int))).getD (↑g_1.snd : Int).toNat default).toNat default).tk)) ∧ ((if decide ((cnL l (n.tmod (1001 : Int))).getD (↑g_1.snd : Int).toNat default < (↑g_1.fst : Int)) =
   true then (l.getD ((cnL l (n.tmod (1001 : Int))).getD (↑g_1.snd : Int).toNat default).toNat default).hm == (l.getD g_1.fst default).hm else false) = true → (if decide ((cnL l (n.tmod (1001 : Int))).getD (↑g_1.snd : Int).toNat
   default < (↑g_1.fst : Int)) = true then (l.getD ((cnL l (n.tmod (1001 : Int))).getD (↑g_1.snd : Int).toNat default).toNat default).hm == (l.getD g_1.fst default).hm else false) = true) ∧ ((if decide ((cnL l (n.tmod (1001 :
   Int))).getD (↑g_1.snd : Int).toNat default < (↑g_1.fst : Int)) = true then (l.getD ((cnL l (n.tmod (1001 : Int))).getD (↑g_1.snd : Int).toNat default).toNat default).hm == (l.getD g_1.fst default).hm else false) = true → (if decide
   ((cnL l (n.tmod (1001 : Int))).getD (↑g_1.snd : Int).toNat default < (↑g_1.fst : Int)) = true then (l.getD ((cnL l (n.tmod (1001 : Int))).getD (↑g_1.snd : Int).toNat default).toNat default).hm == (l.getD g_1.fst default).hm else
   false) = true) ∧ ((if decide ((cnL l (n.tmod (1001 : Int))).getD (↑g_1.snd : Int).toNat default < (↑g_1.fst : Int)) = true then (l.getD ((cnL l (n.tmod (1001 : Int))).getD (↑g_1.snd : Int).toNat default).toNat default).hm ==
   (l.getD g_1.fst default).hm else false) = true → (if decide ((cnL l (n.tmod (1001 : Int))).getD (↑g_1.snd : Int).toNat default < (↑g_1.fst : Int)) = true then (l.getD ((cnL l (n.tmod (1001 : Int))).getD (↑g_1.snd : Int).toNat
   default).toNat default).hm == (l.getD g_1.fst default).hm else false) = true) ∧ impB (decide ((cnL l (n.tmod (1001 : Int))).getD (↑g_1.snd : Int).toNat default < (↑g_1.fst : Int))) (nth (nthR (List.map encCp l) ((cnL l (n.tmod
   (1001 : Int))).getD (↑g_1.snd : Int).toNat default).toNat) 0 = AV.str (l.getD ((cnL l (n.tmod (1001 : Int))).getD (↑g_1.snd : Int).toNat default).toNat default).hm) ∧ impB (if decide ((cnL l (n.tmod (1001 : Int))).getD (↑g_1.snd :
   Int).toNat default < (↑g_1.fst : Int)) = true then (l.getD ((cnL l (n.tmod (1001 : Int))).getD (↑g_1.snd : Int).toNat default).toNat default).hm == (l.getD g_1.fst default).hm else false) (nth (nthR (List.map encCp l) ((cnL l
   (n.tmod (1001 : Int))).getD (↑g_1.snd : Int).toNat default).toNat) 1 = AV.i (l.getD ((cnL l (n.tmod (1001 : Int))).getD (↑g_1.snd : Int).toNat default).toNat default).tk) ∧ ((if (if decide ((cnL l (n.tmod (1001 : Int))).getD
   (↑g_1.snd : Int).toNat default < (↑g_1.fst : Int)) = true then (l.getD ((cnL l (n.tmod (1001 : Int))).getD (↑g_1.snd : Int).toNat default).toNat default).hm == (l.getD g_1.fst default).hm else false) = true then decide ((l.getD
   g_1.fst default).tk - (l.getD ((cnL l (n.tmod (1001 : Int))).getD (↑g_1.snd : Int).toNat default).toNat default).tk ≤ n.tmod (1001 : Int)) else false) = true → In64 ((↑g_1.snd : Int) + 1) ∧ ∃ (g' : Nat × Nat), (g'.fst < l.length ∧
   g'.snd ≤ (cnL l (n.tmod (1001 : Int))).length) ∧ g'.fst = g0.fst ∧ (cnL l (n.tmod (1001 : Int))).length - g'.snd < (cnL l (n.tmod (1001 : Int))).length - g_1.snd ∧ AS.mk [(0, AV.sl 2 (List.map encCp l)), (2, AV.sl 1 (List.map encU
   xs)), (4, AV.elt 3 [[AV.int IntKind.u16 n, AV.int IntKind.u16 (↑p : Int), AV.int IntKind.u16 q]] 0 0), (9, AV.i (n.tmod (1001 : Int))), (10, AV.sl 1 (List.map encI (cnL l (n.tmod (1001 : Int))))), (12, AV.sl 1 (List.map encI (cnL l
   (0 : Int)))), (127, AV.sl 2 (List.map encCp l)), (128, AV.i (↑(List.map encCp l).length : Int)), (129, AV.i (↑g_1.fst : Int)), (17, AV.i (↑g_1.fst : Int)), (18, AV.elt 2 [(encCp (l.getD g_1.fst default))] 0 0), (19, AV.bool true),
   (134, AV.sl 1 (List.map encI (cnL l (n.tmod (1001 : Int))))), (135, AV.i (↑(List.map encI (cnL l (n.tmod (1001 : Int)))).length : Int)), (136, AV.i ((↑g_1.snd : Int) + 1))] [] 1 = AS.mk [(0, AV.sl 2 (List.map encCp l)), (2, AV.sl 1
   (List.map encU xs)), (4, AV.elt 3 [[AV.int IntKind.u16 n, AV.int IntKind.u16 (↑p : Int), AV.int IntKind.u16 q]] 0 0), (9, AV.i (n.tmod (1001 : Int))), (10, AV.sl 1 (List.map encI (cnL l (n.tmod (1001 : Int))))), (12, AV.sl 1
   (List.map encI (cnL l (0 : Int)))), (127, AV.sl 2 (List.map encCp l)), (128, AV.i (↑(List.map encCp l).length : Int)), (129, AV.i (↑g'.fst : Int)), (17, AV.i (↑g'.fst : Int)), (18, AV.elt 2 [(encCp (l.getD g'.fst default))] 0 0),
   (19, AV.bool (nrN l (n.tmod (1001 : Int)) g'.fst (cnL l (n.tmod (1001 : Int))) g'.snd)), (134, AV.sl 1 (List.map encI (cnL l (n.tmod (1001 : Int))))), (135, AV.i (↑(List.map encI (cnL l (n.tmod (1001 : Int)))).length : Int)), (136,
   AV.i (↑g'.snd : Int))] [] 1) ∧ ((if (if decide ((cnL l (n.tmod (1001 : Int))).getD (↑g_1.snd : Int).toNat default < (↑g_1.fst : Int)) = true then (l.getD ((cnL l (n.tmod (1001 : Int))).getD (↑g_1.snd : Int).toNat default).toNat
   default).hm == (l.getD g_1.fst default).hm else false) = true then decide ((l.getD g_1.fst default).tk - (l.getD ((cnL l (n.tmod (1001 : Int))).getD (↑g_1.snd : Int).toNat default).toNat default).tk ≤ n.tmod (1001 : Int)) else
   false) = false → In64 ((↑g_1.snd : Int) + 1) ∧ ∃ (g' : Nat × Nat), (g'.fst < l.length ∧ g'.snd ≤ (cnL l (n.tmod (1001 : Int))).length) ∧ g'.fst = g0.fst ∧ (cnL l (n.tmod (1001 : Int))).length - g'.snd < (cnL l (n.tmod (1001 :
   Int))).length - g_1.snd ∧ AS.mk [(0, AV.sl 2 (List.map encCp l)), (2, AV.sl 1 (List.map encU xs)), (4, AV.elt 3 [[AV.int IntKind.u16 n, AV.int IntKind.u16 (↑p : Int), AV.int IntKind.u16 q]] 0 0), (9, AV.i (n.tmod (1001 : Int))),
   (10, AV.sl 1 (List.map encI (cnL l (n.tmod (1001 : Int))))), (12, AV.sl 1 (List.map encI (cnL l (0 : Int)))), (127, AV.sl 2 (List.map encCp l)), (128, AV.i (↑(List.map encCp l).length : Int)), (129, AV.i (↑g_1.fst : Int)), (17,
   AV.i (↑g_1.fst : Int)), (18, AV.elt 2 [(encCp (l.getD g_1.fst default))] 0 0), (19, AV.bool (nrN l (n.tmod (1001 : Int)) g_1.fst (cnL l (n.tmod (1001 : Int))) g_1.snd)), (134, AV.sl 1 (List.map encI (cnL l (n.tmod (1001 : Int))))),
   (135, AV.i (↑(List.map encI (cnL l (n.tmod (1001 : Int)))).length : Int)), (136, AV.i ((↑g_1.snd : Int) + 1))] [] 1 = AS.mk [(0, AV.sl 2 (List.map encCp l)), (2, AV.sl 1 (List.map encU xs)), (4, AV.elt 3 [[AV.int IntKind.u16 n,
   AV.int IntKind.u16 (↑p : Int), AV.int IntKind.u16 q]] 0 0), (9, AV.i (n.tmod (1001 : Int))), (10, AV.sl 1 (List.map encI (cnL l (n.tmod (1001 : Int))))), (12, AV.sl 1 (List.map encI (cnL l (0 : Int)))), (127, AV.sl 2 (List.map
   encCp l)), (128, AV.i (↑(List.map encCp l).length : Int)), (129, AV.i (↑g'.fst : Int)), (17, AV.i (↑g'.fst : Int)), (18, AV.elt 2 [(encCp (l.getD g'.fst default))] 0 0), (19, AV.bool (nrN l (n.tmod (1001 : Int)) g'.fst (cnL l
   (n.tmod (1001 : Int))) g'.snd)), (134, AV.sl 1 (List.map encI (cnL l (n.tmod (1001 : Int))))), (135, AV.i (↑(List.map encI (cnL l (n.tmod (1001 : Int)))).length : Int)), (136, AV.i (↑g'.snd : Int))] [] 1)) ∧ (decide ((↑g_1.snd :
   Int) < (↑(List.map encI (cnL l (n.tmod (1001 : Int)))).length : Int)) = false → (PCall Tryz.prog G0 90 [AV.sl 1 (List.map encI (cnL l (n.tmod (1001 : Int)))), AV.i (↑g_1.fst : Int)] (AV.bool (hasI (List.map hdI (List.map encI (cnL
   l (n.tmod (1001 : Int))))) (↑g_1.fst : Int))) ∧ AS.mk [(0, AV.sl 2 (List.map encCp l)), (2, AV.sl 1 (List.map encU xs)), (4, AV.elt 3 [[AV.int IntKind.u16 n, AV.int IntKind.u16 (↑p : Int), AV.int IntKind.u16 q]] 0 0), (9, AV.i
   (n.tmod (1001 : Int))), (10, AV.sl 1 (List.map encI (cnL l (n.tmod (1001 : Int))))), (12, AV.sl 1 (List.map encI (cnL l (0 : Int)))), (127, AV.sl 2 (List.map encCp l)), (128, AV.i (↑(List.map encCp l).length : Int)), (129, AV.i
   (↑g_1.fst : Int)), (17, AV.i (↑g_1.fst : Int)), (18, AV.elt 2 [(encCp (l.getD g_1.fst default))] 0 0), (170, AV.bool (nrN l (n.tmod (1001 : Int)) g_1.fst (cnL l (n.tmod (1001 : Int))) g_1.snd == hasI (List.map hdI (List.map encI
   (cnL l (n.tmod (1001 : Int))))) (↑g_1.fst : Int)))] [] 1 = AS.mk [(0, AV.sl 2 (List.map encCp l)), (2, AV.sl 1 (List.map encU xs)), (4, AV.elt 3 [[AV.int IntKind.u16 n, AV.int IntKind.u16 (↑p : Int), AV.int IntKind.u16 q]] 0 0),
   (9, AV.i (n.tmod (1001 : Int))), (10, AV.sl 1 (List.map encI (cnL l (n.tmod (1001 : Int))))), (12, AV.sl 1 (List.map encI (cnL l (0 : Int)))), (127, AV.sl 2 (List.map encCp l)), (128, AV.i (↑(List.map encCp l).length : Int)), (129,
   AV.i (↑g_1.fst : Int)), (17, AV.i (↑g_1.fst : Int)), (18, AV.elt 2 [(encCp (l.getD g_1.fst default))] 0 0), (170, AV.bool false)] [] 1) ∧ ∃ (g0 : Nat × Nat), (g0.fst < l.length ∧ g0.snd ≤ g0.fst) ∧ g0.fst = g0.fst ∧ AS.mk [(0,
   AV.sl 2 (List.map encCp l)), (2, AV.sl 1 (List.map encU xs)), (4, AV.elt 3 [[AV.int IntKind.u16 n, AV.int IntKind.u16 (↑p : Int), AV.int IntKind.u16 q]] 0 0), (9, AV.i (n.tmod (1001 : Int))), (10, AV.sl 1 (List.map encI (cnL l
   (n.tmod (1001 : Int))))), (12, AV.sl 1 (List.map encI (cnL l (0 : Int)))), (127, AV.sl 2 (List.map encCp l)), (128, AV.i (↑(List.map encCp l).length : Int)), (129, AV.i (↑g_1.fst : Int)), (17, AV.i (↑g_1.fst : Int)), (18, AV.elt 2
   [(encCp (l.getD g_1.fst default))] 0 0), (22, AV.bool false), (171, AV.i (↑g_1.fst : Int)), (172, AV.i 0)] [] 1 = AS.mk [(0, AV.sl 2 (List.map encCp l)), (2, AV.sl 1 (List.map encU xs)), (4, AV.elt 3 [[AV.int IntKind.u16 n, AV.int
   IntKind.u16 (↑p : Int), AV.int IntKind.u16 q]] 0 0), (9, AV.i (n.tmod (1001 : Int))), (10, AV.sl 1 (List.map encI (cnL l (n.tmod (1001 : Int))))), (12, AV.sl 1 (List.map encI (cnL l (0 : Int)))), (127, AV.sl 2 (List.map encCp l)),
   (128, AV.i (↑(List.map encCp l).length : Int)), (129, AV.i (↑g0.fst : Int)), (17, AV.i (↑g0.fst : Int)), (18, AV.elt 2 [(encCp (l.getD g0.fst default))] 0 0), (22, AV.bool (smN l g0.fst g0.snd)), (171, AV.i (↑g0.fst : Int)), (172,
   AV.i (↑g0.snd : Int))] [] 1 ∧ ∀ (g_2 : Nat × Nat), g_2.fst < l.length ∧ g_2.snd ≤ g_2.fst → g_2.fst = g0.fst → (decide ((↑g_2.snd : Int) < (↑g_2.fst : Int)) = true → ((!smN l g_2.fst g_2.snd) = true → (!smN l g_2.fst g_2.snd) =
   true) ∧ ((!smN l g_2.fst g_2.snd) = true → (!smN l g_2.fst g_2.snd) = true) ∧ ((!smN l g_2.fst g_2.snd) = true → (0 : Int) ≤ (↑g_2.snd : Int)) ∧ ((!smN l g_2.fst g_2.snd) = true → (↑g_2.snd : Int) < (↑(List.map encCp l).length :
   Int)) ∧ ((!smN l g_2.fst g_2.snd) = true → (!smN l g_2.fst g_2.snd) = true) ∧ ((!smN l g_2.fst g_2.snd) = true → (!smN l g_2.fst g_2.snd) = true) ∧ ((!smN l g_2.fst g_2.snd) = true → (!smN l g_2.fst g_2.snd) = true) ∧ (smN l
   g_2.fst g_2.snd = false → (!smN l g_2.fst g_2.snd) = true) ∧ impB (!smN l g_2.fst g_2.snd) (AV.agg (nthR (List.map encCp l) (↑g_2.snd : Int).toNat) = AV.agg (encCp (l.getD (↑g_2.snd : Int).toNat default))) ∧ In64 ((↑g_2.snd : Int)
   + 1) ∧ ∃ (g' : Nat × Nat), (g'.fst < l.length ∧ g'.snd ≤ g'.fst) ∧ g'.fst = g0.fst ∧ g'.fst - g'.snd < g_2.fst - g_2.snd ∧ AS.mk [(0, AV.sl 2 (List.map encCp l)), (2, AV.sl 1 (List.map encU xs)), (4, AV.elt 3 [[AV.int IntKind.u16
   n, AV.int IntKind.u16 (↑p : Int), AV.int IntKind.u16 q]] 0 0), (9, AV.i (n.tmod (1001 : Int))), (10, AV.sl 1 (List.map encI (cnL l (n.tmod (1001 : Int))))), (12, AV.sl 1 (List.map encI (cnL l (0 : Int)))), (127, AV.sl 2 (List.map
   encCp l)), (128, AV.i (↑(List.map encCp l).length : Int)), (129, AV.i (↑g_2.fst : Int)), (17, AV.i (↑g_2.fst : Int)), (18, AV.elt 2 [(encCp (l.getD g_2.fst default))] 0 0), (22, AV.bool (if smN l g_2.fst g_2.snd = true then true
   else (l.getD (↑g_2.snd : Int).toNat default).hm == (l.getD g_2.fst default).hm && true && ((l.getD (↑g_2.snd : Int).toNat default).tk == (l.getD g_2.fst default).tk && true && true))), (171, AV.i (↑g_2.fst : Int)), (172, AV.i
   ((↑g_2.snd : Int) + 1))] [] 1 = AS.mk [(0, AV.sl 2 (List.map encCp l)), (2, AV.sl 1 (List.map encU xs)), (4, AV.elt 3 [[AV.int IntKind.u16 n, AV.int IntKind.u16 (↑p : Int), AV.int IntKind.u16 q]] 0 0), (9, AV.i (n.tmod (1001 :
   Int))), (10, AV.sl 1 (List.map encI (cnL l (n.tmod (1001 : Int))))), (12, AV.sl 1 (List.map encI (cnL l (0 : Int)))), (127, AV.sl 2 (List.map encCp l)), (128, AV.i (↑(List.map encCp l).length : Int)), (129, AV.i (↑g'.fst : Int)),
   (17, AV.i (↑g'.fst : Int)), (18, AV.elt 2 [(encCp (l.getD g'.fst default))] 0 0), (22, AV.bool (smN l g'.fst g'.snd)), (171, AV.i (↑g'.fst : Int)), (172, AV.i (↑g'.snd : Int))] [] 1) ∧ (decide ((↑g_2.snd : Int) < (↑g_2.fst : Int))
   = false → (PCall Tryz.prog G0 90 [AV.sl 1 (List.map encI (cnL l (0 : Int))), AV.i (↑g_2.fst : Int)] (AV.bool (hasI (List.map hdI (List.map encI (cnL l (0 : Int)))) (↑g_2.fst : Int))) ∧ AS.mk [(0, AV.sl 2 (List.map encCp l)), (2,
   AV.sl 1 (List.map encU xs)), (4, AV.elt 3 [[AV.int IntKind.u16 n, AV.int IntKind.u16 (↑p : Int), AV.int IntKind.u16 q]] 0 0), (9, AV.i (n.tmod (1001 : Int))), (10, AV.sl 1 (List.map encI (cnL l (n.tmod (1001 : Int))))), (12, AV.sl
   1 (List.map encI (cnL l (0 : Int)))), (127, AV.sl 2 (List.map encCp l)), (128, AV.i (↑(List.map encCp l).length : Int)), (129, AV.i (↑g_2.fst : Int)), (189, AV.bool (smN l g_2.fst g_2.snd == hasI (List.map hdI (List.map encI (cnL l
   (0 : Int)))) (↑g_2.fst : Int)))] [] 1 = AS.mk [(0, AV.sl 2 (List.map encCp l)), (2, AV.sl 1 (List.map encU xs)), (4, AV.elt 3 [[AV.int IntKind.u16 n, AV.int IntKind.u16 (↑p : Int), AV.int IntKind.u16 q]] 0 0), (9, AV.i (n.tmod
   (1001 : Int))), (10, AV.sl 1 (List.map encI (cnL l (n.tmod (1001 : Int))))), (12, AV.sl 1 (List.map encI (cnL l (0 : Int)))), (127, AV.sl 2 (List.map encCp l)), (128, AV.i (↑(List.map encCp l).length : Int)), (129, AV.i (↑g_2.fst :
   Int)), (189, AV.bool false)] [] 1) ∧ In64 ((↑g_2.fst : Int) + 1) ∧ ∃ (g' : Nat), g' ≤ l.length ∧ l.length - g' < l.length - g ∧ AS.mk [(0, AV.sl 2 (List.map encCp l)), (2, AV.sl 1 (List.map encU xs)), (4, AV.elt 3 [[AV.int
   IntKind.u16 n, AV.int IntKind.u16 (↑p : Int), AV.int IntKind.u16 q]] 0 0), (9, AV.i (n.tmod (1001 : Int))), (10, AV.sl 1 (List.map encI (cnL l (n.tmod (1001 : Int))))), (12, AV.sl 1 (List.map encI (cnL l (0 : Int)))), (127, AV.sl 2
   (List.map encCp l)), (128, AV.i (↑(List.map encCp l).length : Int)), (129, AV.i ((↑g_2.fst : Int) + 1))] [] 1 = AS.mk [(0, AV.sl 2 (List.map encCp l)), (2, AV.sl 1 (List.map encU xs)), (4, AV.elt 3 [[AV.int IntKind.u16 n, AV.int
   IntKind.u16 (↑p : Int), AV.int IntKind.u16 q]] 0 0), (9, AV.i (n.tmod (1001 : Int))), (10, AV.sl 1 (List.map encI (cnL l (n.tmod (1001 : Int))))), (12, AV.sl 1 (List.map encI (cnL l (0 : Int)))), (127, AV.sl 2 (List.map encCp l)),
   (128, AV.i (↑(List.map encCp l).length : Int)), (129, AV.i (↑g' : Int))] [] 1))) ∧ (decide ((↑g : Int) < (↑(List.map encCp l).length : Int)) = false → AS.mk [(0, AV.sl 2 (List.map encCp l)), (2, AV.sl 1 (List.map encU xs)), (4,
   AV.elt 3 [[AV.int IntKind.u16 n, AV.int IntKind.u16 (↑p : Int), AV.int IntKind.u16 q]] 0 0), (9, AV.i (n.tmod (1001 : Int))), (10, AV.sl 1 (List.map encI (cnL l (n.tmod (1001 : Int)))))] [] 1 = AS.mk [(0, AV.sl 2 (List.map encCp
   l)), (2, AV.sl 1 (List.map encU xs)), (4, AV.elt 3 [[AV.int IntKind.u16 n, AV.int IntKind.u16 (↑p : Int), AV.int IntKind.u16 q]] 0 0), (9, AV.i (n.tmod (1001 : Int))), (10, AV.sl 1 (List.map encI (cnL l (n.tmod (1001 : Int)))))] []
   1 ∧ K12 l xs)) ∧ (K12 l xs → ((∃ (g : Nat), g ≤ l.length ∧ AS.mk [(0, AV.sl 2 (List.map encCp l)), (2, AV.sl 1 (List.map encU xs)), (4, AV.elt 3 [[AV.int IntKind.u16 n, AV.int IntKind.u16 (↑p : Int), AV.int IntKind.u16 q]] 0 0),
   (9, AV.i (n.tmod (1001 : Int))), (10, AV.sl 1 (List.map encI (cnL l (n.tmod (1001 : Int))))), (24, AV.own 1 0), (192, AV.i (↑(List.map encCp l).length : Int)), (193, AV.i 0)] [(1, ABlk.buf 3 1 [])] 2 = AS.mk [(0, AV.sl 2 (List.map
   encCp l)), (2, AV.sl 1 (List.map encU xs)), (4, AV.elt 3 [[AV.int IntKind.u16 n, AV.int IntKind.u16 (↑p : Int), AV.int IntKind.u16 q]] 0 0), (9, AV.i (n.tmod (1001 : Int))), (10, AV.sl 1 (List.map encI (cnL l (n.tmod (1001 :
   Int))))), (24, AV.own 1 (List.map encI (bitsM p g)).length), (192, AV.i (↑(List.map encCp l).length : Int)), (193, AV.i (↑g : Int))] [(1, ABlk.buf 3 1 (List.map encI (bitsM p g)))] 2) ∧ ∀ (g : Nat), g ≤ l.length → (decide ((↑g :
   Int) < (↑(List.map encCp l).length : Int)) = true → (0 : Int) ≤ 1 ∧ (1 : Int) < (↑3 : Int) ∧ (0 : Int) ≤ (↑g : Int) ∧ (↑g : Int) ≤ 16 ∧ (0 : Int) ≤ (↑p : Int).fdiv ((2 : Int) ^ (↑g : Int).toNat) ∧ (↑p : Int).fdiv ((2 : Int) ^ (↑g :
   Int).toNat) ≤ 65535 ∧ (0 : Int) ≤ 1 ∧ (1 : Int) ≤ 65535 ∧ (((↑(((↑p : Int).fdiv ((2 : Int) ^ (↑g : Int).toNat)).toNat &&& 1) : Int) == 1) = true → (List.map encI (bitsM p g)).length + 1 ≤ 9223372036854775807 ∧ ((List.map encI
   (bitsM p g)).length + 1) * 8 ≤ 140737488355328 ∧ In64 ((↑g : Int) + 1) ∧ ∃ (g' : Nat), g' ≤ l.length ∧ l.length - g' < l.length - g ∧ AS.mk [(0, AV.sl 2 (List.map encCp l)), (2, AV.sl 1 (List.map encU xs)), (4, AV.elt 3 [[AV.int
   IntKind.u16 n, AV.int IntKind.u16 (↑p : Int), AV.int IntKind.u16 q]] 0 0), (9, AV.i (n.tmod (1001 : Int))), (10, AV.sl 1 (List.map encI (cnL l (n.tmod (1001 : Int))))), (24, AV.own 1 ((List.map encI (bitsM p g)).length + 1)), (192,
   AV.i (↑(List.map encCp l).length : Int)), (193, AV.i ((↑g : Int) + 1))] [(1, ABlk.buf 3 1 (List.map encI (bitsM p g) ++ [[AV.i (↑g : Int)]]))] 2 = AS.mk [(0, AV.sl 2 (List.map encCp l)), (2, AV.sl 1 (List.map encU xs)), (4, AV.elt
   3 [[AV.int IntKind.u16 n, AV.int IntKind.u16 (↑p : Int), AV.int IntKind.u16 q]] 0 0), (9, AV.i (n.tmod (1001 : Int))), (10, AV.sl 1 (List.map encI (cnL l (n.tmod (1001 : Int))))), (24, AV.own 1 (List.map encI (bitsM p g')).length),
   (192, AV.i (↑(List.map encCp l).length : Int)), (193, AV.i (↑g' : Int))] [(1, ABlk.buf 3 1 (List.map encI (bitsM p g')))] 2) ∧ (((↑(((↑p : Int).fdiv ((2 : Int) ^ (↑g : Int).toNat)).toNat &&& 1) : Int) == 1) = false → In64 ((↑g :
   Int) + 1) ∧ ∃ (g' : Nat), g' ≤ l.length ∧ l.length - g' < l.length - g ∧ AS.mk [(0, AV.sl 2 (List.map encCp l)), (2, AV.sl 1 (List.map encU xs)), (4, AV.elt 3 [[AV.int IntKind.u16 n, AV.int IntKind.u16 (↑p : Int), AV.int
   IntKind.u16 q]] 0 0), (9, AV.i (n.tmod (1001 : Int))), (10, AV.sl 1 (List.map encI (cnL l (n.tmod (1001 : Int))))), (24, AV.own 1 (List.map encI (bitsM p g)).length), (192, AV.i (↑(List.map encCp l).length : Int)), (193, AV.i ((↑g
   : Int) + 1))] [(1, ABlk.buf 3 1 (List.map encI (bitsM p g)))] 2 = AS.mk [(0, AV.sl 2 (List.map encCp l)), (2, AV.sl 1 (List.map encU xs)), (4, AV.elt 3 [[AV.int IntKind.u16 n, AV.int IntKind.u16 (↑p : Int), AV.int IntKind.u16 q]] 0
   0), (9, AV.i (n.tmod (1001 : Int))), (10, AV.sl 1 (List.map encI (cnL l (n.tmod (1001 : Int))))), (24, AV.own 1 (List.map encI (bitsM p g')).length), (192, AV.i (↑(List.map encCp l).length : Int)), (193, AV.i (↑g' : Int))] [(1,
   ABlk.buf 3 1 (List.map encI (bitsM p g')))] 2)) ∧ (decide ((↑g : Int) < (↑(List.map encCp l).length : Int)) = false → AS.mk [(0, AV.sl 2 (List.map encCp l)), (2, AV.sl 1 (List.map encU xs)), (4, AV.elt 3 [[AV.int IntKind.u16 n,
   AV.int IntKind.u16 (↑p : Int), AV.int IntKind.u16 q]] 0 0), (9, AV.i (n.tmod (1001 : Int))), (10, AV.sl 1 (List.map encI (cnL l (n.tmod (1001 : Int))))), (24, AV.sl 1 (List.map encI (bitsM p g)))] [] 1 = AS.mk [(0, AV.sl 2
   (List.map encCp l)), (2, AV.sl 1 (List.map encU xs)), (4, AV.elt 3 [[AV.int IntKind.u16 n, AV.int IntKind.u16 (↑p : Int), AV.int IntKind.u16 q]] 0 0), (9, AV.i (n.tmod (1001 : Int))), (10, AV.sl 1 (List.map encI (cnL l (n.tmod
   (1001 : Int))))), (24, AV.sl 1 (List.map encI (ansL l p)))] [] 1 ∧ K12 l xs)) ∧ (K12 l xs → (0 : Int) ≤ 2 ∧ (2 : Int) < (↑3 : Int) ∧ (0 : Int) ≤ 1 ∧ (1 : Int) < (↑3 : Int) ∧ ¬(500 : Int) = (0 : Int) ∧ PCall Tryz.prog G0 72 [AV.sl 2
   (List.map encCp l)] (AV.sl 2 (List.map encCp l)) ∧ PCall Tryz.prog G0 23 [AV.sl 1 (List.map encI (ansL l p))] (AV.sl 1 (List.map encI (ansL l p))) ∧ PCall Tryz.prog G0 75 [AV.sl 2 (List.map encCp l), AV.i (n.tmod (1001 : Int)),
   AV.sl 1 (List.map encI (ansL l p)), AV.i (IntKind.i64.wrap q), AV.i ((IntKind.i64.wrap (↑p : Int)).tmod (500 : Int))] (AV.tup [AV.sl 1 (List.map encI (duV l (n.tmod (1001 : Int)) (List.map hdI (List.map encI (ansL l p)))
   (IntKind.i64.wrap q) ((IntKind.i64.wrap (↑p : Int)).tmod (500 : Int)))), AV.i (duE l (n.tmod (1001 : Int)) (List.map hdI (List.map encI (ansL l p))) (IntKind.i64.wrap q) ((IntKind.i64.wrap (↑p : Int)).tmod (500 : Int)))]) ∧ PCall
   Tryz.prog G0 72 [AV.sl 2 (List.map encCp l)] (AV.sl 2 (List.map encCp l)) ∧ PCall Tryz.prog G0 23 [AV.sl 1 (List.map encI (ansL l p))] (AV.sl 1 (List.map encI (ansL l p))) ∧ PCall Tryz.prog G0 75 [AV.sl 2 (List.map encCp l), AV.i
   (n.tmod (1001 : Int)), AV.sl 1 (List.map encI (ansL l p)), AV.i 100000000, AV.i ((IntKind.i64.wrap (↑p : Int)).tmod (500 : Int))] (AV.tup [AV.sl 1 (List.map encI (duV l (n.tmod (1001 : Int)) (List.map hdI (List.map encI (ansL l
   p))) (100000000 : Int) ((IntKind.i64.wrap (↑p : Int)).tmod (500 : Int)))), AV.i (duE l (n.tmod (1001 : Int)) (List.map hdI (List.map encI (ansL l p))) (100000000 : Int) ((IntKind.i64.wrap (↑p : Int)).tmod (500 : Int)))]) ∧ (((!duE
   l (n.tmod (1001 : Int)) (List.map hdI (List.map encI (ansL l p))) (IntKind.i64.wrap q) ((IntKind.i64.wrap (↑p : Int)).tmod (500 : Int)) != 0) = true → (!duE l (n.tmod (1001 : Int)) (List.map hdI (List.map encI (ansL l p)))
   (IntKind.i64.wrap q) ((IntKind.i64.wrap (↑p : Int)).tmod (500 : Int)) != 0) = true) ∧ ((duE l (n.tmod (1001 : Int)) (List.map hdI (List.map encI (ansL l p))) (IntKind.i64.wrap q) ((IntKind.i64.wrap (↑p : Int)).tmod (500 : Int)) !=
   0) = false → (!duE l (n.tmod (1001 : Int)) (List.map hdI (List.map encI (ansL l p))) (IntKind.i64.wrap q) ((IntKind.i64.wrap (↑p : Int)).tmod (500 : Int)) != 0) = true) ∧ ((!if (duE l (n.tmod (1001 : Int)) (List.map hdI (List.map
   encI (ansL l p))) (IntKind.i64.wrap q) ((IntKind.i64.wrap (↑p : Int)).tmod (500 : Int)) != 0) = true then true else duE l (n.tmod (1001 : Int)) (List.map hdI (List.map encI (ansL l p))) (100000000 : Int) ((IntKind.i64.wrap (↑p :
   Int)).tmod (500 : Int)) != 0) = true → (!if (duE l (n.tmod (1001 : Int)) (List.map hdI (List.map encI (ansL l p))) (IntKind.i64.wrap q) ((IntKind.i64.wrap (↑p : Int)).tmod (500 : Int)) != 0) = true then true else duE l (n.tmod
   (1001 : Int)) (List.map hdI (List.map encI (ansL l p))) (100000000 : Int) ((IntKind.i64.wrap (↑p : Int)).tmod (500 : Int)) != 0) = true) ∧ ((!if (duE l (n.tmod (1001 : Int)) (List.map hdI (List.map encI (ansL l p)))
   (IntKind.i64.wrap q) ((IntKind.i64.wrap (↑p : Int)).tmod (500 : Int)) != 0) = true then true else duE l (n.tmod (1001 : Int)) (List.map hdI (List.map encI (ansL l p))) (100000000 : Int) ((IntKind.i64.wrap (↑p : Int)).tmod (500 :
   Int)) != 0) = true → (!if (duE l (n.tmod (1001 : Int)) (List.map hdI (List.map encI (ansL l p))) (IntKind.i64.wrap q) ((IntKind.i64.wrap (↑p : Int)).tmod (500 : Int)) != 0) = true then true else duE l (n.tmod (1001 : Int))
   (List.map hdI (List.map encI (ansL l p))) (100000000 : Int) ((IntKind.i64.wrap (↑p : Int)).tmod (500 : Int)) != 0) = true) ∧ ((!if (duE l (n.tmod (1001 : Int)) (List.map hdI (List.map encI (ansL l p))) (IntKind.i64.wrap q)
   ((IntKind.i64.wrap (↑p : Int)).tmod (500 : Int)) != 0) = true then true else duE l (n.tmod (1001 : Int)) (List.map hdI (List.map encI (ansL l p))) (100000000 : Int) ((IntKind.i64.wrap (↑p : Int)).tmod (500 : Int)) != 0) = true →
   (!if (duE l (n.tmod (1001 : Int)) (List.map hdI (List.map encI (ansL l p))) (IntKind.i64.wrap q) ((IntKind.i64.wrap (↑p : Int)).tmod (500 : Int)) != 0) = true then true else duE l (n.tmod (1001 : Int)) (List.map hdI (List.map encI
   (ansL l p))) (100000000 : Int) ((IntKind.i64.wrap (↑p : Int)).tmod (500 : Int)) != 0) = true) ∧ ((!if (duE l (n.tmod (1001 : Int)) (List.map hdI (List.map encI (ansL l p))) (IntKind.i64.wrap q) ((IntKind.i64.wrap (↑p : Int)).tmod
   (500 : Int)) != 0) = true then true else duE l (n.tmod (1001 : Int)) (List.map hdI (List.map encI (ansL l p))) (100000000 : Int) ((IntKind.i64.wrap (↑p : Int)).tmod (500 : Int)) != 0) = true → (!if (duE l (n.tmod (1001 : Int))
   (List.map hdI (List.map encI (ansL l p))) (IntKind.i64.wrap q) ((IntKind.i64.wrap (↑p : Int)).tmod (500 : Int)) != 0) = true then true else duE l (n.tmod (1001 : Int)) (List.map hdI (List.map encI (ansL l p))) (100000000 : Int)
   ((IntKind.i64.wrap (↑p : Int)).tmod (500 : Int)) != 0) = true) ∧ ((if (duE l (n.tmod (1001 : Int)) (List.map hdI (List.map encI (ansL l p))) (IntKind.i64.wrap q) ((IntKind.i64.wrap (↑p : Int)).tmod (500 : Int)) != 0) = true then
   true else duE l (n.tmod (1001 : Int)) (List.map hdI (List.map encI (ansL l p))) (100000000 : Int) ((IntKind.i64.wrap (↑p : Int)).tmod (500 : Int)) != 0) = false → (!if (duE l (n.tmod (1001 : Int)) (List.map hdI (List.map encI (ansL
   l p))) (IntKind.i64.wrap q) ((IntKind.i64.wrap (↑p : Int)).tmod (500 : Int)) != 0) = true then true else duE l (n.tmod (1001 : Int)) (List.map hdI (List.map encI (ansL l p))) (100000000 : Int) ((IntKind.i64.wrap (↑p : Int)).tmod
   (500 : Int)) != 0) = true) ∧ AS.mk [(0, AV.sl 2 (List.map encCp l)), (2, AV.sl 1 (List.map encU xs)), (10, AV.sl 1 (List.map encI (cnL l (n.tmod (1001 : Int))))), (24, AV.sl 1 (List.map encI (ansL l p))), (26, AV.i
   (IntKind.i64.wrap q)), (27, AV.i ((IntKind.i64.wrap (↑p : Int)).tmod (500 : Int))), (28, AV.sl 1 (List.map encI (duV l (n.tmod (1001 : Int)) (List.map hdI (List.map encI (ansL l p))) (IntKind.i64.wrap q) ((IntKind.i64.wrap (↑p :
   Int)).tmod (500 : Int))))), (30, AV.sl 1 (List.map encI (duV l (n.tmod (1001 : Int)) (List.map hdI (List.map encI (ansL l p))) (100000000 : Int) ((IntKind.i64.wrap (↑p : Int)).tmod (500 : Int))))), (247, AV.bool (if (if (duE l
   (n.tmod (1001 : Int)) (List.map hdI (List.map encI (ansL l p))) (IntKind.i64.wrap q) ((IntKind.i64.wrap (↑p : Int)).tmod (500 : Int)) != 0) = true then true else duE l (n.tmod (1001 : Int)) (List.map hdI (List.map encI (ansL l p)))
   (100000000 : Int) ((IntKind.i64.wrap (↑p : Int)).tmod (500 : Int)) != 0) = true then true else decide ((↑(List.map encI (duV l (n.tmod (1001 : Int)) (List.map hdI (List.map encI (ansL l p))) (IntKind.i64.wrap q) ((IntKind.i64.wrap
   (↑p : Int)).tmod (500 : Int)))).length : Int) > (↑(List.map encI (duV l (n.tmod (1001 : Int)) (List.map hdI (List.map encI (ansL l p))) (100000000 : Int) ((IntKind.i64.wrap (↑p : Int)).tmod (500 : Int)))).length : Int))))] [] 1 =
   AS.mk [(0, AV.sl 2 (List.map encCp l)), (2, AV.sl 1 (List.map encU xs)), (10, AV.sl 1 (List.map encI (cnL l (n.tmod (1001 : Int))))), (24, AV.sl 1 (List.map encI (ansL l p))), (26, AV.i (IntKind.i64.wrap q)), (27, AV.i
   ((IntKind.i64.wrap (↑p : Int)).tmod (500 : Int))), (28, AV.sl 1 (List.map encI (duV l (n.tmod (1001 : Int)) (List.map hdI (List.map encI (ansL l p))) (IntKind.i64.wrap q) ((IntKind.i64.wrap (↑p : Int)).tmod (500 : Int))))), (30,
   AV.sl 1 (List.map encI (duV l (n.tmod (1001 : Int)) (List.map hdI (List.map encI (ansL l p))) (100000000 : Int) ((IntKind.i64.wrap (↑p : Int)).tmod (500 : Int))))), (247, AV.bool false)] [] 1) ∧ (AS.mk [(0, AV.sl 2 (List.map encCp
   l)), (2, AV.sl 1 (List.map encU xs)), (10, AV.sl 1 (List.map encI (cnL l (n.tmod (1001 : Int))))), (24, AV.sl 1 (List.map encI (ansL l p))), (26, AV.i (IntKind.i64.wrap q)), (27, AV.i ((IntKind.i64.wrap (↑p : Int)).tmod (500 :
   Int))), (28, AV.sl 1 (List.map encI (duV l (n.tmod (1001 : Int)) (List.map hdI (List.map encI (ansL l p))) (IntKind.i64.wrap q) ((IntKind.i64.wrap (↑p : Int)).tmod (500 : Int))))), (30, AV.sl 1 (List.map encI (duV l (n.tmod (1001 :
   Int)) (List.map hdI (List.map encI (ansL l p))) (100000000 : Int) ((IntKind.i64.wrap (↑p : Int)).tmod (500 : Int)))))] [] 1 = AS.mk [(0, AV.sl 2 (List.map encCp l)), (2, AV.sl 1 (List.map encU xs)), (10, AV.sl 1 (List.map encI (cnL
   l (n.tmod (1001 : Int))))), (24, AV.sl 1 (List.map encI (ansL l p))), (26, AV.i q), (27, AV.i ((↑p : Int).tmod (500 : Int))), (28, AV.sl 1 (List.map encI (dueL l n p q))), (30, AV.sl 1 (List.map encI (dueL l n p (100000000 :
   Int))))] [] 1 ∧ K12 l xs) ∧ (K12 l xs → ((∃ (g : Nat), g ≤ (cnL l (n.tmod (1001 : Int))).length ∧ AS.mk [(0, AV.sl 2 (List.map encCp l)), (2, AV.sl 1 (List.map encU xs)), (10, AV.sl 1 (List.map encI (cnL l (n.tmod (1001 : Int))))),
   (24, AV.sl 1 (List.map encI (ansL l p))), (26, AV.i q), (27, AV.i ((↑p : Int).tmod (500 : Int))), (28, AV.sl 1 (List.map encI (dueL l n p q))), (30, AV.sl 1 (List.map encI (dueL l n p (100000000 : Int)))), (248, AV.sl 1 (List.map
   encI (cnL l (n.tmod (1001 : Int))))), (249, AV.i (↑(List.map encI (cnL l (n.tmod (1001 : Int)))).length : Int)), (250, AV.i 0)] [] 1 = AS.mk [(0, AV.sl 2 (List.map encCp l)), (2, AV.sl 1 (List.map encU xs)), (10, AV.sl 1 (List.map
   encI (cnL l (n.tmod (1001 : Int))))), (24, AV.sl 1 (List.map encI (ansL l p))), (26, AV.i q), (27, AV.i ((↑p : Int).tmod (500 : Int))), (28, AV.sl 1 (List.map encI (dueL l n p q))), (30, AV.sl 1 (List.map encI (dueL l n p
   (100000000 : Int)))), (248, AV.sl 1 (List.map encI (cnL l (n.tmod (1001 : Int))))), (249, AV.i (↑(List.map encI (cnL l (n.tmod (1001 : Int)))).length : Int)), (250, AV.i (↑g : Int))] [] 1) ∧ ∀ (g : Nat), g ≤ (cnL l (n.tmod (1001 :
   Int))).length → (decide ((↑g : Int) < (↑(List.map encI (cnL l (n.tmod (1001 : Int)))).length : Int)) = true → (0 : Int) ≤ (↑g : Int) ∧ (↑g : Int) < (↑(List.map encI (cnL l (n.tmod (1001 : Int)))).length : Int) ∧ nth (nthR (List.map
   encI (cnL l (n.tmod (1001 : Int)))) (↑g : Int).toNat) 0 = AV.i ((cnL l (n.tmod (1001 : Int))).getD (↑g : Int).toNat default) ∧ (((!hasI (List.map hdI (List.map encI (ansL l p))) ((cnL l (n.tmod (1001 : Int))).getD (↑g : Int).toNat
   default)) = true → (!hasI (List.map hdI (List.map encI (ansL l p))) ((cnL l (n.tmod (1001 : Int))).getD (↑g : Int).toNat default)) = true) ∧ ((!hasI (List.map hdI (List.map encI (ansL l p))) ((cnL l (n.tmod (1001 : Int))).getD (↑g
   : Int).toNat default)) = true → (!hasI (List.map hdI (List.map encI (ansL l p))) ((cnL l (n.tmod (1001 : Int))).getD (↑g : Int).toNat default)) = true) ∧ ((!hasI (List.map hdI (List.map encI (ansL l p))) ((cnL l (n.tmod (1001 :
   Int))).getD (↑g : Int).toNat default)) = true → (0 : Int) ≤ (cnL l (n.tmod (1001 : Int))).getD (↑g : Int).toNat default) ∧ ((!hasI (List.map hdI (List.map encI (ansL l p))) ((cnL l (n.tmod (1001 : Int))).getD (↑g : Int).toNat
   default)) = true → (cnL l (n.tmod (1001 : Int))).getD (↑g : Int).toNat default < (↑(List.map encCp l).length : Int)) ∧ ((!hasI (List.map hdI (List.map encI (ansL l p))) ((cnL l (n.tmod (1001 : Int))).getD (↑g : Int).toNat default))
   = true → (!hasI (List.map hdI (List.map encI (ansL l p))) ((cnL l (n.tmod (1001 : Int))).getD (↑g : Int).toNat default)) = true) ∧ ((!hasI (List.map hdI (List.map encI (ansL l p))) ((cnL l (n.tmod (1001 : Int))).getD (↑g :
   Int).toNat default)) = true → (!hasI (List.map hdI (List.map encI (ansL l p))) ((cnL l (n.tmod (1001 : Int))).getD (↑g : Int).toNat default)) = true) ∧ ((!hasI (List.map hdI (List.map encI (ansL l p))) ((cnL l (n.tmod (1001 :
   Int))).getD (↑g : Int).toNat default)) = true → (!hasI (List.map hdI (List.map encI (ansL l p))) ((cnL l (n.tmod (1001 : Int))).getD (↑g : Int).toNat default)) = true) ∧ ((!hasI (List.map hdI (List.map encI (ansL l p))) ((cnL l
   (n.tmod (1001 : Int))).getD (↑g : Int).toNat default)) = true → In64 ((100000000 : Int) - (↑p : Int).tmod (500 : Int))) ∧ ((!hasI (List.map hdI (List.map encI (ansL l p))) ((cnL l (n.tmod (1001 : Int))).getD (↑g : Int).toNat
   default)) = true → (!hasI (List.map hdI (List.map encI (ansL l p))) ((cnL l (n.tmod (1001 : Int))).getD (↑g : Int).toNat default)) = true) ∧ ((!hasI (List.map hdI (List.map encI (ansL l p))) ((cnL l (n.tmod (1001 : Int))).getD (↑g
   : Int).toNat default)) = true → (!hasI (List.map hdI (List.map encI (ansL l p))) ((cnL l (n.tmod (1001 : Int))).getD (↑g : Int).toNat default)) = true) ∧ ((!hasI (List.map hdI (List.map encI (ansL l p))) ((cnL l (n.tmod (1001 :
   Int))).getD (↑g : Int).toNat default)) = true → (!hasI (List.map hdI (List.map encI (ansL l p))) ((cnL l (n.tmod (1001 : Int))).getD (↑g : Int).toNat default)) = true) ∧ ((!!hasI (List.map hdI (List.map encI (dueL l n p (100000000
   : Int)))) ((cnL l (n.tmod (1001 : Int))).getD (↑g : Int).toNat default) == if (!hasI (List.map hdI (List.map encI (ansL l p))) ((cnL l (n.tmod (1001 : Int))).getD (↑g : Int).toNat default)) = true then decide ((l.getD ((cnL l
   (n.tmod (1001 : Int))).getD (↑g : Int).toNat default).toNat default).tk < 100000000 - (↑p : Int).tmod (500 : Int)) else false) = true → (!!hasI (List.map hdI (List.map encI (dueL l n p (100000000 : Int)))) ((cnL l (n.tmod (1001 :
   Int))).getD (↑g : Int).toNat default) == if (!hasI (List.map hdI (List.map encI (ansL l p))) ((cnL l (n.tmod (1001 : Int))).getD (↑g : Int).toNat default)) = true then decide ((l.getD ((cnL l (n.tmod (1001 : Int))).getD (↑g :
   Int).toNat default).toNat default).tk < 100000000 - (↑p : Int).tmod (500 : Int)) else false) = true) ∧ ((!!hasI (List.map hdI (List.map encI (dueL l n p (100000000 : Int)))) ((cnL l (n.tmod (1001 : Int))).getD (↑g : Int).toNat
   default) == if (!hasI (List.map hdI (List.map encI (ansL l p))) ((cnL l (n.tmod (1001 : Int))).getD (↑g : Int).toNat default)) = true then decide ((l.getD ((cnL l (n.tmod (1001 : Int))).getD (↑g : Int).toNat default).toNat
   default).tk < 100000000 - (↑p : Int).tmod (500 : Int)) else false) = true → (!!hasI (List.map hdI (List.map encI (dueL l n p (100000000 : Int)))) ((cnL l (n.tmod (1001 : Int))).getD (↑g : Int).toNat default) == if (!hasI (List.map
   hdI (List.map encI (ansL l p))) ((cnL l (n.tmod (1001 : Int))).getD (↑g : Int).toNat default)) = true then decide ((l.getD ((cnL l (n.tmod (1001 : Int))).getD (↑g : Int).toNat default).toNat default).tk < 100000000 - (↑p :
   Int).tmod (500 : Int)) else false) = true) ∧ ((!!hasI (List.map hdI (List.map encI (dueL l n p (100000000 : Int)))) ((cnL l (n.tmod (1001 : Int))).getD (↑g : Int).toNat default) == if (!hasI (List.map hdI (List.map encI (ansL l
   p))) ((cnL l (n.tmod (1001 : Int))).getD (↑g : Int).toNat default)) = true then decide ((l.getD ((cnL l (n.tmod (1001 : Int))).getD (↑g : Int).toNat default).toNat default).tk < 100000000 - (↑p : Int).tmod (500 : Int)) else false)
   = true → (!!hasI (List.map hdI (List.map encI (dueL l n p (100000000 : Int)))) ((cnL l (n.tmod (1001 : Int))).getD (↑g : Int).toNat default) == if (!hasI (List.map hdI (List.map encI (ansL l p))) ((cnL l (n.tmod (1001 : Int))).getD
   (↑g : Int).toNat default)) = true then decide ((l.getD ((cnL l (n.tmod (1001 : Int))).getD (↑g : Int).toNat default).toNat default).tk < 100000000 - (↑p : Int).tmod (500 : Int)) else false) = true) ∧ ((!!hasI (List.map hdI
   (List.map encI (dueL l n p (100000000 : Int)))) ((cnL l (n.tmod (1001 : Int))).getD (↑g : Int).toNat default) == if (!hasI (List.map hdI (List.map encI (ansL l p))) ((cnL l (n.tmod (1001 : Int))).getD (↑g : Int).toNat default)) =
   true then decide ((l.getD ((cnL l (n.tmod (1001 : Int))).getD (↑g : Int).toNat default).toNat default).tk < 100000000 - (↑p : Int).tmod (500 : Int)) else false) = true → (!!hasI (List.map hdI (List.map encI (dueL l n p (100000000 :
   Int)))) ((cnL l (n.tmod (1001 : Int))).getD (↑g : Int).toNat default) == if (!hasI (List.map hdI (List.map encI (ansL l p))) ((cnL l (n.tmod (1001 : Int))).getD (↑g : Int).toNat default)) = true then decide ((l.getD ((cnL l (n.tmod
   (1001 : Int))).getD (↑g : Int).toNat default).toNat default).tk < 100000000 - (↑p : Int).tmod (500 : Int)) else false) = true) ∧ ((!!hasI (List.map hdI (List.map encI (dueL l n p (100000000 : Int)))) ((cnL l (n.tmod (1001 :
   Int))).getD (↑g : Int).toNat default) == if (!hasI (List.map hdI (List.map encI (ansL l p))) ((cnL l (n.tmod (1001 : Int))).getD (↑g : Int).toNat default)) = true then decide ((l.getD ((cnL l (n.tmod (1001 : Int))).getD (↑g :
   Int).toNat default).toNat default).tk < 100000000 - (↑p : Int).tmod (500 : Int)) else false) = true → (!!hasI (List.map hdI (List.map encI (dueL l n p (100000000 : Int)))) ((cnL l (n.tmod (1001 : Int))).getD (↑g : Int).toNat
   default) == if (!hasI (List.map hdI (List.map encI (ansL l p))) ((cnL l (n.tmod (1001 : Int))).getD (↑g : Int).toNat default)) = true then decide ((l.getD ((cnL l (n.tmod (1001 : Int))).getD (↑g : Int).toNat default).toNat
   default).tk < 100000000 - (↑p : Int).tmod (500 : Int)) else false) = true) ∧ ((!!hasI (List.map hdI (List.map encI (dueL l n p (100000000 : Int)))) ((cnL l (n.tmod (1001 : Int))).getD (↑g : Int).toNat default) == if (!hasI
   (List.map hdI (List.map encI (ansL l p))) ((cnL l (n.tmod (1001 : Int))).getD (↑g : Int).toNat default)) = true then decide ((l.getD ((cnL l (n.tmod (1001 : Int))).getD (↑g : Int).toNat default).toNat default).tk < 100000000 - (↑p
   : Int).tmod (500 : Int)) else false) = true → (!!hasI (List.map hdI (List.map encI (dueL l n p (100000000 : Int)))) ((cnL l (n.tmod (1001 : Int))).getD (↑g : Int).toNat default) == if (!hasI (List.map hdI (List.map encI (ansL l
   p))) ((cnL l (n.tmod (1001 : Int))).getD (↑g : Int).toNat default)) = true then decide ((l.getD ((cnL l (n.tmod (1001 : Int))).getD (↑g : Int).toNat default).toNat default).tk < 100000000 - (↑p : Int).tmod (500 : Int)) else false)
   = true) ∧ (((!!hasI (List.map hdI (List.map encI (dueL l n p (100000000 : Int)))) ((cnL l (n.tmod (1001 : Int))).getD (↑g : Int).toNat default) == if (!hasI (List.map hdI (List.map encI (ansL l p))) ((cnL l (n.tmod (1001 :
   Int))).getD (↑g : Int).toNat default)) = true then decide ((l.getD ((cnL l (n.tmod (1001 : Int))).getD (↑g : Int).toNat default).toNat default).tk < 100000000 - (↑p : Int).tmod (500 : Int)) else false) && !hasI (List.map hdI
   (List.map encI (ansL l p))) ((cnL l (n.tmod (1001 : Int))).getD (↑g : Int).toNat default)) = true → ((!!hasI (List.map hdI (List.map encI (dueL l n p (100000000 : Int)))) ((cnL l (n.tmod (1001 : Int))).getD (↑g : Int).toNat
   default) == if (!hasI (List.map hdI (List.map encI (ansL l p))) ((cnL l (n.tmod (1001 : Int))).getD (↑g : Int).toNat default)) = true then decide ((l.getD ((cnL l (n.tmod (1001 : Int))).getD (↑g : Int).toNat default).toNat
   default).tk < 100000000 - (↑p : Int).tmod (500 : Int)) else false) && !hasI (List.map hdI (List.map encI (ansL l p))) ((cnL l (n.tmod (1001 : Int))).getD (↑g : Int).toNat default)) = true) ∧ (((!!hasI (List.map hdI (List.map encI
   (dueL l n p (100000000 : Int)))) ((cnL l (n.tmod (1001 : Int))).getD (↑g : Int).toNat default) == if (!hasI (List.map hdI (List.map encI (ansL l p))) ((cnL l (n.tmod (1001 : Int))).getD (↑g : Int).toNat default)) = true then decide
   ((l.getD ((cnL l (n.tmod (1001 : Int))).getD (↑g : Int).toNat default).toNat default).tk < 100000000 - (↑p : Int).tmod (500 : Int)) else false) && !hasI (List.map hdI (List.map encI (ansL l p))) ((cnL l (n.tmod (1001 : Int))).getD
   (↑g : Int).toNat default)) = true → ((!!hasI (List.map hdI (List.map encI (dueL l n p (100000000 : Int)))) ((cnL l (n.tmod (1001 : Int))).getD (↑g : Int).toNat default) == if (!hasI (List.map hdI (List.map encI (ansL l p))) ((cnL l
   (n.tmod (1001 : Int))).getD (↑g : Int).toNat default)) = true then decide ((l.getD ((cnL l (n.tmod (1001 : Int))).getD (↑g : Int).toNat default).toNat default).tk < 100000000 - (↑p : Int).tmod (500 : Int)) else false) && !hasI
   (List.map hdI (List.map encI (ansL l p))) ((cnL l (n.tmod (1001 : Int))).getD (↑g : Int).toNat default)) = true) ∧ (((!!hasI (List.map hdI (List.map encI (dueL l n p (100000000 : Int)))) ((cnL l (n.tmod (1001 : Int))).getD (↑g :
   Int).toNat default) == if (!hasI (List.map hdI (List.map encI (ansL l p))) ((cnL l (n.tmod (1001 : Int))).getD (↑g : Int).toNat default)) = true then decide ((l.getD ((cnL l (n.tmod (1001 : Int))).getD (↑g : Int).toNat
   default).toNat default).tk < 100000000 - (↑p : Int).tmod (500 : Int)) else false) && !hasI (List.map hdI (List.map encI (ansL l p))) ((cnL l (n.tmod (1001 : Int))).getD (↑g : Int).toNat default)) = true → (0 : Int) ≤ (cnL l (n.tmod
   (1001 : Int))).getD (↑g : Int).toNat default) ∧ (((!!hasI (List.map hdI (List.map encI (dueL l n p (100000000 : Int)))) ((cnL l (n.tmod (1001 : Int))).getD (↑g : Int).toNat default) == if (!hasI (List.map hdI (List.map encI (ansL l
   p))) ((cnL l (n.tmod (1001 : Int))).getD (↑g : Int).toNat default)) = true then decide ((l.getD ((cnL l (n.tmod (1001 : Int))).getD (↑g : Int).toNat default).toNat default).tk < 100000000 - (↑p : Int).tmod (500 : Int)) else false)
   && !hasI (List.map hdI (List.map encI (ansL l p))) ((cnL l (n.tmod (1001 : Int))).getD (↑g : Int).toNat default)) = true → (cnL l (n.tmod (1001 : Int))).getD (↑g : Int).toNat default < (↑(List.map encCp l).length : Int)) ∧
   (((!!hasI (List.map hdI (List.map encI (dueL l n p (100000000 : Int)))) ((cnL l (n.tmod (1001 : Int))).getD (↑g : Int).toNat default) == if (!hasI (List.map hdI (List.map encI (ansL l p))) ((cnL l (n.tmod (1001 : Int))).getD (↑g :
   Int).toNat default)) = true then decide ((l.getD ((cnL l (n.tmod (1001 : Int))).getD (↑g : Int).toNat default).toNat default).tk < 100000000 - (↑p : Int).tmod (500 : Int)) else false) && !hasI (List.map hdI (List.map encI (ansL l
   p))) ((cnL l (n.tmod (1001 : Int))).getD (↑g : Int).toNat default)) = true → ((!!hasI (List.map hdI (List.map encI (dueL l n p (100000000 : Int)))) ((cnL l (n.tmod (1001 : Int))).getD (↑g : Int).toNat default) == if (!hasI
   (List.map hdI (List.map encI (ansL l p))) ((cnL l (n.tmod (1001 : Int))).getD (↑g : Int).toNat default)) = true then decide ((l.getD ((cnL l (n.tmod (1001 : Int))).getD (↑g : Int).toNat default).toNat default).tk < 100000000 - (↑p
   : Int).tmod (500 : Int)) else false) && !hasI (List.map hdI (List.map encI (ansL l p))) ((cnL l (n.tmod (1001 : Int))).getD (↑g : Int).toNat default)) = true) ∧ (((!!hasI (List.map hdI (List.map encI (dueL l n p (100000000 :
   Int)))) ((cnL l (n.tmod (1001 : Int))).getD (↑g : Int).toNat default) == if (!hasI (List.map hdI (List.map encI (ansL l p))) ((cnL l (n.tmod (1001 : Int))).getD (↑g : Int).toNat default)) = true then decide ((l.getD ((cnL l (n.tmod
   (1001 : Int))).getD (↑g : Int).toNat default).toNat default).tk < 100000000 - (↑p : Int).tmod (500 : Int)) else false) && !hasI (List.map hdI (List.map encI (ansL l p))) ((cnL l (n.tmod (1001 : Int))).getD (↑g : Int).toNat
   default)) = true → ((!!hasI (List.map hdI (List.map encI (dueL l n p (100000000 : Int)))) ((cnL l (n.tmod (1001 : Int))).getD (↑g : Int).toNat default) == if (!hasI (List.map hdI (List.map encI (ansL l p))) ((cnL l (n.tmod (1001 :
   Int))).getD (↑g : Int).toNat default)) = true then decide ((l.getD ((cnL l (n.tmod (1001 : Int))).getD (↑g : Int).toNat default).toNat default).tk < 100000000 - (↑p : Int).tmod (500 : Int)) else false) && !hasI (List.map hdI
   (List.map encI (ansL l p))) ((cnL l (n.tmod (1001 : Int))).getD (↑g : Int).toNat default)) = true) ∧ (((!!hasI (List.map hdI (List.map encI (dueL l n p (100000000 : Int)))) ((cnL l (n.tmod (1001 : Int))).getD (↑g : Int).toNat
   default) == if (!hasI (List.map hdI (List.map encI (ansL l p))) ((cnL l (n.tmod (1001 : Int))).getD (↑g : Int).toNat default)) = true then decide ((l.getD ((cnL l (n.tmod (1001 : Int))).getD (↑g : Int).toNat default).toNat
   default).tk < 100000000 - (↑p : Int).tmod (500 : Int)) else false) && !hasI (List.map hdI (List.map encI (ansL l p))) ((cnL l (n.tmod (1001 : Int))).getD (↑g : Int).toNat default)) = true → ((!!hasI (List.map hdI (List.map encI
   (dueL l n p (100000000 : Int)))) ((cnL l (n.tmod (1001 : Int))).getD (↑g : Int).toNat default) == if (!hasI (List.map hdI (List.map encI (ansL l p))) ((cnL l (n.tmod (1001 : Int))).getD (↑g : Int).toNat default)) = true then decide
   ((l.getD ((cnL l (n.tmod (1001 : Int))).getD (↑g : Int).toNat default).toNat default).tk < 100000000 - (↑p : Int).tmod (500 : Int)) else false) && !hasI (List.map hdI (List.map encI (ansL l p))) ((cnL l (n.tmod (1001 : Int))).getD
   (↑g : Int).toNat default)) = true) ∧ (((!!hasI (List.map hdI (List.map encI (dueL l n p (100000000 : Int)))) ((cnL l (n.tmod (1001 : Int))).getD (↑g : Int).toNat default) == if (!hasI (List.map hdI (List.map encI (ansL l p))) ((cnL
   l (n.tmod (1001 : Int))).getD (↑g : Int).toNat default)) = true then decide ((l.getD ((cnL l (n.tmod (1001 : Int))).getD (↑g : Int).toNat default).toNat default).tk < 100000000 - (↑p : Int).tmod (500 : Int)) else false) && !hasI
   (List.map hdI (List.map encI (ansL l p))) ((cnL l (n.tmod (1001 : Int))).getD (↑g : Int).toNat default)) = true → ((!!hasI (List.map hdI (List.map encI (dueL l n p (100000000 : Int)))) ((cnL l (n.tmod (1001 : Int))).getD (↑g :
   Int).toNat default) == if (!hasI (List.map hdI (List.map encI (ansL l p))) ((cnL l (n.tmod (1001 : Int))).getD (↑g : Int).toNat default)) = true then decide ((l.getD ((cnL l (n.tmod (1001 : Int))).getD (↑g : Int).toNat
   default).toNat default).tk < 100000000 - (↑p : Int).tmod (500 : Int)) else false) && !hasI (List.map hdI (List.map encI (ansL l p))) ((cnL l (n.tmod (1001 : Int))).getD (↑g : Int).toNat default)) = true) ∧ (((!!hasI (List.map hdI
   (List.map encI (dueL l n p (100000000 : Int)))) ((cnL l (n.tmod (1001 : Int))).getD (↑g : Int).toNat default) == if (!hasI (List.map hdI (List.map encI (ansL l p))) ((cnL l (n.tmod (1001 : Int))).getD (↑g : Int).toNat default)) =
   true then decide ((l.getD ((cnL l (n.tmod (1001 : Int))).getD (↑g : Int).toNat default).toNat default).tk < 100000000 - (↑p : Int).tmod (500 : Int)) else false) && !hasI (List.map hdI (List.map encI (ansL l p))) ((cnL l (n.tmod
   (1001 : Int))).getD (↑g : Int).toNat default)) = true → In64 ((l.getD ((cnL l (n.tmod (1001 : Int))).getD (↑g : Int).toNat default).toNat default).tk + (↑p : Int).tmod (500 : Int))) ∧ (((!!hasI (List.map hdI (List.map encI (dueL l
   n p (100000000 : Int)))) ((cnL l (n.tmod (1001 : Int))).getD (↑g : Int).toNat default) == if (!hasI (List.map hdI (List.map encI (ansL l p))) ((cnL l (n.tmod (1001 : Int))).getD (↑g : Int).toNat default)) = true then decide
   ((l.getD ((cnL l (n.tmod (1001 : Int))).getD (↑g : Int).toNat default).toNat default).tk < 100000000 - (↑p : Int).tmod (500 : Int)) else false) && !hasI (List.map hdI (List.map encI (ansL l p))) ((cnL l (n.tmod (1001 : Int))).getD
   (↑g : Int).toNat default)) = true → ((!!hasI (List.map hdI (List.map encI (dueL l n p (100000000 : Int)))) ((cnL l (n.tmod (1001 : Int))).getD (↑g : Int).toNat default) == if (!hasI (List.map hdI (List.map encI (ansL l p))) ((cnL l
   (n.tmod (1001 : Int))).getD (↑g : Int).toNat default)) = true then decide ((l.getD ((cnL l (n.tmod (1001 : Int))).getD (↑g : Int).toNat default).toNat default).tk < 100000000 - (↑p : Int).tmod (500 : Int)) else false) && !hasI
   (List.map hdI (List.map encI (ansL l p))) ((cnL l (n.tmod (1001 : Int))).getD (↑g : Int).toNat default)) = true) ∧ (((!!hasI (List.map hdI (List.map encI (dueL l n p (100000000 : Int)))) ((cnL l (n.tmod (1001 : Int))).getD (↑g :
   Int).toNat default) == if (!hasI (List.map hdI (List.map encI (ansL l p))) ((cnL l (n.tmod (1001 : Int))).getD (↑g : Int).toNat default)) = true then decide ((l.getD ((cnL l (n.tmod (1001 : Int))).getD (↑g : Int).toNat
   default).toNat default).tk < 100000000 - (↑p : Int).tmod (500 : Int)) else false) && !hasI (List.map hdI (List.map encI (ansL l p))) ((cnL l (n.tmod (1001 : Int))).getD (↑g : Int).toNat default)) = true → ((!!hasI (List.map hdI
   (List.map encI (dueL l n p (100000000 : Int)))) ((cnL l (n.tmod (1001 : Int))).getD (↑g : Int).toNat default) == if (!hasI (List.map hdI (List.map encI (ansL l p))) ((cnL l (n.tmod (1001 : Int))).getD (↑g : Int).toNat default)) =
   true then decide ((l.getD ((cnL l (n.tmod (1001 : Int))).getD (↑g : Int).toNat default).toNat default).tk < 100000000 - (↑p : Int).tmod (500 : Int)) else false) && !hasI (List.map hdI (List.map encI (ansL l p))) ((cnL l (n.tmod
   (1001 : Int))).getD (↑g : Int).toNat default)) = true) ∧ ((!!hasI (List.map hdI (List.map encI (dueL l n p (100000000 : Int)))) ((cnL l (n.tmod (1001 : Int))).getD (↑g : Int).toNat default) == if (!hasI (List.map hdI (List.map encI
   (ansL l p))) ((cnL l (n.tmod (1001 : Int))).getD (↑g : Int).toNat default)) = true then decide ((l.getD ((cnL l (n.tmod (1001 : Int))).getD (↑g : Int).toNat default).toNat default).tk < 100000000 - (↑p : Int).tmod (500 : Int)) else
   false) = true → (!!hasI (List.map hdI (List.map encI (dueL l n p (100000000 : Int)))) ((cnL l (n.tmod (1001 : Int))).getD (↑g : Int).toNat default) == if (!hasI (List.map hdI (List.map encI (ansL l p))) ((cnL l (n.tmod (1001 :
   Int))).getD (↑g : Int).toNat default)) = true then decide ((l.getD ((cnL l (n.tmod (1001 : Int))).getD (↑g : Int).toNat default).toNat default).tk < 100000000 - (↑p : Int).tmod (500 : Int)) else false) = true) ∧ ((!!hasI (List.map
   hdI (List.map encI (dueL l n p (100000000 : Int)))) ((cnL l (n.tmod (1001 : Int))).getD (↑g : Int).toNat default) == if (!hasI (List.map hdI (List.map encI (ansL l p))) ((cnL l (n.tmod (1001 : Int))).getD (↑g : Int).toNat default))
   = true then decide ((l.getD ((cnL l (n.tmod (1001 : Int))).getD (↑g : Int).toNat default).toNat default).tk < 100000000 - (↑p : Int).tmod (500 : Int)) else false) = true → (!hasI (List.map hdI (List.map encI (ansL l p))) ((cnL l
   (n.tmod (1001 : Int))).getD (↑g : Int).toNat default)) = true → ((!!hasI (List.map hdI (List.map encI (dueL l n p (100000000 : Int)))) ((cnL l (n.tmod (1001 : Int))).getD (↑g : Int).toNat default) == if (!hasI (List.map hdI
   (List.map encI (ansL l p))) ((cnL l (n.tmod (1001 : Int))).getD (↑g : Int).toNat default)) = true then decide ((l.getD ((cnL l (n.tmod (1001 : Int))).getD (↑g : Int).toNat default).toNat default).tk < 100000000 - (↑p : Int).tmod
   (500 : Int)) else false) && !hasI (List.map hdI (List.map encI (ansL l p))) ((cnL l (n.tmod (1001 : Int))).getD (↑g : Int).toNat default)) = true) ∧ ((!!hasI (List.map hdI (List.map encI (dueL l n p (100000000 : Int)))) ((cnL l
   (n.tmod (1001 : Int))).getD (↑g : Int).toNat default) == if (!hasI (List.map hdI (List.map encI (ansL l p))) ((cnL l (n.tmod (1001 : Int))).getD (↑g : Int).toNat default)) = true then decide ((l.getD ((cnL l (n.tmod (1001 :
   Int))).getD (↑g : Int).toNat default).toNat default).tk < 100000000 - (↑p : Int).tmod (500 : Int)) else false) = true → (!!hasI (List.map hdI (List.map encI (dueL l n p (100000000 : Int)))) ((cnL l (n.tmod (1001 : Int))).getD (↑g :
   Int).toNat default) == if (!hasI (List.map hdI (List.map encI (ansL l p))) ((cnL l (n.tmod (1001 : Int))).getD (↑g : Int).toNat default)) = true then decide ((l.getD ((cnL l (n.tmod (1001 : Int))).getD (↑g : Int).toNat
   default).toNat default).tk < 100000000 - (↑p : Int).tmod (500 : Int)) else false) = true) ∧ ((!!hasI (List.map hdI (List.map encI (dueL l n p (100000000 : Int)))) ((cnL l (n.tmod (1001 : Int))).getD (↑g : Int).toNat default) == if
   (!hasI (List.map hdI (List.map encI (ansL l p))) ((cnL l (n.tmod (1001 : Int))).getD (↑g : Int).toNat default)) = true then decide ((l.getD ((cnL l (n.tmod (1001 : Int))).getD (↑g : Int).toNat default).toNat default).tk < 100000000
   - (↑p : Int).tmod (500 : Int)) else false) = true → (!!hasI (List.map hdI (List.map encI (dueL l n p (100000000 : Int)))) ((cnL l (n.tmod (1001 : Int))).getD (↑g : Int).toNat default) == if (!hasI (List.map hdI (List.map encI (ansL
   l p))) ((cnL l (n.tmod (1001 : Int))).getD (↑g : Int).toNat default)) = true then decide ((l.getD ((cnL l (n.tmod (1001 : Int))).getD (↑g : Int).toNat default).toNat default).tk < 100000000 - (↑p : Int).tmod (500 : Int)) else
   false) = true) ∧ ((!hasI (List.map hdI (List.map encI (dueL l n p (100000000 : Int)))) ((cnL l (n.tmod (1001 : Int))).getD (↑g : Int).toNat default) == if (!hasI (List.map hdI (List.map encI (ansL l p))) ((cnL l (n.tmod (1001 :
   Int))).getD (↑g : Int).toNat default)) = true then decide ((l.getD ((cnL l (n.tmod (1001 : Int))).getD (↑g : Int).toNat default).toNat default).tk < 100000000 - (↑p : Int).tmod (500 : Int)) else false) = false → (!!hasI (List.map
   hdI (List.map encI (dueL l n p (100000000 : Int)))) ((cnL l (n.tmod (1001 : Int))).getD (↑g : Int).toNat default) == if (!hasI (List.map hdI (List.map encI (ansL l p))) ((cnL l (n.tmod (1001 : Int))).getD (↑g : Int).toNat default))
   = true then decide ((l.getD ((cnL l (n.tmod (1001 : Int))).getD (↑g : Int).toNat default).toNat default).tk < 100000000 - (↑p : Int).tmod (500 : Int)) else false) = true) ∧ PCall Tryz.prog G0 90 [AV.sl 1 (List.map encI (dueL l n p
   (100000000 : Int))), AV.i ((cnL l (n.tmod (1001 : Int))).getD (↑g : Int).toNat default)] (AV.bool (hasI (List.map hdI (List.map encI (dueL l n p (100000000 : Int)))) ((cnL l (n.tmod (1001 : Int))).getD (↑g : Int).toNat default))) ∧
   PCall Tryz.prog G0 90 [AV.sl 1 (List.map encI (ansL l p)), AV.i ((cnL l (n.tmod (1001 : Int))).getD (↑g : Int).toNat default)] (AV.bool (hasI (List.map hdI (List.map encI (ansL l p))) ((cnL l (n.tmod (1001 : Int))).getD (↑g :
   Int).toNat default))) ∧ impB (!hasI (List.map hdI (List.map encI (ansL l p))) ((cnL l (n.tmod (1001 : Int))).getD (↑g : Int).toNat default)) (nth (nthR (List.map encCp l) ((cnL l (n.tmod (1001 : Int))).getD (↑g : Int).toNat
   default).toNat) 1 = AV.i (l.getD ((cnL l (n.tmod (1001 : Int))).getD (↑g : Int).toNat default).toNat default).tk) ∧ impB (!!hasI (List.map hdI (List.map encI (dueL l n p (100000000 : Int)))) ((cnL l (n.tmod (1001 : Int))).getD (↑g
   : Int).toNat default) == if (!hasI (List.map hdI (List.map encI (ansL l p))) ((cnL l (n.tmod (1001 : Int))).getD (↑g : Int).toNat default)) = true then decide ((l.getD ((cnL l (n.tmod (1001 : Int))).getD (↑g : Int).toNat
   default).toNat default).tk < 100000000 - (↑p : Int).tmod (500 : Int)) else false) (PCall Tryz.prog G0 90 [AV.sl 1 (List.map encI (dueL l n p q)), AV.i ((cnL l (n.tmod (1001 : Int))).getD (↑g : Int).toNat default)] (AV.bool (hasI
   (List.map hdI (List.map encI (dueL l n p q))) ((cnL l (n.tmod (1001 : Int))).getD (↑g : Int).toNat default)))) ∧ impB (!!hasI (List.map hdI (List.map encI (dueL l n p (100000000 : Int)))) ((cnL l (n.tmod (1001 : Int))).getD (↑g :
   Int).toNat default) == if (!hasI (List.map hdI (List.map encI (ansL l p))) ((cnL l (n.tmod (1001 : Int))).getD (↑g : Int).toNat default)) = true then decide ((l.getD ((cnL l (n.tmod (1001 : Int))).getD (↑g : Int).toNat
   default).toNat default).tk < 100000000 - (↑p : Int).tmod (500 : Int)) else false) (PCall Tryz.prog G0 90 [AV.sl 1 (List.map encI (ansL l p)), AV.i ((cnL l (n.tmod (1001 : Int))).getD (↑g : Int).toNat default)] (AV.bool (hasI
   (List.map hdI (List.map encI (ansL l p))) ((cnL l (n.tmod (1001 : Int))).getD (↑g : Int).toNat default)))) ∧ impB ((!!hasI (List.map hdI (List.map encI (dueL l n p (100000000 : Int)))) ((cnL l (n.tmod (1001 : Int))).getD (↑g :
   Int).toNat default) == if (!hasI (List.map hdI (List.map encI (ansL l p))) ((cnL l (n.tmod (1001 : Int))).getD (↑g : Int).toNat default)) = true then decide ((l.getD ((cnL l (n.tmod (1001 : Int))).getD (↑g : Int).toNat
   default).toNat default).tk < 100000000 - (↑p : Int).tmod (500 : Int)) else false) && !hasI (List.map hdI (List.map encI (ansL l p))) ((cnL l (n.tmod (1001 : Int))).getD (↑g : Int).toNat default)) (nth (nthR (List.map encCp l) ((cnL
   l (n.tmod (1001 : Int))).getD (↑g : Int).toNat default).toNat) 1 = AV.i (l.getD ((cnL l (n.tmod (1001 : Int))).getD (↑g : Int).toNat default).toNat default).tk) ∧ AS.mk [(0, AV.sl 2 (List.map encCp l)), (2, AV.sl 1 (List.map encU
   xs)), (10, AV.sl 1 (List.map encI (cnL l (n.tmod (1001 : Int))))), (24, AV.sl 1 (List.map encI (ansL l p))), (26, AV.i q), (27, AV.i ((↑p : Int).tmod (500 : Int))), (28, AV.sl 1 (List.map encI (dueL l n p q))), (30, AV.sl 1
   (List.map encI (dueL l n p (100000000 : Int)))), (248, AV.sl 1 (List.map encI (cnL l (n.tmod (1001 : Int))))), (249, AV.i (↑(List.map encI (cnL l (n.tmod (1001 : Int)))).length : Int)), (250, AV.i (↑g : Int)), (292, AV.bool (if
   (!hasI (List.map hdI (List.map encI (dueL l n p (100000000 : Int)))) ((cnL l (n.tmod (1001 : Int))).getD (↑g : Int).toNat default) == if (!hasI (List.map hdI (List.map encI (ansL l p))) ((cnL l (n.tmod (1001 : Int))).getD (↑g :
   Int).toNat default)) = true then decide ((l.getD ((cnL l (n.tmod (1001 : Int))).getD (↑g : Int).toNat default).toNat default).tk < 100000000 - (↑p : Int).tmod (500 : Int)) else false) = true then true else !hasI (List.map hdI
   (List.map encI (dueL l n p q))) ((cnL l (n.tmod (1001 : Int))).getD (↑g : Int).toNat default) == if (!hasI (List.map hdI (List.map encI (ansL l p))) ((cnL l (n.tmod (1001 : Int))).getD (↑g : Int).toNat default)) = true then decide
   ((l.getD ((cnL l (n.tmod (1001 : Int))).getD (↑g : Int).toNat default).toNat default).tk + (↑p : Int).tmod (500 : Int) < q) else false))] [] 1 = AS.mk [(0, AV.sl 2 (List.map encCp l)), (2, AV.sl 1 (List.map encU xs)), (10, AV.sl 1
   (List.map encI (cnL l (n.tmod (1001 : Int))))), (24, AV.sl 1 (List.map encI (ansL l p))), (26, AV.i q), (27, AV.i ((↑p : Int).tmod (500 : Int))), (28, AV.sl 1 (List.map encI (dueL l n p q))), (30, AV.sl 1 (List.map encI (dueL l n p
   (100000000 : Int)))), (248, AV.sl 1 (List.map encI (cnL l (n.tmod (1001 : Int))))), (249, AV.i (↑(List.map encI (cnL l (n.tmod (1001 : Int)))).length : Int)), (250, AV.i (↑g : Int)), (292, AV.bool false)] [] 1) ∧ In64 ((↑g : Int) +
   1) ∧ ∃ (g' : Nat), g' ≤ (cnL l (n.tmod (1001 : Int))).length ∧ (cnL l (n.tmod (1001 : Int))).length - g' < (cnL l (n.tmod (1001 : Int))).length - g ∧ AS.mk [(0, AV.sl 2 (List.map encCp l)), (2, AV.sl 1 (List.map encU xs)), (10,
   AV.sl 1 (List.map encI (cnL l (n.tmod (1001 : Int))))), (24, AV.sl 1 (List.map encI (ansL l p))), (26, AV.i q), (27, AV.i ((↑p : Int).tmod (500 : Int))), (28, AV.sl 1 (List.map encI (dueL l n p q))), (30, AV.sl 1 (List.map encI
   (dueL l n p (100000000 : Int)))), (248, AV.sl 1 (List.map encI (cnL l (n.tmod (1001 : Int))))), (249, AV.i (↑(List.map encI (cnL l (n.tmod (1001 : Int)))).length : Int)), (250, AV.i ((↑g : Int) + 1))] [] 1 = AS.mk [(0, AV.sl 2
   (List.map encCp l)), (2, AV.sl 1 (List.map encU xs)), (10, AV.sl 1 (List.map encI (cnL l (n.tmod (1001 : Int))))), (24, AV.sl 1 (List.map encI (ansL l p))), (26, AV.i q), (27, AV.i ((↑p : Int).tmod (500 : Int))), (28, AV.sl 1
   (List.map encI (dueL l n p q))), (30, AV.sl 1 (List.map encI (dueL l n p (100000000 : Int)))), (248, AV.sl 1 (List.map encI (cnL l (n.tmod (1001 : Int))))), (249, AV.i (↑(List.map encI (cnL l (n.tmod (1001 : Int)))).length : Int)),
   (250, AV.i (↑g' : Int))] [] 1) ∧ (decide ((↑g : Int) < (↑(List.map encI (cnL l (n.tmod (1001 : Int)))).length : Int)) = false → AS.mk [(0, AV.sl 2 (List.map encCp l)), (2, AV.sl 1 (List.map encU xs)), (10, AV.sl 1 (List.map encI
   (cnL l (n.tmod (1001 : Int))))), (24, AV.sl 1 (List.map encI (ansL l p))), (26, AV.i q), (27, AV.i ((↑p : Int).tmod (500 : Int))), (28, AV.sl 1 (List.map encI (dueL l n p q))), (30, AV.sl 1 (List.map encI (dueL l n p (100000000 :
   Int))))] [] 1 = AS.mk [(0, AV.sl 2 (List.map encCp l)), (2, AV.sl 1 (List.map encU xs)), (10, AV.sl 1 (List.map encI (cnL l (n.tmod (1001 : Int))))), (24, AV.sl 1 (List.map encI (ansL l p))), (26, AV.i q), (27, AV.i ((↑p :
   Int).tmod (500 : Int))), (28, AV.sl 1 (List.map encI (dueL l n p q))), (30, AV.sl 1 (List.map encI (dueL l n p (100000000 : Int))))] [] 1 ∧ K12 l xs)) ∧ (K12 l xs → ((∃ (g : Nat), g ≤ (dueL l n p q).length ∧ AS.mk [(0, AV.sl 2
   (List.map encCp l)), (2, AV.sl 1 (List.map encU xs)), (10, AV.sl 1 (List.map encI (cnL l (n.tmod (1001 : Int))))), (24, AV.sl 1 (List.map encI (ansL l p))), (26, AV.i q), (27, AV.i ((↑p : Int).tmod (500 : Int))), (28, AV.sl 1
   (List.map encI (dueL l n p q))), (30, AV.sl 1 (List.map encI (dueL l n p (100000000 : Int)))), (294, AV.sl 1 (List.map encI (dueL l n p q))), (295, AV.i (↑(List.map encI (dueL l n p q)).length : Int)), (296, AV.i 0)] [] 1 = AS.mk
   [(0, AV.sl 2 (List.map encCp l)), (2, AV.sl 1 (List.map encU xs)), (10, AV.sl 1 (List.map encI (cnL l (n.tmod (1001 : Int))))), (24, AV.sl 1 (List.map encI (ansL l p))), (26, AV.i q), (27, AV.i ((↑p : Int).tmod (500 : Int))), (28,
   AV.sl 1 (List.map encI (dueL l n p q))), (30, AV.sl 1 (List.map encI (dueL l n p (100000000 : Int)))), (294, AV.sl 1 (List.map encI (dueL l n p q))), (295, AV.i (↑(List.map encI (dueL l n p q)).length : Int)), (296, AV.i (↑g :
   Int))] [] 1) ∧ ∀ (g : Nat), g ≤ (dueL l n p q).length → (decide ((↑g : Int) < (↑(List.map encI (dueL l n p q)).length : Int)) = true → (0 : Int) ≤ (↑g : Int) ∧ (↑g : Int) < (↑(List.map encI (dueL l n p q)).length : Int) ∧ nth (nthR
   (List.map encI (dueL l n p q)) (↑g : Int).toNat) 0 = AV.i ((dueL l n p q).getD (↑g : Int).toNat default) ∧ (((!!hasI (List.map hdI (List.map encI (cnL l (n.tmod (1001 : Int))))) ((dueL l n p q).getD (↑g : Int).toNat default)) =
   true → (!!hasI (List.map hdI (List.map encI (cnL l (n.tmod (1001 : Int))))) ((dueL l n p q).getD (↑g : Int).toNat default)) = true) ∧ ((!!hasI (List.map hdI (List.map encI (cnL l (n.tmod (1001 : Int))))) ((dueL l n p q).getD (↑g :
   Int).toNat default)) = true → (!!hasI (List.map hdI (List.map encI (cnL l (n.tmod (1001 : Int))))) ((dueL l n p q).getD (↑g : Int).toNat default)) = true) ∧ ((!!hasI (List.map hdI (List.map encI (cnL l (n.tmod (1001 : Int)))))
   ((dueL l n p q).getD (↑g : Int).toNat default)) = true → (!!hasI (List.map hdI (List.map encI (cnL l (n.tmod (1001 : Int))))) ((dueL l n p q).getD (↑g : Int).toNat default)) = true) ∧ ((!hasI (List.map hdI (List.map encI (cnL l
   (n.tmod (1001 : Int))))) ((dueL l n p q).getD (↑g : Int).toNat default)) = false → (!!hasI (List.map hdI (List.map encI (cnL l (n.tmod (1001 : Int))))) ((dueL l n p q).getD (↑g : Int).toNat default)) = true) ∧ PCall Tryz.prog G0 90
   [AV.sl 1 (List.map encI (cnL l (n.tmod (1001 : Int)))), AV.i ((dueL l n p q).getD (↑g : Int).toNat default)] (AV.bool (hasI (List.map hdI (List.map encI (cnL l (n.tmod (1001 : Int))))) ((dueL l n p q).getD (↑g : Int).toNat
   default))) ∧ impB (!!hasI (List.map hdI (List.map encI (cnL l (n.tmod (1001 : Int))))) ((dueL l n p q).getD (↑g : Int).toNat default)) (PCall Tryz.prog G0 90 [AV.sl 1 (List.map encI (dueL l n p (100000000 : Int))), AV.i ((dueL l n
   p q).getD (↑g : Int).toNat default)] (AV.bool (hasI (List.map hdI (List.map encI (dueL l n p (100000000 : Int)))) ((dueL l n p q).getD (↑g : Int).toNat default)))) ∧ AS.mk [(0, AV.sl 2 (List.map encCp l)), (2, AV.sl 1 (List.map
   encU xs)), (10, AV.sl 1 (List.map encI (cnL l (n.tmod (1001 : Int))))), (24, AV.sl 1 (List.map encI (ansL l p))), (26, AV.i q), (27, AV.i ((↑p : Int).tmod (500 : Int))), (28, AV.sl 1 (List.map encI (dueL l n p q))), (30, AV.sl 1
   (List.map encI (dueL l n p (100000000 : Int)))), (294, AV.sl 1 (List.map encI (dueL l n p q))), (295, AV.i (↑(List.map encI (dueL l n p q)).length : Int)), (296, AV.i (↑g : Int)), (309, AV.bool (if (!hasI (List.map hdI (List.map
   encI (cnL l (n.tmod (1001 : Int))))) ((dueL l n p q).getD (↑g : Int).toNat default)) = true then true else !hasI (List.map hdI (List.map encI (dueL l n p (100000000 : Int)))) ((dueL l n p q).getD (↑g : Int).toNat default)))] [] 1 =
   AS.mk [(0, AV.sl 2 (List.map encCp l)), (2, AV.sl 1 (List.map encU xs)), (10, AV.sl 1 (List.map encI (cnL l (n.tmod (1001 : Int))))), (24, AV.sl 1 (List.map encI (ansL l p))), (26, AV.i q), (27, AV.i ((↑p : Int).tmod (500 : Int))),
   (28, AV.sl 1 (List.map encI (dueL l n p q))), (30, AV.sl 1 (List.map encI (dueL l n p (100000000 : Int)))), (294, AV.sl 1 (List.map encI (dueL l n p q))), (295, AV.i (↑(List.map encI (dueL l n p q)).length : Int)), (296, AV.i (↑g :
   Int)), (309, AV.bool false)] [] 1) ∧ In64 ((↑g : Int) + 1) ∧ ∃ (g' : Nat), g' ≤ (dueL l n p q).length ∧ (dueL l n p q).length - g' < (dueL l n p q).length - g ∧ AS.mk [(0, AV.sl 2 (List.map encCp l)), (2, AV.sl 1 (List.map encU
   xs)), (10, AV.sl 1 (List.map encI (cnL l (n.tmod (1001 : Int))))), (24, AV.sl 1 (List.map encI (ansL l p))), (26, AV.i q), (27, AV.i ((↑p : Int).tmod (500 : Int))), (28, AV.sl 1 (List.map encI (dueL l n p q))), (30, AV.sl 1
   (List.map encI (dueL l n p (100000000 : Int)))), (294, AV.sl 1 (List.map encI (dueL l n p q))), (295, AV.i (↑(List.map encI (dueL l n p q)).length : Int)), (296, AV.i ((↑g : Int) + 1))] [] 1 = AS.mk [(0, AV.sl 2 (List.map encCp
   l)), (2, AV.sl 1 (List.map encU xs)), (10, AV.sl 1 (List.map encI (cnL l (n.tmod (1001 : Int))))), (24, AV.sl 1 (List.map encI (ansL l p))), (26, AV.i q), (27, AV.i ((↑p : Int).tmod (500 : Int))), (28, AV.sl 1 (List.map encI (dueL
   l n p q))), (30, AV.sl 1 (List.map encI (dueL l n p (100000000 : Int)))), (294, AV.sl 1 (List.map encI (dueL l n p q))), (295, AV.i (↑(List.map encI (dueL l n p q)).length : Int)), (296, AV.i (↑g' : Int))] [] 1) ∧ (decide ((↑g :
   Int) < (↑(List.map encI (dueL l n p q)).length : Int)) = false → AS.mk [(2, AV.sl 1 (List.map encU xs))] [] 1 = AS.mk [(2, AV.sl 1 (List.map encU xs))] [] 1 ∧ K12 l xs)) ∧ (K12 l xs → ((∃ (g : Nat), g ≤ xs.length ∧ AS.mk [(2, AV.sl
   1 (List.map encU xs)), (36, AV.own 1 0), (37, AV.i 0), (311, AV.sl 1 (List.map encU xs)), (312, AV.i (↑(List.map encU xs).length : Int)), (313, AV.i 0)] [(1, ABlk.buf 115 3 [])] 2 = AS.mk [(2, AV.sl 1 (List.map encU xs)), (36,
   AV.own 1 (List.map encEn (List.map inE (List.take g xs))).length), (37, AV.i (sumA xs g)), (311, AV.sl 1 (List.map encU xs)), (312, AV.i (↑(List.map encU xs).length : Int)), (313, AV.i (↑g : Int))] [(1, ABlk.buf 115 3 (List.map
   encEn (List.map inE (List.take g xs))))] 2) ∧ ∀ (g : Nat), g ≤ xs.length → (decide ((↑g : Int) < (↑(List.map encU xs).length : Int)) = true → (0 : Int) ≤ (↑g : Int) ∧ (↑g : Int) < (↑(List.map encU xs).length : Int) ∧ nth (nthR
   (List.map encU xs) (↑g : Int).toNat) 0 = AV.int IntKind.u16 (xs.getD (↑g : Int).toNat default) ∧ In64 ((1 : Int) + IntKind.i64.wrap (xs.getD (↑g : Int).toNat default)) ∧ (List.map encEn (List.map inE (List.take g xs))).length + 1 ≤
   9223372036854775807 ∧ ((List.map encEn (List.map inE (List.take g xs))).length + 1) * 32 ≤ 140737488355328 ∧ In64 (sumA xs g + 1) ∧ In64 (sumA xs g + 1 + IntKind.i64.wrap (xs.getD (↑g : Int).toNat default)) ∧ In64 ((↑g : Int) + 1)
   ∧ ∃ (g' : Nat), g' ≤ xs.length ∧ xs.length - g' < xs.length - g ∧ AS.mk [(2, AV.sl 1 (List.map encU xs)), (36, AV.own 1 ((List.map encEn (List.map inE (List.take g xs))).length + 1)), (37, AV.i (sumA xs g + 1 + IntKind.i64.wrap
   (xs.getD (↑g : Int).toNat default))), (311, AV.sl 1 (List.map encU xs)), (312, AV.i (↑(List.map encU xs).length : Int)), (313, AV.i ((↑g : Int) + 1))] [(1, ABlk.buf 115 3 (List.map encEn (List.map inE (List.take g xs)) ++ [[AV.bool
   true, AV.str [], AV.i ((1 : Int) + IntKind.i64.wrap (xs.getD (↑g : Int).toNat default))]]))] 2 = AS.mk [(2, AV.sl 1 (List.map encU xs)), (36, AV.own 1 (List.map encEn (List.map inE (List.take g' xs))).length), (37, AV.i (sumA xs
   g')), (311, AV.sl 1 (List.map encU xs)), (312, AV.i (↑(List.map encU xs).length : Int)), (313, AV.i (↑g' : Int))] [(1, ABlk.buf 115 3 (List.map encEn (List.map inE (List.take g' xs))))] 2) ∧ (decide ((↑g : Int) < (↑(List.map encU
   xs).length : Int)) = false → AS.mk [(2, AV.sl 1 (List.map encU xs)), (36, AV.own 1 (List.map encEn (List.map inE (List.take g xs))).length), (37, AV.i (sumA xs g))] [(1, ABlk.buf 115 3 (List.map encEn (List.map inE (List.take g
   xs))))] 2 = AS.mk [(2, AV.sl 1 (List.map encU xs)), (36, AV.own 1 (List.map encEn (fdL xs 0)).length), (37, AV.i (sumA xs xs.length))] [(1, ABlk.buf 115 3 (List.map encEn (fdL xs 0)))] 2 ∧ K12 l xs)) ∧ (K12 l xs → (List.map encEn
   (fdL xs 0)).length = (List.map encEn (fdL xs 0)).length ∧ WCall Tryz.prog G0 69 [AV.own 1 (List.map encEn (fdL xs 0)).length] [ABlk.buf 115 3 (List.map encEn (fdL xs 0))] (AV.sl 3 (List.map encEn (fdL xs 0))) [ABlk.buf 115 3
   (List.map encEn (fdL xs 0))] ∧ PCall Tryz.prog G0 68 [AV.sl 3 (List.map encEn (fdL xs 0))] (AV.tup [AV.i (baV (List.map decEn (List.map encEn (fdL xs 0)))), AV.i (baE (List.map decEn (List.map encEn (fdL xs 0))))]) ∧ (((!baE
   (List.map decEn (List.map encEn (fdL xs 0))) != 0) = true → (!baE (List.map decEn (List.map encEn (fdL xs 0))) != 0) = true) ∧ ((!baE (List.map decEn (List.map encEn (fdL xs 0))) != 0) = true → (!baE (List.map decEn (List.map encEn
   (fdL xs 0))) != 0) = true) ∧ ((baE (List.map decEn (List.map encEn (fdL xs 0))) != 0) = false → (!baE (List.map decEn (List.map encEn (fdL xs 0))) != 0) = true) ∧ AS.mk [(2, AV.sl 1 (List.map encU xs)), (36, AV.own 1 (List.map
   encEn (fdL xs 0)).length), (37, AV.i (sumA xs xs.length)), (342, AV.bool (if (baE (List.map decEn (List.map encEn (fdL xs 0))) != 0) = true then true else baV (List.map decEn (List.map encEn (fdL xs 0))) != sumA xs xs.length))]
   [(1, ABlk.buf 115 3 (List.map encEn (fdL xs 0)))] 2 = AS.mk [(2, AV.sl 1 (List.map encU xs)), (36, AV.own 1 (List.map encEn (fdL xs 0)).length), (37, AV.i (sumA xs xs.length)), (342, AV.bool false)] [(1, ABlk.buf 115 3 (List.map
   encEn (fdL xs 0)))] 2) ∧ (AS.mk [(2, AV.sl 1 (List.map encU xs)), (36, AV.own 1 (List.map encEn (fdL xs 0)).length), (37, AV.i (sumA xs xs.length))] [(1, ABlk.buf 115 3 (List.map encEn (fdL xs 0)))] 2 = AS.mk [(2, AV.sl 1 (List.map
   encU xs)), (36, AV.own 1 (List.map encEn (fdL xs 0)).length), (37, AV.i (sumA xs xs.length))] [(1, ABlk.buf 115 3 (List.map encEn (fdL xs 0)))] 2 ∧ K12 l xs) ∧ (K12 l xs → (∃ (g : Nat), (g ≤ xs.length ∧ ∀ (j : Nat), j < g → (1 :
   Int) + xs.getD j default * 2 ≤ rmA xs j) ∧ AS.mk [(2, AV.sl 1 (List.map encU xs)), (36, AV.own 1 (List.map encEn (fdL xs 0)).length), (37, AV.i (sumA xs xs.length)), (343, AV.sl 1 (List.map encU xs)), (344, AV.i (↑(List.map encU
   xs).length : Int)), (345, AV.i 0)] [(1, ABlk.buf 115 3 (List.map encEn (fdL xs 0)))] 2 = AS.mk [(2, AV.sl 1 (List.map encU xs)), (36, AV.own 1 (List.map encEn (fdL xs g)).length), (37, AV.i (rmA xs g)), (343, AV.sl 1 (List.map encU
   xs)), (344, AV.i (↑(List.map encU xs).length : Int)), (345, AV.i (↑g : Int))] [(1, ABlk.buf 115 3 (List.map encEn (fdL xs g)))] 2) ∧ ∀ (g : Nat), (g ≤ xs.length ∧ ∀ (j : Nat), j < g → (1 : Int) + xs.getD j default * 2 ≤ rmA xs j) →
   (decide ((↑g : Int) < (↑(List.map encU xs).length : Int)) = true → (0 : Int) ≤ (↑g : Int) ∧ (↑g : Int) < (↑(List.map encU xs).length : Int) ∧ nth (nthR (List.map encU xs) (↑g : Int).toNat) 0 = AV.int IntKind.u16 (xs.getD (↑g :
   Int).toNat default) ∧ In64 (IntKind.i64.wrap (xs.getD (↑g : Int).toNat default) * 2) ∧ In64 ((1 : Int) + IntKind.i64.wrap (xs.getD (↑g : Int).toNat default) * 2) ∧ (1 + (Lib.decDigits (↑g : Int).toNat).length ≤ 9223372036854775807
   ∧ (List.map encEn (fdL xs g)).length + 1 ≤ 9223372036854775807 ∧ ((List.map encEn (fdL xs g)).length + 1) * 32 ≤ 140737488355328 ∧ PCall Tryz.prog G0 91 [AV.i (↑g : Int)] (AV.str (Lib.decDigits (↑g : Int).toNat)) ∧ AS.mk [(2, AV.sl
   1 (List.map encU xs)), (37, AV.i (rmA xs g)), (44, AV.i ((1 : Int) + IntKind.i64.wrap (xs.getD (↑g : Int).toNat default) * 2)), (343, AV.sl 1 (List.map encU xs)), (344, AV.i (↑(List.map encU xs).length : Int)), (345, AV.i (↑g :
   Int)), (36, AV.own 1 ((List.map encEn (fdL xs g)).length + 1))] [(1, ABlk.buf 115 3 (List.map encEn (fdL xs g) ++ [[AV.bool false, AV.str ((104 : UInt8) :: List.append._f [] PUnit.unit (Lib.decDigits (↑g : Int).toNat)), AV.i ((1 :
   Int) + IntKind.i64.wrap (xs.getD (↑g : Int).toNat default) * 2)]]))] 2 = AS.mk [(2, AV.sl 1 (List.map encU xs)), (37, AV.i (rmA xs g)), (44, AV.i ((1 : Int) + IntKind.i64.wrap (xs.getD (↑g : Int).toNat default) * 2)), (343, AV.sl 1
   (List.map encU xs)), (344, AV.i (↑(List.map encU xs).length : Int)), (345, AV.i (↑g : Int)), (36, AV.own 1 (List.map encEn (fdL xs ((↑g : Int).toNat + 1))).length)] [(1, ABlk.buf 115 3 (List.map encEn (fdL xs ((↑g : Int).toNat +
   1))))] 2) ∧ (List.map encEn (fdL xs ((↑g : Int).toNat + 1))).length = (List.map encEn (fdL xs ((↑g : Int).toNat + 1))).length ∧ WCall Tryz.prog G0 69 [AV.own 1 (List.map encEn (fdL xs ((↑g : Int).toNat + 1))).length] [ABlk.buf 115
   3 (List.map encEn (fdL xs ((↑g : Int).toNat + 1)))] (AV.sl 3 (List.map encEn (fdL xs ((↑g : Int).toNat + 1)))) [ABlk.buf 115 3 (List.map encEn (fdL xs ((↑g : Int).toNat + 1)))] ∧ PCall Tryz.prog G0 68 [AV.sl 3 (List.map encEn (fdL
   xs ((↑g : Int).toNat + 1)))] (AV.tup [AV.i (baV (List.map decEn (List.map encEn (fdL xs ((↑g : Int).toNat + 1))))), AV.i (baE (List.map decEn (List.map encEn (fdL xs ((↑g : Int).toNat + 1)))))]) ∧ (decide ((1 : Int) +
   IntKind.i64.wrap (xs.getD (↑g : Int).toNat default) * 2 > rmA xs g) = true → (((!baE (List.map decEn (List.map encEn (fdL xs ((↑g : Int).toNat + 1)))) != 23) = true → (!baE (List.map decEn (List.map encEn (fdL xs ((↑g : Int).toNat
   + 1)))) != 23) = true) ∧ ((baE (List.map decEn (List.map encEn (fdL xs ((↑g : Int).toNat + 1)))) != 23) = false → (!baE (List.map decEn (List.map encEn (fdL xs ((↑g : Int).toNat + 1)))) != 23) = true) ∧ AS.mk [(376, AV.bool (if
   (baE (List.map decEn (List.map encEn (fdL xs ((↑g : Int).toNat + 1)))) != 23) = true then true else baV (List.map decEn (List.map encEn (fdL xs ((↑g : Int).toNat + 1)))) != 0))] [] 1 = AS.mk [(376, AV.bool false)] [] 1) ∧ PCall
   Tryz.prog G0 16 [] (AV.bool true) ∧ AV.bool true = AV.bool true) ∧ (decide ((1 : Int) + IntKind.i64.wrap (xs.getD (↑g : Int).toNat default) * 2 > rmA xs g) = false → In64 (rmA xs g - ((1 : Int) + IntKind.i64.wrap (xs.getD (↑g :
   Int).toNat default) * 2)) ∧ (((!baE (List.map decEn (List.map encEn (fdL xs ((↑g : Int).toNat + 1)))) != 0) = true → (!baE (List.map decEn (List.map encEn (fdL xs ((↑g : Int).toNat + 1)))) != 0) = true) ∧ ((!baE (List.map decEn
   (List.map encEn (fdL xs ((↑g : Int).toNat + 1)))) != 0) = true → (!baE (List.map decEn (List.map encEn (fdL xs ((↑g : Int).toNat + 1)))) != 0) = true) ∧ ((baE (List.map decEn (List.map encEn (fdL xs ((↑g : Int).toNat + 1)))) != 0)
   = false → (!baE (List.map decEn (List.map encEn (fdL xs ((↑g : Int).toNat + 1)))) != 0) = true) ∧ AS.mk [(2, AV.sl 1 (List.map encU xs)), (36, AV.own 1 (List.map encEn (fdL xs ((↑g : Int).toNat + 1))).length), (37, AV.i (rmA xs g -
   ((1 : Int) + IntKind.i64.wrap (xs.getD (↑g : Int).toNat default) * 2))), (343, AV.sl 1 (List.map encU xs)), (344, AV.i (↑(List.map encU xs).length : Int)), (345, AV.i (↑g : Int)), (386, AV.bool (if (baE (List.map decEn (List.map
   encEn (fdL xs ((↑g : Int).toNat + 1)))) != 0) = true then true else baV (List.map decEn (List.map encEn (fdL xs ((↑g : Int).toNat + 1)))) != rmA xs g - ((1 : Int) + IntKind.i64.wrap (xs.getD (↑g : Int).toNat default) * 2)))] [(1,
   ABlk.buf 115 3 (List.map encEn (fdL xs ((↑g : Int).toNat + 1))))] 2 = AS.mk [(2, AV.sl 1 (List.map encU xs)), (36, AV.own 1 (List.map encEn (fdL xs ((↑g : Int).toNat + 1))).length), (37, AV.i (rmA xs g - ((1 : Int) +
   IntKind.i64.wrap (xs.getD (↑g : Int).toNat default) * 2))), (343, AV.sl 1 (List.map encU xs)), (344, AV.i (↑(List.map encU xs).length : Int)), (345, AV.i (↑g : Int)), (386, AV.bool false)] [(1, ABlk.buf 115 3 (List.map encEn (fdL
   xs ((↑g : Int).toNat + 1))))] 2) ∧ In64 ((↑g : Int) + 1) ∧ ∃ (g' : Nat), (g' ≤ xs.length ∧ ∀ (j : Nat), j < g' → (1 : Int) + xs.getD j default * 2 ≤ rmA xs j) ∧ xs.length - g' < xs.length - g ∧ AS.mk [(2, AV.sl 1 (List.map encU
   xs)), (36, AV.own 1 (List.map encEn (fdL xs ((↑g : Int).toNat + 1))).length), (37, AV.i (rmA xs g - ((1 : Int) + IntKind.i64.wrap (xs.getD (↑g : Int).toNat default) * 2))), (343, AV.sl 1 (List.map encU xs)), (344, AV.i (↑(List.map
   encU xs).length : Int)), (345, AV.i ((↑g : Int) + 1))] [(1, ABlk.buf 115 3 (List.map encEn (fdL xs ((↑g : Int).toNat + 1))))] 2 = AS.mk [(2, AV.sl 1 (List.map encU xs)), (36, AV.own 1 (List.map encEn (fdL xs g')).length), (37, AV.i
   (rmA xs g')), (343, AV.sl 1 (List.map encU xs)), (344, AV.i (↑(List.map encU xs).length : Int)), (345, AV.i (↑g' : Int))] [(1, ABlk.buf 115 3 (List.map encEn (fdL xs g')))] 2)) ∧ (decide ((↑g : Int) < (↑(List.map encU xs).length :
   Int)) = false → PCall Tryz.prog G0 16 [] (AV.bool true) ∧ AV.bool true = AV.bool true)))))))))))) := by
    have e0 : IntKind.i64.wrap n = n := in64_wrap (by unfold In64; omega)
    have e1 : IntKind.i64.wrap (p : Int) = p := in64_wrap (by unfold In64; omega)
    have e2 : IntKind.i64.wrap q = q := in64_wrap (by unfold In64; omega)
    rw [e0, e1, e2]
    have hlm : (List.map encCp l).length = l.length := List.length_map _
    have hxm : (List.map encU xs).length = xs.length := List.length_map _
    have ham : (List.map encI (cnL l (n.tmod 1001))).length = (cnL l (n.tmod 1001)).length := List.length_map _
    have hdm : (List.map encI (dueL l n p q)).length = (dueL l n p q).length := List.length_map _
    have hw1 : 0 ≤ n.tmod 1001 ∧ n.tmod 1001 ≤ 1000 := by rw [Int.tmod_eq_emod_of_nonneg hn.1]; omega
    have hw2 : 0 ≤ (p : Int).tmod 500 ∧ (p : Int).tmod 500 ≤ 499 := by rw [Int.tmod_eq_emod_of_nonneg (by omega)]; omega
    have hxb : ∀ k, k < xs.length → 0 ≤ xs.getD k default ∧ xs.getD k default ≤ 65535 := fun k hk => hx _ (getD_mem hk)
    have hla : (cnL l (n.tmod 1001)).length ≤ l.length := cnR_len l _ l.length
    have hlz : (cnL l 0).length ≤ l.length := cnR_len l _ l.length
    have hls : (cnL l (n.tmod 1001)).length ≤ (cnL l 0).length := (cn_sub hw1.1 l.length).length_le
    have hlb : (ansL l p).length ≤ l.length := bits_len p l.length
    have hld : ∀ t, (dueL l n p t).length ≤ l.length := fun t => Nat.le_trans (List.length_filter_le _ _) hla
    have hld1 := hld q
    have hld2 := hld 100000000
    have : (List.map encCp l).length = l.length := by simp only [List.length_map]
    have : (List.map encU xs).length = xs.length := by simp only [List.length_map]
    have : (List.map encI (cnV l ((IntKind.i64.wrap n).tmod (1001 : Int)))).length = (cnV l ((IntKind.i64.wrap n).tmod (1001 : Int))).length := by simp only [List.length_map]
    have : (List.map encI (cnV l (0 : Int))).length = (cnV l (0 : Int)).length := by simp only [List.length_map]
    have : (List.map encI (cnL l (n.tmod (1001 : Int)))).length = (cnL l (n.tmod (1001 : Int))).length := by simp only [List.length_map]
    have : (List.map encI (dueL l n p q)).length = (dueL l n p q).length := by simp only [List.length_map]
    have : (List.map encEn (fdL xs 0)).length = (fdL xs 0).length := by simp only [List.length_map]
    refine ⟨fun h => h, fun h => h, fun h => by first | exact h | (rw [h]; rfl) | simp_all, fun h => h, fun h => h, fun h => by first | exact h | (rw [h]; rfl) | simp_all, impB_iff.2 fun hb => ((by have q : decide (((l.map encCp).length : Int) > 8) = false := (by simpa only [Bool.not_eq_true'] using hb); have := of_decide_eq_false q; exact c76L l (by omega) hnm)), fun h1 => ⟨hA, rfl⟩, fun h1 => ?_⟩
    · have hG := guard12 h1
      refine ⟨⟨⟨0, ⟨by omega, by intros; omega⟩, rfl⟩, fun g ⟨hg, ha⟩ => ⟨fun hd => ?_, fun hd => ?_⟩⟩, fun h2 => ?_⟩
      · have hlt : g < l.length := by have h9 := of_decide_eq_true hd; have h8 := hg; (try simp only [List.length_map] at h8 h9); omega
        first
          | (have hxg := hxb g hlt
             have e9 : IntKind.i64.wrap (xs.getD g default) = xs.getD g default := in64_wrap (by unfold In64; omega)
             try rw [show (↑g : Int).toNat = g from Int.toNat_natCast g]
             rw [e9]
             have hsb := sumA_bd hxb g (by omega)
             have hdd : (Lib.decDigits g).length ≤ 10 := dd_len (by omega)
             have hfl : (List.map encEn (fdL xs g)).length = xs.length + g := by rw [List.length_map, fd_len]
             first
               | have hrb := rmA_bd hxb k2 (i := g) (by omega) ha
               | skip)
          | (have hA : (0 ≤ (cnL l (n.tmod 1001)).getD g default ∧ (cnL l (n.tmod 1001)).getD g default < l.length) ∧ lastI (cnL l (n.tmod 1001)) g < (cnL l (n.tmod 1001)).getD g default := last_ok hlt
             have hAt := hok.tk ((cnL l (n.tmod 1001)).getD g default).toNat (by omega))
          | (have hbl := bits_len p g
             have hbm : (List.map encI (bitsM p g)).length = (bitsM p g).length := List.length_map _
             have hsb : 0 ≤ ((p : Nat) : Int).fdiv ((2 : Int) ^ ((g : Nat) : Int).toNat) ∧ ((p : Nat) : Int).fdiv ((2 : Int) ^ ((g : Nat) : Int).toNat) ≤ p := shr_bd p g
             have hsb2 := hsb
             rw [Int.toNat_natCast] at hsb2)
          | skip
        try rw [show (↑g : Int).toNat = g from Int.toNat_natCast g]
        refine ⟨(by omega), (by omega), (congrArg AV.agg (row_at encCp (by omega))), fun h2 => ⟨hA, rfl⟩, fun h2 => ⟨(by unfold In64; omega), ⟨g + 1, ⟨by omega, all_ext ha ?_⟩, by omega, rfl⟩⟩⟩
        · first
            | (have := of_decide_eq_false h2; omega)
            | (have := of_decide_eq_false h12; omega)
      · have hge : g = l.length := by have h9 := of_decide_eq_false hd; have h8 := hg; (try simp only [List.length_map] at h8 h9); omega
        subst hge
        refine ⟨rfl, ?_⟩
        · first
            | exact hK
            | exact ⟨hG.1, hG.2.2, hG.2.1, all_cp ha⟩
      · have hK := h2
        obtain ⟨k1, k2, k3, k4⟩ := hK
        have hK := h2
        have hok := (cp_z k3).2
        have v1 : cnE l (n.tmod 1001) = 0 ∧ cnV l (n.tmod 1001) = (cnL l (n.tmod 1001)) := cnV_e k3 (by omega)
        have v2 : cnE l 0 = 0 ∧ cnV l 0 = cnL l 0 := cnV_e k3 (by omega)
        have u1 : duE l (n.tmod 1001) (ansL l p) q ((p : Int).tmod 500) = 0 ∧ duV l (n.tmod 1001) (ansL l p) q ((p : Int).tmod 500) = dueL l n p q := duV_e k3 (by omega) (by omega) (by omega)
        have u2 : duE l (n.tmod 1001) (ansL l p) 100000000 ((p : Int).tmod 500) = 0 ∧ duV l (n.tmod 1001) (ansL l p) 100000000 ((p : Int).tmod 500) = dueL l n p 100000000 := duV_e k3 (by omega) (by omega) (by omega)
        have hnk : ∀ x, x ∈ l → x.hm.length ≤ 1000 := fun x hx => Nat.le_trans (k4 x hx) (by omega)
        refine ⟨(by omega), (by omega), (by decide), ((c72 l (by omega)).un), (c71 l _ (by omega) hnk), ((c72 l (by omega)).un), (c71 l _ (by omega) hnk), ⟨fun h => h, fun h => by first | exact h | (rw [h]; rfl) | simp_all, fun h => h, fun h => h, fun h => h, fun h => h, fun h => by first | exact h | (rw [h]; rfl) | simp_all, fun h => h, fun h => h, fun h => h, fun h => h, fun h => by first | exact h | (rw [h]; rfl) | simp_all, ?_⟩, ⟨?_, ?_⟩, fun h3 => ?_⟩
        · rw [v1.1, v2.1, v1.2, v2.2]
          simp only [List.length_map]
          rw [decide_eq_false (show ¬ ((cnL l (n.tmod 1001)).length : Int) > (cnL l 0).length by omega), decide_eq_false (show ¬ ((cnL l 0).length : Int) > l.length by omega)]
          rfl
        · rw [v1.2, v2.2]
        · first
            | exact hK
            | exact ⟨hG.1, hG.2.2, hG.2.1, all_cp ha⟩
        · have hK := h3
          obtain ⟨k1, k2, k3, k4⟩ := hK
          have hK := h3
          have hok := (cp_z k3).2
          have v1 : cnE l (n.tmod 1001) = 0 ∧ cnV l (n.tmod 1001) = (cnL l (n.tmod 1001)) := cnV_e k3 (by omega)
          have v2 : cnE l 0 = 0 ∧ cnV l 0 = cnL l 0 := cnV_e k3 (by omega)
          have u1 : duE l (n.tmod 1001) (ansL l p) q ((p : Int).tmod 500) = 0 ∧ duV l (n.tmod 1001) (ansL l p) q ((p : Int).tmod 500) = dueL l n p q := duV_e k3 (by omega) (by omega) (by omega)
          have u2 : duE l (n.tmod 1001) (ansL l p) 100000000 ((p : Int).tmod 500) = 0 ∧ duV l (n.tmod 1001) (ansL l p) 100000000 ((p : Int).tmod 500) = dueL l n p 100000000 := duV_e k3 (by omega) (by omega) (by omega)
          have hnk : ∀ x, x ∈ l → x.hm.length ≤ 1000 := fun x hx => Nat.le_trans (k4 x hx) (by omega)
          refine ⟨⟨⟨0, by omega, rfl⟩, fun g hg => ⟨fun hd => ?_, fun hd => ?_⟩⟩, fun h4 => ?_⟩
          · have hlt : g < (cnL l (n.tmod (1001 : Int))).length := by have h9 := of_decide_eq_true hd; have h8 := hg; (try simp only [List.length_map] at h8 h9); omega
            first
              | (have hxg := hxb g hlt
                 have e9 : IntKind.i64.wrap (xs.getD g default) = xs.getD g default := in64_wrap (by unfold In64; omega)
                 try rw [show (↑g : Int).toNat = g from Int.toNat_natCast g]
                 rw [e9]
                 have hsb := sumA_bd hxb g (by omega)
                 have hdd : (Lib.decDigits g).length ≤ 10 := dd_len (by omega)
                 have hfl : (List.map encEn (fdL xs g)).length = xs.length + g := by rw [List.length_map, fd_len]
                 first
                   | have hrb := rmA_bd hxb k2 (i := g) (by omega) ha
                   | skip)
              | (have hA : (0 ≤ (cnL l (n.tmod 1001)).getD g default ∧ (cnL l (n.tmod 1001)).getD g default < l.length) ∧ lastI (cnL l (n.tmod 1001)) g < (cnL l (n.tmod 1001)).getD g default := last_ok hlt
                 have hAt := hok.tk ((cnL l (n.tmod 1001)).getD g default).toNat (by omega))
              | (have hbl := bits_len p g
                 have hbm : (List.map encI (bitsM p g)).length = (bitsM p g).length := List.length_map _
                 have hsb : 0 ≤ ((p : Nat) : Int).fdiv ((2 : Int) ^ ((g : Nat) : Int).toNat) ∧ ((p : Nat) : Int).fdiv ((2 : Int) ^ ((g : Nat) : Int).toNat) ≤ p := shr_bd p g
                 have hsb2 := hsb
                 rw [Int.toNat_natCast] at hsb2)
              | skip
            try rw [show (↑g : Int).toNat = g from Int.toNat_natCast g]
            refine ⟨(by omega), (by omega), (congrArg (fun r => nth r 0) (row_at encI (by omega))), ⟨fun h => h, fun h => h, fun h => h, fun h => by first | exact h | (rw [h]; rfl) | simp_all, ?_⟩, (by unfold In64; omega), ⟨g + 1, by omega, by omega, rfl⟩⟩
            · rw [decide_eq_false (show ¬ (cnL l (n.tmod 1001)).getD g default ≤ lastI (cnL l (n.tmod 1001)) g by omega), decide_eq_false (show ¬ (cnL l (n.tmod 1001)).getD g default ≥ ((List.map encCp l).length : Int) by omega)]
              rfl
          · have hge : g = (cnL l (n.tmod (1001 : Int))).length := by have h9 := of_decide_eq_false hd; have h8 := hg; (try simp only [List.length_map] at h8 h9); omega
            subst hge
            refine ⟨rfl, ?_⟩
            · first
                | exact hK
                | exact ⟨hG.1, hG.2.2, hG.2.1, all_cp ha⟩
          · have hK := h4
            obtain ⟨k1, k2, k3, k4⟩ := hK
            have hK := h4
            have hok := (cp_z k3).2
            have v1 : cnE l (n.tmod 1001) = 0 ∧ cnV l (n.tmod 1001) = (cnL l (n.tmod 1001)) := cnV_e k3 (by omega)
            have v2 : cnE l 0 = 0 ∧ cnV l 0 = cnL l 0 := cnV_e k3 (by omega)
            have u1 : duE l (n.tmod 1001) (ansL l p) q ((p : Int).tmod 500) = 0 ∧ duV l (n.tmod 1001) (ansL l p) q ((p : Int).tmod 500) = dueL l n p q := duV_e k3 (by omega) (by omega) (by omega)
            have u2 : duE l (n.tmod 1001) (ansL l p) 100000000 ((p : Int).tmod 500) = 0 ∧ duV l (n.tmod 1001) (ansL l p) 100000000 ((p : Int).tmod 500) = dueL l n p 100000000 := duV_e k3 (by omega) (by omega) (by omega)
            have hnk : ∀ x, x ∈ l → x.hm.length ≤ 1000 := fun x hx => Nat.le_trans (k4 x hx) (by omega)
            refine ⟨⟨⟨0, by omega, rfl⟩, fun g hg => ⟨fun hd => ?_, fun hd => ?_⟩⟩, fun h5 => ?_⟩
            · have hlt : g < l.length := by have h9 := of_decide_eq_true hd; have h8 := hg; (try simp only [List.length_map] at h8 h9); omega
              first
                | (have hxg := hxb g hlt
                   have e9 : IntKind.i64.wrap (xs.getD g default) = xs.getD g default := in64_wrap (by unfold In64; omega)
                   try rw [show (↑g : Int).toNat = g from Int.toNat_natCast g]
                   rw [e9]
                   have hsb := sumA_bd hxb g (by omega)
                   have hdd : (Lib.decDigits g).length ≤ 10 := dd_len (by omega)
                   have hfl : (List.map encEn (fdL xs g)).length = xs.length + g := by rw [List.length_map, fd_len]
                   first
                     | have hrb := rmA_bd hxb k2 (i := g) (by omega) ha
                     | skip)
                | (have hA : (0 ≤ (cnL l (n.tmod 1001)).getD g default ∧ (cnL l (n.tmod 1001)).getD g default < l.length) ∧ lastI (cnL l (n.tmod 1001)) g < (cnL l (n.tmod 1001)).getD g default := last_ok hlt
                   have hAt := hok.tk ((cnL l (n.tmod 1001)).getD g default).toNat (by omega))
                | (have hbl := bits_len p g
                   have hbm : (List.map encI (bitsM p g)).length = (bitsM p g).length := List.length_map _
                   have hsb : 0 ≤ ((p : Nat) : Int).fdiv ((2 : Int) ^ ((g : Nat) : Int).toNat) ∧ ((p : Nat) : Int).fdiv ((2 : Int) ^ ((g : Nat) : Int).toNat) ≤ p := shr_bd p g
                   have hsb2 := hsb
                   rw [Int.toNat_natCast] at hsb2)
                | skip
              try rw [show (↑g : Int).toNat = g from Int.toNat_natCast g]
              refine ⟨(by omega), (by omega), (congrArg AV.agg (row_at encCp (by omega))), ⟨(g, 0), ⟨hlt, by (try dsimp only); omega⟩, rfl, rfl, fun g_1 hok2 hr2 => ?_⟩⟩
              · obtain ⟨i2, j2⟩ := g_1
                dsimp only at hok2 hr2 ⊢
                obtain ⟨hi2, hg2⟩ := hok2
                have hr4 : g = i2 := hr2.symm
                subst hr4
                refine ⟨fun hd2 => ?_, fun hd2 => ?_⟩
                · have hlt2 : j2 < (cnL l (n.tmod 1001)).length := by have h9 := of_decide_eq_true hd2; have h8 := hg2; (try simp only [List.length_map] at h8 h9); omega
                  have hmm := cnR_mem (getD_mem (l := (cnL l (n.tmod 1001))) hlt2)
                  have htk := hok.tk ((cnL l (n.tmod 1001)).getD j2 default).toNat (by omega)
                  have htg := hok.tk g hlt
                  try rw [show (↑j2 : Int).toNat = j2 from Int.toNat_natCast j2]
                  refine ⟨(by omega), (by omega), (congrArg (fun r => nth r 0) (row_at encI (by omega))), fun h => h, fun h => h, fun _ => by omega, fun _ => by omega, fun h => h, fun h => h, fun h => h, fun h => h, fun h => h, fun h => h, fun h => h, fun h => h, fun h => h, fun _ => by omega, fun _ => by omega, fun h => h, fun h => h, fun h => h, fun h => h, fun _ => by unfold In64; omega, fun h => h, fun h => h, fun h => h, impB_iff.2 fun hb => (congrArg (fun r => nth r 0) (row_at encCp (by omega))), impB_iff.2 fun hb => (congrArg (fun r => nth r 1) (row_at encCp (by omega))), fun h5 => ?_, fun h5 => ?_⟩
                  · have hnb := h5
                    refine ⟨(by unfold In64; omega), ⟨(g, j2 + 1), ⟨hlt, by (try dsimp only); omega⟩, rfl, (by (try dsimp only); omega), ?_⟩⟩
                    · dsimp only
                      first
                        | (rw [nrN, if_pos (show nrB l (n.tmod 1001) g ((cnL l (n.tmod 1001)).getD j2 default) = true from hnb)]; rfl)
                        | (rw [nrN, if_neg (show ¬ nrB l (n.tmod 1001) g ((cnL l (n.tmod 1001)).getD j2 default) = true from fun q => Bool.noConfusion (q.symm.trans hnb))]; rfl)
                  · have hnb := h5
                    refine ⟨(by unfold In64; omega), ⟨(g, j2 + 1), ⟨hlt, by (try dsimp only); omega⟩, rfl, (by (try dsimp only); omega), ?_⟩⟩
                    · dsimp only
                      first
                        | (rw [nrN, if_pos (show nrB l (n.tmod 1001) g ((cnL l (n.tmod 1001)).getD j2 default) = true from hnb)]; rfl)
                        | (rw [nrN, if_neg (show ¬ nrB l (n.tmod 1001) g ((cnL l (n.tmod 1001)).getD j2 default) = true from fun q => Bool.noConfusion (q.symm.trans hnb))]; rfl)
                · have hge2 : j2 = (cnL l (n.tmod 1001)).length := by have h9 := of_decide_eq_false hd2; have h8 := hg2; (try simp only [List.length_map] at h8 h9); omega
                  subst hge2
                  refine ⟨⟨((by rw [hd_encI]; exact c90 _ _ (by omega))), ?_⟩, ⟨(g, 0), ⟨hlt, by (try dsimp only); omega⟩, rfl, rfl, fun g_2 hok3 hr3 => ?_⟩⟩
                  · rw [hd_encI, show nrN l (n.tmod 1001) g (cnL l (n.tmod 1001)) (cnL l (n.tmod 1001)).length = !hasI (cnL l (n.tmod 1001)) (g : Int) from near_ok hlt]
                    cases hasI (cnL l (n.tmod 1001)) (g : Int) <;> rfl
                  · obtain ⟨i3, j3⟩ := g_2
                    dsimp only at hok3 hr3 ⊢
                    obtain ⟨hi3, hg3⟩ := hok3
                    have hr5 : g = i3 := hr3.symm
                    subst hr5
                    refine ⟨fun hd3 => ?_, fun hd3 => ?_⟩
                    · have hlt3 : j3 < (0 + g) := by have h9 := of_decide_eq_true hd3; have h8 := hg3; (try simp only [List.length_map] at h8 h9); omega
                      try rw [show (↑j3 : Int).toNat = j3 from Int.toNat_natCast j3]
                      refine ⟨fun h => h, fun h => h, fun _ => by omega, fun _ => by omega, fun h => h, fun h => h, fun h => h, fun h => by first | exact h | (rw [h]; rfl) | simp_all, impB_iff.2 fun hb => (congrArg AV.agg (row_at encCp (by omega))), (by unfold In64; omega), ⟨(g, j3 + 1), ⟨hlt, by (try dsimp only); omega⟩, rfl, (by (try dsimp only); omega), ?_⟩⟩
                      · first | rfl | trivial
                    · have hge3 : j3 = (0 + g) := by have h9 := of_decide_eq_false hd3; have h8 := hg3; (try simp only [List.length_map] at h8 h9); omega
                      subst hge3
                      refine ⟨⟨((by rw [hd_encI]; exact c90 _ _ (by omega))), ?_⟩, (by unfold In64; omega), ⟨g + 1, by omega, by omega, rfl⟩⟩
                      · rw [hd_encI, show smN l g (0 + g) = !hasI (cnL l 0) (g : Int) from by rw [Nat.zero_add]; exact same_ok hlt hok]
                        cases hasI (cnL l 0) (g : Int) <;> rfl
            · have hge : g = l.length := by have h9 := of_decide_eq_false hd; have h8 := hg; (try simp only [List.length_map] at h8 h9); omega
              subst hge
              refine ⟨rfl, ?_⟩
              · first
                  | exact hK
                  | exact ⟨hG.1, hG.2.2, hG.2.1, all_cp ha⟩
            · have hK := h5
              obtain ⟨k1, k2, k3, k4⟩ := hK
              have hK := h5
              have hok := (cp_z k3).2
              have v1 : cnE l (n.tmod 1001) = 0 ∧ cnV l (n.tmod 1001) = (cnL l (n.tmod 1001)) := cnV_e k3 (by omega)
              have v2 : cnE l 0 = 0 ∧ cnV l 0 = cnL l 0 := cnV_e k3 (by omega)
              have u1 : duE l (n.tmod 1001) (ansL l p) q ((p : Int).tmod 500) = 0 ∧ duV l (n.tmod 1001) (ansL l p) q ((p : Int).tmod 500) = dueL l n p q := duV_e k3 (by omega) (by omega) (by omega)
              have u2 : duE l (n.tmod 1001) (ansL l p) 100000000 ((p : Int).tmod 500) = 0 ∧ duV l (n.tmod 1001) (ansL l p) 100000000 ((p : Int).tmod 500) = dueL l n p 100000000 := duV_e k3 (by omega) (by omega) (by omega)
              have hnk : ∀ x, x ∈ l → x.hm.length ≤ 1000 := fun x hx => Nat.le_trans (k4 x hx) (by omega)
              refine ⟨⟨⟨0, by omega, rfl⟩, fun g hg => ⟨fun hd => ?_, fun hd => ?_⟩⟩, fun h6 => ?_⟩
              · have hlt : g < l.length := by have h9 := of_decide_eq_true hd; have h8 := hg; (try simp only [List.length_map] at h8 h9); omega
                first
                  | (have hxg := hxb g hlt
                     have e9 : IntKind.i64.wrap (xs.getD g default) = xs.getD g default := in64_wrap (by unfold In64; omega)
                     try rw [show (↑g : Int).toNat = g from Int.toNat_natCast g]
                     rw [e9]
                     have hsb := sumA_bd hxb g (by omega)
                     have hdd : (Lib.decDigits g).length ≤ 10 := dd_len (by omega)
                     have hfl : (List.map encEn (fdL xs g)).length = xs.length + g := by rw [List.length_map, fd_len]
                     first
                       | have hrb := rmA_bd hxb k2 (i := g) (by omega) ha
                       | skip)
                  | (have hA : (0 ≤ (cnL l (n.tmod 1001)).getD g default ∧ (cnL l (n.tmod 1001)).getD g default < l.length) ∧ lastI (cnL l (n.tmod 1001)) g < (cnL l (n.tmod 1001)).getD g default := last_ok hlt
                     have hAt := hok.tk ((cnL l (n.tmod 1001)).getD g default).toNat (by omega))
                  | (have hbl := bits_len p g
                     have hbm : (List.map encI (bitsM p g)).length = (bitsM p g).length := List.length_map _
                     have hsb : 0 ≤ ((p : Nat) : Int).fdiv ((2 : Int) ^ ((g : Nat) : Int).toNat) ∧ ((p : Nat) : Int).fdiv ((2 : Int) ^ ((g : Nat) : Int).toNat) ≤ p := shr_bd p g
                     have hsb2 := hsb
                     rw [Int.toNat_natCast] at hsb2)
                  | skip
                try rw [show (↑g : Int).toNat = g from Int.toNat_natCast g]
                refine ⟨(by omega), (by omega), (by omega), (by omega), (by omega), (by omega), (by omega), (by omega), fun h6 => ?_, fun h6 => ?_⟩
                · have hbt := h6
                  refine ⟨(by omega), (by omega), (by unfold In64; omega), ⟨g + 1, by omega, by omega, ?_⟩⟩
                  · rw [show bitsM p (g + 1) = bitsM p g ++ [(g : Int)] from if_pos (by rw [← shr_and]; exact hbt), List.map_append, List.length_append]
                    rfl
                · have hbt := h6
                  refine ⟨(by unfold In64; omega), ⟨g + 1, by omega, by omega, ?_⟩⟩
                  · rw [show bitsM p (g + 1) = bitsM p g from if_neg (by rw [← shr_and]; exact fun q => Bool.noConfusion (q.symm.trans hbt))]
                    rfl
              · have hge : g = l.length := by have h9 := of_decide_eq_false hd; have h8 := hg; (try simp only [List.length_map] at h8 h9); omega
                subst hge
                refine ⟨rfl, ?_⟩
                · first
                    | exact hK
                    | exact ⟨hG.1, hG.2.2, hG.2.1, all_cp ha⟩
              · have hK := h6
                obtain ⟨k1, k2, k3, k4⟩ := hK
                have hK := h6
                have hok := (cp_z k3).2
                have v1 : cnE l (n.tmod 1001) = 0 ∧ cnV l (n.tmod 1001) = (cnL l (n.tmod 1001)) := cnV_e k3 (by omega)
                have v2 : cnE l 0 = 0 ∧ cnV l 0 = cnL l 0 := cnV_e k3 (by omega)
                have u1 : duE l (n.tmod 1001) (ansL l p) q ((p : Int).tmod 500) = 0 ∧ duV l (n.tmod 1001) (ansL l p) q ((p : Int).tmod 500) = dueL l n p q := duV_e k3 (by omega) (by omega) (by omega)
                have u2 : duE l (n.tmod 1001) (ansL l p) 100000000 ((p : Int).tmod 500) = 0 ∧ duV l (n.tmod 1001) (ansL l p) 100000000 ((p : Int).tmod 500) = dueL l n p 100000000 := duV_e k3 (by omega) (by omega) (by omega)
                have hnk : ∀ x, x ∈ l → x.hm.length ≤ 1000 := fun x hx => Nat.le_trans (k4 x hx) (by omega)
                refine ⟨(by omega), (by omega), (by omega), (by omega), (by decide), ((c72 l (by omega)).un), (c23 _ (by omega)), ((by rw [hd_encI]; exact c75 l _ _ _ _ (by omega) hnk (by omega))), ((c72 l (by omega)).un), (c23 _ (by omega)), ((by rw [hd_encI]; exact c75 l _ _ _ _ (by omega) hnk (by omega))), ⟨fun h => h, fun h => by first | exact h | (rw [h]; rfl) | simp_all, fun h => h, fun h => h, fun h => h, fun h => h, fun h => by first | exact h | (rw [h]; rfl) | simp_all, ?_⟩, ⟨?_, ?_⟩, fun h7 => ?_⟩
                · simp only [hd_encI]
                  rw [u1.1, u2.1, u1.2, u2.2]
                  simp only [List.length_map]
                  rw [decide_eq_false (show ¬ ((dueL l n p q).length : Int) > (dueL l n p 100000000).length by have := du_sub (ans := ansL l p) (l := l) (d := (p : Int).tmod 500) (show q ≤ 100000000 by omega) (cnL l (n.tmod 1001)); unfold dueL; omega)]
                  rfl
                · simp only [hd_encI]
                  rw [u1.2, u2.2]
                · first
                    | exact hK
                    | exact ⟨hG.1, hG.2.2, hG.2.1, all_cp ha⟩
                · have hK := h7
                  obtain ⟨k1, k2, k3, k4⟩ := hK
                  have hK := h7
                  have hok := (cp_z k3).2
                  have v1 : cnE l (n.tmod 1001) = 0 ∧ cnV l (n.tmod 1001) = (cnL l (n.tmod 1001)) := cnV_e k3 (by omega)
                  have v2 : cnE l 0 = 0 ∧ cnV l 0 = cnL l 0 := cnV_e k3 (by omega)
                  have u1 : duE l (n.tmod 1001) (ansL l p) q ((p : Int).tmod 500) = 0 ∧ duV l (n.tmod 1001) (ansL l p) q ((p : Int).tmod 500) = dueL l n p q := duV_e k3 (by omega) (by omega) (by omega)
                  have u2 : duE l (n.tmod 1001) (ansL l p) 100000000 ((p : Int).tmod 500) = 0 ∧ duV l (n.tmod 1001) (ansL l p) 100000000 ((p : Int).tmod 500) = dueL l n p 100000000 := duV_e k3 (by omega) (by omega) (by omega)
                  have hnk : ∀ x, x ∈ l → x.hm.length ≤ 1000 := fun x hx => Nat.le_trans (k4 x hx) (by omega)
                  refine ⟨⟨⟨0, by omega, rfl⟩, fun g hg => ⟨fun hd => ?_, fun hd => ?_⟩⟩, fun h8 => ?_⟩
                  · have hlt : g < (cnL l (n.tmod (1001 : Int))).length := by have h9 := of_decide_eq_true hd; have h8 := hg; (try simp only [List.length_map] at h8 h9); omega
                    first
                      | (have hxg := hxb g hlt
                         have e9 : IntKind.i64.wrap (xs.getD g default) = xs.getD g default := in64_wrap (by unfold In64; omega)
                         try rw [show (↑g : Int).toNat = g from Int.toNat_natCast g]
                         rw [e9]
                         have hsb := sumA_bd hxb g (by omega)
                         have hdd : (Lib.decDigits g).length ≤ 10 := dd_len (by omega)
                         have hfl : (List.map encEn (fdL xs g)).length = xs.length + g := by rw [List.length_map, fd_len]
                         first
                           | have hrb := rmA_bd hxb k2 (i := g) (by omega) ha
                           | skip)
                      | (have hA : (0 ≤ (cnL l (n.tmod 1001)).getD g default ∧ (cnL l (n.tmod 1001)).getD g default < l.length) ∧ lastI (cnL l (n.tmod 1001)) g < (cnL l (n.tmod 1001)).getD g default := last_ok hlt
                         have hAt := hok.tk ((cnL l (n.tmod 1001)).getD g default).toNat (by omega))
                      | (have hbl := bits_len p g
                         have hbm : (List.map encI (bitsM p g)).length = (bitsM p g).length := List.length_map _
                         have hsb : 0 ≤ ((p : Nat) : Int).fdiv ((2 : Int) ^ ((g : Nat) : Int).toNat) ∧ ((p : Nat) : Int).fdiv ((2 : Int) ^ ((g : Nat) : Int).toNat) ≤ p := shr_bd p g
                         have hsb2 := hsb
                         rw [Int.toNat_natCast] at hsb2)
                      | skip
                    try rw [show (↑g : Int).toNat = g from Int.toNat_natCast g]
                    refine ⟨(by omega), (by omega), (congrArg (fun r => nth r 0) (row_at encI (by omega))), ⟨fun h => h, fun h => h, fun _ => by omega, fun _ => by omega, fun h => h, fun h => h, fun h => h, fun _ => by unfold In64; omega, fun h => h, fun h => h, fun h => h, fun h => h, fun h => h, fun h => h, fun h => h, fun h => h, fun h => h, fun h => h, fun h => h, fun _ => by omega, fun _ => by omega, fun h => h, fun h => h, fun h => h, fun h => h, fun _ => by unfold In64; omega, fun h => h, fun h => h, fun h => h, fun h8 => fun h => by first | exact h | (rw [h]; rfl) | simp_all, fun h => h, fun h => h, fun h => by first | exact h | (rw [h]; rfl) | simp_all, ((by rw [hd_encI]; exact c90 _ _ (by omega))), ((by rw [hd_encI]; exact c90 _ _ (by omega))), impB_iff.2 fun hb => (congrArg (fun r => nth r 1) (row_at encCp (by omega))), impB_iff.2 fun hb => ((by rw [hd_encI]; exact c90 _ _ (by omega))), impB_iff.2 fun hb => ((by rw [hd_encI]; exact c90 _ _ (by omega))), impB_iff.2 fun hb => (congrArg (fun r => nth r 1) (row_at encCp (by omega))), ?_⟩, (by unfold In64; omega), ⟨g + 1, by omega, by omega, rfl⟩⟩
                    · simp only [hd_encI]
                      have z1 : hasI (dueL l n p 100000000) ((cnL l (n.tmod 1001)).getD g default) = (!hasI (ansL l p) ((cnL l (n.tmod 1001)).getD g default) && decide ((l.getD ((cnL l (n.tmod 1001)).getD g default).toNat default).tk + (p : Int).tmod 500 < 100000000)) := has_du (getD_mem hlt)
                      have z2 : hasI (dueL l n p q) ((cnL l (n.tmod 1001)).getD g default) = (!hasI (ansL l p) ((cnL l (n.tmod 1001)).getD g default) && decide ((l.getD ((cnL l (n.tmod 1001)).getD g default).toNat default).tk + (p : Int).tmod 500 < q)) := has_du (getD_mem hlt)
                      rw [z1, z2, show decide ((l.getD ((cnL l (n.tmod 1001)).getD g default).toNat default).tk < 100000000 - (p : Int).tmod 500) = decide ((l.getD ((cnL l (n.tmod 1001)).getD g default).toNat default).tk + (p : Int).tmod 500 < 100000000) from decide_eq_decide.2 (by omega)]
                      generalize hasI (ansL l p) ((cnL l (n.tmod 1001)).getD g default) = x
                      generalize decide ((l.getD ((cnL l (n.tmod 1001)).getD g default).toNat default).tk + (p : Int).tmod 500 < 100000000) = y
                      generalize decide ((l.getD ((cnL l (n.tmod 1001)).getD g default).toNat default).tk + (p : Int).tmod 500 < q) = z
                      cases x <;> cases y <;> cases z <;> rfl
                  · have hge : g = (cnL l (n.tmod (1001 : Int))).length := by have h9 := of_decide_eq_false hd; have h8 := hg; (try simp only [List.length_map] at h8 h9); omega
                    subst hge
                    refine ⟨rfl, ?_⟩
                    · first
                        | exact hK
                        | exact ⟨hG.1, hG.2.2, hG.2.1, all_cp ha⟩
                  · have hK := h8
                    obtain ⟨k1, k2, k3, k4⟩ := hK
                    have hK := h8
                    have hok := (cp_z k3).2
                    have v1 : cnE l (n.tmod 1001) = 0 ∧ cnV l (n.tmod 1001) = (cnL l (n.tmod 1001)) := cnV_e k3 (by omega)
                    have v2 : cnE l 0 = 0 ∧ cnV l 0 = cnL l 0 := cnV_e k3 (by omega)
                    have u1 : duE l (n.tmod 1001) (ansL l p) q ((p : Int).tmod 500) = 0 ∧ duV l (n.tmod 1001) (ansL l p) q ((p : Int).tmod 500) = dueL l n p q := duV_e k3 (by omega) (by omega) (by omega)
                    have u2 : duE l (n.tmod 1001) (ansL l p) 100000000 ((p : Int).tmod 500) = 0 ∧ duV l (n.tmod 1001) (ansL l p) 100000000 ((p : Int).tmod 500) = dueL l n p 100000000 := duV_e k3 (by omega) (by omega) (by omega)
                    have hnk : ∀ x, x ∈ l → x.hm.length ≤ 1000 := fun x hx => Nat.le_trans (k4 x hx) (by omega)
                    refine ⟨⟨⟨0, by omega, rfl⟩, fun g hg => ⟨fun hd => ?_, fun hd => ?_⟩⟩, fun h9 => ?_⟩
                    · have hlt : g < (dueL l n p q).length := by have h9 := of_decide_eq_true hd; have h8 := hg; (try simp only [List.length_map] at h8 h9); omega
                      first
                        | (have hxg := hxb g hlt
                           have e9 : IntKind.i64.wrap (xs.getD g default) = xs.getD g default := in64_wrap (by unfold In64; omega)
                           try rw [show (↑g : Int).toNat = g from Int.toNat_natCast g]
                           rw [e9]
                           have hsb := sumA_bd hxb g (by omega)
                           have hdd : (Lib.decDigits g).length ≤ 10 := dd_len (by omega)
                           have hfl : (List.map encEn (fdL xs g)).length = xs.length + g := by rw [List.length_map, fd_len]
                           first
                             | have hrb := rmA_bd hxb k2 (i := g) (by omega) ha
                             | skip)
                        | (have hA : (0 ≤ (cnL l (n.tmod 1001)).getD g default ∧ (cnL l (n.tmod 1001)).getD g default < l.length) ∧ lastI (cnL l (n.tmod 1001)) g < (cnL l (n.tmod 1001)).getD g default := last_ok hlt
                           have hAt := hok.tk ((cnL l (n.tmod 1001)).getD g default).toNat (by omega))
                        | (have hbl := bits_len p g
                           have hbm : (List.map encI (bitsM p g)).length = (bitsM p g).length := List.length_map _
                           have hsb : 0 ≤ ((p : Nat) : Int).fdiv ((2 : Int) ^ ((g : Nat) : Int).toNat) ∧ ((p : Nat) : Int).fdiv ((2 : Int) ^ ((g : Nat) : Int).toNat) ≤ p := shr_bd p g
                           have hsb2 := hsb
                           rw [Int.toNat_natCast] at hsb2)
                        | skip
                      try rw [show (↑g : Int).toNat = g from Int.toNat_natCast g]
                      refine ⟨(by omega), (by omega), (congrArg (fun r => nth r 0) (row_at encI (by omega))), ⟨fun h => h, fun h => h, fun h => h, fun h => by first | exact h | (rw [h]; rfl) | simp_all, ((by rw [hd_encI]; exact c90 _ _ (by omega))), impB_iff.2 fun hb => ((by rw [hd_encI]; exact c90 _ _ (by omega))), ?_⟩, (by unfold In64; omega), ⟨g + 1, by omega, by omega, rfl⟩⟩
                      · simp only [hd_encI]
                        have z1 : hasI (cnL l (n.tmod 1001)) ((dueL l n p q).getD g default) = true ∧ hasI (dueL l n p 100000000) ((dueL l n p q).getD g default) = true := has_all (show q ≤ 100000000 by omega) (getD_mem hlt)
                        rw [z1.1, z1.2]
                        rfl
                    · have hge : g = (dueL l n p q).length := by have h9 := of_decide_eq_false hd; have h8 := hg; (try simp only [List.length_map] at h8 h9); omega
                      subst hge
                      refine ⟨rfl, ?_⟩
                      · first
                          | exact hK
                          | exact ⟨hG.1, hG.2.2, hG.2.1, all_cp ha⟩
                    · have hK := h9
                      obtain ⟨k1, k2, k3, k4⟩ := hK
                      have hK := h9
                      have hok := (cp_z k3).2
                      have v1 : cnE l (n.tmod 1001) = 0 ∧ cnV l (n.tmod 1001) = (cnL l (n.tmod 1001)) := cnV_e k3 (by omega)
                      have v2 : cnE l 0 = 0 ∧ cnV l 0 = cnL l 0 := cnV_e k3 (by omega)
                      have u1 : duE l (n.tmod 1001) (ansL l p) q ((p : Int).tmod 500) = 0 ∧ duV l (n.tmod 1001) (ansL l p) q ((p : Int).tmod 500) = dueL l n p q := duV_e k3 (by omega) (by omega) (by omega)
                      have u2 : duE l (n.tmod 1001) (ansL l p) 100000000 ((p : Int).tmod 500) = 0 ∧ duV l (n.tmod 1001) (ansL l p) 100000000 ((p : Int).tmod 500) = dueL l n p 100000000 := duV_e k3 (by omega) (by omega) (by omega)
                      have hnk : ∀ x, x ∈ l → x.hm.length ≤ 1000 := fun x hx => Nat.le_trans (k4 x hx) (by omega)
                      refine ⟨⟨⟨0, by omega, rfl⟩, fun g hg => ⟨fun hd => ?_, fun hd => ?_⟩⟩, fun h10 => ?_⟩
                      · have hlt : g < xs.length := by have h9 := of_decide_eq_true hd; have h8 := hg; (try simp only [List.length_map] at h8 h9); omega
                        have : (List.map encEn (List.map inE (List.take g xs))).length = g := by simp only [List.length_map, List.length_take]; omega
                        first
                          | (have hxg := hxb g hlt
                             have e9 : IntKind.i64.wrap (xs.getD g default) = xs.getD g default := in64_wrap (by unfold In64; omega)
                             try rw [show (↑g : Int).toNat = g from Int.toNat_natCast g]
                             rw [e9]
                             have hsb := sumA_bd hxb g (by omega)
                             have hdd : (Lib.decDigits g).length ≤ 10 := dd_len (by omega)
                             have hfl : (List.map encEn (fdL xs g)).length = xs.length + g := by rw [List.length_map, fd_len]
                             first
                               | have hrb := rmA_bd hxb k2 (i := g) (by omega) ha
                               | skip)
                          | (have hA : (0 ≤ (cnL l (n.tmod 1001)).getD g default ∧ (cnL l (n.tmod 1001)).getD g default < l.length) ∧ lastI (cnL l (n.tmod 1001)) g < (cnL l (n.tmod 1001)).getD g default := last_ok hlt
                             have hAt := hok.tk ((cnL l (n.tmod 1001)).getD g default).toNat (by omega))
                          | (have hbl := bits_len p g
                             have hbm : (List.map encI (bitsM p g)).length = (bitsM p g).length := List.length_map _
                             have hsb : 0 ≤ ((p : Nat) : Int).fdiv ((2 : Int) ^ ((g : Nat) : Int).toNat) ∧ ((p : Nat) : Int).fdiv ((2 : Int) ^ ((g : Nat) : Int).toNat) ≤ p := shr_bd p g
                             have hsb2 := hsb
                             rw [Int.toNat_natCast] at hsb2)
                          | skip
                        try rw [show (↑g : Int).toNat = g from Int.toNat_natCast g]
                        refine ⟨(by omega), (by omega), (congrArg (fun r => nth r 0) (row_at encU hlt)), (by unfold In64; omega), (by omega), (by omega), (by unfold In64; omega), (by unfold In64; omega), (by unfold In64; omega), ⟨g + 1, by omega, by omega, ?_⟩⟩
                        · rw [in_next hlt, List.length_append]
                          rfl
                      · have hge : g = xs.length := by have h9 := of_decide_eq_false hd; have h8 := hg; (try simp only [List.length_map] at h8 h9); omega
                        subst hge
                        refine ⟨?_, ?_⟩
                        · rw [List.take_length, fd_0]
                        · first
                            | exact hK
                            | exact ⟨hG.1, hG.2.2, hG.2.1, all_cp ha⟩
                      · have hK := h10
                        obtain ⟨k1, k2, k3, k4⟩ := hK
                        have hK := h10
                        have hok := (cp_z k3).2
                        have v1 : cnE l (n.tmod 1001) = 0 ∧ cnV l (n.tmod 1001) = (cnL l (n.tmod 1001)) := cnV_e k3 (by omega)
                        have v2 : cnE l 0 = 0 ∧ cnV l 0 = cnL l 0 := cnV_e k3 (by omega)
                        have u1 : duE l (n.tmod 1001) (ansL l p) q ((p : Int).tmod 500) = 0 ∧ duV l (n.tmod 1001) (ansL l p) q ((p : Int).tmod 500) = dueL l n p q := duV_e k3 (by omega) (by omega) (by omega)
                        have u2 : duE l (n.tmod 1001) (ansL l p) 100000000 ((p : Int).tmod 500) = 0 ∧ duV l (n.tmod 1001) (ansL l p) 100000000 ((p : Int).tmod 500) = dueL l n p 100000000 := duV_e k3 (by omega) (by omega) (by omega)
                        have hnk : ∀ x, x ∈ l → x.hm.length ≤ 1000 := fun x hx => Nat.le_trans (k4 x hx) (by omega)
                        refine ⟨rfl, (w69 _ (by rw [fd_len]; omega)), ((by rw [en_dec]; exact c68 _ (by rw [fd_len]; omega) fd_nm)), ⟨fun h => h, fun h => h, fun h => by first | exact h | (rw [h]; rfl) | simp_all, ?_⟩, ⟨rfl, ?_⟩, fun h11 => ?_⟩
                        · have z1 := fd_ok (i := 0) hxb k2 (by omega) (fun j hj => absurd hj (by omega))
                          rw [en_dec, z1.1, z1.2, rmA]
                          simp
                        · first
                            | exact hK
                            | exact ⟨hG.1, hG.2.2, hG.2.1, all_cp ha⟩
                        · have hK := h11
                          obtain ⟨k1, k2, k3, k4⟩ := hK
                          have hK := h11
                          have hok := (cp_z k3).2
                          have v1 : cnE l (n.tmod 1001) = 0 ∧ cnV l (n.tmod 1001) = (cnL l (n.tmod 1001)) := cnV_e k3 (by omega)
                          have v2 : cnE l 0 = 0 ∧ cnV l 0 = cnL l 0 := cnV_e k3 (by omega)
                          have u1 : duE l (n.tmod 1001) (ansL l p) q ((p : Int).tmod 500) = 0 ∧ duV l (n.tmod 1001) (ansL l p) q ((p : Int).tmod 500) = dueL l n p q := duV_e k3 (by omega) (by omega) (by omega)
                          have u2 : duE l (n.tmod 1001) (ansL l p) 100000000 ((p : Int).tmod 500) = 0 ∧ duV l (n.tmod 1001) (ansL l p) 100000000 ((p : Int).tmod 500) = dueL l n p 100000000 := duV_e k3 (by omega) (by omega) (by omega)
                          have hnk : ∀ x, x ∈ l → x.hm.length ≤ 1000 := fun x hx => Nat.le_trans (k4 x hx) (by omega)
                          refine ⟨⟨0, ⟨by omega, by intros; omega⟩, rfl⟩, fun g ⟨hg, ha⟩ => ⟨fun hd => ?_, fun hd => ?_⟩⟩
                          · have hlt : g < xs.length := by have h9 := of_decide_eq_true hd; have h8 := hg; (try simp only [List.length_map] at h8 h9); omega
                            first
                              | (have hxg := hxb g hlt
                                 have e9 : IntKind.i64.wrap (xs.getD g default) = xs.getD g default := in64_wrap (by unfold In64; omega)
                                 try rw [show (↑g : Int).toNat = g from Int.toNat_natCast g]
                                 rw [e9]
                                 have hsb := sumA_bd hxb g (by omega)
                                 have hdd : (Lib.decDigits g).length ≤ 10 := dd_len (by omega)
                                 have hfl : (List.map encEn (fdL xs g)).length = xs.length + g := by rw [List.length_map, fd_len]
                                 first
                                   | have hrb := rmA_bd hxb k2 (i := g) (by omega) ha
                                   | skip)
                              | (have hA : (0 ≤ (cnL l (n.tmod 1001)).getD g default ∧ (cnL l (n.tmod 1001)).getD g default < l.length) ∧ lastI (cnL l (n.tmod 1001)) g < (cnL l (n.tmod 1001)).getD g default := last_ok hlt
                                 have hAt := hok.tk ((cnL l (n.tmod 1001)).getD g default).toNat (by omega))
                              | (have hbl := bits_len p g
                                 have hbm : (List.map encI (bitsM p g)).length = (bitsM p g).length := List.length_map _
                                 have hsb : 0 ≤ ((p : Nat) : Int).fdiv ((2 : Int) ^ ((g : Nat) : Int).toNat) ∧ ((p : Nat) : Int).fdiv ((2 : Int) ^ ((g : Nat) : Int).toNat) ≤ p := shr_bd p g
                                 have hsb2 := hsb
                                 rw [Int.toNat_natCast] at hsb2)
                              | skip
                            try rw [show (↑g : Int).toNat = g from Int.toNat_natCast g]
                            refine ⟨(by omega), (by omega), (congrArg (fun r => nth r 0) (row_at encU hlt)), (by unfold In64; omega), (by unfold In64; omega), ⟨(by omega), (by omega), (by omega), ((by first | exact c91 g (by omega) | (rw [Int.toNat_natCast]; exact c91 g (by omega)))), ?_⟩, rfl, (w69 _ (by rw [fd_len]; omega)), ((by rw [en_dec]; exact c68 _ (by rw [fd_len]; omega) fd_nm)), fun h12 => ⟨⟨fun h => h, fun h => by first | exact h | (rw [h]; rfl) | simp_all, ?_⟩, hA, rfl⟩, fun h12 => ⟨(by unfold In64; omega), ⟨fun h => h, fun h => h, fun h => by first | exact h | (rw [h]; rfl) | simp_all, ?_⟩, (by unfold In64; omega), ⟨g + 1, ⟨by omega, all_ext ha ?_⟩, by omega, rfl⟩⟩⟩
                            · first
                                | (rw [fd_next (by omega), List.length_append]; rfl)
                                | (rw [Int.toNat_natCast, fd_next (by omega), List.length_append]; rfl)
                            · have z1 := fd_over hxb k2 hlt ha (of_decide_eq_true h12)
                              rw [en_dec, z1.1, z1.2]
                              rfl
                            · have z0 := of_decide_eq_false h12
                              have z1 := fd_ok (i := g + 1) hxb k2 (by omega) (all_ext ha (by omega))
                              rw [en_dec, z1.1, z1.2, rmA]
                              simp
                            · first
                                | (have := of_decide_eq_false h2; omega)
                                | (have := of_decide_eq_false h12; omega)
                          · have hge : g = xs.length := by have h9 := of_decide_eq_false hd; have h8 := hg; (try simp only [List.length_map] at h8 h9); omega
                            subst hge
                            exact ⟨hA, rfl⟩
  exact c_ofH Tryz.f12 ({ gsB gs12 (fzB (mkB (sp12 l) 12 [(5, 1, rdL 2 encCp l 2 true), (17, 1, rdL 1 encI (cnL l (n.tmod 1001)) 1 false), (24, 2, rdL 2 encCp l 2 true), (28, 1, rdL 1 encI (cnL l (n.tmod 1001)) 1 false), (29, 8, rdL 2 encCp l 1 false), (29, 20, rdL 2 encCp l 1 false), (38, 5, rdL 2 encCp l 2 true), (57, 1, rdL 1 encI (cnL l (n.tmod 1001)) 1 false), (58, 12, rdL 2 encCp l 1 false), (58, 31, rdL 2 encCp l 1 false), (63, 1, rdL 1 encI (dueL l n p q) 1 false), (71, 1, rdL 1 encU xs 1 false), (79, 2, rdL 1 encU xs 1 false)] (la12 l n p q xs))) with hs := hs12, bx := fun i => if i.beq 10 then [.frzo 24] else [], cl := clL [109, 124, 170, 189, 247, 292, 309, 342, 376, 386], cut := cut12 xs }) (m12 l n p q xs) (by kernel_rfl) (by kernel_rfl) (by kernel_rfl) (by kernel_rfl) key (by kernel_rfl)
end Go.Proofs.YtfoeefaamjknpaaGreatDoor
namespace Go.Proofs.YtfoeefaamjknpaaGreatDoor
open Go Go.Av Go.RowKit Go.ChangeShapes Go.WideShapes
theorem wf16 {x : Int} (h : (Lit.int .u16 x).wf = true) : 0 ≤ x ∧ x ≤ 65535 := by
  simp only [Lit.wf, Bool.and_eq_true, decide_eq_true_eq] at h
  exact h
theorem u16_arg {a : AV} (h : ASh1 T0 8 167 a) : ∃ x y z : Int, a = .agg [.int .u16 x, .int .u16 y, .int .u16 z] ∧ (0 ≤ x ∧ x ≤ 65535) ∧ (0 ≤ y ∧ y ≤ 65535) ∧ (0 ≤ z ∧ z ≤ 65535) := by
  obtain ⟨l, rfl, h2⟩ := ash1_agg (cs := [.int .u16, .int .u16, .int .u16]) (ti := ⟨(.arr 3 166 1), 3, 6, true, [.int .u16 0, .int .u16 0, .int .u16 0], true⟩) (by kernel_rfl) rfl (by kernel_rfl) (by kernel_rfl) h
  obtain ⟨_, _, rfl, ⟨x, rfl, hx⟩, _, _, rfl, ⟨y, rfl, hy⟩, _, _, rfl, ⟨z, rfl, hz⟩, rfl⟩ := h2
  exact ⟨x, y, z, rfl, wf16 hx, wf16 hy, wf16 hz⟩
theorem u16_of {n : Nat} {r : List AV} (hn : shapeT T0 n 166 = [.int .u16]) (hp : plainT T0 n 166 = true) (h : ASh T0 n 166 r) : ∃ x : Int, r = encU x ∧ (0 ≤ x ∧ x ≤ 65535) := by
  have := ash_shape n 166 r hp h
  rw [hn] at this
  obtain ⟨_, _, rfl, ⟨d, rfl, hd⟩, rfl⟩ := this
  exact ⟨d, rfl, wf16 hd⟩
theorem am_arg {a : AV} (h : ASh1 T0 8 168 a) : ∃ l : List Int, a = .sl 1 (l.map encU) ∧ l.length ≤ maxLen ∧ ∀ x, x ∈ l → 0 ≤ x ∧ x ≤ 65535 := by
  obtain ⟨rows, rfl, hl, hr⟩ := ash1_one (c := .sl 7 166 1) (ti := ⟨(.slice 166 1 2), 1, 24, false, [.ex (.slice none 0 0)], false⟩) (by kernel_rfl) rfl (by kernel_rfl) (by kernel_rfl) h
  obtain ⟨l, rfl, hq⟩ := rows_enc (enc := encU) (Q := fun x => 0 ≤ x ∧ x ≤ 65535) (fun r hm => u16_of (by kernel_rfl) (by kernel_rfl) (hr r hm))
  exact ⟨l, rfl, by simpa using hl, hq⟩
theorem cp_ofL {n : Nat} {r : List AV} (hn : shapeT T0 n 126 = [.str, .int .i64]) (hp : plainT T0 n 126 = true) (h : ASh T0 n 126 r) : ∃ x : Cp, r = encCp x ∧ x.hm.length ≤ 9223372036854775807 := by
  have := ash_shape n 126 r hp h
  rw [hn] at this
  obtain ⟨_, _, rfl, ⟨b, rfl, hb⟩, _, _, rfl, ⟨c, rfl, _⟩, rfl⟩ := this
  exact ⟨⟨b, c⟩, rfl, hb⟩
theorem cps_argL {a : AV} (h : ASh1 T0 8 121 a) : ∃ l : List Cp, a = .sl 2 (l.map encCp) ∧ l.length ≤ maxLen ∧ ∀ x, x ∈ l → x.hm.length ≤ 9223372036854775807 := by
  obtain ⟨rows, rfl, hl, hr⟩ := ash1_one (c := .sl 7 126 2) (ti := ⟨(.slice 126 2 24), 1, 24, false, [.ex (.slice none 0 0)], false⟩) (by kernel_rfl) rfl (by kernel_rfl) (by kernel_rfl) h
  obtain ⟨l, rfl, hq⟩ := rows_enc (enc := encCp) (Q := fun x => x.hm.length ≤ 9223372036854775807) (fun r hm => cp_ofL (by kernel_rfl) (by kernel_rfl) (hr r hm))
  exact ⟨l, rfl, by simpa using hl, hq⟩
end Go.Proofs.YtfoeefaamjknpaaGreatDoor
namespace Go.Proofs.YtfoeefaamjknpaaGreatDoor
open Go Go.Av Go.RowKit Go.ChangeShapes Go.WideShapes
theorem jp0_12 : (Rows.homeNearRow.inPlace == Tryz.prog.inPlace 12) = true := by kernel_rfl
theorem jp1_12 : (Rows.homeNearRow.unfollowed == Tryz.prog.unfollowed 12) = true := by kernel_rfl
theorem jp2_12 : (Rows.homeNearRow.recurses == Tryz.prog.recurses 12) = true := by kernel_rfl
theorem jp3_12 : (Rows.homeNearRow.named == Tryz.prog.varsNamed 12) = true := by kernel_rfl
theorem jfacts_12 : joinedFacts Tryz.prog 12 Tryz.f12 Rows.homeNearSpec Rows.homeNearRow = true := by
  unfold joinedFacts
  rw [jp0_12, jp1_12, jp2_12, jp3_12]
  kernel_rfl
end Go.Proofs.YtfoeefaamjknpaaGreatDoor
