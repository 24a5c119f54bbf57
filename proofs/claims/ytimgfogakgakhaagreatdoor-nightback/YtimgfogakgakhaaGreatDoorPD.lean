/-
  The seals of chapter 7's evidence. No condition but the theorems' own. Exceptions of chapter 7, their evidence, and what is wrong with them. No condition but the theorems' own. The checks of exceptions of chapter 7, both sides, and their validity. No condition but the theorems' own. NightValid returns true. No condition but the theorems' own. Arguments of chapter 7's statements with keys. No condition but the theorems' own. The package-level variables of the statements about strings, as the program's text lays them. No condition but the theorems' own. Contracts of the library at this program, laid by the kit from its shelf: each is one application of a theorem of the library. No condition but what each theorem names. Lines and words: plain Lean; and the library's search and cut, as contracts on abstract values. No condition but the theorems' own. Lines and words, as contracts: what is handed over of a string's lines, and what a taker of words does. No condition but the theorems' own. Numbers in words, words of a line, and movements as strings: contracts. No condition but the theorems' own.
-/
import Derived.Test.YtimgfogakgakhaaGreatDoorPC
import Derived.Test.YtimgfogakgakhaaGreatDoorAvD
import Derived.Test.YtimgfogakgakhaaGreatDoorPB
import Derived.Lay
import Derived.Shelf.Small.Strs
import Derived.Shelf.Strings.Search1
import Derived.Shelf.Strings.Search2
import Derived.Shelf.Strings.Search3
import Derived.Shelf.Strings.Count
import Derived.Shelf.Strings.Split
import Derived.Test.YtimgfogakgakhaaGreatDoorProg
import Derived.Test.YtimgfogakgakhaaGreatDoorPA
namespace Go.Proofs.YtimgfogakgakhaaGreatDoor
open Go Go.Av Go.RowKit
theorem w_of {f : Nat} {args : List AV} {bs : List ABlk} {r : AV} {fin : List ABlk} (fn : Func) (B : BA) (hf : Tryz.prog.funcs[f]? = some fn) (hb : fn.body = some (bodyOf fn)) (hn : (fn.name == "runtime.NumGoroutine") = false) (hlen : Nat.ble args.length fn.ntmps = true) (hwf : wfB (bs.length + 1) (startW args bs) = true)
    {q : Prop} (hq : q) (h : VC (bodyE Tryz.prog T0 G0 fn.ntmps []) B 10000 0 (bodyOf fn) (startW args bs) (retQW T0 fn bs.length r fin) = q) : WCall Tryz.prog G0 f args bs r fin :=
  callW_of_VC tok mix hf hb hn (Nat.le_of_ble_eq_true hlen) hwf B (vc_of hq h)
def encB (b : UInt8) : List AV := [.int .u8 b.toNat]
end Go.Proofs.YtimgfogakgakhaaGreatDoor
namespace Go.Proofs.YtimgfogakgakhaaGreatDoor
open Go Go.Av Go.RowKit
structure Xc where
  fl : List UInt8
  re : List UInt8
  day : Int
  e0 : Int
  e1 : Int
  e2 : Int
  e3 : Int
  e4 : Int
  e5 : Int
  e6 : Int
  e7 : Int
  deriving Inhabited
def W1 : List UInt8 := [101, 97, 114, 108, 121]
def W2 : List UInt8 := [108, 97, 116, 101]
def W3 : List UInt8 := [101, 118, 105, 100, 101, 110, 99, 101]
end Go.Proofs.YtimgfogakgakhaaGreatDoor
namespace Go.Proofs.YtimgfogakgakhaaGreatDoor
open Go Go.Av Go.RowKit
end Go.Proofs.YtimgfogakgakhaaGreatDoor
namespace Go.Proofs.YtimgfogakgakhaaGreatDoor
open Go Go.Av Go.RowKit
end Go.Proofs.YtimgfogakgakhaaGreatDoor
namespace Go.Proofs.YtimgfogakgakhaaGreatDoor
open Go Go.Av Go.RowKit Go.ChangeShapes Go.WideShapes
theorem str_arg {a : AV} (h : ASh1 T0 8 9 a) : ∃ x : List UInt8, a = .str x := by
  obtain ⟨x, rfl, _⟩ := ash1_one (c := .str) (ti := ⟨.str, 1, 16, false, [.str []], false⟩) (by kernel_rfl) rfl (by kernel_rfl) (by kernel_rfl) h
  exact ⟨x, rfl⟩
end Go.Proofs.YtimgfogakgakhaaGreatDoor
namespace Go.Proofs.YtimgfogakgakhaaGreatDoor
open Go Go.Av Go.RowKit Go.ChangeShapes Go.WideShapes
def laid6 : List (String × DataW Unit) := Rows.nightStringsRow.laid
theorem door_met6 (os : Os) (args : Array Value) : laidMetH Tryz.prog laid6 ((World.laidAll Tryz.prog os laid6).forCall (fun _ _ => 0) ⟨#[], args, []⟩).memory := by
  rw [MakeChecks.laidMetH_plain _ _ _ (by kernel_rfl)]
  exact laidMet_laidAll _ (by kernel_rfl) (by kernel_rfl)
theorem globs6 {W : World} (h : laidMetH Tryz.prog laid6 W) : ∀ g cells, lk g G0 = some cells → GlobOK NoX W g cells := by
  rw [MakeChecks.laidMetH_plain _ _ _ (by kernel_rfl)] at h
  obtain ⟨ps, hl, _⟩ := h
  have m0 := laid_glob (T := T0) tok (n := 8) (name := "flyover/night.wrongs") (d := Rows.laid_flyover_night_wrongs) (g := 0) (t := 269) (cells := nthR (G0.map (·.2)) 0) (by kernel_rfl) (by kernel_rfl) (by kernel_rfl) (by kernel_rfl) (by kernel_rfl) (by simp [nthR, G0]) (laid := laid6) (ps := ps) (by simp [laid6, Rows.nightStringsRow]) hl
  have m2 := laid_glob (T := T0) tok (n := 8) (name := "internal/strconv.uint64pow10") (d := Rows.laid_internal_strconv_uint64pow10) (g := 2) (t := 298) (cells := nthR (G0.map (·.2)) 1) (by kernel_rfl) (by kernel_rfl) (by kernel_rfl) (by kernel_rfl) (by kernel_rfl) (by simp [nthR, G0]) (laid := laid6) (ps := ps) (by simp [laid6, Rows.nightStringsRow]) hl
  intro g cells hg
  obtain ⟨u, hu, e1⟩ := lk_mem hg
  subst e1
  simp only [G0, List.mem_cons, List.not_mem_nil, or_false, Prod.mk.injEq] at hu
  rcases hu with ⟨rfl, rfl⟩ | ⟨rfl, rfl⟩
  · exact m0
  · exact m2
end Go.Proofs.YtimgfogakgakhaaGreatDoor
namespace Go.Proofs
open Go.Shelf
def Tryz.lays137_ren : Go.Shelf.Ren := ⟨fun | 137 => 168 | 217 => 199 | 266 => 217 | n => n, fun | 9 => 9 | 5 => 5 | 3 => 3 | n => n, fun | n => n⟩
theorem Tryz.lays137 : Go.Proofs.Lays.n137 Tryz.prog Tryz.lays137_ren := {
  mixed := by kernel_rfl
  f137 := Tryz.func168.trans (congrArg some (by kernel_rfl))
  f217 := Tryz.func199.trans (congrArg some (by kernel_rfl))
  f266 := Tryz.func217.trans (congrArg some (by kernel_rfl))
  t3 := Tryz.underlying3
  a3 := Tryz.isAgg3
  z3 := Tryz.sizeOf3
  v3 := Tryz.zeroValue3
  t5 := Tryz.underlying5
  a5 := Tryz.isAgg5
  z5 := Tryz.sizeOf5
  v5 := Tryz.zeroValue5
  t9 := Tryz.underlying9
  a9 := Tryz.isAgg9
  z9 := Tryz.sizeOf9
  v9 := Tryz.zeroValue9 }
open Go.RowKit in
theorem Tryz.strings_IndexByte (s : ByteArray) (c : Int) (w : World) :
    Calls Tryz.prog 168 #[.string s, .int .u8 c] w fun e w' => e = .returned (.int .i64 (Lib.indexByte s.data.toList c.toNat.toUInt8)) ∧ w' = w := Any.strings_IndexByte Tryz.lays137 s c w
def Tryz.lays143_ren : Go.Shelf.Ren := ⟨fun | 143 => 203 | 219 => 221 | 217 => 199 | 225 => 228 | 224 => 229 | 267 => 230 | 266 => 217 | 314 => 233 | n => n, fun | 9 => 9 | 3 => 3 | 4 => 4 | 5 => 5 | 46 => 226 | 146 => 304 | 51 => 266 | n => n, fun | 1 => 1 | n => n⟩
theorem Tryz.lays143 : Go.Proofs.Lays.n143 Tryz.prog Tryz.lays143_ren := {
  mixed := by kernel_rfl
  f143 := Tryz.func203.trans (congrArg some (by kernel_rfl))
  f217 := Tryz.func199.trans (congrArg some (by kernel_rfl))
  f219 := Tryz.func221.trans (congrArg some (by kernel_rfl))
  f224 := Tryz.func229.trans (congrArg some (by kernel_rfl))
  f225 := Tryz.func228.trans (congrArg some (by kernel_rfl))
  f266 := Tryz.func217.trans (congrArg some (by kernel_rfl))
  f267 := Tryz.func230.trans (congrArg some (by kernel_rfl))
  f314 := Tryz.func233.trans (congrArg some (by kernel_rfl))
  t3 := Tryz.underlying3
  a3 := Tryz.isAgg3
  z3 := Tryz.sizeOf3
  v3 := Tryz.zeroValue3
  t4 := Tryz.underlying4
  a4 := Tryz.isAgg4
  z4 := Tryz.sizeOf4
  v4 := Tryz.zeroValue4
  t5 := Tryz.underlying5
  a5 := Tryz.isAgg5
  z5 := Tryz.sizeOf5
  v5 := Tryz.zeroValue5
  t9 := Tryz.underlying9
  a9 := Tryz.isAgg9
  z9 := Tryz.sizeOf9
  v9 := Tryz.zeroValue9
  t46 := Tryz.underlying226
  a46 := Tryz.isAgg226
  z46 := Tryz.sizeOf226
  v46 := Tryz.zeroValue226
  t51 := Tryz.underlying266
  a51 := Tryz.isAgg266
  z51 := Tryz.sizeOf266
  v51 := Tryz.zeroValue266
  t146 := Tryz.underlying304
  a146 := Tryz.isAgg304
  z146 := Tryz.sizeOf304
  v146 := Tryz.zeroValue304
  g1 := by kernel_rfl }
open Go.RowKit Go.Lib in
theorem Tryz.strings_Index_one (s : ByteArray) (c : UInt8) (w : World) :
    Calls Tryz.prog 203 #[.string s, .string ⟨#[c]⟩] w fun e w' => e = .returned (.int .i64 (Lib.indexByte s.data.toList c)) ∧ w' = w := Any.strings_Index_one Tryz.lays143 s c w
def Tryz.lays138_ren : Go.Shelf.Ren := ⟨fun | 138 => 202 | 195 => 218 | 218 => 220 | 143 => 203 | 219 => 221 | 217 => 199 | 225 => 228 | 224 => 229 | 267 => 230 | 266 => 217 | 314 => 233 | n => n, fun | 9 => 9 | 3 => 3 | 4 => 4 | 5 => 5 | 0 => 0 | 46 => 226 | 146 => 304 | 51 => 266 | n => n, fun | 1 => 1 | n => n⟩
theorem Tryz.lays138 : Go.Proofs.Lays.n138 Tryz.prog Tryz.lays138_ren := {
  mixed := by kernel_rfl
  f138 := Tryz.func202.trans (congrArg some (by kernel_rfl))
  f143 := Tryz.func203.trans (congrArg some (by kernel_rfl))
  f195 := Tryz.func218.trans (congrArg some (by kernel_rfl))
  f217 := Tryz.func199.trans (congrArg some (by kernel_rfl))
  f218 := Tryz.func220.trans (congrArg some (by kernel_rfl))
  f219 := Tryz.func221.trans (congrArg some (by kernel_rfl))
  f224 := Tryz.func229.trans (congrArg some (by kernel_rfl))
  f225 := Tryz.func228.trans (congrArg some (by kernel_rfl))
  f266 := Tryz.func217.trans (congrArg some (by kernel_rfl))
  f267 := Tryz.func230.trans (congrArg some (by kernel_rfl))
  f314 := Tryz.func233.trans (congrArg some (by kernel_rfl))
  t0 := Tryz.underlying0
  a0 := Tryz.isAgg0
  z0 := Tryz.sizeOf0
  v0 := Tryz.zeroValue0
  t3 := Tryz.underlying3
  a3 := Tryz.isAgg3
  z3 := Tryz.sizeOf3
  v3 := Tryz.zeroValue3
  t4 := Tryz.underlying4
  a4 := Tryz.isAgg4
  z4 := Tryz.sizeOf4
  v4 := Tryz.zeroValue4
  t5 := Tryz.underlying5
  a5 := Tryz.isAgg5
  z5 := Tryz.sizeOf5
  v5 := Tryz.zeroValue5
  t9 := Tryz.underlying9
  a9 := Tryz.isAgg9
  z9 := Tryz.sizeOf9
  v9 := Tryz.zeroValue9
  t46 := Tryz.underlying226
  a46 := Tryz.isAgg226
  z46 := Tryz.sizeOf226
  v46 := Tryz.zeroValue226
  t51 := Tryz.underlying266
  a51 := Tryz.isAgg266
  z51 := Tryz.sizeOf266
  v51 := Tryz.zeroValue266
  t146 := Tryz.underlying304
  a146 := Tryz.isAgg304
  z146 := Tryz.sizeOf304
  v146 := Tryz.zeroValue304
  g1 := by kernel_rfl }
open Go.RowKit Go.Lib in
theorem Tryz.strings_Count_one (s : ByteArray) (c : UInt8) (w : World) :
    Calls Tryz.prog 202 #[.string s, .string ⟨#[c]⟩] w fun e w' => e = .returned (.int .i64 (Lib.countByte s.data.toList c)) ∧ w' = w := Any.strings_Count_one Tryz.lays138 s c w
def Tryz.lays221_ren : Go.Shelf.Ren := ⟨fun | 221 => 170 | 268 => 201 | 138 => 202 | 143 => 203 | 195 => 218 | 197 => 219 | 218 => 220 | 219 => 221 | 260 => 227 | 217 => 199 | 225 => 228 | 224 => 229 | 267 => 230 | 266 => 217 | 314 => 233 | n => n, fun | 9 => 9 | 3 => 3 | 31 => 25 | 4 => 4 | 0 => 0 | 105 => 291 | 21 => 21 | 5 => 5 | 46 => 226 | 119 => 300 | 139 => 303 | 138 => 302 | 146 => 304 | 51 => 266 | n => n, fun | 1 => 1 | 3 => 3 | 4 => 4 | n => n⟩
theorem Tryz.lays221 : Go.Proofs.Lays.n221 Tryz.prog Tryz.lays221_ren := {
  mixed := by kernel_rfl
  f138 := Tryz.func202.trans (congrArg some (by kernel_rfl))
  f143 := Tryz.func203.trans (congrArg some (by kernel_rfl))
  f195 := Tryz.func218.trans (congrArg some (by kernel_rfl))
  f197 := Tryz.func219.trans (congrArg some (by kernel_rfl))
  f217 := Tryz.func199.trans (congrArg some (by kernel_rfl))
  f218 := Tryz.func220.trans (congrArg some (by kernel_rfl))
  f219 := Tryz.func221.trans (congrArg some (by kernel_rfl))
  f221 := Tryz.func170.trans (congrArg some (by kernel_rfl))
  f224 := Tryz.func229.trans (congrArg some (by kernel_rfl))
  f225 := Tryz.func228.trans (congrArg some (by kernel_rfl))
  f260 := Tryz.func227.trans (congrArg some (by kernel_rfl))
  f266 := Tryz.func217.trans (congrArg some (by kernel_rfl))
  f267 := Tryz.func230.trans (congrArg some (by kernel_rfl))
  f268 := Tryz.func201.trans (congrArg some (by kernel_rfl))
  f314 := Tryz.func233.trans (congrArg some (by kernel_rfl))
  t0 := Tryz.underlying0
  a0 := Tryz.isAgg0
  z0 := Tryz.sizeOf0
  v0 := Tryz.zeroValue0
  t3 := Tryz.underlying3
  a3 := Tryz.isAgg3
  z3 := Tryz.sizeOf3
  v3 := Tryz.zeroValue3
  t4 := Tryz.underlying4
  a4 := Tryz.isAgg4
  z4 := Tryz.sizeOf4
  v4 := Tryz.zeroValue4
  t5 := Tryz.underlying5
  a5 := Tryz.isAgg5
  z5 := Tryz.sizeOf5
  v5 := Tryz.zeroValue5
  t9 := Tryz.underlying9
  a9 := Tryz.isAgg9
  z9 := Tryz.sizeOf9
  v9 := Tryz.zeroValue9
  t21 := Tryz.underlying21
  a21 := Tryz.isAgg21
  z21 := Tryz.sizeOf21
  v21 := Tryz.zeroValue21
  t31 := Tryz.underlying25
  a31 := Tryz.isAgg25
  z31 := Tryz.sizeOf25
  v31 := Tryz.zeroValue25
  t46 := Tryz.underlying226
  a46 := Tryz.isAgg226
  z46 := Tryz.sizeOf226
  v46 := Tryz.zeroValue226
  t51 := Tryz.underlying266
  a51 := Tryz.isAgg266
  z51 := Tryz.sizeOf266
  v51 := Tryz.zeroValue266
  t105 := Tryz.underlying291
  a105 := Tryz.isAgg291
  z105 := Tryz.sizeOf291
  v105 := Tryz.zeroValue291
  t119 := Tryz.underlying300
  a119 := Tryz.isAgg300
  z119 := Tryz.sizeOf300
  t138 := Tryz.underlying302
  a138 := Tryz.isAgg302
  z138 := Tryz.sizeOf302
  v138 := Tryz.zeroValue302
  t139 := Tryz.underlying303
  a139 := Tryz.isAgg303
  z139 := Tryz.sizeOf303
  v139 := Tryz.zeroValue303
  t146 := Tryz.underlying304
  a146 := Tryz.isAgg304
  z146 := Tryz.sizeOf304
  v146 := Tryz.zeroValue304
  g1 := by kernel_rfl
  g3 := by kernel_rfl
  g4 := by kernel_rfl }
end Go.Proofs
namespace Go.Proofs.YtimgfogakgakhaaGreatDoor
open Go Go.Av Go.RowKit
def hdL : List UInt8 → List UInt8
  | [] => []
  | c :: t => if c == 10 then [c] else c :: hdL t
def tlL : List UInt8 → List UInt8
  | [] => []
  | c :: t => if c == 10 then t else tlL t
def spl (c : UInt8) : List UInt8 → List (List UInt8)
  | [] => [[]]
  | x :: t => if x == c then [] :: spl c t else (x :: (spl c t).headD []) :: (spl c t).tail
theorem spl_ne (c : UInt8) : ∀ s, spl c s ≠ []
  | [] => by simp [spl]
  | x :: t => by rw [spl]; split <;> simp
theorem spl_cons (c : UInt8) (s : List UInt8) : (spl c s).headD [] :: (spl c s).tail = spl c s := by
  cases h : spl c s with
  | nil => exact absurd h (spl_ne c s)
  | cons a b => rfl
theorem hd_tl : ∀ s, hdL s ++ tlL s = s
  | [] => rfl
  | c :: t => by
    rw [hdL, tlL]
    split
    · rfl
    · rw [List.cons_append, hd_tl t]
theorem idx_cases (c : UInt8) : ∀ s : List UInt8, (Lib.indexByte s c = -1 ∧ s.count c = 0 ∧ spl c s = [s]) ∨
    ∃ i : Nat, Lib.indexByte s c = i ∧ i < s.length ∧ s.count c = 1 + (s.drop (i + 1)).count c ∧ spl c s = s.take i :: spl c (s.drop (i + 1))
  | [] => .inl ⟨rfl, rfl, rfl⟩
  | x :: t => by
    by_cases h : x = c
    · subst h
      refine .inr ⟨0, by simp [Lib.indexByte], by simp, by simp [Nat.add_comm], by simp [spl]⟩
    · have hb : (x == c) = false := beq_false_of_ne h
      rcases idx_cases c t with ⟨h1, h2, h3⟩ | ⟨i, h1, h2, h3, h4⟩
      · refine .inl ⟨by rw [Lib.indexByte, hb, h1]; rfl, by rw [List.count_cons_of_ne h, h2], ?_⟩
        rw [spl, hb, h3]
        rfl
      · refine .inr ⟨i + 1, ?_, by simp only [List.length_cons]; omega, by rw [List.count_cons_of_ne h, h3]; rfl, ?_⟩
        · rw [Lib.indexByte, hb, h1, if_neg (by decide), if_neg (by rw [beq_iff_eq]; omega)]
          rfl
        · rw [spl, hb, h4]
          rfl
theorem ln_cases : ∀ s : List UInt8, (Lib.indexByte s 10 = -1 ∧ hdL s = s ∧ tlL s = []) ∨ ∃ i : Nat, Lib.indexByte s 10 = i ∧ i < s.length ∧ hdL s = s.take (i + 1) ∧ tlL s = s.drop (i + 1)
  | [] => .inl ⟨rfl, rfl, rfl⟩
  | x :: t => by
    by_cases h : x = 10
    · subst h
      exact .inr ⟨0, by simp [Lib.indexByte], by simp, by simp [hdL], by simp [tlL]⟩
    · have hb : (x == 10) = false := beq_false_of_ne h
      rcases ln_cases t with ⟨h1, h2, h3⟩ | ⟨i, h1, h2, h3, h4⟩
      · exact .inl ⟨by rw [Lib.indexByte, hb, h1]; rfl, by rw [hdL, hb, h2]; rfl, by rw [tlL, hb, h3]; rfl⟩
      · refine .inr ⟨i + 1, ?_, by simp only [List.length_cons]; omega, by rw [hdL, hb, h3]; rfl, by rw [tlL, hb, h4]; rfl⟩
        rw [Lib.indexByte, hb, h1, if_neg (by decide), if_neg (by rw [beq_iff_eq]; omega)]
        rfl
theorem spl_K (c : UInt8) : ∀ (k : Nat) (s : List UInt8), s.count c = k → Lib.splitK [c] 0 k s = spl c s
  | 0, s, h => by
    rcases idx_cases c s with ⟨_, _, h3⟩ | ⟨i, _, _, h3, _⟩
    · rw [h3]; rfl
    · omega
  | k + 1, s, h => by
    rcases idx_cases c s with ⟨_, h2, _⟩ | ⟨i, h1, h2, h3, h4⟩
    · omega
    · rw [Lib.splitK, Lib.index_one, h1, if_neg (by rw [beq_iff_eq]; omega), h4, spl_K c k _ (by rw [Int.toNat_natCast]; simpa using (by omega : (s.drop (i + 1)).count c = k))]
      rfl
theorem c168 (s : List UInt8) (c : Int) : PCall Tryz.prog G0 168 [.str s, .int .u8 c] (.i (Lib.indexByte s c.toNat.toUInt8)) := by
  refine ⟨⟨Tryz.f168, bodyOf Tryz.f168, by kernel_rfl, by kernel_rfl, by kernel_rfl⟩, fun w X vs hX hG hz => ?_⟩
  obtain ⟨h1, h2⟩ := hz
  obtain ⟨v, u, rfl⟩ : ∃ v u, vs = #[v, u] := by
    obtain ⟨l⟩ := vs
    match l, h1 with
    | [v, u], _ => exact ⟨v, u, rfl⟩
  have hv := rep_str (h2 0 v (.str s) rfl rfl)
  have hu := rep_int (h2 1 u (.int .u8 c) rfl rfl)
  subst hv; subst hu
  exact (Tryz.strings_IndexByte ⟨s.toArray⟩ c w).mono fun e w' ⟨he, hw⟩ => ⟨_, he, by rw [hw]; exact Below.refl _ _, .int _ _⟩
theorem c170 (s : List UInt8) (c : UInt8) (hs : s.length ≤ 1000000) : PCall Tryz.prog G0 170 [.str s, .str [c], .i 0, .i (-1)] (.sl 1 ((spl c s).map encS)) := by
  refine ⟨⟨Tryz.f170, bodyOf Tryz.f170, by kernel_rfl, by kernel_rfl, by kernel_rfl⟩, fun w X vs hX hG hz => ?_⟩
  obtain ⟨h1, h2⟩ := hz
  obtain ⟨v, u, x, y, rfl⟩ : ∃ v u x y, vs = #[v, u, x, y] := by
    obtain ⟨l⟩ := vs
    match l, h1 with
    | [v, u, x, y], _ => exact ⟨v, u, x, y, rfl⟩
  have hv := rep_str (h2 0 v (.str s) rfl rfl)
  have hu := rep_str (h2 1 u (.str [c]) rfl rfl)
  have hx := rep_int (h2 2 x (.i 0) rfl rfl)
  have hy := rep_int (h2 3 y (.i (-1)) rfl rfl)
  subst hv; subst hu; subst hx; subst hy
  clear h1 h2
  obtain ⟨S, hS⟩ : ∃ S : ByteArray, S = ⟨s.toArray⟩ := ⟨_, rfl⟩
  have hSs : S.size = s.length := by rw [hS]; simp [ByteArray.size]
  have hSd : S.data.toList = s := by rw [hS]
  have hcb : Lib.countB S ⟨#[c]⟩ = s.count c := by
    show Lib.count S.data.toList [c] = _
    rw [Lib.count_one, hSd]
  have hcl : s.count c ≤ s.length := List.count_le_length
  have key := Any.strings_genSplit_core Tryz.lays221 (by kernel_rfl) S ⟨#[c]⟩ 0 (-1) (s.count c + 1) w (by omega) (Nat.le_refl 1) (Nat.zero_le _)
    (fun z cs _ => (Tryz.strings_Index_one z c _).mono fun e w' ⟨he, hw⟩ => ⟨he.trans (by rw [show Lib.indexB z ⟨#[c]⟩ = Lib.index z.data.toList [c] from rfl, Lib.index_one]), hw⟩)
    ((Tryz.strings_Count_one S c w).mono fun e w' ⟨he, hw⟩ => ⟨he.trans (by rw [hcb, hSd]; rfl), hw⟩) (by decide) (by decide)
    (by rw [hcb, if_pos (by decide), hSs]; omega)
  rw [Nat.add_sub_cancel] at key
  have hlen : (Lib.splitB ⟨#[c]⟩ 0 (s.count c) S).length = s.count c + 1 := Lib.splitB_all ⟨#[c]⟩ (Nat.le_refl 1) 0 _ S hcb
  have hdat : (Lib.splitB ⟨#[c]⟩ 0 (s.count c) S).map (·.data.toList) = spl c s := by
    rw [Lib.splitB_data, hSd]
    exact spl_K c _ s rfl
  have hsl : (spl c s).length = s.count c + 1 := by rw [← hdat, List.length_map, hlen]
  rw [← hS]
  refine (show Calls Tryz.prog 170 #[.string S, .string ⟨#[c]⟩, .int .i64 0, .int .i64 (-1)] w _ from key).mono fun e w' ⟨he, hw⟩ => ?_
  refine ⟨_, he, by rw [hw]; exact below_alloc _ _, ?_⟩
  show Rep X w' _ (.sl 1 ((spl c s).map encS))
  generalize hL : Lib.splitB ⟨#[c]⟩ 0 (s.count c) S = L at hw hlen hdat
  rw [hlen, show s.count c + 1 = ((spl c s).map encS).length by rw [List.length_map, hsl]]
  have hnew : w'.heap[w.heap.size]? = some (.cells (Lib.cellsOf L (s.count c + 1)) (Tryz.lays221_ren.t 9)) := by rw [hw]; exact World.alloc_heap_new w _
  have hcells : Lib.cellsOf L (s.count c + 1) = (L.map Value.string).toArray := by rw [← hlen]; exact Lib.cellsOf_full _
  rw [hcells] at hnew
  refine .sl w.heap.size 0 _ 1 _ (fun i _ => .string ⟨((spl c s).getD i []).toArray⟩) (by rw [hw]; simp) (fun hx => Nat.lt_irrefl _ (hX _ hx)) (Nat.le_refl _) (by rw [List.length_map, hsl]; unfold maxLen; omega) (fun i hi => ?_) (fun i hi j hj => ?_) (fun i hi j hj => ?_) (fun _ _ _ _ => rfl)
  · have : nthR ((spl c s).map encS) i = encS ((spl c s).getD i []) := by
      rw [List.length_map] at hi
      simp [nthR, List.getD_eq_getElem?_getD, hi]
    rw [this]
    rfl
  · have hj0 : j = 0 := by omega
    subst hj0
    rw [List.length_map, hsl] at hi
    rw [cell_of_row w' _ _ _ _ (0, 0) hnew]
    have hiL : i < L.length := by omega
    have e : (spl c s).getD i [] = L[i].data.toList := by
      rw [← hdat]
      simp [List.getD_eq_getElem?_getD, hiL]
    rw [e]
    simp [hiL]
  · have hj0 : j = 0 := by omega
    subst hj0
    have : nth (nthR ((spl c s).map encS) i) 0 = .str ((spl c s).getD i []) := by
      rw [List.length_map] at hi
      simp [nthR, nth, List.getD_eq_getElem?_getD, hi, encS]
    rw [this]
    exact .str _
end Go.Proofs.YtimgfogakgakhaaGreatDoor
namespace Go.Proofs.YtimgfogakgakhaaGreatDoor
open Go Go.Av Go.RowKit
theorem s_ofB {f : Nat} {cells : List AV} {L : List (List AV)} (fn : Func) (B : Nat → BA) (hf : Tryz.prog.funcs[f]? = some fn) (hb : fn.body = some (bodyOf fn)) (hn : (fn.name == "runtime.NumGoroutine") = false) (hlen : Nat.ble 2 fn.ntmps = true) (hres : fn.results.toList = [])
    {q : Nat → Prop} (hq : ∀ l, q l) (h : ∀ l, VC (bodyE Tryz.prog T0 G0 fn.ntmps L) (B l) 10000 0 (bodyOf fn) (startB l cells) (seqQ l L) = q l) : PSeqB Tryz.prog G0 f cells L :=
  seq_of_VCB tok mix hf hb hn (Nat.le_of_ble_eq_true hlen) hres B fun l => vc_of (hq l) (h l)
def isLn : List (List UInt8) → List UInt8 → Prop
  | [], s => s = []
  | x :: L, s => s ≠ [] ∧ x = hdL s ∧ isLn L (tlL s)
def lnN : Nat → List UInt8 → List (List UInt8)
  | 0, _ => []
  | n + 1, s => if s.isEmpty then [] else hdL s :: lnN n (tlL s)
def lns (s : List UInt8) : List (List UInt8) := lnN s.length s
theorem hd_len {s : List UInt8} (h : s ≠ []) : 0 < (hdL s).length := by
  cases s with
  | nil => exact absurd rfl h
  | cons c t => rw [hdL]; split <;> simp
theorem tl_len {s : List UInt8} (h : s ≠ []) : (tlL s).length < s.length := by
  have h1 := congrArg List.length (hd_tl s)
  have h2 := hd_len h
  rw [List.length_append] at h1
  omega
theorem ln_is : ∀ (n : Nat) (s : List UInt8), s.length ≤ n → isLn (lnN n s) s
  | 0, s, h => by
    cases s with
    | nil => rfl
    | cons _ _ => simp at h
  | n + 1, s, h => by
    rw [lnN]
    by_cases q : s = []
    · subst q; exact rfl
    · rw [if_neg (by simpa using q)]
      have := tl_len q
      exact ⟨q, rfl, ln_is n _ (by omega)⟩
theorem lns_is (s : List UInt8) : isLn (lns s) s := ln_is _ s (Nat.le_refl _)
theorem ln_flat : ∀ {L : List (List UInt8)} {s : List UInt8}, isLn L s → L.flatten = s
  | [], s, h => h.symm
  | x :: L, s, ⟨_, h2, h3⟩ => by rw [List.flatten_cons, ln_flat h3, h2, hd_tl]
theorem ln_drop : ∀ {k : Nat} {L : List (List UInt8)} {s : List UInt8}, isLn L s → isLn (L.drop k) (L.drop k).flatten
  | 0, L, s, h => by rw [List.drop_zero, ln_flat h]; exact h
  | k + 1, [], s, h => by simp [isLn]
  | k + 1, x :: L, s, h => by rw [List.drop_succ_cons]; exact ln_drop h.2.2
def rsL (s : List UInt8) (k : Nat) : List UInt8 := ((lns s).drop k).flatten
theorem rs_0 (s : List UInt8) : rsL s 0 = s := by rw [rsL, List.drop_zero, ln_flat (lns_is s)]
theorem rs_step {s : List UInt8} {k : Nat} (h : k < (lns s).length) : rsL s k ≠ [] ∧ hdL (rsL s k) = (lns s).getD k [] ∧ tlL (rsL s k) = rsL s (k + 1) := by
  have h1 := ln_drop (k := k) (lns_is s)
  have e : (lns s).drop k = (lns s).getD k [] :: (lns s).drop (k + 1) := by
    rw [List.getD_eq_getElem?_getD, List.getElem?_eq_getElem h]
    exact List.drop_eq_getElem_cons h
  rw [e] at h1
  have e2 : rsL s k = ((lns s).getD k [] :: (lns s).drop (k + 1)).flatten := by rw [rsL, e]
  rw [e2]
  refine ⟨h1.1, h1.2.1.symm, ?_⟩
  rw [← ln_flat h1.2.2]
  rfl
theorem rs_end {s : List UInt8} {k : Nat} (h : ¬ k < (lns s).length) : rsL s k = [] := by rw [rsL, List.drop_eq_nil_of_le (by omega)]; rfl
theorem rs_len (s : List UInt8) (k : Nat) : (rsL s k).length ≤ s.length := by
  have h := congrArg List.length (ln_flat (lns_is s))
  have h2 : ((lns s).take k).flatten ++ ((lns s).drop k).flatten = (lns s).flatten := by rw [← List.flatten_append, List.take_append_drop]
  have h3 := congrArg List.length h2
  rw [List.length_append] at h3
  unfold rsL
  omega
def spT : Nat → List AV → Option AV
  | 168, [.str s, _] => some (.i (Lib.indexByte s 10))
  | 200, [.str s, .str t] => some (.bool (decide (t.length ≤ s.length) && s.drop (s.length - t.length) == t))
  | n, x => spS n x
theorem c200 (s t : List UInt8) (hs : s.length ≤ 1000000) (ht : t.length ≤ 1000000) : PCall Tryz.prog G0 200 [.str s, .str t] (.bool (decide (t.length ≤ s.length) && s.drop (s.length - t.length) == t)) := by
  have key :
   (decide ((↑s.length : Int) ≥ (↑t.length : Int)) = true → decide ((↑s.length : Int) ≥ (↑t.length : Int)) = true) ∧ (decide ((↑s.length : Int) ≥ (↑t.length : Int)) = true → decide ((↑s.length : Int) ≥ (↑t.length : Int)) = true) ∧
   (decide ((↑s.length : Int) ≥ (↑t.length : Int)) = true → decide ((↑s.length : Int) ≥ (↑t.length : Int)) = true) ∧ (decide ((↑s.length : Int) ≥ (↑t.length : Int)) = true → decide ((↑s.length : Int) ≥ (↑t.length : Int)) = true) ∧
   (decide ((↑s.length : Int) ≥ (↑t.length : Int)) = true → In64 ((↑s.length : Int) - (↑t.length : Int))) ∧ (decide ((↑s.length : Int) ≥ (↑t.length : Int)) = true → decide ((↑s.length : Int) ≥ (↑t.length : Int)) = true) ∧ (decide
   ((↑s.length : Int) ≥ (↑t.length : Int)) = true → decide ((↑s.length : Int) ≥ (↑t.length : Int)) = true) ∧ (decide ((↑s.length : Int) ≥ (↑t.length : Int)) = true → (0 : Int) ≤ (↑s.length : Int) - (↑t.length : Int)) ∧ (decide
   ((↑s.length : Int) ≥ (↑t.length : Int)) = true → (↑s.length : Int) - (↑t.length : Int) ≤ (↑s.length : Int)) ∧ (decide ((↑s.length : Int) ≥ (↑t.length : Int)) = true → (↑s.length : Int) ≤ (↑s.length : Int)) ∧ (decide ((↑s.length :
   Int) ≥ (↑t.length : Int)) = true → decide ((↑s.length : Int) ≥ (↑t.length : Int)) = true) ∧ (decide ((↑s.length : Int) ≥ (↑t.length : Int)) = true → decide ((↑s.length : Int) ≥ (↑t.length : Int)) = true) ∧ (decide ((↑s.length :
   Int) ≥ (↑t.length : Int)) = true → decide ((↑s.length : Int) ≥ (↑t.length : Int)) = true) ∧ AV.bool (if decide ((↑s.length : Int) ≥ (↑t.length : Int)) = true then List.take ((↑s.length : Int) - ((↑s.length : Int) - (↑t.length :
   Int))).toNat (List.drop ((↑s.length : Int) - (↑t.length : Int)).toNat s) == t else false) = AV.bool (decide (t.length ≤ s.length) && List.drop (s.length - t.length) s == t) := by
    refine ⟨fun h => h, fun h => h, fun h => h, fun h => h, fun h => by have := of_decide_eq_true h; unfold In64; omega, fun h => h, fun h => h, fun h => by have := of_decide_eq_true h; omega, fun h => by omega, fun h => by omega, fun h => h, fun h => h, fun h => h, ?_⟩
    by_cases h : t.length ≤ s.length
    · rw [decide_eq_true (show (s.length : Int) ≥ t.length by omega), if_pos rfl, decide_eq_true h, Bool.true_and, show ((s.length : Int) - (s.length - t.length)).toNat = t.length by omega, show ((s.length : Int) - t.length).toNat = s.length - t.length by omega, List.take_of_length_le (by rw [List.length_drop]; omega)]
    · rw [decide_eq_false (show ¬ (s.length : Int) ≥ t.length by omega), if_neg (by decide), decide_eq_false h, Bool.false_and]
  exact c_of Tryz.f200 (mkB spT 200 [] noLa) (by kernel_rfl) (by kernel_rfl) (by kernel_rfl) (by kernel_rfl) key (by kernel_rfl)
theorem take_one1 {α : Type} [Inhabited α] {l : List (List α)} {g : Nat} (h : g < l.length) : l.take (g + 1) = l.take g ++ [l.getD g []] := by
  rw [List.getD_eq_getElem?_getD, List.getElem?_eq_getElem h]
  exact (List.take_append_getElem h).symm
theorem or_r {a b : Bool} (h : (if a = true then true else b) = true) (ha : a = false) : b = true := by
  rw [ha] at h
  exact h
def cutS (s t : List UInt8) : Bool := decide (t.length ≤ s.length) && s.drop (s.length - t.length) == t
theorem c169 (s t : List UInt8) (hs : s.length ≤ 1000000) (ht : t.length ≤ 1000000) : PCall Tryz.prog G0 169 [.str s, .str t] (.tup [.str (if cutS s t then s.take (s.length - t.length) else s), .bool (cutS s t)]) := by
  have key :
   PCall Tryz.prog G0 200 [AV.str s, AV.str t] (AV.bool (decide (t.length ≤ s.length) && List.drop (s.length - t.length) s == t)) ∧ ((!(decide (t.length ≤ s.length) && List.drop (s.length - t.length) s == t)) = true → AV.tup [AV.str
   s, AV.bool false] = AV.tup [AV.str (if cutS s t = true then List.take (s.length - t.length) s else s), AV.bool (cutS s t)]) ∧ ((!(decide (t.length ≤ s.length) && List.drop (s.length - t.length) s == t)) = false → In64 ((↑s.length :
   Int) - (↑t.length : Int)) ∧ (0 : Int) ≤ 0 ∧ (0 : Int) ≤ (↑s.length : Int) - (↑t.length : Int) ∧ (↑s.length : Int) - (↑t.length : Int) ≤ (↑s.length : Int) ∧ AV.tup [AV.str (List.take ((↑s.length : Int) - (↑t.length : Int) - 0).toNat
   (List.drop 0 s)), AV.bool true] = AV.tup [AV.str (if cutS s t = true then List.take (s.length - t.length) s else s), AV.bool (cutS s t)]) := by
    refine ⟨c200 s t hs ht, fun h => ?_, fun h => ?_⟩
    · have hc : cutS s t = false := by
        unfold cutS
        revert h
        cases (decide (t.length ≤ s.length) && List.drop (s.length - t.length) s == t) <;> simp
      rw [hc]
      rfl
    · have hc : cutS s t = true := by
        unfold cutS
        revert h
        cases (decide (t.length ≤ s.length) && List.drop (s.length - t.length) s == t) <;> simp
      have hle : t.length ≤ s.length := by
        have := hc
        unfold cutS at this
        rw [Bool.and_eq_true, decide_eq_true_eq] at this
        exact this.1
      refine ⟨by unfold In64; omega, by omega, by omega, by omega, ?_⟩
      rw [hc, if_pos rfl, List.drop_zero, show ((s.length : Int) - t.length - 0).toNat = s.length - t.length by omega]
  exact c_of Tryz.f169 (mkB spT 169 [] noLa) (by kernel_rfl) (by kernel_rfl) (by kernel_rfl) (by kernel_rfl) key (by kernel_rfl)
def sp140 : Nat → List AV → Option AV
  | 169, [.str s, .str t] => some (.tup [.str (if cutS s t then s.take (s.length - t.length) else s), .bool (cutS s t)])
  | n, x => spT n x
theorem c140 (s t : List UInt8) (hs : s.length ≤ 1000000) (ht : t.length ≤ 1000000) : PCall Tryz.prog G0 140 [.str s, .str t] (.tup [.str (if cutS s t then s.take (s.length - t.length) else s), .bool (cutS s t)]) := by
  have key :
   PCall Tryz.prog G0 169 [AV.str s, AV.str t] (AV.tup [AV.str (if cutS s t = true then List.take (s.length - t.length) s else s), AV.bool (cutS s t)]) ∧ AV.tup [AV.str (if cutS s t = true then List.take (s.length - t.length) s else
   s), AV.bool (cutS s t)] = AV.tup [AV.str (if cutS s t = true then List.take (s.length - t.length) s else s), AV.bool (cutS s t)] := by
    exact ⟨c169 s t hs ht, rfl⟩
  exact c_of Tryz.f140 (mkB sp140 140 [] noLa) (by kernel_rfl) (by kernel_rfl) (by kernel_rfl) (by kernel_rfl) key (by kernel_rfl)
def sp141 : Nat → List AV → Option AV
  | 170, [.str s, .str [c], _, _] => some (.sl 1 ((spl c s).map encS))
  | n, x => spT n x
theorem c141 (s : List UInt8) (c : UInt8) (hs : s.length ≤ 1000000) : PCall Tryz.prog G0 141 [.str s, .str [c]] (.sl 1 ((spl c s).map encS)) := by
  have key :
   PCall Tryz.prog G0 170 [AV.str s, AV.str [c], AV.i 0, AV.i (-1)] (AV.sl 1 (List.map encS (spl c s))) ∧ AV.sl 1 (List.map encS (spl c s)) = AV.sl 1 (List.map encS (spl c s)) := by
    exact ⟨c170 s c hs, rfl⟩
  exact c_of Tryz.f141 (mkB sp141 141 [] noLa) (by kernel_rfl) (by kernel_rfl) (by kernel_rfl) (by kernel_rfl) key (by kernel_rfl)
def la167 (l : Nat) (s : List UInt8) : LA := {
  pre := [.keep [0, 1] [0, 1], .bound 2], post := [.keep [0, 1] [0, 1], .bound 2]
  Gh := Nat
  st := fun k => ⟨[(0, .yld l), (1, .ptr 1 0)], [(0, .ready l (((lns s).take k).map encS)), (1, .box [.str (rsL s k)])], 2⟩
  ok := fun k => k ≤ (lns s).length
  ms := fun k => (lns s).length - k }
def B167 (s : List UInt8) (l : Nat) : BA := mkB spT 167 [] (fun i => if i.beq 0 then some (la167 l s) else none)
theorem s167 (s : List UInt8) (hs : s.length ≤ 1000000) : PSeqB Tryz.prog G0 167 [.str s] ((lns s).map encS) := by
  have key :
   ∀ l : Nat, (∃ (g : Nat), g ≤ (lns s).length ∧ AS.mk [(0, AV.yld l), (1, AV.ptr 1 0)] [(0, ABlk.ready l []), (1, ABlk.box [AV.str s])] 2 = AS.mk [(0, AV.yld l), (1, AV.ptr 1 0)] [(0, ABlk.ready l (List.map encS (List.take g (lns
   s)))), (1, ABlk.box [AV.str (rsL s g)])] 2) ∧ ∀ (g : Nat), g ≤ (lns s).length → (decide ((↑(rsL s g).length : Int) > 0) = true → PCall Tryz.prog G0 168 [AV.str (rsL s g), AV.int IntKind.u8 (10 : Int)] (AV.i (Lib.indexByte (rsL s g)
   (10 : UInt8))) ∧ (decide (Lib.indexByte (rsL s g) (10 : UInt8) ≥ 0) = true → In64 (Lib.indexByte (rsL s g) (10 : UInt8) + 1) ∧ (0 : Int) ≤ 0 ∧ (0 : Int) ≤ Lib.indexByte (rsL s g) (10 : UInt8) + 1 ∧ Lib.indexByte (rsL s g) (10 :
   UInt8) + 1 ≤ (↑(rsL s g).length : Int) ∧ In64 (Lib.indexByte (rsL s g) (10 : UInt8) + 1) ∧ (0 : Int) ≤ Lib.indexByte (rsL s g) (10 : UInt8) + 1 ∧ Lib.indexByte (rsL s g) (10 : UInt8) + 1 ≤ (↑(rsL s g).length : Int) ∧ (↑(rsL s
   g).length : Int) ≤ (↑(rsL s g).length : Int) ∧ l = l ∧ (∃ (post : List (List AV)), List.map encS (lns s) = List.map encS (List.take g (lns s)) ++ [AV.str (List.take (Lib.indexByte (rsL s g) (10 : UInt8) + 1 - 0).toNat (List.drop 0
   (rsL s g)))] :: post) ∧ l = l ∧ (List.map encS (List.take g (lns s)) ++ [[AV.str (List.take (Lib.indexByte (rsL s g) (10 : UInt8) + 1 - 0).toNat (List.drop 0 (rsL s g)))]]).length = (List.map encS (List.take g (lns s))).length + 1
   ∧ (∃ (g' : Nat), g' ≤ (lns s).length ∧ (lns s).length - g' < (lns s).length - g ∧ AS.mk [(0, AV.yld l), (1, AV.ptr 1 0)] [(0, ABlk.ready l (List.map encS (List.take g (lns s)) ++ [[AV.str (List.take (Lib.indexByte (rsL s g) (10 :
   UInt8) + 1 - 0).toNat (List.drop 0 (rsL s g)))]])), (1, ABlk.box [AV.str (List.take ((↑(rsL s g).length : Int) - (Lib.indexByte (rsL s g) (10 : UInt8) + 1)).toNat (List.drop (Lib.indexByte (rsL s g) (10 : UInt8) + 1).toNat (rsL s
   g)))])] 2 = AS.mk [(0, AV.yld l), (1, AV.ptr 1 0)] [(0, ABlk.ready l (List.map encS (List.take g' (lns s)))), (1, ABlk.box [AV.str (rsL s g')])] 2) ∧ (ABlk.stop l = ABlk.ready l (List.map encS (lns s)) ∨ ABlk.stop l = ABlk.stop l))
   ∧ (decide (Lib.indexByte (rsL s g) (10 : UInt8) ≥ 0) = false → l = l ∧ (∃ (post : List (List AV)), List.map encS (lns s) = List.map encS (List.take g (lns s)) ++ [AV.str (rsL s g)] :: post) ∧ l = l ∧ (List.map encS (List.take g
   (lns s)) ++ [[AV.str (rsL s g)]]).length = (List.map encS (List.take g (lns s))).length + 1 ∧ (∃ (g' : Nat), g' ≤ (lns s).length ∧ (lns s).length - g' < (lns s).length - g ∧ AS.mk [(0, AV.yld l), (1, AV.ptr 1 0)] [(0, ABlk.ready l
   (List.map encS (List.take g (lns s)) ++ [[AV.str (rsL s g)]])), (1, ABlk.box [AV.str []])] 2 = AS.mk [(0, AV.yld l), (1, AV.ptr 1 0)] [(0, ABlk.ready l (List.map encS (List.take g' (lns s)))), (1, ABlk.box [AV.str (rsL s g')])] 2)
   ∧ (ABlk.stop l = ABlk.ready l (List.map encS (lns s)) ∨ ABlk.stop l = ABlk.stop l))) ∧ (decide ((↑(rsL s g).length : Int) > 0) = false → ABlk.ready l (List.map encS (List.take g (lns s))) = ABlk.ready l (List.map encS (lns s)) ∨
   ABlk.ready l (List.map encS (List.take g (lns s))) = ABlk.stop l) := by
    intro l
    refine ⟨⟨0, Nat.zero_le _, by rw [rs_0]; rfl⟩, fun g hg => ⟨fun hlt => ?_, fun hge => ?_⟩⟩
    · have hlt := of_decide_eq_true hlt
      have hk : g < (lns s).length := by
        by_cases q : g < (lns s).length
        · exact q
        · rw [rs_end q] at hlt
          exact absurd hlt (by decide)
      obtain ⟨r1, r2, r3⟩ := rs_step hk
      have hrl := rs_len s g
      have hdr : (lns s).drop g = (lns s).getD g [] :: (lns s).drop (g + 1) := by
        rw [List.getD_eq_getElem?_getD, List.getElem?_eq_getElem hk]
        exact List.drop_eq_getElem_cons hk
      have hpost : ∃ post, (lns s).map encS = ((lns s).take g).map encS ++ [AV.str ((lns s).getD g [])] :: post := by
        refine ⟨((lns s).drop (g + 1)).map encS, ?_⟩
        have h9 := congrArg (List.map encS) (List.take_append_drop g (lns s))
        rw [hdr, List.map_append, List.map_cons] at h9
        exact h9.symm
      have htk : ((lns s).take (g + 1)).map encS = ((lns s).take g).map encS ++ [[AV.str ((lns s).getD g [])]] := by
        rw [take_one1 hk, List.map_append]
        rfl
      refine ⟨c168 _ 10, fun h2 => ?_, fun h2 => ?_⟩
      · rcases ln_cases (rsL s g) with ⟨q, _, _⟩ | ⟨i, q, q1, q2, q3⟩
        · rw [q] at h2
          exact absurd h2 (by decide)
        · rw [q, show ((i : Int) + 1 - 0).toNat = i + 1 by omega, show (((rsL s g).length : Int) - ((i : Int) + 1)).toNat = (rsL s g).length - (i + 1) by omega, show ((i : Int) + 1).toNat = i + 1 by omega,
            List.drop_zero, ← q2, r2, show List.take ((rsL s g).length - (i + 1)) (List.drop (i + 1) (rsL s g)) = List.drop (i + 1) (rsL s g) from List.take_of_length_le (by rw [List.length_drop]; exact Nat.le_refl _), ← q3, r3]
          exact ⟨by unfold In64; omega, by omega, by omega, by omega, by unfold In64; omega, by omega, by omega, by omega, rfl, hpost, rfl, by simp, ⟨g + 1, hk, by omega, by rw [htk]⟩, .inr rfl⟩
      · rcases ln_cases (rsL s g) with ⟨q, q2, q3⟩ | ⟨i, q, q1, q2, q3⟩
        · have e : rsL s g = (lns s).getD g [] := q2.symm.trans r2
          have e4 : rsL s (g + 1) = [] := r3.symm.trans q3
          rw [e]
          exact ⟨rfl, hpost, rfl, by simp, ⟨g + 1, hk, by omega, by rw [htk, e4]⟩, .inr rfl⟩
        · rw [q] at h2
          exact absurd (of_decide_eq_false h2) (by omega)
    · have hge := of_decide_eq_false hge
      have hk : ¬ g < (lns s).length := by
        intro q
        have := (rs_step q).1
        have : 0 < (rsL s g).length := List.length_pos_iff.2 this
        omega
      rw [List.take_of_length_le (by omega)]
      exact .inl rfl
  exact s_ofB Tryz.f167 (B167 s) (by kernel_rfl) (by kernel_rfl) (by kernel_rfl) (by kernel_rfl) (by kernel_rfl) key (fun l => by kernel_rfl)
theorem c139 (s : List UInt8)  : PCall Tryz.prog G0 139 [.str s] (.fbox 167 [.str s]) := by
  have key :
   AV.fbox 167 [AV.str s] = AV.fbox 167 [AV.str s] := by
    rfl
  exact c_of Tryz.f139 (mkB spT 139 [] noLa) (by kernel_rfl) (by kernel_rfl) (by kernel_rfl) (by kernel_rfl) key (by kernel_rfl)
def dS (rows : List (List AV)) : List (List UInt8) := rows.map fun r => match r with
  | [.str x] => x
  | _ => []
theorem dS_e (ws : List (List UInt8)) : dS (ws.map encS) = ws := by
  unfold dS
  rw [List.map_map]
  exact (List.map_congr_left fun x _ => rfl).trans (List.map_id ws)
def wdR (ws : List (List UInt8)) : List (List UInt8) := if ws.headD [] == [] then [] else ws.tail
def wdB (ws : List (List UInt8)) (b : Bool) : Bool := if ws.headD [] == [] then true else b
theorem ne_len {ws : List (List UInt8)} (h : (!((ws.map encS).length : Int) == 0) = true) : (0 : Int) < ((ws.map encS).length : Int) := by
  simp only [Bool.not_eq_true', beq_eq_false_iff_ne] at h
  omega
theorem rd_w0 {ws : List (List UInt8)} (h : (!((ws.map encS).length : Int) == 0) = true) : nth (nthR (ws.map encS) 0) 0 = AV.str (ws.getD 0 []) := by
  have h1 := ne_len h
  rw [List.length_map] at h1
  exact congrArg (fun r => nth r 0) (row_at encS (l := ws) (i := 0) (by omega))
theorem w142 (ws : List (List UInt8)) (b : Bool) (hw : ws.length ≤ 1000000) : WCall Tryz.prog G0 142 [.ptr 1 0] [ABlk.box [.sl 1 (ws.map encS), .bool b]] (.str (ws.headD [])) [ABlk.box [.sl 1 ((wdR ws).map encS), .bool (wdB ws b)]] := by
  have key :
   ((!(↑(List.map encS ws).length : Int) == 0) = true → (!(↑(List.map encS ws).length : Int) == 0) = true) ∧ ((!(↑(List.map encS ws).length : Int) == 0) = true → (!(↑(List.map encS ws).length : Int) == 0) = true) ∧ ((!(↑(List.map encS
   ws).length : Int) == 0) = true → (!(↑(List.map encS ws).length : Int) == 0) = true) ∧ ((!(↑(List.map encS ws).length : Int) == 0) = true → (!(↑(List.map encS ws).length : Int) == 0) = true) ∧ ((!(↑(List.map encS ws).length : Int)
   == 0) = true → (0 : Int) ≤ 0) ∧ ((!(↑(List.map encS ws).length : Int) == 0) = true → (0 : Int) < (↑(List.map encS ws).length : Int)) ∧ ((!(↑(List.map encS ws).length : Int) == 0) = true → (!(↑(List.map encS ws).length : Int) == 0)
   = true) ∧ ((!(↑(List.map encS ws).length : Int) == 0) = true → (!(↑(List.map encS ws).length : Int) == 0) = true) ∧ (((↑(List.map encS ws).length : Int) == 0) = false → (!(↑(List.map encS ws).length : Int) == 0) = true) ∧ impB
   (!(↑(List.map encS ws).length : Int) == 0) (nth (nthR (List.map encS ws) 0) 0 = AV.str (ws.getD 0 [])) ∧ ((if ((↑(List.map encS ws).length : Int) == 0) = true then true else ws.getD 0 [] == []) = true → AV.str [] = AV.str (ws.headD
   []) ∧ [ABlk.box [AV.sl 1 [], AV.bool true]] = [ABlk.box [AV.sl 1 (List.map encS (wdR ws)), AV.bool (wdB ws b)]]) ∧ ((if ((↑(List.map encS ws).length : Int) == 0) = true then true else ws.getD 0 [] == []) = false → (0 : Int) ≤ 0 ∧
   (0 : Int) < (↑(List.map encS ws).length : Int) ∧ nth (nthR (List.map encS ws) 0) 0 = AV.str (ws.getD 0 []) ∧ (0 : Int) ≤ 1 ∧ (1 : Int) ≤ (↑(List.map encS ws).length : Int) ∧ (↑(List.map encS ws).length : Int) ≤ (↑(List.map encS
   ws).length : Int) ∧ AV.sl 1 (List.take ((↑(List.map encS ws).length : Int) - 1).toNat (List.drop 1 (List.map encS ws))) = AV.sl 1 (List.map encS ws.tail) ∧ AV.str (ws.getD 0 []) = AV.str (ws.headD []) ∧ [ABlk.box [AV.sl 1 (List.map
   encS ws.tail), AV.bool b]] = [ABlk.box [AV.sl 1 (List.map encS (wdR ws)), AV.bool (wdB ws b)]]) := by
    have hwm : (List.map encS ws).length = ws.length := List.length_map _
    have hd0 : ws.getD 0 [] = ws.headD [] := by cases ws <;> rfl
    have : (List.map encS ws).length = ws.length := by simp only [List.length_map]
    refine ⟨fun h => h, fun h => h, fun h => h, fun h => h, fun _ => by omega, fun hb => ne_len hb, fun h => h, fun h => h, fun h => by first | exact h | (rw [h]; rfl) | simp_all, impB_iff.2 fun hb => (by first | exact rd_w0 hb | exact congrArg (fun r => nth r 0) (row_at encS (l := ws) (i := 0) (by omega))), fun h1 => ?_, fun h1 => ?_⟩
    · have hh : (ws.headD [] == []) = true := by
        cases ws with
        | nil => rfl
        | cons x ws =>
          have := or_r h1 (by simp [beq_eq_false_iff_ne]; omega)
          exact this
      refine ⟨?_, ?_⟩
      · rw [eq_of_beq hh]
      · rw [wdR, wdB, if_pos hh, if_pos hh]
        rfl
    · obtain ⟨hl0, hh⟩ := or_f h1
      rw [hd0] at hh
      have hne : ws.length ≠ 0 := by
        have := hl0
        simp only [beq_eq_false_iff_ne] at this
        omega
      refine ⟨(by omega), (by omega), (by first | exact rd_w0 hb | exact congrArg (fun r => nth r 0) (row_at encS (l := ws) (i := 0) (by omega))), (by omega), (by omega), (by omega), ?_, ?_, ?_⟩
      · rw [List.take_of_length_le (by rw [List.length_drop]; omega), ← List.map_drop, List.drop_one]
      · rw [hd0]
      · rw [wdR, wdB, if_neg (by rw [hh]; decide), if_neg (by rw [hh]; decide)]
  exact w_of Tryz.f142 (gsB (fun i => if i.beq 2 then [.nilb 1 0 1] else []) (mkB spT 142 [(1, 12, rdL 1 encS ws 1 false), (4, 5, rdL 1 encS ws 1 false), (5, 5, fun _ => some (.sl 1 (ws.tail.map encS)))] noLa)) (by kernel_rfl) (by kernel_rfl) (by kernel_rfl) (by kernel_rfl) (by kernel_rfl) key (by kernel_rfl)
end Go.Proofs.YtimgfogakgakhaaGreatDoor
namespace Go.Proofs.YtimgfogakgakhaaGreatDoor
open Go Go.Av Go.RowKit
def digB (c : UInt8) : Bool := decide (48 ≤ c.toNat) && decide (c.toNat ≤ 57)
def digV (s : List UInt8) : Nat → Int
  | 0 => 0
  | k + 1 => 10 * digV s k + ((s.getD k 0).toNat - 48 : Int)
def allDg (s : List UInt8) (n : Nat) : Bool := (List.range n).all fun i => digB (s.getD i 0)
def inOK (s : List UInt8) : Bool := decide (s.length ≤ 9) && allDg s s.length
def inV (s : List UInt8) : Int := if inOK s then digV s s.length else 0
def inB (s : List UInt8) : Bool := inOK s && (!(s == []) && (decide (s.length = 1) || !(s.getD 0 0 == 48)))
theorem dg_bd {s : List UInt8} : ∀ k, allDg s k = true → 0 ≤ digV s k ∧ digV s k < 10 ^ k
  | 0, _ => by simp [digV]
  | k + 1, h => by
    unfold allDg at h
    rw [List.range_succ, List.all_append, Bool.and_eq_true] at h
    have ih := dg_bd k h.1
    have h2 := h.2
    simp only [List.all_cons, List.all_nil, Bool.and_true, digB, Bool.and_eq_true, decide_eq_true_eq] at h2
    rw [digV, Int.pow_succ]
    omega
def la171 (s : List UInt8) : LA := {
  pre := [.keep [0, 4, 8] [5], .bound 6], post := [.keep [0, 4, 8] [5], .bound 6]
  Gh := Nat
  st := fun i => ⟨[(0, .str s), (4, .i (digV s i)), (8, .ref 5)], [(5, .iter (s.drop i) i)], 6⟩
  ok := fun i => i ≤ s.length ∧ allDg s i = true ∧ (0 < i → s.length ≤ 9)
  ms := fun i => s.length - i
  it := some 5 }
theorem wr_dig {n : Int} (h : 48 ≤ n ∧ n ≤ 57) : IntKind.i64.wrap (IntKind.i32.wrap (n - 48)) = n - 48 ∧ IntKind.i64.wrap (IntKind.u8.wrap (n - 48)) = n - 48 := by
  have : n = 48 ∨ n = 49 ∨ n = 50 ∨ n = 51 ∨ n = 52 ∨ n = 53 ∨ n = 54 ∨ n = 55 ∨ n = 56 ∨ n = 57 := by omega
  rcases this with rfl | rfl | rfl | rfl | rfl | rfl | rfl | rfl | rfl | rfl <;> exact ⟨by decide, by decide⟩
theorem in_bad {s : List UInt8} (h : inOK s = false) : inV s = 0 ∧ inB s = false := by
  unfold inV inB
  rw [h]
  exact ⟨rfl, rfl⟩
theorem dg_fail {s : List UInt8} {g : Nat} (h : g < s.length) (hf : digB (s.getD g 0) = false) : inOK s = false := by
  have : allDg s s.length = false := List.all_eq_false.2 ⟨g, by simpa using h, by rw [hf]; decide⟩
  rw [inOK, this, Bool.and_false]
theorem dg_next {s : List UInt8} {g : Nat} (ha : allDg s g = true) (hf : digB (s.getD g 0) = true) : allDg s (g + 1) = true := by
  unfold allDg at ha ⊢
  rw [List.range_succ, List.all_append, ha]
  simp only [List.all_cons, List.all_nil, hf, Bool.and_self]
theorem in_end {s : List UInt8} (ha : allDg s s.length = true) (h9 : s.length ≤ 9) : inOK s = true := by
  rw [inOK, ha, decide_eq_true h9]
  rfl
theorem in_res {s : List UInt8} (h : inOK s = true) : inB s = if (!s == []) = true then if ((s.length : Int) == 1) = true then true else ((s.getD (Int.toNat 0) 0).toNat : Int) != 48 else false := by
  unfold inB
  rw [h, Bool.true_and]
  have e1 : ((s.length : Int) == 1) = decide (s.length = 1) := by
    by_cases q : s.length = 1
    · rw [q]; rfl
    · rw [decide_eq_false q, beq_eq_false_iff_ne]; omega
  have e2 : (((s.getD (Int.toNat 0) 0).toNat : Int) != 48) = !(s.getD 0 0 == 48) := by
    show (((s.getD 0 0).toNat : Int) != 48) = _
    by_cases q : s.getD 0 0 = 48
    · rw [q]; rfl
    · rw [beq_false_of_ne q, Bool.not_false, bne_iff_ne]
      intro h
      apply q
      apply UInt8.toNat_inj.1
      have : (48 : UInt8).toNat = 48 := rfl
      omega
  rw [e1, e2]
  cases (!s == []) <;> cases decide (s.length = 1) <;> rfl
theorem dg_dec (c : UInt8) (r : List UInt8) : (digB c = true → dec (c :: r) = (c.toNat, 1)) ∧ ((48 ≤ (dec (c :: r)).1 ∧ (dec (c :: r)).1 ≤ 57) ↔ digB c = true) := by
  by_cases h : c.toNat < 128
  · rw [dec_ascii r h]
    refine ⟨fun _ => rfl, ?_⟩
    unfold digB
    simp
  · have h1 := dec_big r h
    have h2 : digB c = false := by
      unfold digB
      rw [Bool.and_eq_false_iff, decide_eq_false_iff_not, decide_eq_false_iff_not]
      omega
    refine ⟨fun q => (by rw [h2] at q; cases q), ⟨fun q => (by omega), fun q => (by rw [h2] at q; cases q)⟩⟩
theorem c171 (s : List UInt8) (hs : s.length ≤ 1000000) : PCall Tryz.prog G0 171 [.str s] (.tup [.i (inV s), .bool (inB s)]) := by
  have key :
   (∃ (g : Nat), (g ≤ s.length ∧ allDg s g = true ∧ (0 < g → s.length ≤ 9)) ∧ AS.mk [(0, AV.str s), (4, AV.i 0), (8, AV.ref 5)] [(5, ABlk.iter s 0)] 6 = AS.mk [(0, AV.str s), (4, AV.i (digV s g)), (8, AV.ref 5)] [(5, ABlk.iter
   (List.drop g s) g)] 6) ∧ ∀ (g : Nat), g ≤ s.length ∧ allDg s g = true ∧ (0 < g → s.length ≤ 9) → (∀ (c : UInt8) (r : List UInt8), List.drop g s = c :: r → (true = true → ((!decide ((↑(dec (c :: r)).fst : Int) < 48)) = true →
   (!decide ((↑(dec (c :: r)).fst : Int) < 48)) = true) ∧ (decide ((↑(dec (c :: r)).fst : Int) < 48) = false → (!decide ((↑(dec (c :: r)).fst : Int) < 48)) = true) ∧ ((!if decide ((↑(dec (c :: r)).fst : Int) < 48) = true then true
   else decide ((↑(dec (c :: r)).fst : Int) > 57)) = true → (!if decide ((↑(dec (c :: r)).fst : Int) < 48) = true then true else decide ((↑(dec (c :: r)).fst : Int) > 57)) = true) ∧ ((!if decide ((↑(dec (c :: r)).fst : Int) < 48) =
   true then true else decide ((↑(dec (c :: r)).fst : Int) > 57)) = true → (!if decide ((↑(dec (c :: r)).fst : Int) < 48) = true then true else decide ((↑(dec (c :: r)).fst : Int) > 57)) = true) ∧ ((if decide ((↑(dec (c :: r)).fst :
   Int) < 48) = true then true else decide ((↑(dec (c :: r)).fst : Int) > 57)) = false → (!if decide ((↑(dec (c :: r)).fst : Int) < 48) = true then true else decide ((↑(dec (c :: r)).fst : Int) > 57)) = true) ∧ ((if (if decide ((↑(dec
   (c :: r)).fst : Int) < 48) = true then true else decide ((↑(dec (c :: r)).fst : Int) > 57)) = true then true else decide ((↑s.length : Int) > 9)) = true → AV.tup [AV.i 0, AV.bool false] = AV.tup [AV.i (inV s), AV.bool (inB s)]) ∧
   ((if (if decide ((↑(dec (c :: r)).fst : Int) < 48) = true then true else decide ((↑(dec (c :: r)).fst : Int) > 57)) = true then true else decide ((↑s.length : Int) > 9)) = false → In64 ((10 : Int) * digV s g) ∧ In64 ((10 : Int) *
   digV s g + IntKind.i64.wrap (IntKind.i32.wrap ((↑(dec (c :: r)).fst : Int) - 48))) ∧ ∃ (g' : Nat), (g' ≤ s.length ∧ allDg s g' = true ∧ (0 < g' → s.length ≤ 9)) ∧ s.length - g' < s.length - g ∧ AS.mk [(0, AV.str s), (4, AV.i ((10 :
   Int) * digV s g + IntKind.i64.wrap (IntKind.i32.wrap ((↑(dec (c :: r)).fst : Int) - 48)))), (8, AV.ref 5)] [(5, ABlk.iter (List.drop (dec (c :: r)).snd (c :: r)) (g + (dec (c :: r)).snd))] 6 = AS.mk [(0, AV.str s), (4, AV.i (digV s
   g')), (8, AV.ref 5)] [(5, ABlk.iter (List.drop g' s) g')] 6)) ∧ (true = false → ((!s == []) = true → (!s == []) = true) ∧ ((!s == []) = true → (!s == []) = true) ∧ ((!s == []) = true → (!s == []) = true) ∧ ((!s == [] && !(↑s.length
   : Int) == 1) = true → (!s == [] && !(↑s.length : Int) == 1) = true) ∧ ((!s == [] && !(↑s.length : Int) == 1) = true → (0 : Int) ≤ 0) ∧ ((!s == [] && !(↑s.length : Int) == 1) = true → (0 : Int) < (↑s.length : Int)) ∧ ((!s == [] &&
   !(↑s.length : Int) == 1) = true → (!s == [] && !(↑s.length : Int) == 1) = true) ∧ ((!s == []) = true → (!s == []) = true) ∧ ((!s == []) = true → ((↑s.length : Int) == 1) = false → (!s == [] && !(↑s.length : Int) == 1) = true) ∧
   ((!s == []) = true → (!s == []) = true) ∧ AV.tup [AV.i (digV s g), AV.bool (if (!s == []) = true then if ((↑s.length : Int) == 1) = true then true else (↑(s.getD (Int.toNat (0 : Int)) (0 : UInt8)).toNat : Int) != 48 else false)] =
   AV.tup [AV.i (inV s), AV.bool (inB s)])) ∧ (List.drop g s = [] → (false = true → False) ∧ (false = false → ((!s == []) = true → (!s == []) = true) ∧ ((!s == []) = true → (!s == []) = true) ∧ ((!s == []) = true → (!s == []) = true)
   ∧ ((!s == [] && !(↑s.length : Int) == 1) = true → (!s == [] && !(↑s.length : Int) == 1) = true) ∧ ((!s == [] && !(↑s.length : Int) == 1) = true → (0 : Int) ≤ 0) ∧ ((!s == [] && !(↑s.length : Int) == 1) = true → (0 : Int) <
   (↑s.length : Int)) ∧ ((!s == [] && !(↑s.length : Int) == 1) = true → (!s == [] && !(↑s.length : Int) == 1) = true) ∧ ((!s == []) = true → (!s == []) = true) ∧ ((!s == []) = true → ((↑s.length : Int) == 1) = false → (!s == [] &&
   !(↑s.length : Int) == 1) = true) ∧ ((!s == []) = true → (!s == []) = true) ∧ AV.tup [AV.i (digV s g), AV.bool (if (!s == []) = true then if ((↑s.length : Int) == 1) = true then true else (↑(s.getD (Int.toNat (0 : Int)) (0 :
   UInt8)).toNat : Int) != 48 else false)] = AV.tup [AV.i (inV s), AV.bool (inB s)])) := by
    refine ⟨⟨0, ⟨Nat.zero_le _, rfl, fun h => absurd h (by decide)⟩, rfl⟩, fun g ⟨hg, ha, h9⟩ => ⟨fun c r hcr => ⟨fun _ => ?_, fun h => by cases h⟩, fun hnil => ⟨fun h => (by cases h), fun _ => ?_⟩⟩⟩
    · have hlt : g < s.length := by
        by_cases h : g < s.length
        · exact h
        · rw [List.drop_eq_nil_of_le (by omega)] at hcr; cases hcr
      have hcg : s.getD g 0 = c := by
        have := congrArg (fun l => l.getD 0 0) hcr
        simpa [List.getD_eq_getElem?_getD] using this
      have hr : r = s.drop (g + 1) := by
        have := congrArg (fun l => l.drop 1) hcr
        simpa using this.symm
      obtain ⟨d1, d2⟩ := dg_dec c r
      refine ⟨fun h => h, fun h => by rw [h]; rfl, fun h => h, fun h => h, fun h => by rw [h]; rfl, fun h => ?_, fun h => ?_⟩
      · have hb : inOK s = false := by
          cases q : digB c with
          | false => exact dg_fail hlt (by rw [hcg]; exact q)
          | true =>
            have := d2.2 q
            rw [decide_eq_false (show ¬ ((dec (c :: r)).1 : Int) < 48 by omega), decide_eq_false (show ¬ ((dec (c :: r)).1 : Int) > 57 by omega)] at h
            have h := of_decide_eq_true (show decide ((s.length : Int) > 9) = true from h)
            rw [inOK, decide_eq_false (by omega), Bool.false_and]
        rw [(in_bad hb).1, (in_bad hb).2]
      · obtain ⟨h1, h3⟩ := or_f h
        obtain ⟨h1, h2⟩ := or_f h1
        have h1 := of_decide_eq_false h1
        have h2 := of_decide_eq_false h2
        have h3 := of_decide_eq_false h3
        have q := d2.1 (by omega)
        have hd := d1 q
        have hb := dg_bd g ha
        have hp : (10 : Int) ^ g ≤ 10 ^ 9 := by
          exact_mod_cast Nat.pow_le_pow_right (show 0 < 10 by decide) (show g ≤ 9 by omega)
        have hp : (10 : Int) ^ g ≤ 1000000000 := hp
        rw [hd] at h1 h2 ⊢
        have hw := (wr_dig (n := (c.toNat : Int)) (by constructor <;> (dsimp only at h1 h2; omega))).1
        have h1 : ¬ (c.toNat : Int) < 48 := h1
        have h2 : ¬ (c.toNat : Int) > 57 := h2
        dsimp only
        rw [hw]
        refine ⟨by unfold In64; omega, by unfold In64; omega, g + 1, ⟨hlt, dg_next ha (by rw [hcg]; exact q), fun _ => by omega⟩, by omega, ?_⟩
        rw [show digV s (g + 1) = 10 * digV s g + ((c.toNat : Int) - 48) by rw [digV, hcg], hr]
        rfl
    · have hge : g = s.length := by
        have := congrArg List.length hnil
        rw [List.length_drop] at this
        simp only [List.length_nil] at this
        omega
      subst hge
      have hok : inOK s = true := in_end ha (by
        by_cases q : 0 < s.length
        · exact h9 q
        · omega)
      have hpos : (!s == [] && !(s.length : Int) == 1) = true → (0 : Int) < s.length := fun h => by
        cases s with
        | nil => cases h
        | cons x t => simp only [List.length_cons]; omega
      refine ⟨fun h => h, fun h => h, fun h => h, fun h => h, fun _ => by omega, hpos, fun h => h, fun h => h, fun h1 h2 => by rw [h1, h2]; rfl, fun h => h, ?_⟩
      rw [in_res hok, inV, if_pos hok]
  exact c_of Tryz.f171 (mkB spT 171 [] (fun i => if i.beq 0 then some (la171 s) else none)) (by kernel_rfl) (by kernel_rfl) (by kernel_rfl) (by kernel_rfl) key (by kernel_rfl)
def hs143 : Nat → List AV → List ABlk → Option AV
  | 142, _, [.box [.sl _ rows, .bool b]] => some (.gv true (.tup [.str ((dS rows).headD []), .agg [.sl 1 ((wdR (dS rows)).map encS), .bool (wdB (dS rows) b)]]))
  | _, _, _ => none
def sp143 : Nat → List AV → Option AV
  | 171, [.str s] => some (.tup [.i (inV s), .bool (inB s)])
  | n, x => spT n x
theorem w143 (ws : List (List UInt8)) (b : Bool) (hw : ws.length ≤ 1000000) (hl : ∀ x, x ∈ ws → x.length ≤ 1000000) : WCall Tryz.prog G0 143 [.ptr 1 0] [ABlk.box [.sl 1 (ws.map encS), .bool b]] (.i (inV (ws.headD []))) [ABlk.box [.sl 1 ((wdR ws).map encS), .bool (if wdB ws b then true else !inB (ws.headD []))]] := by
  have key :
   WCall Tryz.prog G0 142 [AV.ptr 1 0] [ABlk.box [AV.sl 1 (List.map encS ws), AV.bool b]] (AV.str ((dS (List.map encS ws)).headD [])) [ABlk.box [AV.sl 1 (List.map encS (wdR (dS (List.map encS ws)))), AV.bool (wdB (dS (List.map encS
   ws)) b)]] ∧ PCall Tryz.prog G0 171 [AV.str ((dS (List.map encS ws)).headD [])] (AV.tup [AV.i (inV ((dS (List.map encS ws)).headD [])), AV.bool (inB ((dS (List.map encS ws)).headD []))]) ∧ ((!wdB (dS (List.map encS ws)) b) = true →
   (!wdB (dS (List.map encS ws)) b) = true) ∧ (wdB (dS (List.map encS ws)) b = false → (!wdB (dS (List.map encS ws)) b) = true) ∧ AV.i (inV ((dS (List.map encS ws)).headD [])) = AV.i (inV (ws.headD [])) ∧ [ABlk.box [AV.sl 1 (List.map
   encS (wdR (dS (List.map encS ws)))), AV.bool (if wdB (dS (List.map encS ws)) b = true then true else !inB ((dS (List.map encS ws)).headD []))]] = [ABlk.box [AV.sl 1 (List.map encS (wdR ws)), AV.bool (if wdB ws b = true then true
   else !inB (ws.headD []))]] := by
    have hh : (ws.headD []).length ≤ 1000000 := by
      cases ws with
      | nil => exact Nat.zero_le _
      | cons x t => exact hl x (by simp)
    rw [dS_e]
    exact ⟨w142 ws b hw, c171 _ hh, fun h => h, fun h => by rw [h]; rfl, rfl, rfl⟩
  exact w_of Tryz.f143 ({ mkB sp143 143 [] noLa with hs := hs143 }) (by kernel_rfl) (by kernel_rfl) (by kernel_rfl) (by kernel_rfl) (by kernel_rfl) key (by kernel_rfl)
theorem ddF_len : ∀ (k u : Nat), (ddF k u).length ≤ k + 1
  | 0, _ => Nat.le_refl _
  | k + 1, u => by
    have := ddF_len k (u / 10)
    rw [ddF]
    split
    · simp
    · rw [List.length_append, List.length_singleton]; omega
theorem dd_len {n : Nat} (h : n < 1000000000) : (Lib.decDigits n).length ≤ 10 := by
  rw [← ddF_eq 9 n (by omega)]
  exact ddF_len 9 n
theorem dd_step {m : Nat} (h : m ≠ 0) : Lib.decDigits m = (if m / 10 = 0 then [] else Lib.decDigits (m / 10)) ++ [UInt8.ofNat (48 + m % 10)] := by
  rw [Lib.decDigits]
  by_cases q : m < 10
  · rw [dif_pos q, if_pos (by omega), Nat.mod_eq_of_lt q]
    rfl
  · rw [dif_neg q, if_neg (by omega)]
theorem spl_cut (c : UInt8) : ∀ (d : Nat) (t : List UInt8), d < t.length → (∀ j, j < d → t.getD j 0 ≠ c) → t.getD d 0 = c → spl c t = t.take d :: spl c (t.drop (d + 1))
  | _, [], h, _, _ => by simp at h
  | 0, x :: t, _, _, h => by
    have h : x = c := h
    rw [spl, if_pos (by rw [h]; exact beq_self_eq_true c)]
    rfl
  | d + 1, x :: t, h1, h2, h3 => by
    have hx : x ≠ c := h2 0 (Nat.succ_pos d)
    rw [spl, if_neg (by rw [beq_iff_eq]; exact hx), spl_cut c d t (by simpa using h1) (fun j hj => h2 (j + 1) (by omega)) h3]
    rfl
theorem spl_last (c : UInt8) : ∀ t : List UInt8, (∀ j, j < t.length → t.getD j 0 ≠ c) → spl c t = [t]
  | [], _ => rfl
  | x :: t, h => by
    have hx : x ≠ c := h 0 (by simp)
    rw [spl, if_neg (by rw [beq_iff_eq]; exact hx), spl_last c t (fun j hj => h (j + 1) (by simpa using hj))]
    rfl
theorem drop_getD {t : List UInt8} {a j : Nat} : (t.drop a).getD j 0 = t.getD (a + j) 0 := by
  rw [List.getD_eq_getElem?_getD, List.getD_eq_getElem?_getD, List.getElem?_drop]
def la82 (s : List UInt8) (c : Int) : LA := {
  pre := [.own 5 9 1, .reno 5 1, .keep [0, 1, 5, 6, 7] [1], .bound 2], post := [.reno 5 1, .keep [0, 1, 5, 6, 7] [1], .bound 2]
  Gh := Nat × Nat × List (List UInt8)
  st := fun q => ⟨[(0, .str s), (1, .int .u8 c), (5, .own 1 (q.2.2.map encS).length), (6, .i q.2.1), (7, .i q.1)], [(1, .buf 9 1 (q.2.2.map encS))], 2⟩
  ok := fun q => q.2.1 ≤ q.1 ∧ q.1 ≤ s.length ∧ q.2.2.length ≤ q.1 ∧ spl c.toNat.toUInt8 s = q.2.2 ++ spl c.toNat.toUInt8 (s.drop q.2.1) ∧ ∀ j, q.2.1 ≤ j → j < q.1 → s.getD j 0 ≠ c.toNat.toUInt8
  ms := fun q => s.length - q.1 }
theorem c82 (s : List UInt8) (c : Int) (hs : s.length ≤ 1000000) (hc : 0 ≤ c ∧ c ≤ 255) : PCall Tryz.prog G0 82 [.str s, .int .u8 c] (.sl 1 ((spl c.toNat.toUInt8 s).map encS)) := by
  have key :
   (∃ (g : Nat × Nat × List (List UInt8)), (g.snd.fst ≤ g.fst ∧ g.fst ≤ s.length ∧ g.snd.snd.length ≤ g.fst ∧ spl c.toNat.toUInt8 s = g.snd.snd ++ spl c.toNat.toUInt8 (List.drop g.snd.fst s) ∧ ∀ (j : Nat), g.snd.fst ≤ j → j < g.fst →
   s.getD j (0 : UInt8) ≠ c.toNat.toUInt8) ∧ AS.mk [(0, AV.str s), (1, AV.int IntKind.u8 c), (5, AV.own 1 0), (6, AV.i 0), (7, AV.i 0)] [(1, ABlk.buf 9 1 [])] 2 = AS.mk [(0, AV.str s), (1, AV.int IntKind.u8 c), (5, AV.own 1 (List.map
   encS g.snd.snd).length), (6, AV.i (↑g.snd.fst : Int)), (7, AV.i (↑g.fst : Int))] [(1, ABlk.buf 9 1 (List.map encS g.snd.snd))] 2) ∧ ∀ (g : Nat × Nat × List (List UInt8)), (g.snd.fst ≤ g.fst ∧ g.fst ≤ s.length ∧ g.snd.snd.length ≤
   g.fst ∧ spl c.toNat.toUInt8 s = g.snd.snd ++ spl c.toNat.toUInt8 (List.drop g.snd.fst s) ∧ ∀ (j : Nat), g.snd.fst ≤ j → j < g.fst → s.getD j (0 : UInt8) ≠ c.toNat.toUInt8) → (decide ((↑g.fst : Int) < (↑s.length : Int)) = true → (0
   : Int) ≤ (↑g.fst : Int) ∧ (↑g.fst : Int) < (↑s.length : Int) ∧ (((↑(s.getD (↑g.fst : Int).toNat (0 : UInt8)).toNat : Int) == c) = true → (0 : Int) ≤ (↑g.snd.fst : Int) ∧ (↑g.snd.fst : Int) ≤ (↑g.fst : Int) ∧ (↑g.fst : Int) ≤
   (↑s.length : Int) ∧ (List.map encS g.snd.snd).length + 1 ≤ 9223372036854775807 ∧ ((List.map encS g.snd.snd).length + 1) * 16 ≤ 140737488355328 ∧ In64 ((↑g.fst : Int) + 1) ∧ In64 ((↑g.fst : Int) + 1) ∧ ∃ (g' : Nat × Nat × List (List
   UInt8)), (g'.snd.fst ≤ g'.fst ∧ g'.fst ≤ s.length ∧ g'.snd.snd.length ≤ g'.fst ∧ spl c.toNat.toUInt8 s = g'.snd.snd ++ spl c.toNat.toUInt8 (List.drop g'.snd.fst s) ∧ ∀ (j : Nat), g'.snd.fst ≤ j → j < g'.fst → s.getD j (0 : UInt8) ≠
   c.toNat.toUInt8) ∧ s.length - g'.fst < s.length - g.fst ∧ AS.mk [(0, AV.str s), (1, AV.int IntKind.u8 c), (5, AV.own 1 ((List.map encS g.snd.snd).length + 1)), (6, AV.i ((↑g.fst : Int) + 1)), (7, AV.i ((↑g.fst : Int) + 1))] [(1,
   ABlk.buf 9 1 (List.map encS g.snd.snd ++ [[AV.str (List.take ((↑g.fst : Int) - (↑g.snd.fst : Int)).toNat (List.drop (↑g.snd.fst : Int).toNat s))]]))] 2 = AS.mk [(0, AV.str s), (1, AV.int IntKind.u8 c), (5, AV.own 1 (List.map encS
   g'.snd.snd).length), (6, AV.i (↑g'.snd.fst : Int)), (7, AV.i (↑g'.fst : Int))] [(1, ABlk.buf 9 1 (List.map encS g'.snd.snd))] 2) ∧ (((↑(s.getD (↑g.fst : Int).toNat (0 : UInt8)).toNat : Int) == c) = false → In64 ((↑g.fst : Int) + 1)
   ∧ ∃ (g' : Nat × Nat × List (List UInt8)), (g'.snd.fst ≤ g'.fst ∧ g'.fst ≤ s.length ∧ g'.snd.snd.length ≤ g'.fst ∧ spl c.toNat.toUInt8 s = g'.snd.snd ++ spl c.toNat.toUInt8 (List.drop g'.snd.fst s) ∧ ∀ (j : Nat), g'.snd.fst ≤ j → j
   < g'.fst → s.getD j (0 : UInt8) ≠ c.toNat.toUInt8) ∧ s.length - g'.fst < s.length - g.fst ∧ AS.mk [(0, AV.str s), (1, AV.int IntKind.u8 c), (5, AV.own 1 (List.map encS g.snd.snd).length), (6, AV.i (↑g.snd.fst : Int)), (7, AV.i
   ((↑g.fst : Int) + 1))] [(1, ABlk.buf 9 1 (List.map encS g.snd.snd))] 2 = AS.mk [(0, AV.str s), (1, AV.int IntKind.u8 c), (5, AV.own 1 (List.map encS g'.snd.snd).length), (6, AV.i (↑g'.snd.fst : Int)), (7, AV.i (↑g'.fst : Int))]
   [(1, ABlk.buf 9 1 (List.map encS g'.snd.snd))] 2)) ∧ (decide ((↑g.fst : Int) < (↑s.length : Int)) = false → (0 : Int) ≤ (↑g.snd.fst : Int) ∧ (↑g.snd.fst : Int) ≤ (↑s.length : Int) ∧ (↑s.length : Int) ≤ (↑s.length : Int) ∧ (List.map
   encS g.snd.snd).length + 1 ≤ 9223372036854775807 ∧ ((List.map encS g.snd.snd).length + 1) * 16 ≤ 140737488355328 ∧ AV.sl 1 (List.map encS g.snd.snd ++ [[AV.str (List.take ((↑s.length : Int) - (↑g.snd.fst : Int)).toNat (List.drop
   (↑g.snd.fst : Int).toNat s))]]) = AV.sl 1 (List.map encS (spl c.toNat.toUInt8 s))) := by
    obtain ⟨k, hk⟩ : ∃ k : UInt8, k = c.toNat.toUInt8 := ⟨_, rfl⟩
    rw [← hk]
    have hkc : (k.toNat : Int) = c := by
      rw [hk]
      have : c.toNat < 256 := by omega
      rw [show (c.toNat.toUInt8).toNat = c.toNat % 256 from rfl, Nat.mod_eq_of_lt this]
      omega
    refine ⟨⟨(0, 0, []), ⟨Nat.le_refl _, Nat.zero_le _, Nat.le_refl _, by simp, fun j h1 h2 => absurd h2 (by simp)⟩, rfl⟩, fun q hq => ?_⟩
    obtain ⟨i, a, P⟩ := q
    dsimp only at hq ⊢
    obtain ⟨h1, h2, h3, h4, h5⟩ := hq
    have hPm : (List.map encS P).length = P.length := List.length_map _
    refine ⟨fun hlt => ?_, fun hge => ?_⟩
    · have hlt : i < s.length := by have := of_decide_eq_true hlt; omega
      rw [Int.toNat_natCast, Int.toNat_natCast, show ((i : Int) - (a : Int)).toNat = i - a by omega]
      refine ⟨by omega, by omega, fun he => ?_, fun he => ?_⟩
      · have he : s.getD i 0 = k := by
          apply UInt8.toNat_inj.1
          have := eq_of_beq he
          omega
        refine ⟨by omega, by omega, by omega, by omega, by omega, by unfold In64; omega, by unfold In64; omega, (i + 1, i + 1, P ++ [(s.drop a).take (i - a)]), ⟨Nat.le_refl _, hlt, by rw [List.length_append, List.length_singleton]; omega, ?_, fun j hj1 hj2 => by dsimp only at hj1 hj2; omega⟩, by dsimp only; omega, ?_⟩
        · dsimp only
          rw [h4, spl_cut k (i - a) (s.drop a) (by rw [List.length_drop]; omega) (fun j hj => by rw [drop_getD]; exact h5 _ (by omega) (by omega)) (by rw [drop_getD, show a + (i - a) = i by omega]; exact he), List.append_assoc, List.drop_drop, show a + (i - a + 1) = i + 1 by omega]
          rfl
        · dsimp only
          rw [List.map_append, List.length_append]
          rfl
      · refine ⟨by unfold In64; omega, (i + 1, a, P), ⟨by dsimp only; omega, hlt, by dsimp only; omega, h4, fun j hj1 hj2 => ?_⟩, by dsimp only; omega, rfl⟩
        dsimp only at hj1 hj2
        by_cases q : j = i
        · subst q
          intro e
          rw [e, hkc, beq_self_eq_true] at he
          cases he
        · exact h5 j hj1 (by omega)
    · have hi : i = s.length := by have := of_decide_eq_false hge; omega
      subst hi
      refine ⟨by omega, by omega, by omega, by omega, by omega, ?_⟩
      rw [h4, spl_last k (s.drop a) (fun j hj => by rw [List.length_drop] at hj; rw [drop_getD]; exact h5 _ (by omega) (by omega)), List.map_append, Int.toNat_natCast, show ((s.length : Int) - (a : Int)).toNat = s.length - a by omega, List.take_of_length_le (by rw [List.length_drop]; exact Nat.le_refl _)]
      rfl
  exact c_of Tryz.f82 ({ mkB spT 82 [] (fun i => if i.beq 0 then some (la82 s c) else none) with bx := fun i => if i.beq 0 then [] else [] }) (by kernel_rfl) (by kernel_rfl) (by kernel_rfl) (by kernel_rfl) key (by kernel_rfl)
def sp137 (j : List UInt8) (io : Int → List UInt8) : Nat → List AV → Option AV
  | 138, [.int _ n] => some (.str (io n))
  | 136, _ => some (.str j)
  | n, x => spT n x
theorem io_len {n : Int} (h : 0 ≤ n ∧ n < 1000000000) : (Lib.itoa n).length ≤ 10 := by
  rw [Lib.itoa, if_neg (by omega)]
  exact dd_len (by omega)
theorem join_6 (a b c d e f : List UInt8) : Lib.join [a, b, c, d, e, f] [32] = a ++ ([32] ++ (b ++ ([32] ++ (c ++ ([32] ++ (d ++ ([32] ++ (e ++ ([32] ++ f))))))))) := by
  simp [Lib.join, List.intercalate, List.intersperse]
theorem c137 (m : Mv) (io : Int → List UInt8) (j : List UInt8) (hio : ∀ n, io n = Lib.itoa n) (hd : 0 ≤ m.day ∧ m.day < 1000000000) (hi : 0 ≤ m.mi ∧ m.mi < 1000000000) (hl : m.fl.length ≤ 1000 ∧ m.al.length ≤ 1000 ∧ m.ty.length ≤ 1000) (hj : j = Lib.join [[109, 111, 118, 101], m.fl, m.al, m.ty, io m.day, io m.mi] [32]) : PCall Tryz.prog G0 137 [.agg (encMv m)] (.str (j ++ [10])) := by
  have key :
   j.length + 1 ≤ 9223372036854775807 ∧ PCall Tryz.prog G0 138 [AV.i m.day] (AV.str (io m.day)) ∧ PCall Tryz.prog G0 138 [AV.i m.mi] (AV.str (io m.mi)) ∧ PCall Tryz.prog G0 136 [AV.sl 1 [[AV.str [(109 : UInt8), (111 : UInt8), (118 :
   UInt8), (101 : UInt8)]], [AV.str m.fl], [AV.str m.al], [AV.str m.ty], [AV.str (io m.day)], [AV.str (io m.mi)]], AV.str [(32 : UInt8)]] (AV.str j) ∧ AV.str (j ++ [(10 : UInt8)]) = AV.str (j ++ [(10 : UInt8)]) := by
    have h1 : (io m.day).length ≤ 10 := by rw [hio]; exact io_len hd
    have h2 : (io m.mi).length ≤ 10 := by rw [hio]; exact io_len hi
    have hjl : j.length ≤ 4000 := by
      rw [hj, join_6]
      simp only [List.length_append, List.length_cons, List.length_nil]
      omega
    refine ⟨by omega, by rw [hio]; exact c138 _ (by unfold In64; omega), by rw [hio]; exact c138 _ (by unfold In64; omega), ?_, rfl⟩
    have := c136 [[109, 111, 118, 101], m.fl, m.al, m.ty, io m.day, io m.mi] [32] (show 6 ≤ 140737488355328 by decide) (by rw [← hj]; omega)
    rw [← hj] at this
    exact this
  exact c_of Tryz.f137 (fzB (mkB (sp137 j io) 137 [] noLa)) (by kernel_rfl) (by kernel_rfl) (by kernel_rfl) (by kernel_rfl) key (by kernel_rfl)
end Go.Proofs.YtimgfogakgakhaaGreatDoor
